import Derived.Test.YtmjejlifohghjaaFCx0
import Derived.Test.YtmjejlifohghjaaFCx1
import Derived.Test.YtmjejlifohghjaaFCx2
import Derived.Test.YtmjejlifohghjaaFCx3
import Derived.Test.YtmjejlifohghjaaFCx4
import Derived.Test.YtmjejlifohghjaaFCx5
import Derived.Test.YtmjejlifohghjaaFCx8
import Derived.Test.YtmjejlifohghjaaFCx10
import Derived.Test.YtmjejlifohghjaaFCx11
import Derived.Test.YtmjejlifohghjaaFCx13
import Derived.Test.YtmjejlifohghjaaFCx15
import Derived.Test.YtmjejlifohghjaaFCx17
import Derived.Test.YtmjejlifohghjaaFCx19
import Derived.Test.YtmjejlifohghjaaFCx20
import Derived.Test.YtmjejlifohghjaaFCx212
-- laid by pr.py (wip/tools) over the kit's printer; Lean checks it
namespace Go.Proofs.Ytmjejlifohghjaa.FC
open Go.RowKit Go.Proofs.YtmjejlifohghjaaW.PrintWords Go.Proofs.YtmjejlifohghjaaW.PrintLast Go.Proofs.YtmjejlifohghjaaW.PrintMore
attribute [local go_sem] max2_int min2_int max_two min_two max_three min_three max_four min_four   -- for this text's walks alone
set_option linter.unusedVariables false
set_option linter.unusedSimpArgs false

attribute [local go_sem high] eqA25
/-! #### a part of the walk of laws_FnPlaceWays -/
set_option maxHeartbeats 8000000 in
set_option maxRecDepth 100000 in
theorem laws_FnPlaceWays.R1 (k : Nat) (A0 : Option Addr) (c0 : Nat) (l0 : List Int) (A1 : Option Addr) (c1 : Nat) (l1 : List Int) (r : Bool) (w : World) (t349 : Int) (t350 : Int) (t351 : Bool) (t352 : Int) (t353 : Int) (t354 : Bool) (t360 : Bool) (t361 : List S25) (t364 : Bool) (t365 : Int) (t366 : Bool) (t367 : Int) (t368 : Bool) (t369 : Int) (t370 : Int) (t371 : Bool) (t372 : Int) (t377 : Bool) (t378 : List S25) (t381 : Bool) (t382 : List S25) (t385 : Int) (t386 : Int) (t387 : Bool) (t388 : Bool) (t390 : Int) (t391 : Int) (t392 : Bool) (t393 : Bool) (gb355 : Nat) (GE355 : Aside0 (Array.size (World.heap w) ≤ gb355)) (gb356 : Nat) (GE356 : Aside0 (Array.size (World.heap w) ≤ gb356)) (v358 : Value) (v362 : Value) (gb373 : Nat) (GE373 : Aside0 (Array.size (World.heap w) ≤ gb373)) (NB355_373 : Aside0 (gb355 ≠ gb373)) (NB373_355 : Aside0 (gb373 ≠ gb355)) (NB356_373 : Aside0 (gb356 ≠ gb373)) (NB373_356 : Aside0 (gb373 ≠ gb356)) (v375 : Value) (v379 : Value) (Ao41 : Option Addr) (co41 : Nat) (gb389 : Nat) (GE389 : Aside0 (Array.size (World.heap w) ≤ gb389)) (NB373_389 : Aside0 (gb373 ≠ gb389)) (NB389_373 : Aside0 (gb389 ≠ gb373)) (gb394 : Nat) (GE394 : Aside0 (Array.size (World.heap w) ≤ gb394)) (NB355_394 : Aside0 (gb355 ≠ gb394)) (NB394_355 : Aside0 (gb394 ≠ gb355)) (NB356_394 : Aside0 (gb356 ≠ gb394)) (NB394_356 : Aside0 (gb394 ≠ gb356)) (NB373_394 : Aside0 (gb373 ≠ gb394)) (NB394_373 : Aside0 (gb394 ≠ gb373)) (NB389_394 : Aside0 (gb389 ≠ gb394)) (NB394_389 : Aside0 (gb394 ≠ gb389)) (kj14 : Nat) (HJ14 : Aside0 (kj14 + 1 ≤ k)) (wc : World) (u4 : Value) (u26 : Value) (u27 : Value) (u41 : Value) (u42 : Value) (u43 : Value) (u44 : Value) (u45 : Value) (u46 : Value) (u47 : Value) (u48 : Value) (u49 : Value) (u50 : Value) (u51 : Value) (u52 : Value) (u53 : Value) (u54 : Value) (u55 : Value) (u56 : Value) (u57 : Value) (u58 : Value) (u59 : Value) (u60 : Value) (u61 : Value) (u62 : Value) (u63 : Value) (u64 : Value) (u65 : Value) (u66 : Value) (u67 : Value) (u68 : Value) (u69 : Value) (u70 : Value) (u71 : Value) (u72 : Value) (u73 : Value) (u74 : Value) (u75 : Value) (u76 : Value) (u77 : Value) (u78 : Value) (u79 : Value) (u80 : Value) (u81 : Value) (u82 : Value) (u83 : Value) (u84 : Value) (u85 : Value) (u86 : Value) (u87 : Value) (u88 : Value) (u89 : Value) (u90 : Value) (u91 : Value) (u92 : Value) (u93 : Value) (u94 : Value) (u95 : Value) (u96 : Value) (u97 : Value) (u98 : Value) (u99 : Value) (u100 : Value) (u101 : Value) (u102 : Value) (u103 : Value) (u104 : Value) (u105 : Value) (u106 : Value) (u107 : Value) (u108 : Value) (u109 : Value) (u110 : Value) (u111 : Value) (u112 : Value) (u113 : Value) (u114 : Value) (u115 : Value) (u116 : Value) (u117 : Value) (u118 : Value) (u119 : Value) (u120 : Value) (u121 : Value) (u122 : Value) (u123 : Value) (u124 : Value) (u125 : Value) (u126 : Value) (u127 : Value) (u128 : Value) (u129 : Value) (u130 : Value) (u131 : Value) (u132 : Value) (u133 : Value) (u134 : Value) (u135 : Value) (u136 : Value) (u137 : Value) (u138 : Value) (u139 : Value) (u140 : Value) (u141 : Value) (u142 : Value) (u143 : Value) (u144 : Value) (u145 : Value) (u146 : Value) (u147 : Value) (u148 : Value) (u149 : Value) (u150 : Value) (u151 : Value) (u152 : Value) (u153 : Value) (u154 : Value) (u155 : Value) (u156 : Value) (u157 : Value) (u158 : Value) (u159 : Value) (u160 : Value) (u161 : Value) (u162 : Value) (u163 : Value) (u164 : Value) (u165 : Value) (u166 : Value) (u167 : Value) (u168 : Value) (u169 : Value) (u170 : Value) (u171 : Value) (u172 : Value) (u173 : Value) (u174 : Value) (u175 : Value) (u176 : Value) (u177 : Value) (u178 : Value) (u179 : Value) (u180 : Value) (u181 : Value) (u182 : Value) (u183 : Value) (u184 : Value) (u185 : Value) (u186 : Value) (u187 : Value) (u188 : Value) (u189 : Value) (u190 : Value) (u191 : Value) (u192 : Value) (u193 : Value) (u194 : Value) (u195 : Value) (u196 : Value) (u197 : Value) (u198 : Value) (u199 : Value) (u200 : Value) (u201 : Value) (u202 : Value) (u203 : Value) (u204 : Value) (u205 : Value) (u206 : Value) (u207 : Value) (u208 : Value) (u209 : Value) (u210 : Value) (u211 : Value) (u212 : Value) (u213 : Value) (u214 : Value) (u215 : Value) (u216 : Value) (u217 : Value) (u218 : Value) (u219 : Value) (u223 : Value) (u224 : Value) (u225 : Value) (u226 : Value) (u227 : Value) (u228 : Value) (u229 : Value) (u230 : Value) (u231 : Value) (u232 : Value) (u233 : Value) (u234 : Value) (u235 : Value) (u236 : Value) (u237 : Value) (u238 : Value) (u239 : Value) (u240 : Value) (u241 : Value) (u242 : Value) (u243 : Value) (u244 : Value) (u245 : Value) (u246 : Value) (u247 : Value) (u248 : Value) (u249 : Value) (u250 : Value) (u251 : Value) (u252 : Value) (u253 : Value) (u254 : Value) (u255 : Value) (u259 : Value) (u260 : Value) (u261 : Value) (u262 : Value) (u263 : Value) (u264 : Value) (u265 : Value) (u266 : Value) (u267 : Value) (u268 : Value) (u269 : Value) (hcut : ∃ kq,
    Aside0
        (j1 kq t360 t361 t367 t372 t378 t382 t388 t349 t350 t351 t352 t353 t354 t369 t370 t371 t390 t391 t392 =
          some r) ∧
      Aside0 (kq ≤ kj14) ∧
        Aside0
            (Kd.R k25 25 wc (Array.size (World.heap w))
              (fun k_ =>
                some k_ ≠ Value.ownBlock v379 ∧
                  some k_ ≠ Value.ownBlock (Value.slice Ao41 (List.length t382) co41) ∧
                    k_ ≠ gb355 ∧ k_ ≠ gb356 ∧ k_ ≠ gb373 ∧ k_ ≠ gb389 ∧ k_ ≠ gb394)
              v362 t361) ∧
          Aside0
              (Kd.R k25 25 wc (Array.size (World.heap w))
                (fun k_ =>
                  some k_ ≠ Value.ownBlock v362 ∧
                    some k_ ≠ Value.ownBlock (Value.slice Ao41 (List.length t382) co41) ∧
                      k_ ≠ gb355 ∧ k_ ≠ gb356 ∧ k_ ≠ gb373 ∧ k_ ≠ gb389 ∧ k_ ≠ gb394)
                v379 t378) ∧
            Aside0
                (Kd.R k25 25 wc (Array.size (World.heap w))
                  (fun k_ =>
                    some k_ ≠ Value.ownBlock v362 ∧
                      some k_ ≠ Value.ownBlock v379 ∧ k_ ≠ gb355 ∧ k_ ≠ gb356 ∧ k_ ≠ gb373 ∧ k_ ≠ gb389 ∧ k_ ≠ gb394)
                  (Value.slice Ao41 (List.length t382) co41) t382) ∧
              Aside0
                  ((World.heap wc)[gb355]? =
                    some (Obj.cells #[Value.int IntKind.i64 t349, Value.int IntKind.i64 t350, Value.bool t351] 25)) ∧
                Aside0
                    ((World.heap wc)[gb356]? =
                      some (Obj.cells #[Value.int IntKind.i64 t352, Value.int IntKind.i64 t353, Value.bool t354] 25)) ∧
                  Aside0
                      ((World.heap wc)[gb373]? =
                        some
                          (Obj.cells #[Value.int IntKind.i64 t369, Value.int IntKind.i64 t370, Value.bool t371] 25)) ∧
                    Aside0
                        ((World.heap wc)[gb389]? =
                          some
                            (Obj.cells #[Value.int IntKind.i64 t385, Value.int IntKind.i64 t386, Value.bool t387] 25)) ∧
                      Aside0
                          ((World.heap wc)[gb394]? =
                            some
                              (Obj.cells #[Value.int IntKind.i64 t390, Value.int IntKind.i64 t391, Value.bool t392]
                                25)) ∧
                        Aside0 (Below (Array.size (World.heap w)) w wc)) (K_ : Act → World → Prop) (hK_ : ∀ (a_ : Act) (w_ : World), Code.wp Try.prog (laws_FnPlaceWays.dropSeq 15 (Try.f11.body.getD .skip)) (bodyPost Try.prog Try.f11 fun e w' => e = .returned (.bool r) ∧ Below w.heap.size w w') a_ w_ → K_ a_ w_) :
    K_ {
      tmps :=
        #[Value.slice A0 (List.length l0) c0, Value.slice A1 (List.length l1) c1, undef, undef, u4,
          Value.pointer (some { block := gb355, off := 0 }), Value.pointer (some { block := gb356, off := 0 }), v358,
          Value.bool t360, v362, Value.bool t364, Value.int IntKind.i64 t365, Value.bool t366,
          Value.int IntKind.i64 t367, Value.bool t368, Value.pointer (some { block := gb373, off := 0 }),
          Value.int IntKind.i64 t372, v375, Value.bool t377, v379, Value.bool t381,
          Value.slice Ao41 (List.length t382) co41, Value.pointer (some { block := gb389, off := 0 }), Value.bool t388,
          Value.pointer (some { block := gb394, off := 0 }), Value.bool t393, u26, u27, undef, undef, undef, undef,
          undef, undef, undef, undef, undef, undef, undef, undef, undef, u41, u42, u43, u44, u45, u46, u47, u48, u49,
          u50, u51, u52, u53, u54, u55, u56, u57, u58, u59, u60, u61, u62, u63, u64, u65, u66, u67, u68, u69, u70, u71,
          u72, u73, u74, u75, u76, u77, u78, u79, u80, u81, u82, u83, u84, u85, u86, u87, u88, u89, u90, u91, u92, u93,
          u94, u95, u96, u97, u98, u99, u100, u101, u102, u103, u104, u105, u106, u107, u108, u109, u110, u111, u112,
          u113, u114, u115, u116, u117, u118, u119, u120, u121, u122, u123, u124, u125, u126, u127, u128, u129, u130,
          u131, u132, u133, u134, u135, u136, u137, u138, u139, u140, u141, u142, u143, u144, u145, u146, u147, u148,
          u149, u150, u151, u152, u153, u154, u155, u156, u157, u158, u159, u160, u161, u162, u163, u164, u165, u166,
          u167, u168, u169, u170, u171, u172, u173, u174, u175, u176, u177, u178, u179, u180, u181, u182, u183, u184,
          u185, u186, u187, u188, u189, u190, u191, u192, u193, u194, u195, u196, u197, u198, u199, u200, u201, u202,
          u203, u204, u205, u206, u207, u208, u209, u210, u211, u212, u213, u214, u215, u216, u217, u218, u219, undef,
          undef, undef, u223, u224, u225, u226, u227, u228, u229, u230, u231, u232, u233, u234, u235, u236, u237, u238,
          u239, u240, u241, u242, u243, u244, u245, u246, u247, u248, u249, u250, u251, u252, u253, u254, u255, undef,
          undef, undef, u259, u260, u261, u262, u263, u264, u265, u266, u267, u268, u269],
      defers := [] } wc := by
  refine hK_ _ _ ?_
  clear hK_
  conv => arg 2; whnf
  (try clear c1); (try clear c3b0); (try clear c55b0); (try clear c55b1); (try clear c55b2); (try clear c58b0); (try clear c58b1); (try clear c58b2); (try clear c61b0); (try clear c61b1); (try clear c62b0); (try clear c62b1); (try clear c62b2); (try clear c67b0); (try clear c67b1); (try clear c67b2); (try clear c72b0); (try clear c126b0); (try clear c126b1); (try clear c127b0); (try clear c127b1); (try clear c127b2)
  obtain ⟨kq, HA, HJ121, HO_9, HO_19, HO_21, BK355, BK356, BK373, BK389, BK394, HB⟩ := hcut
  cases kq with
  | zero => exact absurd HA.out (by simp [laws_FnPlaceWays.j1])
  | succ kj121 =>
   have H := HA.out
   clear HA
   simp only [laws_FnPlaceWays.j1] at H
   have HC172 := Aside0.mk H
   clear H
   go_upto_if 174 with (fail)
   go_cut [] (fun wc => ∃ (kq : Nat), Aside0 (laws_FnPlaceWays.j4 kq t372 t378 t382 t388 t369 t370 t371 t390 t391 t392 = some r) ∧ Aside0 (kq ≤ kj121) ∧ Aside0 (Kd.R k25 25 wc w.heap.size (fun k_ => some k_ ≠ ((.slice Ao41 t382.length co41) : Value).ownBlock ∧ k_ ≠ gb355 ∧ k_ ≠ gb356 ∧ k_ ≠ gb373 ∧ k_ ≠ gb389 ∧ k_ ≠ gb394) v379 t378) ∧ Aside0 (Kd.R k25 25 wc w.heap.size (fun k_ => some k_ ≠ (v379 : Value).ownBlock ∧ k_ ≠ gb355 ∧ k_ ≠ gb356 ∧ k_ ≠ gb373 ∧ k_ ≠ gb389 ∧ k_ ≠ gb394) (.slice Ao41 t382.length co41) t382) ∧ Aside0 (wc.heap[gb355]? = some (.cells #[.int .i64 t349, .int .i64 t350, .bool t351] 25 (0, 0))) ∧ Aside0 (wc.heap[gb356]? = some (.cells #[.int .i64 t352, .int .i64 t353, .bool t354] 25 (0, 0))) ∧ Aside0 (wc.heap[gb373]? = some (.cells #[.int .i64 t369, .int .i64 t370, .bool t371] 25 (0, 0))) ∧ Aside0 (wc.heap[gb389]? = some (.cells #[.int .i64 t385, .int .i64 t386, .bool t387] 25 (0, 0))) ∧ Aside0 (wc.heap[gb394]? = some (.cells #[.int .i64 t390, .int .i64 t391, .bool t392] 25 (0, 0))) ∧ Aside0 (Below w.heap.size w wc))
   case first => as_aux_lemma =>
    have H := HC172.out
    clear HC172
    by_cases c173 : t360 = true
    · as_aux_lemma =>
     subst c173
     have H1 : (if (t361.length : Int) = (wrap64 (t367 + 1)) then (if 0 < (t361.length : Int) then (if (!(((rd_T25 t361 0).f0) == t349) || (!(((rd_T25 t361 0).f1) == t350) || (!(((rd_T25 t361 0).f2) == t351)))) = true then (laws_FnPlaceWays.j2 kj121 t361 t372 t378 t382 t388 true t369 t370 t371 t390 t391 t392) else (if 0 ≤ t367 then (if t367 < (t361.length : Int) then (laws_FnPlaceWays.j2 kj121 t361 t372 t378 t382 t388 (!(((rd_T25 t361 t367).f0) == t352) || (!(((rd_T25 t361 t367).f1) == t353) || (!(((rd_T25 t361 t367).f2) == t354)))) t369 t370 t371 t390 t391 t392) else (none)) else (none))) else (none)) else (laws_FnPlaceWays.j2 kj121 t361 t372 t378 t382 t388 true t369 t370 t371 t390 t391 t392)) = some r := by rw [if_pos rfl] at H; exact H
     clear H
     have H := H1
     clear H1
     have HC174 := Aside0.mk H
     clear H
     go_upto_region 21 with (fail)
     go_cut [194] (fun v194 wc => ∃ (kq : Nat) (x194_173 : Bool), v194 = .bool x194_173 ∧ Aside0 (laws_FnPlaceWays.j2 kq t361 t372 t378 t382 t388 x194_173 t369 t370 t371 t390 t391 t392 = some r) ∧ Aside0 (kq ≤ kj121) ∧ Aside0 (Kd.R k25 25 wc w.heap.size (fun k_ => some k_ ≠ (v379 : Value).ownBlock ∧ some k_ ≠ ((.slice Ao41 t382.length co41) : Value).ownBlock ∧ k_ ≠ gb355 ∧ k_ ≠ gb356 ∧ k_ ≠ gb373 ∧ k_ ≠ gb389 ∧ k_ ≠ gb394) v362 t361) ∧ Aside0 (Kd.R k25 25 wc w.heap.size (fun k_ => some k_ ≠ (v362 : Value).ownBlock ∧ some k_ ≠ ((.slice Ao41 t382.length co41) : Value).ownBlock ∧ k_ ≠ gb355 ∧ k_ ≠ gb356 ∧ k_ ≠ gb373 ∧ k_ ≠ gb389 ∧ k_ ≠ gb394) v379 t378) ∧ Aside0 (Kd.R k25 25 wc w.heap.size (fun k_ => some k_ ≠ (v362 : Value).ownBlock ∧ some k_ ≠ (v379 : Value).ownBlock ∧ k_ ≠ gb355 ∧ k_ ≠ gb356 ∧ k_ ≠ gb373 ∧ k_ ≠ gb389 ∧ k_ ≠ gb394) (.slice Ao41 t382.length co41) t382) ∧ Aside0 (wc.heap[gb355]? = some (.cells #[.int .i64 t349, .int .i64 t350, .bool t351] 25 (0, 0))) ∧ Aside0 (wc.heap[gb356]? = some (.cells #[.int .i64 t352, .int .i64 t353, .bool t354] 25 (0, 0))) ∧ Aside0 (wc.heap[gb373]? = some (.cells #[.int .i64 t369, .int .i64 t370, .bool t371] 25 (0, 0))) ∧ Aside0 (wc.heap[gb389]? = some (.cells #[.int .i64 t385, .int .i64 t386, .bool t387] 25 (0, 0))) ∧ Aside0 (wc.heap[gb394]? = some (.cells #[.int .i64 t390, .int .i64 t391, .bool t392] 25 (0, 0))) ∧ Aside0 (Below w.heap.size w wc))
     case first => as_aux_lemma =>
      have H := HC174.out
      clear HC174
      by_cases c175 : (t361.length : Int) = (wrap64 (t367 + 1))
      · as_aux_lemma =>
       rw [if_pos c175] at H
       have c175b0 : ((t361.length : Int) == (wrap64 (t367 + 1))) = true := beq_iff_eq.mpr c175
       have c175b1 : ((t361.length : Int) != (wrap64 (t367 + 1))) = false := bne_eq_false_iff_eq.mpr c175
       clear c175
       (first | rw [c175b0] | (simp only [i64_w, i32_w]; rw [c175b0]) | skip)
       by_cases c176 : 0 < (t361.length : Int)
       · as_aux_lemma =>
        rw [if_pos c176] at H
        have c176b0 : decide (0 < (t361.length : Int)) = true := decide_eq_true c176
        have c176b1 : decide (0 < t361.length) = true := decide_eq_true (by omega)
        clear c176
        by_cases c177 : (!(((rd_T25 t361 0).f0) == t349) || (!(((rd_T25 t361 0).f1) == t350) || (!(((rd_T25 t361 0).f2) == t351)))) = true
        ·
         rw [if_pos c177] at H
         have c177b0 : (!(((rd_T25 t361 0).f0) == t349) || (!(((rd_T25 t361 0).f1) == t350) || (!(((rd_T25 t361 0).f2) == t351)))) = true := c177
         clear c177
         have H' := Aside0.mk H
         clear H
         try go_wp2
         have n0_ := Aside0.mk (Kd.R_drew HO_9.out)
         have n1_ := Aside0.mk (Kd.R_drew HO_19.out)
         have n2_ := Aside0.mk (Kd.R_drew HO_21.out)
         have n3_ := Aside0.mk (blk_drew BK355.out)
         have n4_ := Aside0.mk (blk_drew BK356.out)
         have n5_ := Aside0.mk (blk_drew BK373.out)
         have n6_ := Aside0.mk (blk_drew BK389.out)
         have n7_ := Aside0.mk (blk_drew BK394.out)
         have n8_ := Aside0.mk (below_drew1 HB.out)
         clear HO_9
         clear HO_19
         clear HO_21
         clear BK355
         clear BK356
         clear BK373
         clear BK389
         clear BK394
         clear HB
         have HO_9 := n0_
         have HO_19 := n1_
         have HO_21 := n2_
         have BK355 := n3_
         have BK356 := n4_
         have BK373 := n5_
         have BK389 := n6_
         have BK394 := n7_
         have HB := n8_
         clear n0_ n1_ n2_ n3_ n4_ n5_ n6_ n7_ n8_
         obtain ⟨Ao179, co179, eo179⟩ := Kd.R_slice HO_9.out
         (first | subst eo179 | (injection eo179 with f1_ f2_ f3_; have f4_ := f1_.symm; have f5_ := f3_.symm; clear f1_ f2_ f3_; subst f4_; subst f5_))
         have p399 : 0 ≤ (0 : Int) := (by omega)
         have q399 : 0 < (t361.length : Int) := of_decide_eq_true (by first | (with_reducible assumption) | assumption)
         obtain ⟨ad399, e399, hx399_0, hx399_1, hx399_2⟩ := at_T25 (Kd.R_reads' HO_9.out).2.2 0 p399 q399
         cases e399
         have qi399 : (0 < t361.length) = True := eq_true (by omega)
         (try rw [show ((0 : Int)).toNat = 0 from rfl] at hx399_0)
         (try rw [show 0 * 3 = 0 from rfl] at hx399_0)
         (try rw [Addr.add_zero'] at hx399_0)
         (try rw [show ((0 : Int)).toNat = 0 from rfl] at hx399_1)
         (try rw [show 0 * 3 = 0 from rfl] at hx399_1)
         (try rw [Addr.add_zero'] at hx399_1)
         (try rw [show ((0 : Int)).toNat = 0 from rfl] at hx399_2)
         (try rw [show 0 * 3 = 0 from rfl] at hx399_2)
         (try rw [Addr.add_zero'] at hx399_2)
         replace p399 := eq_true p399
         replace q399 := eq_true q399
         refine start_ (n := 20) (S := fun w' => w'.cell? ⟨gb355, 0, none⟩ = some (.int .i64 t349) ∧ w'.cell? ⟨gb355, 1, none⟩ = some (.int .i64 t350) ∧ w'.cell? ⟨gb355, 2, none⟩ = some (.bool t351) ∧ w'.cell? ad399 = some (.int .i64 ((rd_T25 t361 0).f0)) ∧ w'.cell? ⟨ad399.block, ad399.off + 1, none⟩ = some (.int .i64 ((rd_T25 t361 0).f1)) ∧ w'.cell? ⟨ad399.block, ad399.off + 2, none⟩ = some (.bool ((rd_T25 t361 0).f2))) (ds := []) #[false, false, false, false, false, false, false, false, false, false, false, false, false, false, false, false, false, false, false, false] (by as_aux_lemma => kernel_rfl) rfl rfl ⟨(blk_cell BK355.out 0).trans rfl, (blk_cell BK355.out 1).trans rfl, (blk_cell BK355.out 2).trans rfl, hx399_0, hx399_1, hx399_2⟩ (fun hHeld => ?_); refine with_tabW laws_FnPlaceWays.tab21 laws_FnPlaceWays.bits21 (fun HT_ HW_ => ?_)
         generalize wc.drew = w178 at HO_9 HO_19 HO_21 BK355 BK356 BK373 BK389 BK394 HB hx399_0 hx399_1 hx399_2 hHeld ⊢
         refine pure_ (i := 0) (N := some 175) (v := ?_) (a' := ?_) #[true, false, false, false, false, false, false, false, false, false, false, false, false, false, false, false, false, false, false, false] rfl rfl (any_of HT_.out (by as_aux_lemma => kernel_rfl)) (fun _ _ _ h => h) (Or.inl ⟨by rfl, ?_⟩) ?_ ?_
         rotate_left
         ·
          intro w'
          go_simp
          with_reducible rfl
         rotate_left
         · simp only [Act.put, List.setIfInBounds_toArray, List.set_cons_zero, List.set_cons_succ, i64_w, i32_w]
           rfl
         refine pure_ (i := 1) (N := some 176) (v := ?_) (a' := ?_) #[true, true, false, false, false, false, false, false, false, false, false, false, false, false, false, false, false, false, false, false] rfl rfl (any_of HT_.out (by as_aux_lemma => kernel_rfl)) (fun _ _ _ h => h) (Or.inl ⟨by rfl, ?_⟩) ?_ ?_
         rotate_left
         ·
          intro w'
          go_simp
          with_reducible rfl
         rotate_left
         · simp only [Act.put, List.setIfInBounds_toArray, List.set_cons_zero, List.set_cons_succ, i64_w, i32_w]
           rfl
         refine pure_ (i := 2) (N := some 177) (v := ?_) (a' := ?_) #[true, true, true, false, false, false, false, false, false, false, false, false, false, false, false, false, false, false, false, false] rfl rfl (any_of HT_.out (by as_aux_lemma => kernel_rfl)) (fun _ _ _ h => h) (Or.inl ⟨by rfl, ?_⟩) ?_ ?_
         rotate_left
         ·
          intro w'
          go_simp
          with_reducible rfl
         rotate_left
         · simp only [Act.put, List.setIfInBounds_toArray, List.set_cons_zero, List.set_cons_succ, i64_w, i32_w]
           rfl
         refine pure_ (i := 3) (N := some 178) (v := ?_) (a' := ?_) #[true, true, true, true, false, false, false, false, false, false, false, false, false, false, false, false, false, false, false, false] rfl rfl (any_of HT_.out (by as_aux_lemma => kernel_rfl)) (fun _ _ _ h => h) (Or.inl ⟨by rfl, ?_⟩) ?_ ?_
         rotate_left
         ·
          intro w'
          go_simp
          with_reducible rfl
         rotate_left
         · simp only [Act.put, List.setIfInBounds_toArray, List.set_cons_zero, List.set_cons_succ, i64_w, i32_w]
           rfl
         refine pure_ (i := 4) (N := some 179) (v := ?_) (a' := ?_) #[true, true, true, true, true, false, false, false, false, false, false, false, false, false, false, false, false, false, false, false] rfl rfl (any_of HT_.out (by as_aux_lemma => kernel_rfl)) (fun _ _ _ h => h) (Or.inl ⟨by rfl, ?_⟩) ?_ ?_
         rotate_left
         ·
          intro w'
          go_simp
          with_reducible rfl
         rotate_left
         · simp only [Act.put, List.setIfInBounds_toArray, List.set_cons_zero, List.set_cons_succ, i64_w, i32_w]
           rfl
         refine pure_ (i := 5) (N := some 180) (v := ?_) (a' := ?_) #[true, true, true, true, true, true, false, false, false, false, false, false, false, false, false, false, false, false, false, false] rfl rfl (any_of HT_.out (by as_aux_lemma => kernel_rfl)) (fun _ _ _ h => h) (Or.inl ⟨by rfl, ?_⟩) ?_ ?_
         rotate_left
         ·
          intro w'
          go_simp
          with_reducible rfl
         rotate_left
         · simp only [Act.put, List.setIfInBounds_toArray, List.set_cons_zero, List.set_cons_succ, i64_w, i32_w]
           rfl
         refine pure_ (i := 6) (N := some 181) (v := ?_) (a' := ?_) #[true, true, true, true, true, true, true, false, false, false, false, false, false, false, false, false, false, false, false, false] rfl rfl (any_of HT_.out (by as_aux_lemma => kernel_rfl)) (fun _ _ _ h => h) (Or.inl ⟨by rfl, ?_⟩) ?_ ?_
         rotate_left
         ·
          intro w'
          go_simp
          with_reducible rfl
         rotate_left
         · simp only [Act.put, List.setIfInBounds_toArray, List.set_cons_zero, List.set_cons_succ, i64_w, i32_w]
           rfl
         refine pure_ (i := 7) (N := some 182) (v := ?_) (a' := ?_) #[true, true, true, true, true, true, true, true, false, false, false, false, false, false, false, false, false, false, false, false] rfl rfl (any_of HT_.out (by as_aux_lemma => kernel_rfl)) (fun _ _ _ h => h) (Or.inl ⟨by rfl, ?_⟩) ?_ ?_
         rotate_left
         ·
          intro w'
          go_simp
          with_reducible rfl
         rotate_left
         · simp only [Act.put, List.setIfInBounds_toArray, List.set_cons_zero, List.set_cons_succ, i64_w, i32_w]
           rfl
         refine take_ (i := 8) (N := some 183) (v := ?_) (a' := ?_) #[true, true, true, true, true, true, true, true, true, false, false, false, false, false, false, false, false, false, false, false] rfl rfl (take_ofW HT_.out HW_.out (by as_aux_lemma => kernel_rfl)) (fun _ _ _ h => h) (Or.inl ⟨by rfl, ?_⟩) hHeld ?_ ?_
         rotate_left
         ·
          rintro w' ⟨s0, s1, s2, s3, s4, s5⟩
          go_simp
          with_reducible rfl
         rotate_left
         · simp only [Act.put, List.setIfInBounds_toArray, List.set_cons_zero, List.set_cons_succ, i64_w, i32_w]
           rfl
         refine take_ (i := 9) (N := some 184) (v := ?_) (a' := ?_) #[true, true, true, true, true, true, true, true, true, true, false, false, false, false, false, false, false, false, false, false] rfl rfl (take_ofW HT_.out HW_.out (by as_aux_lemma => kernel_rfl)) (fun _ _ _ h => h) (Or.inl ⟨by rfl, ?_⟩) hHeld ?_ ?_
         rotate_left
         ·
          rintro w' ⟨s0, s1, s2, s3, s4, s5⟩
          go_simp
          with_reducible rfl
         rotate_left
         · simp only [Act.put, List.setIfInBounds_toArray, List.set_cons_zero, List.set_cons_succ, i64_w, i32_w]
           rfl
         refine pure_ (i := 10) (N := some 185) (v := ?_) (a' := ?_) #[true, true, true, true, true, true, true, true, true, true, true, false, false, false, false, false, false, false, false, false] rfl rfl (any_of HT_.out (by as_aux_lemma => kernel_rfl)) (fun _ _ _ h => h) (Or.inl ⟨by rfl, ?_⟩) ?_ ?_
         rotate_left
         ·
          intro w'
          go_simp
          with_reducible rfl
         rotate_left
         · simp only [Act.put, List.setIfInBounds_toArray, List.set_cons_zero, List.set_cons_succ, i64_w, i32_w]
           rfl
         refine pure_ (i := 11) (N := some 186) (v := ?_) (a' := ?_) #[true, true, true, true, true, true, true, true, true, true, true, true, false, false, false, false, false, false, false, false] rfl rfl (any_of HT_.out (by as_aux_lemma => kernel_rfl)) (fun _ _ _ h => h) (Or.inl ⟨by rfl, ?_⟩) ?_ ?_
         rotate_left
         ·
          intro w'
          go_simp
          with_reducible rfl
         rotate_left
         · simp only [Act.put, List.setIfInBounds_toArray, List.set_cons_zero, List.set_cons_succ, i64_w, i32_w]
           rfl
         refine pure_ (i := 12) (N := some 187) (v := ?_) (a' := ?_) #[true, true, true, true, true, true, true, true, true, true, true, true, true, false, false, false, false, false, false, false] rfl rfl (any_of HT_.out (by as_aux_lemma => kernel_rfl)) (fun _ _ _ h => h) (Or.inl ⟨by rfl, ?_⟩) ?_ ?_
         rotate_left
         ·
          intro w'
          go_simp
          with_reducible rfl
         rotate_left
         · simp only [Act.put, List.setIfInBounds_toArray, List.set_cons_zero, List.set_cons_succ, i64_w, i32_w]
           rfl
         refine pure_ (i := 13) (N := some 188) (v := undef) (a' := ?_) #[true, true, true, true, true, true, true, true, true, true, true, true, true, true, false, false, false, false, false, false] rfl rfl (any_of HT_.out (by as_aux_lemma => kernel_rfl)) (fun _ _ _ h => h) (Or.inr ⟨by rfl, rfl⟩) ?_ ?_
         rotate_left
         · simp only [Act.put, List.setIfInBounds_toArray, List.set_cons_zero, List.set_cons_succ, i64_w, i32_w]
           rfl
         refine pure_ (i := 14) (N := some 189) (v := undef) (a' := ?_) #[true, true, true, true, true, true, true, true, true, true, true, true, true, true, true, false, false, false, false, false] rfl rfl (any_of HT_.out (by as_aux_lemma => kernel_rfl)) (fun _ _ _ h => h) (Or.inr ⟨by rfl, rfl⟩) ?_ ?_
         rotate_left
         · simp only [Act.put, List.setIfInBounds_toArray, List.set_cons_zero, List.set_cons_succ, i64_w, i32_w]
           rfl
         refine pure_ (i := 15) (N := some 190) (v := undef) (a' := ?_) #[true, true, true, true, true, true, true, true, true, true, true, true, true, true, true, true, false, false, false, false] rfl rfl (any_of HT_.out (by as_aux_lemma => kernel_rfl)) (fun _ _ _ h => h) (Or.inr ⟨by rfl, rfl⟩) ?_ ?_
         rotate_left
         · simp only [Act.put, List.setIfInBounds_toArray, List.set_cons_zero, List.set_cons_succ, i64_w, i32_w]
           rfl
         refine pure_ (i := 16) (N := some 191) (v := undef) (a' := ?_) #[true, true, true, true, true, true, true, true, true, true, true, true, true, true, true, true, true, false, false, false] rfl rfl (any_of HT_.out (by as_aux_lemma => kernel_rfl)) (fun _ _ _ h => h) (Or.inr ⟨by rfl, rfl⟩) ?_ ?_
         rotate_left
         · simp only [Act.put, List.setIfInBounds_toArray, List.set_cons_zero, List.set_cons_succ, i64_w, i32_w]
           rfl
         refine pure_ (i := 17) (N := some 192) (v := undef) (a' := ?_) #[true, true, true, true, true, true, true, true, true, true, true, true, true, true, true, true, true, true, false, false] rfl rfl (any_of HT_.out (by as_aux_lemma => kernel_rfl)) (fun _ _ _ h => h) (Or.inr ⟨by rfl, rfl⟩) ?_ ?_
         rotate_left
         · simp only [Act.put, List.setIfInBounds_toArray, List.set_cons_zero, List.set_cons_succ, i64_w, i32_w]
           rfl
         refine pure_ (i := 18) (N := some 193) (v := undef) (a' := ?_) #[true, true, true, true, true, true, true, true, true, true, true, true, true, true, true, true, true, true, true, false] rfl rfl (any_of HT_.out (by as_aux_lemma => kernel_rfl)) (fun _ _ _ h => h) (Or.inr ⟨by rfl, rfl⟩) ?_ ?_
         rotate_left
         · simp only [Act.put, List.setIfInBounds_toArray, List.set_cons_zero, List.set_cons_succ, i64_w, i32_w]
           rfl
         refine pure_ (i := 19) (N := some 194) (v := ?_) (a' := ?_) #[true, true, true, true, true, true, true, true, true, true, true, true, true, true, true, true, true, true, true, true] rfl rfl (any_of HT_.out (by as_aux_lemma => kernel_rfl)) (fun _ _ _ h => h) (Or.inl ⟨by rfl, ?_⟩) ?_ ?_
         rotate_left
         ·
          intro w'
          go_simp
          with_reducible rfl
         rotate_left
         · simp only [Act.put, List.setIfInBounds_toArray, List.set_cons_zero, List.set_cons_succ, i64_w, i32_w]
           rfl
         refine done_ (done_of HT_.out (by as_aux_lemma => kernel_rfl)) ?_
         try go_wp2
         go_meet
         case rel => exact ⟨_, (true), (by first | rfl | (simp; done) | (simp [*]; done)), H', ⟨by have := HJ14.out; have := HJ121.out; first | omega | exact Nat.le_refl _⟩, ⟨by (with_reducible repeat (first | apply Kd.R_alloc | apply Kd.R_drewN | apply Kd.R_drew)); exact HO_9.out⟩, ⟨by (with_reducible repeat (first | apply Kd.R_alloc | apply Kd.R_drewN | apply Kd.R_drew)); exact HO_19.out⟩, ⟨by (with_reducible repeat (first | apply Kd.R_alloc | apply Kd.R_drewN | apply Kd.R_drew)); exact HO_21.out⟩, ⟨by (with_reducible repeat (first | refine blk_drewN ?_ _ | refine blk_drew ?_ | refine blk_alloc ?_ _)); exact BK355.out⟩, ⟨by (with_reducible repeat (first | refine blk_drewN ?_ _ | refine blk_drew ?_ | refine blk_alloc ?_ _)); exact BK356.out⟩, ⟨by (with_reducible repeat (first | refine blk_drewN ?_ _ | refine blk_drew ?_ | refine blk_alloc ?_ _)); exact BK373.out⟩, ⟨by (with_reducible repeat (first | refine blk_drewN ?_ _ | refine blk_drew ?_ | refine blk_alloc ?_ _)); exact BK389.out⟩, ⟨by (with_reducible repeat (first | refine blk_drewN ?_ _ | refine blk_drew ?_ | refine blk_alloc ?_ _)); exact BK394.out⟩, ⟨by repeat (first | (with_reducible first | exact HB.out | apply below_alloc | apply pw_below_drewN | apply below_drew1 | refine below_set ?_ GE355.out | refine below_set ?_ GE356.out | refine below_set ?_ GE373.out | refine below_set ?_ GE389.out | refine below_set ?_ GE394.out) | exact HB.out)⟩⟩
        ·
         rw [if_neg c177] at H
         have c177b0 : (!(((rd_T25 t361 0).f0) == t349) || (!(((rd_T25 t361 0).f1) == t350) || (!(((rd_T25 t361 0).f2) == t351)))) = false := by simpa using c177
         clear c177
         by_cases c180 : 0 ≤ t367
         ·
          rw [if_pos c180] at H
          have c180b0 : decide (0 ≤ t367) = true := decide_eq_true c180
          clear c180
          by_cases c181 : t367 < (t361.length : Int)
          ·
           rw [if_pos c181] at H
           have c181b0 : decide (t367 < (t361.length : Int)) = true := decide_eq_true c181
           clear c181
           have H' := Aside0.mk H
           clear H
           try go_wp2
           have n0_ := Aside0.mk (Kd.R_drew HO_9.out)
           have n1_ := Aside0.mk (Kd.R_drew HO_19.out)
           have n2_ := Aside0.mk (Kd.R_drew HO_21.out)
           have n3_ := Aside0.mk (blk_drew BK355.out)
           have n4_ := Aside0.mk (blk_drew BK356.out)
           have n5_ := Aside0.mk (blk_drew BK373.out)
           have n6_ := Aside0.mk (blk_drew BK389.out)
           have n7_ := Aside0.mk (blk_drew BK394.out)
           have n8_ := Aside0.mk (below_drew1 HB.out)
           clear HO_9
           clear HO_19
           clear HO_21
           clear BK355
           clear BK356
           clear BK373
           clear BK389
           clear BK394
           clear HB
           have HO_9 := n0_
           have HO_19 := n1_
           have HO_21 := n2_
           have BK355 := n3_
           have BK356 := n4_
           have BK373 := n5_
           have BK389 := n6_
           have BK394 := n7_
           have HB := n8_
           clear n0_ n1_ n2_ n3_ n4_ n5_ n6_ n7_ n8_
           obtain ⟨Ao183, co183, eo183⟩ := Kd.R_slice HO_9.out
           (first | subst eo183 | (injection eo183 with f1_ f2_ f3_; have f4_ := f1_.symm; have f5_ := f3_.symm; clear f1_ f2_ f3_; subst f4_; subst f5_))
           have p399 : 0 ≤ (0 : Int) := (by omega)
           have q399 : 0 < (t361.length : Int) := of_decide_eq_true (by first | (with_reducible assumption) | assumption)
           obtain ⟨ad399, e399, hx399_0, hx399_1, hx399_2⟩ := at_T25 (Kd.R_reads' HO_9.out).2.2 0 p399 q399
           cases e399
           have qi399 : (0 < t361.length) = True := eq_true (by omega)
           (try rw [show ((0 : Int)).toNat = 0 from rfl] at hx399_0)
           (try rw [show 0 * 3 = 0 from rfl] at hx399_0)
           (try rw [Addr.add_zero'] at hx399_0)
           (try rw [show ((0 : Int)).toNat = 0 from rfl] at hx399_1)
           (try rw [show 0 * 3 = 0 from rfl] at hx399_1)
           (try rw [Addr.add_zero'] at hx399_1)
           (try rw [show ((0 : Int)).toNat = 0 from rfl] at hx399_2)
           (try rw [show 0 * 3 = 0 from rfl] at hx399_2)
           (try rw [Addr.add_zero'] at hx399_2)
           replace p399 := eq_true p399
           replace q399 := eq_true q399
           have p400 : 0 ≤ (t367 : Int) := of_decide_eq_true (by first | (with_reducible assumption) | assumption)
           have q400 : t367 < (t361.length : Int) := of_decide_eq_true (by first | (with_reducible assumption) | assumption)
           obtain ⟨ad400, e400, hx400_0, hx400_1, hx400_2⟩ := at_T25 (Kd.R_reads' HO_9.out).2.2 t367 p400 q400
           obtain rfl : ad399 = ad400 := (by injection e400)
           replace p400 := eq_true p400
           replace q400 := eq_true q400
           refine start_ (n := 20) (S := fun w' => w'.cell? ⟨gb355, 0, none⟩ = some (.int .i64 t349) ∧ w'.cell? ⟨gb355, 1, none⟩ = some (.int .i64 t350) ∧ w'.cell? ⟨gb355, 2, none⟩ = some (.bool t351) ∧ w'.cell? ⟨gb356, 0, none⟩ = some (.int .i64 t352) ∧ w'.cell? ⟨gb356, 1, none⟩ = some (.int .i64 t353) ∧ w'.cell? ⟨gb356, 2, none⟩ = some (.bool t354) ∧ w'.cell? ad399 = some (.int .i64 ((rd_T25 t361 0).f0)) ∧ w'.cell? ⟨ad399.block, ad399.off + 1, none⟩ = some (.int .i64 ((rd_T25 t361 0).f1)) ∧ w'.cell? ⟨ad399.block, ad399.off + 2, none⟩ = some (.bool ((rd_T25 t361 0).f2)) ∧ w'.cell? (ad399.add ((t367).toNat * 3)) = some (.int .i64 ((rd_T25 t361 t367).f0)) ∧ w'.cell? ⟨(ad399.add ((t367).toNat * 3)).block, (ad399.add ((t367).toNat * 3)).off + 1, none⟩ = some (.int .i64 ((rd_T25 t361 t367).f1)) ∧ w'.cell? ⟨(ad399.add ((t367).toNat * 3)).block, (ad399.add ((t367).toNat * 3)).off + 2, none⟩ = some (.bool ((rd_T25 t361 t367).f2))) (ds := []) #[false, false, false, false, false, false, false, false, false, false, false, false, false, false, false, false, false, false, false, false] (by as_aux_lemma => kernel_rfl) rfl rfl ⟨(blk_cell BK355.out 0).trans rfl, (blk_cell BK355.out 1).trans rfl, (blk_cell BK355.out 2).trans rfl, (blk_cell BK356.out 0).trans rfl, (blk_cell BK356.out 1).trans rfl, (blk_cell BK356.out 2).trans rfl, hx399_0, hx399_1, hx399_2, hx400_0, hx400_1, hx400_2⟩ (fun hHeld => ?_); refine with_tabW laws_FnPlaceWays.tab21 laws_FnPlaceWays.bits21 (fun HT_ HW_ => ?_)
           generalize wc.drew = w182 at HO_9 HO_19 HO_21 BK355 BK356 BK373 BK389 BK394 HB hx399_0 hx399_1 hx399_2 hx400_0 hx400_1 hx400_2 hHeld ⊢
           refine pure_ (i := 0) (N := some 175) (v := ?_) (a' := ?_) #[true, false, false, false, false, false, false, false, false, false, false, false, false, false, false, false, false, false, false, false] rfl rfl (any_of HT_.out (by as_aux_lemma => kernel_rfl)) (fun _ _ _ h => h) (Or.inl ⟨by rfl, ?_⟩) ?_ ?_
           rotate_left
           ·
            intro w'
            go_simp
            with_reducible rfl
           rotate_left
           · simp only [Act.put, List.setIfInBounds_toArray, List.set_cons_zero, List.set_cons_succ, i64_w, i32_w]
             rfl
           refine pure_ (i := 1) (N := some 176) (v := ?_) (a' := ?_) #[true, true, false, false, false, false, false, false, false, false, false, false, false, false, false, false, false, false, false, false] rfl rfl (any_of HT_.out (by as_aux_lemma => kernel_rfl)) (fun _ _ _ h => h) (Or.inl ⟨by rfl, ?_⟩) ?_ ?_
           rotate_left
           ·
            intro w'
            go_simp
            with_reducible rfl
           rotate_left
           · simp only [Act.put, List.setIfInBounds_toArray, List.set_cons_zero, List.set_cons_succ, i64_w, i32_w]
             rfl
           refine pure_ (i := 2) (N := some 177) (v := ?_) (a' := ?_) #[true, true, true, false, false, false, false, false, false, false, false, false, false, false, false, false, false, false, false, false] rfl rfl (any_of HT_.out (by as_aux_lemma => kernel_rfl)) (fun _ _ _ h => h) (Or.inl ⟨by rfl, ?_⟩) ?_ ?_
           rotate_left
           ·
            intro w'
            go_simp
            with_reducible rfl
           rotate_left
           · simp only [Act.put, List.setIfInBounds_toArray, List.set_cons_zero, List.set_cons_succ, i64_w, i32_w]
             rfl
           refine pure_ (i := 3) (N := some 178) (v := ?_) (a' := ?_) #[true, true, true, true, false, false, false, false, false, false, false, false, false, false, false, false, false, false, false, false] rfl rfl (any_of HT_.out (by as_aux_lemma => kernel_rfl)) (fun _ _ _ h => h) (Or.inl ⟨by rfl, ?_⟩) ?_ ?_
           rotate_left
           ·
            intro w'
            go_simp
            with_reducible rfl
           rotate_left
           · simp only [Act.put, List.setIfInBounds_toArray, List.set_cons_zero, List.set_cons_succ, i64_w, i32_w]
             rfl
           refine pure_ (i := 4) (N := some 179) (v := ?_) (a' := ?_) #[true, true, true, true, true, false, false, false, false, false, false, false, false, false, false, false, false, false, false, false] rfl rfl (any_of HT_.out (by as_aux_lemma => kernel_rfl)) (fun _ _ _ h => h) (Or.inl ⟨by rfl, ?_⟩) ?_ ?_
           rotate_left
           ·
            intro w'
            go_simp
            with_reducible rfl
           rotate_left
           · simp only [Act.put, List.setIfInBounds_toArray, List.set_cons_zero, List.set_cons_succ, i64_w, i32_w]
             rfl
           refine pure_ (i := 5) (N := some 180) (v := ?_) (a' := ?_) #[true, true, true, true, true, true, false, false, false, false, false, false, false, false, false, false, false, false, false, false] rfl rfl (any_of HT_.out (by as_aux_lemma => kernel_rfl)) (fun _ _ _ h => h) (Or.inl ⟨by rfl, ?_⟩) ?_ ?_
           rotate_left
           ·
            intro w'
            go_simp
            with_reducible rfl
           rotate_left
           · simp only [Act.put, List.setIfInBounds_toArray, List.set_cons_zero, List.set_cons_succ, i64_w, i32_w]
             rfl
           refine pure_ (i := 6) (N := some 181) (v := ?_) (a' := ?_) #[true, true, true, true, true, true, true, false, false, false, false, false, false, false, false, false, false, false, false, false] rfl rfl (any_of HT_.out (by as_aux_lemma => kernel_rfl)) (fun _ _ _ h => h) (Or.inl ⟨by rfl, ?_⟩) ?_ ?_
           rotate_left
           ·
            intro w'
            go_simp
            with_reducible rfl
           rotate_left
           · simp only [Act.put, List.setIfInBounds_toArray, List.set_cons_zero, List.set_cons_succ, i64_w, i32_w]
             rfl
           refine pure_ (i := 7) (N := some 182) (v := ?_) (a' := ?_) #[true, true, true, true, true, true, true, true, false, false, false, false, false, false, false, false, false, false, false, false] rfl rfl (any_of HT_.out (by as_aux_lemma => kernel_rfl)) (fun _ _ _ h => h) (Or.inl ⟨by rfl, ?_⟩) ?_ ?_
           rotate_left
           ·
            intro w'
            go_simp
            with_reducible rfl
           rotate_left
           · simp only [Act.put, List.setIfInBounds_toArray, List.set_cons_zero, List.set_cons_succ, i64_w, i32_w]
             rfl
           refine take_ (i := 8) (N := some 183) (v := ?_) (a' := ?_) #[true, true, true, true, true, true, true, true, true, false, false, false, false, false, false, false, false, false, false, false] rfl rfl (take_ofW HT_.out HW_.out (by as_aux_lemma => kernel_rfl)) (fun _ _ _ h => h) (Or.inl ⟨by rfl, ?_⟩) hHeld ?_ ?_
           rotate_left
           ·
            rintro w' ⟨s0, s1, s2, s3, s4, s5, s6, s7, s8, s9, s10, s11⟩
            go_simp
            with_reducible rfl
           rotate_left
           · simp only [Act.put, List.setIfInBounds_toArray, List.set_cons_zero, List.set_cons_succ, i64_w, i32_w]
             rfl
           refine take_ (i := 9) (N := some 184) (v := ?_) (a' := ?_) #[true, true, true, true, true, true, true, true, true, true, false, false, false, false, false, false, false, false, false, false] rfl rfl (take_ofW HT_.out HW_.out (by as_aux_lemma => kernel_rfl)) (fun _ _ _ h => h) (Or.inl ⟨by rfl, ?_⟩) hHeld ?_ ?_
           rotate_left
           ·
            rintro w' ⟨s0, s1, s2, s3, s4, s5, s6, s7, s8, s9, s10, s11⟩
            go_simp
            with_reducible rfl
           rotate_left
           · simp only [Act.put, List.setIfInBounds_toArray, List.set_cons_zero, List.set_cons_succ, i64_w, i32_w]
             rfl
           refine pure_ (i := 10) (N := some 185) (v := ?_) (a' := ?_) #[true, true, true, true, true, true, true, true, true, true, true, false, false, false, false, false, false, false, false, false] rfl rfl (any_of HT_.out (by as_aux_lemma => kernel_rfl)) (fun _ _ _ h => h) (Or.inl ⟨by rfl, ?_⟩) ?_ ?_
           rotate_left
           ·
            intro w'
            go_simp
            with_reducible rfl
           rotate_left
           · simp only [Act.put, List.setIfInBounds_toArray, List.set_cons_zero, List.set_cons_succ, i64_w, i32_w]
             rfl
           refine pure_ (i := 11) (N := some 186) (v := ?_) (a' := ?_) #[true, true, true, true, true, true, true, true, true, true, true, true, false, false, false, false, false, false, false, false] rfl rfl (any_of HT_.out (by as_aux_lemma => kernel_rfl)) (fun _ _ _ h => h) (Or.inl ⟨by rfl, ?_⟩) ?_ ?_
           rotate_left
           ·
            intro w'
            go_simp
            with_reducible rfl
           rotate_left
           · simp only [Act.put, List.setIfInBounds_toArray, List.set_cons_zero, List.set_cons_succ, i64_w, i32_w]
             rfl
           refine pure_ (i := 12) (N := some 187) (v := ?_) (a' := ?_) #[true, true, true, true, true, true, true, true, true, true, true, true, true, false, false, false, false, false, false, false] rfl rfl (any_of HT_.out (by as_aux_lemma => kernel_rfl)) (fun _ _ _ h => h) (Or.inl ⟨by rfl, ?_⟩) ?_ ?_
           rotate_left
           ·
            intro w'
            go_simp
            with_reducible rfl
           rotate_left
           · simp only [Act.put, List.setIfInBounds_toArray, List.set_cons_zero, List.set_cons_succ, i64_w, i32_w]
             rfl
           refine pure_ (i := 13) (N := some 188) (v := ?_) (a' := ?_) #[true, true, true, true, true, true, true, true, true, true, true, true, true, true, false, false, false, false, false, false] rfl rfl (any_of HT_.out (by as_aux_lemma => kernel_rfl)) (fun _ _ _ h => h) (Or.inl ⟨by rfl, ?_⟩) ?_ ?_
           rotate_left
           ·
            intro w'
            go_simp
            with_reducible rfl
           rotate_left
           · simp only [Act.put, List.setIfInBounds_toArray, List.set_cons_zero, List.set_cons_succ, i64_w, i32_w]
             rfl
           refine pure_ (i := 14) (N := some 189) (v := ?_) (a' := ?_) #[true, true, true, true, true, true, true, true, true, true, true, true, true, true, true, false, false, false, false, false] rfl rfl (any_of HT_.out (by as_aux_lemma => kernel_rfl)) (fun _ _ _ h => h) (Or.inl ⟨by rfl, ?_⟩) ?_ ?_
           rotate_left
           ·
            intro w'
            go_simp
            with_reducible rfl
           rotate_left
           · simp only [Act.put, List.setIfInBounds_toArray, List.set_cons_zero, List.set_cons_succ, i64_w, i32_w]
             rfl
           refine pure_ (i := 15) (N := some 190) (v := ?_) (a' := ?_) #[true, true, true, true, true, true, true, true, true, true, true, true, true, true, true, true, false, false, false, false] rfl rfl (any_of HT_.out (by as_aux_lemma => kernel_rfl)) (fun _ _ _ h => h) (Or.inl ⟨by rfl, ?_⟩) ?_ ?_
           rotate_left
           ·
            intro w'
            go_simp
            with_reducible rfl
           rotate_left
           · simp only [Act.put, List.setIfInBounds_toArray, List.set_cons_zero, List.set_cons_succ, i64_w, i32_w]
             rfl
           refine take_ (i := 16) (N := some 191) (v := ?_) (a' := ?_) #[true, true, true, true, true, true, true, true, true, true, true, true, true, true, true, true, true, false, false, false] rfl rfl (take_ofW HT_.out HW_.out (by as_aux_lemma => kernel_rfl)) (fun _ _ _ h => h) (Or.inl ⟨by rfl, ?_⟩) hHeld ?_ ?_
           rotate_left
           ·
            rintro w' ⟨s0, s1, s2, s3, s4, s5, s6, s7, s8, s9, s10, s11⟩
            go_simp
            with_reducible rfl
           rotate_left
           · simp only [Act.put, List.setIfInBounds_toArray, List.set_cons_zero, List.set_cons_succ, i64_w, i32_w]
             rfl
           refine take_ (i := 17) (N := some 192) (v := ?_) (a' := ?_) #[true, true, true, true, true, true, true, true, true, true, true, true, true, true, true, true, true, true, false, false] rfl rfl (take_ofW HT_.out HW_.out (by as_aux_lemma => kernel_rfl)) (fun _ _ _ h => h) (Or.inl ⟨by rfl, ?_⟩) hHeld ?_ ?_
           rotate_left
           ·
            rintro w' ⟨s0, s1, s2, s3, s4, s5, s6, s7, s8, s9, s10, s11⟩
            go_simp
            with_reducible rfl
           rotate_left
           · simp only [Act.put, List.setIfInBounds_toArray, List.set_cons_zero, List.set_cons_succ, i64_w, i32_w]
             rfl
           refine pure_ (i := 18) (N := some 193) (v := ?_) (a' := ?_) #[true, true, true, true, true, true, true, true, true, true, true, true, true, true, true, true, true, true, true, false] rfl rfl (any_of HT_.out (by as_aux_lemma => kernel_rfl)) (fun _ _ _ h => h) (Or.inl ⟨by rfl, ?_⟩) ?_ ?_
           rotate_left
           ·
            intro w'
            go_simp
            with_reducible rfl
           rotate_left
           · simp only [Act.put, List.setIfInBounds_toArray, List.set_cons_zero, List.set_cons_succ, i64_w, i32_w]
             rfl
           refine pure_ (i := 19) (N := some 194) (v := ?_) (a' := ?_) #[true, true, true, true, true, true, true, true, true, true, true, true, true, true, true, true, true, true, true, true] rfl rfl (any_of HT_.out (by as_aux_lemma => kernel_rfl)) (fun _ _ _ h => h) (Or.inl ⟨by rfl, ?_⟩) ?_ ?_
           rotate_left
           ·
            intro w'
            go_simp
            with_reducible rfl
           rotate_left
           · simp only [Act.put, List.setIfInBounds_toArray, List.set_cons_zero, List.set_cons_succ, i64_w, i32_w]
             rfl
           refine done_ (done_of HT_.out (by as_aux_lemma => kernel_rfl)) ?_
           try go_wp2
           go_meet
           case rel => exact ⟨_, ((!(((rd_T25 t361 t367).f0) == t352) || (!(((rd_T25 t361 t367).f1) == t353) || (!(((rd_T25 t361 t367).f2) == t354))))), (by first | rfl | (simp; done) | (simp [*]; done)), H', ⟨by have := HJ14.out; have := HJ121.out; first | omega | exact Nat.le_refl _⟩, ⟨by (with_reducible repeat (first | apply Kd.R_alloc | apply Kd.R_drewN | apply Kd.R_drew)); exact HO_9.out⟩, ⟨by (with_reducible repeat (first | apply Kd.R_alloc | apply Kd.R_drewN | apply Kd.R_drew)); exact HO_19.out⟩, ⟨by (with_reducible repeat (first | apply Kd.R_alloc | apply Kd.R_drewN | apply Kd.R_drew)); exact HO_21.out⟩, ⟨by (with_reducible repeat (first | refine blk_drewN ?_ _ | refine blk_drew ?_ | refine blk_alloc ?_ _)); exact BK355.out⟩, ⟨by (with_reducible repeat (first | refine blk_drewN ?_ _ | refine blk_drew ?_ | refine blk_alloc ?_ _)); exact BK356.out⟩, ⟨by (with_reducible repeat (first | refine blk_drewN ?_ _ | refine blk_drew ?_ | refine blk_alloc ?_ _)); exact BK373.out⟩, ⟨by (with_reducible repeat (first | refine blk_drewN ?_ _ | refine blk_drew ?_ | refine blk_alloc ?_ _)); exact BK389.out⟩, ⟨by (with_reducible repeat (first | refine blk_drewN ?_ _ | refine blk_drew ?_ | refine blk_alloc ?_ _)); exact BK394.out⟩, ⟨by repeat (first | (with_reducible first | exact HB.out | apply below_alloc | apply pw_below_drewN | apply below_drew1 | refine below_set ?_ GE355.out | refine below_set ?_ GE356.out | refine below_set ?_ GE373.out | refine below_set ?_ GE389.out | refine below_set ?_ GE394.out) | exact HB.out)⟩⟩
          · rw [if_neg c181] at H
            exact absurd H (by simp)
         · rw [if_neg c180] at H
           exact absurd H (by simp)
       · rw [if_neg c176] at H
         exact absurd H (by simp)
      ·
       rw [if_neg c175] at H
       have c175b0 : ((t361.length : Int) == (wrap64 (t367 + 1))) = false := beq_eq_false_iff_ne.mpr c175
       have c175b1 : ((t361.length : Int) != (wrap64 (t367 + 1))) = true := bne_iff_ne.mpr c175
       (first | rw [c175b0] | (simp only [i64_w, i32_w]; rw [c175b0]) | skip)
       have H' := Aside0.mk H
       clear H
       try go_wp2
       have n0_ := Aside0.mk (Kd.R_drew HO_9.out)
       have n1_ := Aside0.mk (Kd.R_drew HO_19.out)
       have n2_ := Aside0.mk (Kd.R_drew HO_21.out)
       have n3_ := Aside0.mk (blk_drew BK355.out)
       have n4_ := Aside0.mk (blk_drew BK356.out)
       have n5_ := Aside0.mk (blk_drew BK373.out)
       have n6_ := Aside0.mk (blk_drew BK389.out)
       have n7_ := Aside0.mk (blk_drew BK394.out)
       have n8_ := Aside0.mk (below_drew1 HB.out)
       clear HO_9
       clear HO_19
       clear HO_21
       clear BK355
       clear BK356
       clear BK373
       clear BK389
       clear BK394
       clear HB
       have HO_9 := n0_
       have HO_19 := n1_
       have HO_21 := n2_
       have BK355 := n3_
       have BK356 := n4_
       have BK373 := n5_
       have BK389 := n6_
       have BK394 := n7_
       have HB := n8_
       clear n0_ n1_ n2_ n3_ n4_ n5_ n6_ n7_ n8_
       obtain ⟨Ao185, co185, eo185⟩ := Kd.R_slice HO_9.out
       (first | subst eo185 | (injection eo185 with f1_ f2_ f3_; have f4_ := f1_.symm; have f5_ := f3_.symm; clear f1_ f2_ f3_; subst f4_; subst f5_))
       refine start_ (n := 20) (S := fun w' => True) (ds := []) #[false, false, false, false, false, false, false, false, false, false, false, false, false, false, false, false, false, false, false, false] (by as_aux_lemma => kernel_rfl) rfl rfl trivial (fun hHeld => ?_); refine with_tabW laws_FnPlaceWays.tab21 laws_FnPlaceWays.bits21 (fun HT_ HW_ => ?_)
       generalize wc.drew = w184 at HO_9 HO_19 HO_21 BK355 BK356 BK373 BK389 BK394 HB hHeld ⊢
       refine pure_ (i := 0) (N := some 175) (v := ?_) (a' := ?_) #[true, false, false, false, false, false, false, false, false, false, false, false, false, false, false, false, false, false, false, false] rfl rfl (any_of HT_.out (by as_aux_lemma => kernel_rfl)) (fun _ _ _ h => h) (Or.inl ⟨by rfl, ?_⟩) ?_ ?_
       rotate_left
       ·
        intro w'
        go_simp
        with_reducible rfl
       rotate_left
       · simp only [Act.put, List.setIfInBounds_toArray, List.set_cons_zero, List.set_cons_succ, i64_w, i32_w]
         rfl
       refine pure_ (i := 1) (N := some 176) (v := ?_) (a' := ?_) #[true, true, false, false, false, false, false, false, false, false, false, false, false, false, false, false, false, false, false, false] rfl rfl (any_of HT_.out (by as_aux_lemma => kernel_rfl)) (fun _ _ _ h => h) (Or.inl ⟨by rfl, ?_⟩) ?_ ?_
       rotate_left
       ·
        intro w'
        go_simp
        with_reducible rfl
       rotate_left
       · simp only [Act.put, List.setIfInBounds_toArray, List.set_cons_zero, List.set_cons_succ, i64_w, i32_w]
         rfl
       refine pure_ (i := 2) (N := some 177) (v := ?_) (a' := ?_) #[true, true, true, false, false, false, false, false, false, false, false, false, false, false, false, false, false, false, false, false] rfl rfl (any_of HT_.out (by as_aux_lemma => kernel_rfl)) (fun _ _ _ h => h) (Or.inl ⟨by rfl, ?_⟩) ?_ ?_
       rotate_left
       ·
        intro w'
        go_simp
        with_reducible rfl
       rotate_left
       · simp only [Act.put, List.setIfInBounds_toArray, List.set_cons_zero, List.set_cons_succ, i64_w, i32_w]
         rfl
       refine pure_ (i := 3) (N := some 178) (v := ?_) (a' := ?_) #[true, true, true, true, false, false, false, false, false, false, false, false, false, false, false, false, false, false, false, false] rfl rfl (any_of HT_.out (by as_aux_lemma => kernel_rfl)) (fun _ _ _ h => h) (Or.inl ⟨by rfl, ?_⟩) ?_ ?_
       rotate_left
       ·
        intro w'
        go_simp
        with_reducible rfl
       rotate_left
       · simp only [Act.put, List.setIfInBounds_toArray, List.set_cons_zero, List.set_cons_succ, i64_w, i32_w]
         rfl
       refine pure_ (i := 4) (N := some 179) (v := ?_) (a' := ?_) #[true, true, true, true, true, false, false, false, false, false, false, false, false, false, false, false, false, false, false, false] rfl rfl (any_of HT_.out (by as_aux_lemma => kernel_rfl)) (fun _ _ _ h => h) (Or.inl ⟨by rfl, ?_⟩) ?_ ?_
       rotate_left
       ·
        intro w'
        go_simp
        with_reducible rfl
       rotate_left
       · simp only [Act.put, List.setIfInBounds_toArray, List.set_cons_zero, List.set_cons_succ, i64_w, i32_w]
         rfl
       refine pure_ (i := 5) (N := some 180) (v := ?_) (a' := ?_) #[true, true, true, true, true, true, false, false, false, false, false, false, false, false, false, false, false, false, false, false] rfl rfl (any_of HT_.out (by as_aux_lemma => kernel_rfl)) (fun _ _ _ h => h) (Or.inl ⟨by rfl, ?_⟩) ?_ ?_
       rotate_left
       ·
        intro w'
        go_simp
        with_reducible rfl
       rotate_left
       · simp only [Act.put, List.setIfInBounds_toArray, List.set_cons_zero, List.set_cons_succ, i64_w, i32_w]
         rfl
       refine pure_ (i := 6) (N := some 181) (v := undef) (a' := ?_) #[true, true, true, true, true, true, true, false, false, false, false, false, false, false, false, false, false, false, false, false] rfl rfl (any_of HT_.out (by as_aux_lemma => kernel_rfl)) (fun _ _ _ h => h) (Or.inr ⟨by rfl, rfl⟩) ?_ ?_
       rotate_left
       · simp only [Act.put, List.setIfInBounds_toArray, List.set_cons_zero, List.set_cons_succ, i64_w, i32_w]
         rfl
       refine pure_ (i := 7) (N := some 182) (v := undef) (a' := ?_) #[true, true, true, true, true, true, true, true, false, false, false, false, false, false, false, false, false, false, false, false] rfl rfl (any_of HT_.out (by as_aux_lemma => kernel_rfl)) (fun _ _ _ h => h) (Or.inr ⟨by rfl, rfl⟩) ?_ ?_
       rotate_left
       · simp only [Act.put, List.setIfInBounds_toArray, List.set_cons_zero, List.set_cons_succ, i64_w, i32_w]
         rfl
       refine pure_ (i := 8) (N := some 183) (v := undef) (a' := ?_) #[true, true, true, true, true, true, true, true, true, false, false, false, false, false, false, false, false, false, false, false] rfl rfl (any_of HT_.out (by as_aux_lemma => kernel_rfl)) (fun _ _ _ h => h) (Or.inr ⟨by rfl, rfl⟩) ?_ ?_
       rotate_left
       · simp only [Act.put, List.setIfInBounds_toArray, List.set_cons_zero, List.set_cons_succ, i64_w, i32_w]
         rfl
       refine pure_ (i := 9) (N := some 184) (v := undef) (a' := ?_) #[true, true, true, true, true, true, true, true, true, true, false, false, false, false, false, false, false, false, false, false] rfl rfl (any_of HT_.out (by as_aux_lemma => kernel_rfl)) (fun _ _ _ h => h) (Or.inr ⟨by rfl, rfl⟩) ?_ ?_
       rotate_left
       · simp only [Act.put, List.setIfInBounds_toArray, List.set_cons_zero, List.set_cons_succ, i64_w, i32_w]
         rfl
       refine pure_ (i := 10) (N := some 185) (v := undef) (a' := ?_) #[true, true, true, true, true, true, true, true, true, true, true, false, false, false, false, false, false, false, false, false] rfl rfl (any_of HT_.out (by as_aux_lemma => kernel_rfl)) (fun _ _ _ h => h) (Or.inr ⟨by rfl, rfl⟩) ?_ ?_
       rotate_left
       · simp only [Act.put, List.setIfInBounds_toArray, List.set_cons_zero, List.set_cons_succ, i64_w, i32_w]
         rfl
       refine pure_ (i := 11) (N := some 186) (v := ?_) (a' := ?_) #[true, true, true, true, true, true, true, true, true, true, true, true, false, false, false, false, false, false, false, false] rfl rfl (any_of HT_.out (by as_aux_lemma => kernel_rfl)) (fun _ _ _ h => h) (Or.inl ⟨by rfl, ?_⟩) ?_ ?_
       rotate_left
       ·
        intro w'
        go_simp
        with_reducible rfl
       rotate_left
       · simp only [Act.put, List.setIfInBounds_toArray, List.set_cons_zero, List.set_cons_succ, i64_w, i32_w]
         rfl
       refine pure_ (i := 12) (N := some 187) (v := ?_) (a' := ?_) #[true, true, true, true, true, true, true, true, true, true, true, true, true, false, false, false, false, false, false, false] rfl rfl (any_of HT_.out (by as_aux_lemma => kernel_rfl)) (fun _ _ _ h => h) (Or.inl ⟨by rfl, ?_⟩) ?_ ?_
       rotate_left
       ·
        intro w'
        go_simp
        with_reducible rfl
       rotate_left
       · simp only [Act.put, List.setIfInBounds_toArray, List.set_cons_zero, List.set_cons_succ, i64_w, i32_w]
         rfl
       refine pure_ (i := 13) (N := some 188) (v := undef) (a' := ?_) #[true, true, true, true, true, true, true, true, true, true, true, true, true, true, false, false, false, false, false, false] rfl rfl (any_of HT_.out (by as_aux_lemma => kernel_rfl)) (fun _ _ _ h => h) (Or.inr ⟨by rfl, rfl⟩) ?_ ?_
       rotate_left
       · simp only [Act.put, List.setIfInBounds_toArray, List.set_cons_zero, List.set_cons_succ, i64_w, i32_w]
         rfl
       refine pure_ (i := 14) (N := some 189) (v := undef) (a' := ?_) #[true, true, true, true, true, true, true, true, true, true, true, true, true, true, true, false, false, false, false, false] rfl rfl (any_of HT_.out (by as_aux_lemma => kernel_rfl)) (fun _ _ _ h => h) (Or.inr ⟨by rfl, rfl⟩) ?_ ?_
       rotate_left
       · simp only [Act.put, List.setIfInBounds_toArray, List.set_cons_zero, List.set_cons_succ, i64_w, i32_w]
         rfl
       refine pure_ (i := 15) (N := some 190) (v := undef) (a' := ?_) #[true, true, true, true, true, true, true, true, true, true, true, true, true, true, true, true, false, false, false, false] rfl rfl (any_of HT_.out (by as_aux_lemma => kernel_rfl)) (fun _ _ _ h => h) (Or.inr ⟨by rfl, rfl⟩) ?_ ?_
       rotate_left
       · simp only [Act.put, List.setIfInBounds_toArray, List.set_cons_zero, List.set_cons_succ, i64_w, i32_w]
         rfl
       refine pure_ (i := 16) (N := some 191) (v := undef) (a' := ?_) #[true, true, true, true, true, true, true, true, true, true, true, true, true, true, true, true, true, false, false, false] rfl rfl (any_of HT_.out (by as_aux_lemma => kernel_rfl)) (fun _ _ _ h => h) (Or.inr ⟨by rfl, rfl⟩) ?_ ?_
       rotate_left
       · simp only [Act.put, List.setIfInBounds_toArray, List.set_cons_zero, List.set_cons_succ, i64_w, i32_w]
         rfl
       refine pure_ (i := 17) (N := some 192) (v := undef) (a' := ?_) #[true, true, true, true, true, true, true, true, true, true, true, true, true, true, true, true, true, true, false, false] rfl rfl (any_of HT_.out (by as_aux_lemma => kernel_rfl)) (fun _ _ _ h => h) (Or.inr ⟨by rfl, rfl⟩) ?_ ?_
       rotate_left
       · simp only [Act.put, List.setIfInBounds_toArray, List.set_cons_zero, List.set_cons_succ, i64_w, i32_w]
         rfl
       refine pure_ (i := 18) (N := some 193) (v := undef) (a' := ?_) #[true, true, true, true, true, true, true, true, true, true, true, true, true, true, true, true, true, true, true, false] rfl rfl (any_of HT_.out (by as_aux_lemma => kernel_rfl)) (fun _ _ _ h => h) (Or.inr ⟨by rfl, rfl⟩) ?_ ?_
       rotate_left
       · simp only [Act.put, List.setIfInBounds_toArray, List.set_cons_zero, List.set_cons_succ, i64_w, i32_w]
         rfl
       refine pure_ (i := 19) (N := some 194) (v := ?_) (a' := ?_) #[true, true, true, true, true, true, true, true, true, true, true, true, true, true, true, true, true, true, true, true] rfl rfl (any_of HT_.out (by as_aux_lemma => kernel_rfl)) (fun _ _ _ h => h) (Or.inl ⟨by rfl, ?_⟩) ?_ ?_
       rotate_left
       ·
        intro w'
        go_simp
        with_reducible rfl
       rotate_left
       · simp only [Act.put, List.setIfInBounds_toArray, List.set_cons_zero, List.set_cons_succ, i64_w, i32_w]
         rfl
       refine done_ (done_of HT_.out (by as_aux_lemma => kernel_rfl)) ?_
       try go_wp2
       go_meet
       case rel => exact ⟨_, (true), (by first | rfl | (simp; done) | (simp [*]; done)), H', ⟨by have := HJ14.out; have := HJ121.out; first | omega | exact Nat.le_refl _⟩, ⟨by (with_reducible repeat (first | apply Kd.R_alloc | apply Kd.R_drewN | apply Kd.R_drew)); exact HO_9.out⟩, ⟨by (with_reducible repeat (first | apply Kd.R_alloc | apply Kd.R_drewN | apply Kd.R_drew)); exact HO_19.out⟩, ⟨by (with_reducible repeat (first | apply Kd.R_alloc | apply Kd.R_drewN | apply Kd.R_drew)); exact HO_21.out⟩, ⟨by (with_reducible repeat (first | refine blk_drewN ?_ _ | refine blk_drew ?_ | refine blk_alloc ?_ _)); exact BK355.out⟩, ⟨by (with_reducible repeat (first | refine blk_drewN ?_ _ | refine blk_drew ?_ | refine blk_alloc ?_ _)); exact BK356.out⟩, ⟨by (with_reducible repeat (first | refine blk_drewN ?_ _ | refine blk_drew ?_ | refine blk_alloc ?_ _)); exact BK373.out⟩, ⟨by (with_reducible repeat (first | refine blk_drewN ?_ _ | refine blk_drew ?_ | refine blk_alloc ?_ _)); exact BK389.out⟩, ⟨by (with_reducible repeat (first | refine blk_drewN ?_ _ | refine blk_drew ?_ | refine blk_alloc ?_ _)); exact BK394.out⟩, ⟨by repeat (first | (with_reducible first | exact HB.out | apply below_alloc | apply pw_below_drewN | apply below_drew1 | refine below_set ?_ GE355.out | refine below_set ?_ GE356.out | refine below_set ?_ GE373.out | refine below_set ?_ GE389.out | refine below_set ?_ GE394.out) | exact HB.out)⟩⟩
     case rest => as_aux_lemma =>
      clear HC174
      (try clear c1); (try clear c175b0); (try clear c175b1); (try clear c176b0); (try clear c176b1); (try clear c177b0); (try clear c180b0); (try clear c181b0); (try clear hx399_0); (try clear hx399_1); (try clear hx399_2); (try clear hx400_0); (try clear hx400_1); (try clear hx400_2); (try clear p399); (try clear p400); (try clear q399); (try clear q400)
      obtain ⟨kq, x194_173, rfl, HA, HJ173, HO_9, HO_19, HO_21, BK355, BK356, BK373, BK389, BK394, HB⟩ := hcut
      cases kq with
      | zero => exact absurd HA.out (by simp [laws_FnPlaceWays.j2])
      | succ kj173 =>
       have H := HA.out
       clear HA
       simp only [laws_FnPlaceWays.j2] at H
       by_cases c186 : x194_173 = true
       ·
        subst c186
        have H1 : (some false) = some r := by rw [if_pos rfl] at H; exact H
        clear H
        have H := H1
        clear H1
        obtain rfl := Option.some.inj H
        go_wp2
        go_ret
        exact ⟨by first | rfl | (simp [errW_none, errW_some] <;> rfl) | (simp [*, errW_none, errW_some] <;> rfl), by repeat (first | (with_reducible first | exact HB.out | apply below_alloc | apply pw_below_drewN | apply below_drew1 | refine below_set ?_ GE355.out | refine below_set ?_ GE356.out | refine below_set ?_ GE373.out | refine below_set ?_ GE389.out | refine below_set ?_ GE394.out) | exact HB.out)⟩
       · as_aux_lemma =>
        replace c186 := Bool.eq_false_iff.mpr c186
        subst c186
        have H1 : (laws_FnPlaceWays.l0 kj173 t361 t372 t378 t382 t388 1 t369 t370 t371 t390 t391 t392) = some r := by rw [if_neg (show ¬ (false = true) by decide)] at H; exact H
        clear H
        have H := H1
        clear H1
        have H' := Aside0.mk H
        clear H
        go_wp2
        go_loopg [28] kj173 (fun kq v28 w' => ∃ (x28_4 : Int), v28 = .int .i64 x28_4 ∧ Aside0 (laws_FnPlaceWays.l0 kq t361 t372 t378 t382 t388 x28_4 t369 t370 t371 t390 t391 t392 = some r) ∧ Aside0 (kq ≤ kj173) ∧ Aside0 (Kd.R k25 25 w' w.heap.size (fun k_ => some k_ ≠ (v379 : Value).ownBlock ∧ some k_ ≠ ((.slice Ao41 t382.length co41) : Value).ownBlock ∧ k_ ≠ gb355 ∧ k_ ≠ gb356 ∧ k_ ≠ gb373 ∧ k_ ≠ gb389 ∧ k_ ≠ gb394) v362 t361) ∧ Aside0 (Kd.R k25 25 w' w.heap.size (fun k_ => some k_ ≠ (v362 : Value).ownBlock ∧ some k_ ≠ ((.slice Ao41 t382.length co41) : Value).ownBlock ∧ k_ ≠ gb355 ∧ k_ ≠ gb356 ∧ k_ ≠ gb373 ∧ k_ ≠ gb389 ∧ k_ ≠ gb394) v379 t378) ∧ Aside0 (Kd.R k25 25 w' w.heap.size (fun k_ => some k_ ≠ (v362 : Value).ownBlock ∧ some k_ ≠ (v379 : Value).ownBlock ∧ k_ ≠ gb355 ∧ k_ ≠ gb356 ∧ k_ ≠ gb373 ∧ k_ ≠ gb389 ∧ k_ ≠ gb394) (.slice Ao41 t382.length co41) t382) ∧ Aside0 (w'.heap[gb355]? = some (.cells #[.int .i64 t349, .int .i64 t350, .bool t351] 25 (0, 0))) ∧ Aside0 (w'.heap[gb356]? = some (.cells #[.int .i64 t352, .int .i64 t353, .bool t354] 25 (0, 0))) ∧ Aside0 (w'.heap[gb373]? = some (.cells #[.int .i64 t369, .int .i64 t370, .bool t371] 25 (0, 0))) ∧ Aside0 (w'.heap[gb389]? = some (.cells #[.int .i64 t385, .int .i64 t386, .bool t387] 25 (0, 0))) ∧ Aside0 (w'.heap[gb394]? = some (.cells #[.int .i64 t390, .int .i64 t391, .bool t392] 25 (0, 0))) ∧ Aside0 (Below w.heap.size w w'))
        case atStart => exact ⟨(1), (by first | rfl | (simp; done) | (simp [*]; done)), H', ⟨Nat.le_refl _⟩, ⟨by (with_reducible repeat (first | apply Kd.R_alloc | apply Kd.R_drewN | apply Kd.R_drew)); exact HO_9.out⟩, ⟨by (with_reducible repeat (first | apply Kd.R_alloc | apply Kd.R_drewN | apply Kd.R_drew)); exact HO_19.out⟩, ⟨by (with_reducible repeat (first | apply Kd.R_alloc | apply Kd.R_drewN | apply Kd.R_drew)); exact HO_21.out⟩, ⟨by (with_reducible repeat (first | refine blk_drewN ?_ _ | refine blk_drew ?_ | refine blk_alloc ?_ _)); exact BK355.out⟩, ⟨by (with_reducible repeat (first | refine blk_drewN ?_ _ | refine blk_drew ?_ | refine blk_alloc ?_ _)); exact BK356.out⟩, ⟨by (with_reducible repeat (first | refine blk_drewN ?_ _ | refine blk_drew ?_ | refine blk_alloc ?_ _)); exact BK373.out⟩, ⟨by (with_reducible repeat (first | refine blk_drewN ?_ _ | refine blk_drew ?_ | refine blk_alloc ?_ _)); exact BK389.out⟩, ⟨by (with_reducible repeat (first | refine blk_drewN ?_ _ | refine blk_drew ?_ | refine blk_alloc ?_ _)); exact BK394.out⟩, ⟨by repeat (first | (with_reducible first | exact HB.out | apply below_alloc | apply pw_below_drewN | apply below_drew1 | refine below_set ?_ GE355.out | refine below_set ?_ GE356.out | refine below_set ?_ GE373.out | refine below_set ?_ GE389.out | refine below_set ?_ GE394.out) | exact HB.out)⟩⟩
        case round => as_aux_lemma =>
         clear H'
         (try clear c1); (try clear c175b0); (try clear c175b1); (try clear c176b0); (try clear c176b1); (try clear c177b0); (try clear c180b0); (try clear c181b0); (try clear hx399_0); (try clear hx399_1); (try clear hx399_2); (try clear hx400_0); (try clear hx400_1); (try clear hx400_2); (try clear p399); (try clear p400); (try clear q399); (try clear q400)
         obtain ⟨x28_4, rfl, HA, HK4, HO_9, HO_19, HO_21, BK355, BK356, BK373, BK389, BK394, HB⟩ := hrel
         cases gk with
         | zero => exact absurd HA.out (by simp [laws_FnPlaceWays.l0])
         | succ k4 =>
          have H := HA.out
          clear HA
          simp only [laws_FnPlaceWays.l0] at H
          by_cases c187 : x28_4 < (t361.length : Int)
          · as_aux_lemma =>
           rw [if_pos c187] at H
           have c187b0 : decide (x28_4 < (t361.length : Int)) = true := decide_eq_true c187
           clear c187
           obtain ⟨ji188, hji188⟩ : ∃ j_ : Int, (wrap64 (x28_4 - 1)) = j_ := ⟨_, rfl⟩
           replace H : (if 0 ≤ (ji188) then (if (ji188) < (t361.length : Int) then (if 0 ≤ x28_4 then ((impl_PlaceDistance.f ((rd_T25 t361 (ji188)).f0) ((rd_T25 t361 (ji188)).f1) ((rd_T25 t361 (ji188)).f2) ((rd_T25 t361 x28_4).f0) ((rd_T25 t361 x28_4).f1) ((rd_T25 t361 x28_4).f2)).bind fun bt403 => (if bt403.2 = true then (if bt403.1 = 1 then (laws_FnPlaceWays.l0 k4 t361 t372 t378 t382 t388 (wrap64 (x28_4 + 1)) t369 t370 t371 t390 t391 t392) else (some false)) else (some false))) else (none)) else (none)) else (none)) = some r := by first | (rw [hji188] at H; exact H) | (simp only [hji188] at H ⊢; exact H)
           have hji188w : (IntKind.i64.wrap (x28_4 - 1)) = ji188 := (i64_w _).trans hji188
           by_cases c189 : 0 ≤ (ji188)
           · as_aux_lemma =>
            rw [if_pos c189] at H
            have c189b0 : decide (0 ≤ (ji188)) = true := decide_eq_true c189
            clear c189
            by_cases c190 : (ji188) < (t361.length : Int)
            · as_aux_lemma =>
             rw [if_pos c190] at H
             have c190b0 : decide ((ji188) < (t361.length : Int)) = true := decide_eq_true c190
             clear c190
             by_cases c191 : 0 ≤ x28_4
             · as_aux_lemma =>
              rw [if_pos c191] at H
              have c191b0 : decide (0 ≤ x28_4) = true := decide_eq_true c191
              clear c191
              replace H := Option.bind_eq_some_iff.mp H
              obtain ⟨⟨t403, t404⟩, A1920, H⟩ := H
              replace H : (if t404 = true then (if t403 = 1 then (laws_FnPlaceWays.l0 k4 t361 t372 t378 t382 t388 (wrap64 (x28_4 + 1)) t369 t370 t371 t390 t391 t392) else (some false)) else (some false)) = some r := H
              have A192 := Aside0.mk A1920
              clear A1920
              by_cases c193 : t404 = true
              · as_aux_lemma =>
               subst c193
               have H1 : (if t403 = 1 then (laws_FnPlaceWays.l0 k4 t361 t372 t378 t382 t388 (wrap64 (x28_4 + 1)) t369 t370 t371 t390 t391 t392) else (some false)) = some r := by rw [if_pos rfl] at H; exact H
               clear H
               have H := H1
               clear H1
               by_cases c194 : t403 = 1
               ·
                rw [if_pos c194] at H
                have c194b0 : (t403 == 1) = true := beq_iff_eq.mpr c194
                have c194b1 : (t403 != 1) = false := bne_eq_false_iff_eq.mpr c194
                clear c194
                have H' := Aside0.mk H
                clear H
                obtain ⟨Ao195, co195, eo195⟩ := Kd.R_slice HO_9.out
                subst eo195
                try go_wp2
                have n0_ := Aside0.mk (Kd.R_drew HO_9.out)
                have n1_ := Aside0.mk (Kd.R_drew HO_19.out)
                have n2_ := Aside0.mk (Kd.R_drew HO_21.out)
                have n3_ := Aside0.mk (blk_drew BK355.out)
                have n4_ := Aside0.mk (blk_drew BK356.out)
                have n5_ := Aside0.mk (blk_drew BK373.out)
                have n6_ := Aside0.mk (blk_drew BK389.out)
                have n7_ := Aside0.mk (blk_drew BK394.out)
                have n8_ := Aside0.mk (below_drew1 HB.out)
                clear HO_9
                clear HO_19
                clear HO_21
                clear BK355
                clear BK356
                clear BK373
                clear BK389
                clear BK394
                clear HB
                have HO_9 := n0_
                have HO_19 := n1_
                have HO_21 := n2_
                have BK355 := n3_
                have BK356 := n4_
                have BK373 := n5_
                have BK389 := n6_
                have BK394 := n7_
                have HB := n8_
                clear n0_ n1_ n2_ n3_ n4_ n5_ n6_ n7_ n8_
                have p401 : 0 ≤ ((ji188) : Int) := of_decide_eq_true (by first | (with_reducible assumption) | assumption)
                have q401 : (ji188) < (t361.length : Int) := of_decide_eq_true (by first | (with_reducible assumption) | assumption)
                obtain ⟨ad401, e401, hx401_0, hx401_1, hx401_2⟩ := at_T25 (Kd.R_reads' HO_9.out).2.2 (ji188) p401 q401
                cases e401
                replace p401 := eq_true p401
                replace q401 := eq_true q401
                have p402 : 0 ≤ (x28_4 : Int) := of_decide_eq_true (by first | (with_reducible assumption) | assumption)
                have q402 : x28_4 < (t361.length : Int) := of_decide_eq_true (by first | (with_reducible assumption) | assumption)
                obtain ⟨ad402, e402, hx402_0, hx402_1, hx402_2⟩ := at_T25 (Kd.R_reads' HO_9.out).2.2 x28_4 p402 q402
                obtain rfl : ad401 = ad402 := (by injection e402)
                replace p402 := eq_true p402
                replace q402 := eq_true q402
                refine start_ (n := 15) (S := fun w' => w'.cell? (ad401.add (((ji188)).toNat * 3)) = some (.int .i64 ((rd_T25 t361 (ji188)).f0)) ∧ w'.cell? ⟨(ad401.add (((ji188)).toNat * 3)).block, (ad401.add (((ji188)).toNat * 3)).off + 1, none⟩ = some (.int .i64 ((rd_T25 t361 (ji188)).f1)) ∧ w'.cell? ⟨(ad401.add (((ji188)).toNat * 3)).block, (ad401.add (((ji188)).toNat * 3)).off + 2, none⟩ = some (.bool ((rd_T25 t361 (ji188)).f2)) ∧ w'.cell? (ad401.add ((x28_4).toNat * 3)) = some (.int .i64 ((rd_T25 t361 x28_4).f0)) ∧ w'.cell? ⟨(ad401.add ((x28_4).toNat * 3)).block, (ad401.add ((x28_4).toNat * 3)).off + 1, none⟩ = some (.int .i64 ((rd_T25 t361 x28_4).f1)) ∧ w'.cell? ⟨(ad401.add ((x28_4).toNat * 3)).block, (ad401.add ((x28_4).toNat * 3)).off + 2, none⟩ = some (.bool ((rd_T25 t361 x28_4).f2))) (ds := []) #[false, false, false, false, false, false, false, false, false, false, false, false, false, false, false] (by as_aux_lemma => kernel_rfl) rfl rfl ⟨hx401_0, hx401_1, hx401_2, hx402_0, hx402_1, hx402_2⟩ (fun hHeld => ?_); refine with_tabW laws_FnPlaceWays.tab26 laws_FnPlaceWays.bits26 (fun HT_ HW_ => ?_)
                generalize wr.drew = w196 at HO_9 HO_19 HO_21 BK355 BK356 BK373 BK389 BK394 HB hx401_0 hx401_1 hx401_2 hx402_0 hx402_1 hx402_2 hHeld ⊢
                refine pure_ (i := 0) (N := some 202) (v := ?_) (a' := ?_) #[true, false, false, false, false, false, false, false, false, false, false, false, false, false, false] rfl rfl (any_of HT_.out (by as_aux_lemma => kernel_rfl)) (fun _ _ _ h => h) (Or.inl ⟨by rfl, ?_⟩) ?_ ?_
                rotate_left
                ·
                 intro w'
                 go_simp
                 with_reducible rfl
                rotate_left
                · simp only [Act.put, List.setIfInBounds_toArray, List.set_cons_zero, List.set_cons_succ, i64_w, i32_w]
                  rfl
                refine pure_ (i := 1) (N := some 203) (v := ?_) (a' := ?_) #[true, true, false, false, false, false, false, false, false, false, false, false, false, false, false] rfl rfl (any_of HT_.out (by as_aux_lemma => kernel_rfl)) (fun _ _ _ h => h) (Or.inl ⟨by rfl, ?_⟩) ?_ ?_
                rotate_left
                ·
                 intro w'
                 go_simp
                 with_reducible rfl
                rotate_left
                · simp only [Act.put, List.setIfInBounds_toArray, List.set_cons_zero, List.set_cons_succ, i64_w, i32_w]
                  rfl
                refine pure_ (i := 2) (N := some 204) (v := ?_) (a' := ?_) #[true, true, true, false, false, false, false, false, false, false, false, false, false, false, false] rfl rfl (any_of HT_.out (by as_aux_lemma => kernel_rfl)) (fun _ _ _ h => h) (Or.inl ⟨by rfl, ?_⟩) ?_ ?_
                rotate_left
                ·
                 intro w'
                 go_simp
                 with_reducible rfl
                rotate_left
                · simp only [Act.put, List.setIfInBounds_toArray, List.set_cons_zero, List.set_cons_succ, i64_w, i32_w]
                  rfl
                refine pure_ (i := 3) (N := some 205) (v := ?_) (a' := ?_) #[true, true, true, true, false, false, false, false, false, false, false, false, false, false, false] rfl rfl (any_of HT_.out (by as_aux_lemma => kernel_rfl)) (fun _ _ _ h => h) (Or.inl ⟨by rfl, ?_⟩) ?_ ?_
                rotate_left
                ·
                 intro w'
                 go_simp
                 with_reducible rfl
                rotate_left
                · simp only [Act.put, List.setIfInBounds_toArray, List.set_cons_zero, List.set_cons_succ, i64_w, i32_w]
                  rfl
                refine pure_ (i := 5) (N := some 207) (v := ?_) (a' := ?_) #[true, true, true, true, false, true, false, false, false, false, false, false, false, false, false] rfl rfl (any_of HT_.out (by as_aux_lemma => kernel_rfl)) (fun _ _ _ h => h) (Or.inl ⟨by rfl, ?_⟩) ?_ ?_
                rotate_left
                ·
                 intro w'
                 go_simp
                 with_reducible rfl
                rotate_left
                · simp only [Act.put, List.setIfInBounds_toArray, List.set_cons_zero, List.set_cons_succ, i64_w, i32_w]
                  rfl
                refine pure_ (i := 6) (N := some 208) (v := ?_) (a' := ?_) #[true, true, true, true, false, true, true, false, false, false, false, false, false, false, false] rfl rfl (any_of HT_.out (by as_aux_lemma => kernel_rfl)) (fun _ _ _ h => h) (Or.inl ⟨by rfl, ?_⟩) ?_ ?_
                rotate_left
                ·
                 intro w'
                 go_simp
                 with_reducible rfl
                rotate_left
                · simp only [Act.put, List.setIfInBounds_toArray, List.set_cons_zero, List.set_cons_succ, i64_w, i32_w]
                  rfl
                refine pure_ (i := 7) (N := some 209) (v := ?_) (a' := ?_) #[true, true, true, true, false, true, true, true, false, false, false, false, false, false, false] rfl rfl (any_of HT_.out (by as_aux_lemma => kernel_rfl)) (fun _ _ _ h => h) (Or.inl ⟨by rfl, ?_⟩) ?_ ?_
                rotate_left
                ·
                 intro w'
                 go_simp
                 with_reducible rfl
                rotate_left
                · simp only [Act.put, List.setIfInBounds_toArray, List.set_cons_zero, List.set_cons_succ, i64_w, i32_w]
                  rfl
                refine take_ (i := 4) (N := some 206) (v := ?_) (a' := ?_) #[true, true, true, true, true, true, true, true, false, false, false, false, false, false, false] rfl rfl (take_ofW HT_.out HW_.out (by as_aux_lemma => kernel_rfl)) (fun _ _ _ h => h) (Or.inl ⟨by rfl, ?_⟩) hHeld ?_ ?_
                rotate_left
                ·
                 rintro w' ⟨s0, s1, s2, s3, s4, s5⟩
                 go_simp
                 with_reducible rfl
                rotate_left
                · simp only [Act.put, List.setIfInBounds_toArray, List.set_cons_zero, List.set_cons_succ, i64_w, i32_w]
                  rfl
                refine take_ (i := 8) (N := some 210) (v := ?_) (a' := ?_) #[true, true, true, true, true, true, true, true, true, false, false, false, false, false, false] rfl rfl (take_ofW HT_.out HW_.out (by as_aux_lemma => kernel_rfl)) (fun _ _ _ h => h) (Or.inl ⟨by rfl, ?_⟩) hHeld ?_ ?_
                rotate_left
                ·
                 rintro w' ⟨s0, s1, s2, s3, s4, s5⟩
                 go_simp
                 with_reducible rfl
                rotate_left
                · simp only [Act.put, List.setIfInBounds_toArray, List.set_cons_zero, List.set_cons_succ, i64_w, i32_w]
                  rfl
                refine one_ (i := 9) (N := some 211) #[true, true, true, true, true, true, true, true, true, true, false, false, false, false, false] rfl rfl (one_of HT_.out (by as_aux_lemma => kernel_rfl)) (by decide) (fun K hK => ?_)
                refine goes_ Try.func23 (by as_aux_lemma => kernel_rfl) rfl #[.agg #[.int .i64 ((rd_T25 t361 (ji188)).f0), .int .i64 ((rd_T25 t361 (ji188)).f1), .bool ((rd_T25 t361 (ji188)).f2)], .agg #[.int .i64 ((rd_T25 t361 x28_4).f0), .int .i64 ((rd_T25 t361 x28_4).f1), .bool ((rd_T25 t361 x28_4).f2)]] (by rfl) rfl rfl (by (try simp only [List.map_toArray, List.map_cons, List.map_nil]); first | done | (simp only [hji188]; rfl) | rfl | (simp only [List.length_drop, List.length_take]; rfl)) ?_
                with_reducible refine (impl_PlaceDistance.calls ((rd_T25 t361 (ji188)).f0) ((rd_T25 t361 (ji188)).f1) ((rd_T25 t361 (ji188)).f2) ((rd_T25 t361 x28_4).f0) ((rd_T25 t361 x28_4).f1) ((rd_T25 t361 x28_4).f2) t403 true _ A192.out).mono ?_
                rintro e w197 ⟨rfl, hb⟩
                have HS0_ := (hb.cell (World.block_lt_of_cell? _ _ (hHeld.1))).trans (hHeld.1)
                have HS1_ := (hb.cell (World.block_lt_of_cell? _ _ (hHeld.2.1))).trans (hHeld.2.1)
                have HS2_ := (hb.cell (World.block_lt_of_cell? _ _ (hHeld.2.2.1))).trans (hHeld.2.2.1)
                have HS3_ := (hb.cell (World.block_lt_of_cell? _ _ (hHeld.2.2.2.1))).trans (hHeld.2.2.2.1)
                have HS4_ := (hb.cell (World.block_lt_of_cell? _ _ (hHeld.2.2.2.2.1))).trans (hHeld.2.2.2.2.1)
                have HS5_ := (hb.cell (World.block_lt_of_cell? _ _ (hHeld.2.2.2.2.2))).trans (hHeld.2.2.2.2.2)
                refine ⟨_, rfl, ?_⟩
                have n0_ := Aside0.mk (Kd.R_below (by (with_reducible repeat (first | apply Kd.R_alloc | apply Kd.R_drewN | apply Kd.R_drew)); exact HO_9.out) hb)
                have n1_ := Aside0.mk (Kd.R_below (by (with_reducible repeat (first | apply Kd.R_alloc | apply Kd.R_drewN | apply Kd.R_drew)); exact HO_19.out) hb)
                have n2_ := Aside0.mk (Kd.R_below (by (with_reducible repeat (first | apply Kd.R_alloc | apply Kd.R_drewN | apply Kd.R_drew)); exact HO_21.out) hb)
                have n3_ := Aside0.mk (blk_below (g := gb355) (o := .cells #[.int .i64 t349, .int .i64 t350, .bool t351] 25 (0, 0)) (by (with_reducible repeat (first | refine blk_drewN ?_ _ | refine blk_drew ?_ | refine blk_alloc ?_ _)); exact BK355.out) hb)
                have n4_ := Aside0.mk (blk_below (g := gb356) (o := .cells #[.int .i64 t352, .int .i64 t353, .bool t354] 25 (0, 0)) (by (with_reducible repeat (first | refine blk_drewN ?_ _ | refine blk_drew ?_ | refine blk_alloc ?_ _)); exact BK356.out) hb)
                have n5_ := Aside0.mk (blk_below (g := gb373) (o := .cells #[.int .i64 t369, .int .i64 t370, .bool t371] 25 (0, 0)) (by (with_reducible repeat (first | refine blk_drewN ?_ _ | refine blk_drew ?_ | refine blk_alloc ?_ _)); exact BK373.out) hb)
                have n6_ := Aside0.mk (blk_below (g := gb389) (o := .cells #[.int .i64 t385, .int .i64 t386, .bool t387] 25 (0, 0)) (by (with_reducible repeat (first | refine blk_drewN ?_ _ | refine blk_drew ?_ | refine blk_alloc ?_ _)); exact BK389.out) hb)
                have n7_ := Aside0.mk (blk_below (g := gb394) (o := .cells #[.int .i64 t390, .int .i64 t391, .bool t392] 25 (0, 0)) (by (with_reducible repeat (first | refine blk_drewN ?_ _ | refine blk_drew ?_ | refine blk_alloc ?_ _)); exact BK394.out) hb)
                have n8_ := Aside0.mk (below_step (by repeat (first | (with_reducible first | exact HB.out | apply below_alloc | apply pw_below_drewN | apply below_drew1 | refine below_set ?_ GE355.out | refine below_set ?_ GE356.out | refine below_set ?_ GE373.out | refine below_set ?_ GE389.out | refine below_set ?_ GE394.out) | exact HB.out)) hb)
                clear HO_9
                clear HO_19
                clear HO_21
                clear BK355
                clear BK356
                clear BK373
                clear BK389
                clear BK394
                clear HB
                have HO_9 := n0_
                have HO_19 := n1_
                have HO_21 := n2_
                have BK355 := n3_
                have BK356 := n4_
                have BK373 := n5_
                have BK389 := n6_
                have BK394 := n7_
                have HB := n8_
                clear n0_ n1_ n2_ n3_ n4_ n5_ n6_ n7_ n8_
                (try clear hb)
                (try clear hb2)
                (try clear hk)
                (try clear hi)
                refine hK.out _ _ ⟨HS0_, HS1_, HS2_, HS3_, HS4_, HS5_⟩ (fun hHeld => ?_)
                clear hK K
                refine norm_ (a' := ?_) ?_ ?_
                rotate_left
                ·
                 show Act.put _ (some 211) _ = _
                 simp only [Act.put, List.setIfInBounds_toArray, List.set_cons_zero, List.set_cons_succ, i64_w, i32_w]
                 rfl
                refine pure_ (i := 10) (N := some 201) (v := ?_) (a' := ?_) #[true, true, true, true, true, true, true, true, true, true, true, false, false, false, false] rfl rfl (any_of HT_.out (by as_aux_lemma => kernel_rfl)) (fun _ _ _ h => h) (Or.inl ⟨by rfl, ?_⟩) ?_ ?_
                rotate_left
                ·
                 intro w'
                 go_simp
                 with_reducible rfl
                rotate_left
                · simp only [Act.put, List.setIfInBounds_toArray, List.set_cons_zero, List.set_cons_succ, i64_w, i32_w]
                  rfl
                refine pure_ (i := 11) (N := some 212) (v := ?_) (a' := ?_) #[true, true, true, true, true, true, true, true, true, true, true, true, false, false, false] rfl rfl (any_of HT_.out (by as_aux_lemma => kernel_rfl)) (fun _ _ _ h => h) (Or.inl ⟨by rfl, ?_⟩) ?_ ?_
                rotate_left
                ·
                 intro w'
                 go_simp
                 with_reducible rfl
                rotate_left
                · simp only [Act.put, List.setIfInBounds_toArray, List.set_cons_zero, List.set_cons_succ, i64_w, i32_w]
                  rfl
                refine pure_ (i := 12) (N := some 213) (v := ?_) (a' := ?_) #[true, true, true, true, true, true, true, true, true, true, true, true, true, false, false] rfl rfl (any_of HT_.out (by as_aux_lemma => kernel_rfl)) (fun _ _ _ h => h) (Or.inl ⟨by rfl, ?_⟩) ?_ ?_
                rotate_left
                ·
                 intro w'
                 go_simp
                 with_reducible rfl
                rotate_left
                · simp only [Act.put, List.setIfInBounds_toArray, List.set_cons_zero, List.set_cons_succ, i64_w, i32_w]
                  rfl
                refine pure_ (i := 13) (N := some 29) (v := ?_) (a' := ?_) #[true, true, true, true, true, true, true, true, true, true, true, true, true, true, false] rfl rfl (any_of HT_.out (by as_aux_lemma => kernel_rfl)) (fun _ _ _ h => h) (Or.inl ⟨by rfl, ?_⟩) ?_ ?_
                rotate_left
                ·
                 intro w'
                 go_simp
                 with_reducible rfl
                rotate_left
                · simp only [Act.put, List.setIfInBounds_toArray, List.set_cons_zero, List.set_cons_succ, i64_w, i32_w]
                  rfl
                refine pure_ (i := 14) (N := some 30) (v := ?_) (a' := ?_) #[true, true, true, true, true, true, true, true, true, true, true, true, true, true, true] rfl rfl (any_of HT_.out (by as_aux_lemma => kernel_rfl)) (fun _ _ _ h => h) (Or.inl ⟨by rfl, ?_⟩) ?_ ?_
                rotate_left
                ·
                 intro w'
                 go_simp
                 with_reducible rfl
                rotate_left
                · simp only [Act.put, List.setIfInBounds_toArray, List.set_cons_zero, List.set_cons_succ, i64_w, i32_w]
                  rfl
                refine done_ (done_of HT_.out (by as_aux_lemma => kernel_rfl)) ?_
                try go_wp2
                go_roundg k4
                case measure => have := HJ14.out; have := HJ121.out; have := HJ173.out; have := HK4.out; omega
                case rel => exact ⟨(wrap64 (x28_4 + 1)), (by first | rfl | (simp; done) | (simp [*]; done)), H', ⟨by have := HJ14.out; have := HJ121.out; have := HJ173.out; have := HK4.out; omega⟩, ⟨by (with_reducible repeat (first | apply Kd.R_alloc | apply Kd.R_drewN | apply Kd.R_drew)); exact HO_9.out⟩, ⟨by (with_reducible repeat (first | apply Kd.R_alloc | apply Kd.R_drewN | apply Kd.R_drew)); exact HO_19.out⟩, ⟨by (with_reducible repeat (first | apply Kd.R_alloc | apply Kd.R_drewN | apply Kd.R_drew)); exact HO_21.out⟩, ⟨by (with_reducible repeat (first | refine blk_drewN ?_ _ | refine blk_drew ?_ | refine blk_alloc ?_ _)); exact BK355.out⟩, ⟨by (with_reducible repeat (first | refine blk_drewN ?_ _ | refine blk_drew ?_ | refine blk_alloc ?_ _)); exact BK356.out⟩, ⟨by (with_reducible repeat (first | refine blk_drewN ?_ _ | refine blk_drew ?_ | refine blk_alloc ?_ _)); exact BK373.out⟩, ⟨by (with_reducible repeat (first | refine blk_drewN ?_ _ | refine blk_drew ?_ | refine blk_alloc ?_ _)); exact BK389.out⟩, ⟨by (with_reducible repeat (first | refine blk_drewN ?_ _ | refine blk_drew ?_ | refine blk_alloc ?_ _)); exact BK394.out⟩, ⟨by repeat (first | (with_reducible first | exact HB.out | apply below_alloc | apply pw_below_drewN | apply below_drew1 | refine below_set ?_ GE355.out | refine below_set ?_ GE356.out | refine below_set ?_ GE373.out | refine below_set ?_ GE389.out | refine below_set ?_ GE394.out) | exact HB.out)⟩⟩
               ·
                rw [if_neg c194] at H
                have c194b0 : (t403 == 1) = false := beq_eq_false_iff_ne.mpr c194
                have c194b1 : (t403 != 1) = true := bne_iff_ne.mpr c194
                obtain rfl := Option.some.inj H
                obtain ⟨Ao198, co198, eo198⟩ := Kd.R_slice HO_9.out
                subst eo198
                try go_wp2
                have n0_ := Aside0.mk (Kd.R_drew HO_9.out)
                have n1_ := Aside0.mk (Kd.R_drew HO_19.out)
                have n2_ := Aside0.mk (Kd.R_drew HO_21.out)
                have n3_ := Aside0.mk (blk_drew BK355.out)
                have n4_ := Aside0.mk (blk_drew BK356.out)
                have n5_ := Aside0.mk (blk_drew BK373.out)
                have n6_ := Aside0.mk (blk_drew BK389.out)
                have n7_ := Aside0.mk (blk_drew BK394.out)
                have n8_ := Aside0.mk (below_drew1 HB.out)
                clear HO_9
                clear HO_19
                clear HO_21
                clear BK355
                clear BK356
                clear BK373
                clear BK389
                clear BK394
                clear HB
                have HO_9 := n0_
                have HO_19 := n1_
                have HO_21 := n2_
                have BK355 := n3_
                have BK356 := n4_
                have BK373 := n5_
                have BK389 := n6_
                have BK394 := n7_
                have HB := n8_
                clear n0_ n1_ n2_ n3_ n4_ n5_ n6_ n7_ n8_
                have p401 : 0 ≤ ((ji188) : Int) := of_decide_eq_true (by first | (with_reducible assumption) | assumption)
                have q401 : (ji188) < (t361.length : Int) := of_decide_eq_true (by first | (with_reducible assumption) | assumption)
                obtain ⟨ad401, e401, hx401_0, hx401_1, hx401_2⟩ := at_T25 (Kd.R_reads' HO_9.out).2.2 (ji188) p401 q401
                cases e401
                replace p401 := eq_true p401
                replace q401 := eq_true q401
                have p402 : 0 ≤ (x28_4 : Int) := of_decide_eq_true (by first | (with_reducible assumption) | assumption)
                have q402 : x28_4 < (t361.length : Int) := of_decide_eq_true (by first | (with_reducible assumption) | assumption)
                obtain ⟨ad402, e402, hx402_0, hx402_1, hx402_2⟩ := at_T25 (Kd.R_reads' HO_9.out).2.2 x28_4 p402 q402
                obtain rfl : ad401 = ad402 := (by injection e402)
                replace p402 := eq_true p402
                replace q402 := eq_true q402
                refine start_ (n := 15) (S := fun w' => w'.cell? (ad401.add (((ji188)).toNat * 3)) = some (.int .i64 ((rd_T25 t361 (ji188)).f0)) ∧ w'.cell? ⟨(ad401.add (((ji188)).toNat * 3)).block, (ad401.add (((ji188)).toNat * 3)).off + 1, none⟩ = some (.int .i64 ((rd_T25 t361 (ji188)).f1)) ∧ w'.cell? ⟨(ad401.add (((ji188)).toNat * 3)).block, (ad401.add (((ji188)).toNat * 3)).off + 2, none⟩ = some (.bool ((rd_T25 t361 (ji188)).f2)) ∧ w'.cell? (ad401.add ((x28_4).toNat * 3)) = some (.int .i64 ((rd_T25 t361 x28_4).f0)) ∧ w'.cell? ⟨(ad401.add ((x28_4).toNat * 3)).block, (ad401.add ((x28_4).toNat * 3)).off + 1, none⟩ = some (.int .i64 ((rd_T25 t361 x28_4).f1)) ∧ w'.cell? ⟨(ad401.add ((x28_4).toNat * 3)).block, (ad401.add ((x28_4).toNat * 3)).off + 2, none⟩ = some (.bool ((rd_T25 t361 x28_4).f2))) (ds := []) #[false, false, false, false, false, false, false, false, false, false, false, false, false, false, false] (by as_aux_lemma => kernel_rfl) rfl rfl ⟨hx401_0, hx401_1, hx401_2, hx402_0, hx402_1, hx402_2⟩ (fun hHeld => ?_); refine with_tabW laws_FnPlaceWays.tab26 laws_FnPlaceWays.bits26 (fun HT_ HW_ => ?_)
                generalize wr.drew = w199 at HO_9 HO_19 HO_21 BK355 BK356 BK373 BK389 BK394 HB hx401_0 hx401_1 hx401_2 hx402_0 hx402_1 hx402_2 hHeld ⊢
                refine pure_ (i := 0) (N := some 202) (v := ?_) (a' := ?_) #[true, false, false, false, false, false, false, false, false, false, false, false, false, false, false] rfl rfl (any_of HT_.out (by as_aux_lemma => kernel_rfl)) (fun _ _ _ h => h) (Or.inl ⟨by rfl, ?_⟩) ?_ ?_
                rotate_left
                ·
                 intro w'
                 go_simp
                 with_reducible rfl
                rotate_left
                · simp only [Act.put, List.setIfInBounds_toArray, List.set_cons_zero, List.set_cons_succ, i64_w, i32_w]
                  rfl
                refine pure_ (i := 1) (N := some 203) (v := ?_) (a' := ?_) #[true, true, false, false, false, false, false, false, false, false, false, false, false, false, false] rfl rfl (any_of HT_.out (by as_aux_lemma => kernel_rfl)) (fun _ _ _ h => h) (Or.inl ⟨by rfl, ?_⟩) ?_ ?_
                rotate_left
                ·
                 intro w'
                 go_simp
                 with_reducible rfl
                rotate_left
                · simp only [Act.put, List.setIfInBounds_toArray, List.set_cons_zero, List.set_cons_succ, i64_w, i32_w]
                  rfl
                refine pure_ (i := 2) (N := some 204) (v := ?_) (a' := ?_) #[true, true, true, false, false, false, false, false, false, false, false, false, false, false, false] rfl rfl (any_of HT_.out (by as_aux_lemma => kernel_rfl)) (fun _ _ _ h => h) (Or.inl ⟨by rfl, ?_⟩) ?_ ?_
                rotate_left
                ·
                 intro w'
                 go_simp
                 with_reducible rfl
                rotate_left
                · simp only [Act.put, List.setIfInBounds_toArray, List.set_cons_zero, List.set_cons_succ, i64_w, i32_w]
                  rfl
                refine pure_ (i := 3) (N := some 205) (v := ?_) (a' := ?_) #[true, true, true, true, false, false, false, false, false, false, false, false, false, false, false] rfl rfl (any_of HT_.out (by as_aux_lemma => kernel_rfl)) (fun _ _ _ h => h) (Or.inl ⟨by rfl, ?_⟩) ?_ ?_
                rotate_left
                ·
                 intro w'
                 go_simp
                 with_reducible rfl
                rotate_left
                · simp only [Act.put, List.setIfInBounds_toArray, List.set_cons_zero, List.set_cons_succ, i64_w, i32_w]
                  rfl
                refine pure_ (i := 5) (N := some 207) (v := ?_) (a' := ?_) #[true, true, true, true, false, true, false, false, false, false, false, false, false, false, false] rfl rfl (any_of HT_.out (by as_aux_lemma => kernel_rfl)) (fun _ _ _ h => h) (Or.inl ⟨by rfl, ?_⟩) ?_ ?_
                rotate_left
                ·
                 intro w'
                 go_simp
                 with_reducible rfl
                rotate_left
                · simp only [Act.put, List.setIfInBounds_toArray, List.set_cons_zero, List.set_cons_succ, i64_w, i32_w]
                  rfl
                refine pure_ (i := 6) (N := some 208) (v := ?_) (a' := ?_) #[true, true, true, true, false, true, true, false, false, false, false, false, false, false, false] rfl rfl (any_of HT_.out (by as_aux_lemma => kernel_rfl)) (fun _ _ _ h => h) (Or.inl ⟨by rfl, ?_⟩) ?_ ?_
                rotate_left
                ·
                 intro w'
                 go_simp
                 with_reducible rfl
                rotate_left
                · simp only [Act.put, List.setIfInBounds_toArray, List.set_cons_zero, List.set_cons_succ, i64_w, i32_w]
                  rfl
                refine pure_ (i := 7) (N := some 209) (v := ?_) (a' := ?_) #[true, true, true, true, false, true, true, true, false, false, false, false, false, false, false] rfl rfl (any_of HT_.out (by as_aux_lemma => kernel_rfl)) (fun _ _ _ h => h) (Or.inl ⟨by rfl, ?_⟩) ?_ ?_
                rotate_left
                ·
                 intro w'
                 go_simp
                 with_reducible rfl
                rotate_left
                · simp only [Act.put, List.setIfInBounds_toArray, List.set_cons_zero, List.set_cons_succ, i64_w, i32_w]
                  rfl
                refine take_ (i := 4) (N := some 206) (v := ?_) (a' := ?_) #[true, true, true, true, true, true, true, true, false, false, false, false, false, false, false] rfl rfl (take_ofW HT_.out HW_.out (by as_aux_lemma => kernel_rfl)) (fun _ _ _ h => h) (Or.inl ⟨by rfl, ?_⟩) hHeld ?_ ?_
                rotate_left
                ·
                 rintro w' ⟨s0, s1, s2, s3, s4, s5⟩
                 go_simp
                 with_reducible rfl
                rotate_left
                · simp only [Act.put, List.setIfInBounds_toArray, List.set_cons_zero, List.set_cons_succ, i64_w, i32_w]
                  rfl
                refine take_ (i := 8) (N := some 210) (v := ?_) (a' := ?_) #[true, true, true, true, true, true, true, true, true, false, false, false, false, false, false] rfl rfl (take_ofW HT_.out HW_.out (by as_aux_lemma => kernel_rfl)) (fun _ _ _ h => h) (Or.inl ⟨by rfl, ?_⟩) hHeld ?_ ?_
                rotate_left
                ·
                 rintro w' ⟨s0, s1, s2, s3, s4, s5⟩
                 go_simp
                 with_reducible rfl
                rotate_left
                · simp only [Act.put, List.setIfInBounds_toArray, List.set_cons_zero, List.set_cons_succ, i64_w, i32_w]
                  rfl
                refine one_ (i := 9) (N := some 211) #[true, true, true, true, true, true, true, true, true, true, false, false, false, false, false] rfl rfl (one_of HT_.out (by as_aux_lemma => kernel_rfl)) (by decide) (fun K hK => ?_)
                refine goes_ Try.func23 (by as_aux_lemma => kernel_rfl) rfl #[.agg #[.int .i64 ((rd_T25 t361 (ji188)).f0), .int .i64 ((rd_T25 t361 (ji188)).f1), .bool ((rd_T25 t361 (ji188)).f2)], .agg #[.int .i64 ((rd_T25 t361 x28_4).f0), .int .i64 ((rd_T25 t361 x28_4).f1), .bool ((rd_T25 t361 x28_4).f2)]] (by rfl) rfl rfl (by (try simp only [List.map_toArray, List.map_cons, List.map_nil]); first | done | (simp only [hji188]; rfl) | rfl | (simp only [List.length_drop, List.length_take]; rfl)) ?_
                with_reducible refine (impl_PlaceDistance.calls ((rd_T25 t361 (ji188)).f0) ((rd_T25 t361 (ji188)).f1) ((rd_T25 t361 (ji188)).f2) ((rd_T25 t361 x28_4).f0) ((rd_T25 t361 x28_4).f1) ((rd_T25 t361 x28_4).f2) t403 true _ A192.out).mono ?_
                rintro e w200 ⟨rfl, hb⟩
                have HS0_ := (hb.cell (World.block_lt_of_cell? _ _ (hHeld.1))).trans (hHeld.1)
                have HS1_ := (hb.cell (World.block_lt_of_cell? _ _ (hHeld.2.1))).trans (hHeld.2.1)
                have HS2_ := (hb.cell (World.block_lt_of_cell? _ _ (hHeld.2.2.1))).trans (hHeld.2.2.1)
                have HS3_ := (hb.cell (World.block_lt_of_cell? _ _ (hHeld.2.2.2.1))).trans (hHeld.2.2.2.1)
                have HS4_ := (hb.cell (World.block_lt_of_cell? _ _ (hHeld.2.2.2.2.1))).trans (hHeld.2.2.2.2.1)
                have HS5_ := (hb.cell (World.block_lt_of_cell? _ _ (hHeld.2.2.2.2.2))).trans (hHeld.2.2.2.2.2)
                refine ⟨_, rfl, ?_⟩
                have n0_ := Aside0.mk (Kd.R_below (by (with_reducible repeat (first | apply Kd.R_alloc | apply Kd.R_drewN | apply Kd.R_drew)); exact HO_9.out) hb)
                have n1_ := Aside0.mk (Kd.R_below (by (with_reducible repeat (first | apply Kd.R_alloc | apply Kd.R_drewN | apply Kd.R_drew)); exact HO_19.out) hb)
                have n2_ := Aside0.mk (Kd.R_below (by (with_reducible repeat (first | apply Kd.R_alloc | apply Kd.R_drewN | apply Kd.R_drew)); exact HO_21.out) hb)
                have n3_ := Aside0.mk (blk_below (g := gb355) (o := .cells #[.int .i64 t349, .int .i64 t350, .bool t351] 25 (0, 0)) (by (with_reducible repeat (first | refine blk_drewN ?_ _ | refine blk_drew ?_ | refine blk_alloc ?_ _)); exact BK355.out) hb)
                have n4_ := Aside0.mk (blk_below (g := gb356) (o := .cells #[.int .i64 t352, .int .i64 t353, .bool t354] 25 (0, 0)) (by (with_reducible repeat (first | refine blk_drewN ?_ _ | refine blk_drew ?_ | refine blk_alloc ?_ _)); exact BK356.out) hb)
                have n5_ := Aside0.mk (blk_below (g := gb373) (o := .cells #[.int .i64 t369, .int .i64 t370, .bool t371] 25 (0, 0)) (by (with_reducible repeat (first | refine blk_drewN ?_ _ | refine blk_drew ?_ | refine blk_alloc ?_ _)); exact BK373.out) hb)
                have n6_ := Aside0.mk (blk_below (g := gb389) (o := .cells #[.int .i64 t385, .int .i64 t386, .bool t387] 25 (0, 0)) (by (with_reducible repeat (first | refine blk_drewN ?_ _ | refine blk_drew ?_ | refine blk_alloc ?_ _)); exact BK389.out) hb)
                have n7_ := Aside0.mk (blk_below (g := gb394) (o := .cells #[.int .i64 t390, .int .i64 t391, .bool t392] 25 (0, 0)) (by (with_reducible repeat (first | refine blk_drewN ?_ _ | refine blk_drew ?_ | refine blk_alloc ?_ _)); exact BK394.out) hb)
                have n8_ := Aside0.mk (below_step (by repeat (first | (with_reducible first | exact HB.out | apply below_alloc | apply pw_below_drewN | apply below_drew1 | refine below_set ?_ GE355.out | refine below_set ?_ GE356.out | refine below_set ?_ GE373.out | refine below_set ?_ GE389.out | refine below_set ?_ GE394.out) | exact HB.out)) hb)
                clear HO_9
                clear HO_19
                clear HO_21
                clear BK355
                clear BK356
                clear BK373
                clear BK389
                clear BK394
                clear HB
                have HO_9 := n0_
                have HO_19 := n1_
                have HO_21 := n2_
                have BK355 := n3_
                have BK356 := n4_
                have BK373 := n5_
                have BK389 := n6_
                have BK394 := n7_
                have HB := n8_
                clear n0_ n1_ n2_ n3_ n4_ n5_ n6_ n7_ n8_
                (try clear hb)
                (try clear hb2)
                (try clear hk)
                (try clear hi)
                refine hK.out _ _ ⟨HS0_, HS1_, HS2_, HS3_, HS4_, HS5_⟩ (fun hHeld => ?_)
                clear hK K
                refine norm_ (a' := ?_) ?_ ?_
                rotate_left
                ·
                 show Act.put _ (some 211) _ = _
                 simp only [Act.put, List.setIfInBounds_toArray, List.set_cons_zero, List.set_cons_succ, i64_w, i32_w]
                 rfl
                refine pure_ (i := 10) (N := some 201) (v := ?_) (a' := ?_) #[true, true, true, true, true, true, true, true, true, true, true, false, false, false, false] rfl rfl (any_of HT_.out (by as_aux_lemma => kernel_rfl)) (fun _ _ _ h => h) (Or.inl ⟨by rfl, ?_⟩) ?_ ?_
                rotate_left
                ·
                 intro w'
                 go_simp
                 with_reducible rfl
                rotate_left
                · simp only [Act.put, List.setIfInBounds_toArray, List.set_cons_zero, List.set_cons_succ, i64_w, i32_w]
                  rfl
                refine pure_ (i := 11) (N := some 212) (v := ?_) (a' := ?_) #[true, true, true, true, true, true, true, true, true, true, true, true, false, false, false] rfl rfl (any_of HT_.out (by as_aux_lemma => kernel_rfl)) (fun _ _ _ h => h) (Or.inl ⟨by rfl, ?_⟩) ?_ ?_
                rotate_left
                ·
                 intro w'
                 go_simp
                 with_reducible rfl
                rotate_left
                · simp only [Act.put, List.setIfInBounds_toArray, List.set_cons_zero, List.set_cons_succ, i64_w, i32_w]
                  rfl
                refine pure_ (i := 12) (N := some 213) (v := ?_) (a' := ?_) #[true, true, true, true, true, true, true, true, true, true, true, true, true, false, false] rfl rfl (any_of HT_.out (by as_aux_lemma => kernel_rfl)) (fun _ _ _ h => h) (Or.inl ⟨by rfl, ?_⟩) ?_ ?_
                rotate_left
                ·
                 intro w'
                 go_simp
                 with_reducible rfl
                rotate_left
                · simp only [Act.put, List.setIfInBounds_toArray, List.set_cons_zero, List.set_cons_succ, i64_w, i32_w]
                  rfl
                refine pure_ (i := 13) (N := some 29) (v := ?_) (a' := ?_) #[true, true, true, true, true, true, true, true, true, true, true, true, true, true, false] rfl rfl (any_of HT_.out (by as_aux_lemma => kernel_rfl)) (fun _ _ _ h => h) (Or.inl ⟨by rfl, ?_⟩) ?_ ?_
                rotate_left
                ·
                 intro w'
                 go_simp
                 with_reducible rfl
                rotate_left
                · simp only [Act.put, List.setIfInBounds_toArray, List.set_cons_zero, List.set_cons_succ, i64_w, i32_w]
                  rfl
                refine pure_ (i := 14) (N := some 30) (v := ?_) (a' := ?_) #[true, true, true, true, true, true, true, true, true, true, true, true, true, true, true] rfl rfl (any_of HT_.out (by as_aux_lemma => kernel_rfl)) (fun _ _ _ h => h) (Or.inl ⟨by rfl, ?_⟩) ?_ ?_
                rotate_left
                ·
                 intro w'
                 go_simp
                 with_reducible rfl
                rotate_left
                · simp only [Act.put, List.setIfInBounds_toArray, List.set_cons_zero, List.set_cons_succ, i64_w, i32_w]
                  rfl
                refine done_ (done_of HT_.out (by as_aux_lemma => kernel_rfl)) ?_
                try go_wp2
                go_ret
                exact ⟨by first | rfl | (simp [errW_none, errW_some] <;> rfl) | (simp only [← hji188]; first | rfl | (simp [errW_none, errW_some] <;> rfl)) | (simp [*, errW_none, errW_some] <;> rfl), by repeat (first | (with_reducible first | exact HB.out | apply below_alloc | apply pw_below_drewN | apply below_drew1 | refine below_set ?_ GE355.out | refine below_set ?_ GE356.out | refine below_set ?_ GE373.out | refine below_set ?_ GE389.out | refine below_set ?_ GE394.out) | exact HB.out)⟩
              ·
               replace c193 := Bool.eq_false_iff.mpr c193
               subst c193
               have H1 : (some false) = some r := by rw [if_neg (show ¬ (false = true) by decide)] at H; exact H
               clear H
               have H := H1
               clear H1
               obtain rfl := Option.some.inj H
               obtain ⟨Ao201, co201, eo201⟩ := Kd.R_slice HO_9.out
               subst eo201
               try go_wp2
               have n0_ := Aside0.mk (Kd.R_drew HO_9.out)
               have n1_ := Aside0.mk (Kd.R_drew HO_19.out)
               have n2_ := Aside0.mk (Kd.R_drew HO_21.out)
               have n3_ := Aside0.mk (blk_drew BK355.out)
               have n4_ := Aside0.mk (blk_drew BK356.out)
               have n5_ := Aside0.mk (blk_drew BK373.out)
               have n6_ := Aside0.mk (blk_drew BK389.out)
               have n7_ := Aside0.mk (blk_drew BK394.out)
               have n8_ := Aside0.mk (below_drew1 HB.out)
               clear HO_9
               clear HO_19
               clear HO_21
               clear BK355
               clear BK356
               clear BK373
               clear BK389
               clear BK394
               clear HB
               have HO_9 := n0_
               have HO_19 := n1_
               have HO_21 := n2_
               have BK355 := n3_
               have BK356 := n4_
               have BK373 := n5_
               have BK389 := n6_
               have BK394 := n7_
               have HB := n8_
               clear n0_ n1_ n2_ n3_ n4_ n5_ n6_ n7_ n8_
               have p401 : 0 ≤ ((ji188) : Int) := of_decide_eq_true (by first | (with_reducible assumption) | assumption)
               have q401 : (ji188) < (t361.length : Int) := of_decide_eq_true (by first | (with_reducible assumption) | assumption)
               obtain ⟨ad401, e401, hx401_0, hx401_1, hx401_2⟩ := at_T25 (Kd.R_reads' HO_9.out).2.2 (ji188) p401 q401
               cases e401
               replace p401 := eq_true p401
               replace q401 := eq_true q401
               have p402 : 0 ≤ (x28_4 : Int) := of_decide_eq_true (by first | (with_reducible assumption) | assumption)
               have q402 : x28_4 < (t361.length : Int) := of_decide_eq_true (by first | (with_reducible assumption) | assumption)
               obtain ⟨ad402, e402, hx402_0, hx402_1, hx402_2⟩ := at_T25 (Kd.R_reads' HO_9.out).2.2 x28_4 p402 q402
               obtain rfl : ad401 = ad402 := (by injection e402)
               replace p402 := eq_true p402
               replace q402 := eq_true q402
               refine start_ (n := 15) (S := fun w' => w'.cell? (ad401.add (((ji188)).toNat * 3)) = some (.int .i64 ((rd_T25 t361 (ji188)).f0)) ∧ w'.cell? ⟨(ad401.add (((ji188)).toNat * 3)).block, (ad401.add (((ji188)).toNat * 3)).off + 1, none⟩ = some (.int .i64 ((rd_T25 t361 (ji188)).f1)) ∧ w'.cell? ⟨(ad401.add (((ji188)).toNat * 3)).block, (ad401.add (((ji188)).toNat * 3)).off + 2, none⟩ = some (.bool ((rd_T25 t361 (ji188)).f2)) ∧ w'.cell? (ad401.add ((x28_4).toNat * 3)) = some (.int .i64 ((rd_T25 t361 x28_4).f0)) ∧ w'.cell? ⟨(ad401.add ((x28_4).toNat * 3)).block, (ad401.add ((x28_4).toNat * 3)).off + 1, none⟩ = some (.int .i64 ((rd_T25 t361 x28_4).f1)) ∧ w'.cell? ⟨(ad401.add ((x28_4).toNat * 3)).block, (ad401.add ((x28_4).toNat * 3)).off + 2, none⟩ = some (.bool ((rd_T25 t361 x28_4).f2))) (ds := []) #[false, false, false, false, false, false, false, false, false, false, false, false, false, false, false] (by as_aux_lemma => kernel_rfl) rfl rfl ⟨hx401_0, hx401_1, hx401_2, hx402_0, hx402_1, hx402_2⟩ (fun hHeld => ?_); refine with_tabW laws_FnPlaceWays.tab26 laws_FnPlaceWays.bits26 (fun HT_ HW_ => ?_)
               generalize wr.drew = w202 at HO_9 HO_19 HO_21 BK355 BK356 BK373 BK389 BK394 HB hx401_0 hx401_1 hx401_2 hx402_0 hx402_1 hx402_2 hHeld ⊢
               refine pure_ (i := 0) (N := some 202) (v := ?_) (a' := ?_) #[true, false, false, false, false, false, false, false, false, false, false, false, false, false, false] rfl rfl (any_of HT_.out (by as_aux_lemma => kernel_rfl)) (fun _ _ _ h => h) (Or.inl ⟨by rfl, ?_⟩) ?_ ?_
               rotate_left
               ·
                intro w'
                go_simp
                with_reducible rfl
               rotate_left
               · simp only [Act.put, List.setIfInBounds_toArray, List.set_cons_zero, List.set_cons_succ, i64_w, i32_w]
                 rfl
               refine pure_ (i := 1) (N := some 203) (v := ?_) (a' := ?_) #[true, true, false, false, false, false, false, false, false, false, false, false, false, false, false] rfl rfl (any_of HT_.out (by as_aux_lemma => kernel_rfl)) (fun _ _ _ h => h) (Or.inl ⟨by rfl, ?_⟩) ?_ ?_
               rotate_left
               ·
                intro w'
                go_simp
                with_reducible rfl
               rotate_left
               · simp only [Act.put, List.setIfInBounds_toArray, List.set_cons_zero, List.set_cons_succ, i64_w, i32_w]
                 rfl
               refine pure_ (i := 2) (N := some 204) (v := ?_) (a' := ?_) #[true, true, true, false, false, false, false, false, false, false, false, false, false, false, false] rfl rfl (any_of HT_.out (by as_aux_lemma => kernel_rfl)) (fun _ _ _ h => h) (Or.inl ⟨by rfl, ?_⟩) ?_ ?_
               rotate_left
               ·
                intro w'
                go_simp
                with_reducible rfl
               rotate_left
               · simp only [Act.put, List.setIfInBounds_toArray, List.set_cons_zero, List.set_cons_succ, i64_w, i32_w]
                 rfl
               refine pure_ (i := 3) (N := some 205) (v := ?_) (a' := ?_) #[true, true, true, true, false, false, false, false, false, false, false, false, false, false, false] rfl rfl (any_of HT_.out (by as_aux_lemma => kernel_rfl)) (fun _ _ _ h => h) (Or.inl ⟨by rfl, ?_⟩) ?_ ?_
               rotate_left
               ·
                intro w'
                go_simp
                with_reducible rfl
               rotate_left
               · simp only [Act.put, List.setIfInBounds_toArray, List.set_cons_zero, List.set_cons_succ, i64_w, i32_w]
                 rfl
               refine pure_ (i := 5) (N := some 207) (v := ?_) (a' := ?_) #[true, true, true, true, false, true, false, false, false, false, false, false, false, false, false] rfl rfl (any_of HT_.out (by as_aux_lemma => kernel_rfl)) (fun _ _ _ h => h) (Or.inl ⟨by rfl, ?_⟩) ?_ ?_
               rotate_left
               ·
                intro w'
                go_simp
                with_reducible rfl
               rotate_left
               · simp only [Act.put, List.setIfInBounds_toArray, List.set_cons_zero, List.set_cons_succ, i64_w, i32_w]
                 rfl
               refine pure_ (i := 6) (N := some 208) (v := ?_) (a' := ?_) #[true, true, true, true, false, true, true, false, false, false, false, false, false, false, false] rfl rfl (any_of HT_.out (by as_aux_lemma => kernel_rfl)) (fun _ _ _ h => h) (Or.inl ⟨by rfl, ?_⟩) ?_ ?_
               rotate_left
               ·
                intro w'
                go_simp
                with_reducible rfl
               rotate_left
               · simp only [Act.put, List.setIfInBounds_toArray, List.set_cons_zero, List.set_cons_succ, i64_w, i32_w]
                 rfl
               refine pure_ (i := 7) (N := some 209) (v := ?_) (a' := ?_) #[true, true, true, true, false, true, true, true, false, false, false, false, false, false, false] rfl rfl (any_of HT_.out (by as_aux_lemma => kernel_rfl)) (fun _ _ _ h => h) (Or.inl ⟨by rfl, ?_⟩) ?_ ?_
               rotate_left
               ·
                intro w'
                go_simp
                with_reducible rfl
               rotate_left
               · simp only [Act.put, List.setIfInBounds_toArray, List.set_cons_zero, List.set_cons_succ, i64_w, i32_w]
                 rfl
               refine take_ (i := 4) (N := some 206) (v := ?_) (a' := ?_) #[true, true, true, true, true, true, true, true, false, false, false, false, false, false, false] rfl rfl (take_ofW HT_.out HW_.out (by as_aux_lemma => kernel_rfl)) (fun _ _ _ h => h) (Or.inl ⟨by rfl, ?_⟩) hHeld ?_ ?_
               rotate_left
               ·
                rintro w' ⟨s0, s1, s2, s3, s4, s5⟩
                go_simp
                with_reducible rfl
               rotate_left
               · simp only [Act.put, List.setIfInBounds_toArray, List.set_cons_zero, List.set_cons_succ, i64_w, i32_w]
                 rfl
               refine take_ (i := 8) (N := some 210) (v := ?_) (a' := ?_) #[true, true, true, true, true, true, true, true, true, false, false, false, false, false, false] rfl rfl (take_ofW HT_.out HW_.out (by as_aux_lemma => kernel_rfl)) (fun _ _ _ h => h) (Or.inl ⟨by rfl, ?_⟩) hHeld ?_ ?_
               rotate_left
               ·
                rintro w' ⟨s0, s1, s2, s3, s4, s5⟩
                go_simp
                with_reducible rfl
               rotate_left
               · simp only [Act.put, List.setIfInBounds_toArray, List.set_cons_zero, List.set_cons_succ, i64_w, i32_w]
                 rfl
               refine one_ (i := 9) (N := some 211) #[true, true, true, true, true, true, true, true, true, true, false, false, false, false, false] rfl rfl (one_of HT_.out (by as_aux_lemma => kernel_rfl)) (by decide) (fun K hK => ?_)
               refine goes_ Try.func23 (by as_aux_lemma => kernel_rfl) rfl #[.agg #[.int .i64 ((rd_T25 t361 (ji188)).f0), .int .i64 ((rd_T25 t361 (ji188)).f1), .bool ((rd_T25 t361 (ji188)).f2)], .agg #[.int .i64 ((rd_T25 t361 x28_4).f0), .int .i64 ((rd_T25 t361 x28_4).f1), .bool ((rd_T25 t361 x28_4).f2)]] (by rfl) rfl rfl (by (try simp only [List.map_toArray, List.map_cons, List.map_nil]); first | done | (simp only [hji188]; rfl) | rfl | (simp only [List.length_drop, List.length_take]; rfl)) ?_
               with_reducible refine (impl_PlaceDistance.calls ((rd_T25 t361 (ji188)).f0) ((rd_T25 t361 (ji188)).f1) ((rd_T25 t361 (ji188)).f2) ((rd_T25 t361 x28_4).f0) ((rd_T25 t361 x28_4).f1) ((rd_T25 t361 x28_4).f2) t403 false _ A192.out).mono ?_
               rintro e w203 ⟨rfl, hb⟩
               have HS0_ := (hb.cell (World.block_lt_of_cell? _ _ (hHeld.1))).trans (hHeld.1)
               have HS1_ := (hb.cell (World.block_lt_of_cell? _ _ (hHeld.2.1))).trans (hHeld.2.1)
               have HS2_ := (hb.cell (World.block_lt_of_cell? _ _ (hHeld.2.2.1))).trans (hHeld.2.2.1)
               have HS3_ := (hb.cell (World.block_lt_of_cell? _ _ (hHeld.2.2.2.1))).trans (hHeld.2.2.2.1)
               have HS4_ := (hb.cell (World.block_lt_of_cell? _ _ (hHeld.2.2.2.2.1))).trans (hHeld.2.2.2.2.1)
               have HS5_ := (hb.cell (World.block_lt_of_cell? _ _ (hHeld.2.2.2.2.2))).trans (hHeld.2.2.2.2.2)
               refine ⟨_, rfl, ?_⟩
               have n0_ := Aside0.mk (Kd.R_below (by (with_reducible repeat (first | apply Kd.R_alloc | apply Kd.R_drewN | apply Kd.R_drew)); exact HO_9.out) hb)
               have n1_ := Aside0.mk (Kd.R_below (by (with_reducible repeat (first | apply Kd.R_alloc | apply Kd.R_drewN | apply Kd.R_drew)); exact HO_19.out) hb)
               have n2_ := Aside0.mk (Kd.R_below (by (with_reducible repeat (first | apply Kd.R_alloc | apply Kd.R_drewN | apply Kd.R_drew)); exact HO_21.out) hb)
               have n3_ := Aside0.mk (blk_below (g := gb355) (o := .cells #[.int .i64 t349, .int .i64 t350, .bool t351] 25 (0, 0)) (by (with_reducible repeat (first | refine blk_drewN ?_ _ | refine blk_drew ?_ | refine blk_alloc ?_ _)); exact BK355.out) hb)
               have n4_ := Aside0.mk (blk_below (g := gb356) (o := .cells #[.int .i64 t352, .int .i64 t353, .bool t354] 25 (0, 0)) (by (with_reducible repeat (first | refine blk_drewN ?_ _ | refine blk_drew ?_ | refine blk_alloc ?_ _)); exact BK356.out) hb)
               have n5_ := Aside0.mk (blk_below (g := gb373) (o := .cells #[.int .i64 t369, .int .i64 t370, .bool t371] 25 (0, 0)) (by (with_reducible repeat (first | refine blk_drewN ?_ _ | refine blk_drew ?_ | refine blk_alloc ?_ _)); exact BK373.out) hb)
               have n6_ := Aside0.mk (blk_below (g := gb389) (o := .cells #[.int .i64 t385, .int .i64 t386, .bool t387] 25 (0, 0)) (by (with_reducible repeat (first | refine blk_drewN ?_ _ | refine blk_drew ?_ | refine blk_alloc ?_ _)); exact BK389.out) hb)
               have n7_ := Aside0.mk (blk_below (g := gb394) (o := .cells #[.int .i64 t390, .int .i64 t391, .bool t392] 25 (0, 0)) (by (with_reducible repeat (first | refine blk_drewN ?_ _ | refine blk_drew ?_ | refine blk_alloc ?_ _)); exact BK394.out) hb)
               have n8_ := Aside0.mk (below_step (by repeat (first | (with_reducible first | exact HB.out | apply below_alloc | apply pw_below_drewN | apply below_drew1 | refine below_set ?_ GE355.out | refine below_set ?_ GE356.out | refine below_set ?_ GE373.out | refine below_set ?_ GE389.out | refine below_set ?_ GE394.out) | exact HB.out)) hb)
               clear HO_9
               clear HO_19
               clear HO_21
               clear BK355
               clear BK356
               clear BK373
               clear BK389
               clear BK394
               clear HB
               have HO_9 := n0_
               have HO_19 := n1_
               have HO_21 := n2_
               have BK355 := n3_
               have BK356 := n4_
               have BK373 := n5_
               have BK389 := n6_
               have BK394 := n7_
               have HB := n8_
               clear n0_ n1_ n2_ n3_ n4_ n5_ n6_ n7_ n8_
               (try clear hb)
               (try clear hb2)
               (try clear hk)
               (try clear hi)
               refine hK.out _ _ ⟨HS0_, HS1_, HS2_, HS3_, HS4_, HS5_⟩ (fun hHeld => ?_)
               clear hK K
               refine norm_ (a' := ?_) ?_ ?_
               rotate_left
               ·
                show Act.put _ (some 211) _ = _
                simp only [Act.put, List.setIfInBounds_toArray, List.set_cons_zero, List.set_cons_succ, i64_w, i32_w]
                rfl
               refine pure_ (i := 10) (N := some 201) (v := ?_) (a' := ?_) #[true, true, true, true, true, true, true, true, true, true, true, false, false, false, false] rfl rfl (any_of HT_.out (by as_aux_lemma => kernel_rfl)) (fun _ _ _ h => h) (Or.inl ⟨by rfl, ?_⟩) ?_ ?_
               rotate_left
               ·
                intro w'
                go_simp
                with_reducible rfl
               rotate_left
               · simp only [Act.put, List.setIfInBounds_toArray, List.set_cons_zero, List.set_cons_succ, i64_w, i32_w]
                 rfl
               refine pure_ (i := 11) (N := some 212) (v := ?_) (a' := ?_) #[true, true, true, true, true, true, true, true, true, true, true, true, false, false, false] rfl rfl (any_of HT_.out (by as_aux_lemma => kernel_rfl)) (fun _ _ _ h => h) (Or.inl ⟨by rfl, ?_⟩) ?_ ?_
               rotate_left
               ·
                intro w'
                go_simp
                with_reducible rfl
               rotate_left
               · simp only [Act.put, List.setIfInBounds_toArray, List.set_cons_zero, List.set_cons_succ, i64_w, i32_w]
                 rfl
               refine pure_ (i := 12) (N := some 213) (v := ?_) (a' := ?_) #[true, true, true, true, true, true, true, true, true, true, true, true, true, false, false] rfl rfl (any_of HT_.out (by as_aux_lemma => kernel_rfl)) (fun _ _ _ h => h) (Or.inl ⟨by rfl, ?_⟩) ?_ ?_
               rotate_left
               ·
                intro w'
                go_simp
                with_reducible rfl
               rotate_left
               · simp only [Act.put, List.setIfInBounds_toArray, List.set_cons_zero, List.set_cons_succ, i64_w, i32_w]
                 rfl
               refine pure_ (i := 13) (N := some 29) (v := ?_) (a' := ?_) #[true, true, true, true, true, true, true, true, true, true, true, true, true, true, false] rfl rfl (any_of HT_.out (by as_aux_lemma => kernel_rfl)) (fun _ _ _ h => h) (Or.inl ⟨by rfl, ?_⟩) ?_ ?_
               rotate_left
               ·
                intro w'
                go_simp
                with_reducible rfl
               rotate_left
               · simp only [Act.put, List.setIfInBounds_toArray, List.set_cons_zero, List.set_cons_succ, i64_w, i32_w]
                 rfl
               refine pure_ (i := 14) (N := some 30) (v := ?_) (a' := ?_) #[true, true, true, true, true, true, true, true, true, true, true, true, true, true, true] rfl rfl (any_of HT_.out (by as_aux_lemma => kernel_rfl)) (fun _ _ _ h => h) (Or.inl ⟨by rfl, ?_⟩) ?_ ?_
               rotate_left
               ·
                intro w'
                go_simp
                with_reducible rfl
               rotate_left
               · simp only [Act.put, List.setIfInBounds_toArray, List.set_cons_zero, List.set_cons_succ, i64_w, i32_w]
                 rfl
               refine done_ (done_of HT_.out (by as_aux_lemma => kernel_rfl)) ?_
               try go_wp2
               go_ret
               exact ⟨by first | rfl | (simp [errW_none, errW_some] <;> rfl) | (simp only [← hji188]; first | rfl | (simp [errW_none, errW_some] <;> rfl)) | (simp [*, errW_none, errW_some] <;> rfl), by repeat (first | (with_reducible first | exact HB.out | apply below_alloc | apply pw_below_drewN | apply below_drew1 | refine below_set ?_ GE355.out | refine below_set ?_ GE356.out | refine below_set ?_ GE373.out | refine below_set ?_ GE389.out | refine below_set ?_ GE394.out) | exact HB.out)⟩
             · rw [if_neg c191] at H
               exact absurd H (by simp)
            · rw [if_neg c190] at H
              exact absurd H (by simp)
           · rw [if_neg c189] at H
             exact absurd H (by simp)
          ·
           rw [if_neg c187] at H
           have c187b0 : decide (x28_4 < (t361.length : Int)) = false := decide_eq_false c187
           clear c187
           have H' := Aside0.mk H
           clear H
           obtain ⟨Ao204, co204, eo204⟩ := Kd.R_slice HO_9.out
           subst eo204
           go_wp2
           go_meet
           case rel => exact ⟨_, H', ⟨by have := HJ14.out; have := HJ121.out; have := HJ173.out; have := HK4.out; first | omega | exact Nat.le_refl _⟩, ⟨by (with_reducible repeat (first | apply Kd.R_alloc | apply Kd.R_drewN | apply Kd.R_drew)); exact Kd.R_mono HO_19.out (fun _ hk => ⟨hk.2.1, ⟨hk.2.2.1, ⟨hk.2.2.2.1, ⟨hk.2.2.2.2.1, ⟨hk.2.2.2.2.2.1, hk.2.2.2.2.2.2⟩⟩⟩⟩⟩)⟩, ⟨by (with_reducible repeat (first | apply Kd.R_alloc | apply Kd.R_drewN | apply Kd.R_drew)); exact Kd.R_mono HO_21.out (fun _ hk => ⟨hk.2.1, ⟨hk.2.2.1, ⟨hk.2.2.2.1, ⟨hk.2.2.2.2.1, ⟨hk.2.2.2.2.2.1, hk.2.2.2.2.2.2⟩⟩⟩⟩⟩)⟩, ⟨by (with_reducible repeat (first | refine blk_drewN ?_ _ | refine blk_drew ?_ | refine blk_alloc ?_ _)); exact BK355.out⟩, ⟨by (with_reducible repeat (first | refine blk_drewN ?_ _ | refine blk_drew ?_ | refine blk_alloc ?_ _)); exact BK356.out⟩, ⟨by (with_reducible repeat (first | refine blk_drewN ?_ _ | refine blk_drew ?_ | refine blk_alloc ?_ _)); exact BK373.out⟩, ⟨by (with_reducible repeat (first | refine blk_drewN ?_ _ | refine blk_drew ?_ | refine blk_alloc ?_ _)); exact BK389.out⟩, ⟨by (with_reducible repeat (first | refine blk_drewN ?_ _ | refine blk_drew ?_ | refine blk_alloc ?_ _)); exact BK394.out⟩, ⟨by repeat (first | (with_reducible first | exact HB.out | apply below_alloc | apply pw_below_drewN | apply below_drew1 | refine below_set ?_ GE355.out | refine below_set ?_ GE356.out | refine below_set ?_ GE373.out | refine below_set ?_ GE389.out | refine below_set ?_ GE394.out) | exact HB.out)⟩⟩
    ·
     replace c173 := Bool.eq_false_iff.mpr c173
     subst c173
     have H1 : (laws_FnPlaceWays.j4 kj121 t372 t378 t382 t388 t369 t370 t371 t390 t391 t392) = some r := by rw [if_neg (show ¬ (false = true) by decide)] at H; exact H
     clear H
     have H := H1
     clear H1
     have H' := Aside0.mk H
     clear H
     go_wp2
     go_meet
     case rel => exact ⟨_, H', ⟨by have := HJ14.out; have := HJ121.out; first | omega | exact Nat.le_refl _⟩, ⟨by (with_reducible repeat (first | apply Kd.R_alloc | apply Kd.R_drewN | apply Kd.R_drew)); exact Kd.R_mono HO_19.out (fun _ hk => ⟨hk.2.1, ⟨hk.2.2.1, ⟨hk.2.2.2.1, ⟨hk.2.2.2.2.1, ⟨hk.2.2.2.2.2.1, hk.2.2.2.2.2.2⟩⟩⟩⟩⟩)⟩, ⟨by (with_reducible repeat (first | apply Kd.R_alloc | apply Kd.R_drewN | apply Kd.R_drew)); exact Kd.R_mono HO_21.out (fun _ hk => ⟨hk.2.1, ⟨hk.2.2.1, ⟨hk.2.2.2.1, ⟨hk.2.2.2.2.1, ⟨hk.2.2.2.2.2.1, hk.2.2.2.2.2.2⟩⟩⟩⟩⟩)⟩, ⟨by (with_reducible repeat (first | refine blk_drewN ?_ _ | refine blk_drew ?_ | refine blk_alloc ?_ _)); exact BK355.out⟩, ⟨by (with_reducible repeat (first | refine blk_drewN ?_ _ | refine blk_drew ?_ | refine blk_alloc ?_ _)); exact BK356.out⟩, ⟨by (with_reducible repeat (first | refine blk_drewN ?_ _ | refine blk_drew ?_ | refine blk_alloc ?_ _)); exact BK373.out⟩, ⟨by (with_reducible repeat (first | refine blk_drewN ?_ _ | refine blk_drew ?_ | refine blk_alloc ?_ _)); exact BK389.out⟩, ⟨by (with_reducible repeat (first | refine blk_drewN ?_ _ | refine blk_drew ?_ | refine blk_alloc ?_ _)); exact BK394.out⟩, ⟨by repeat (first | (with_reducible first | exact HB.out | apply below_alloc | apply pw_below_drewN | apply below_drew1 | refine below_set ?_ GE355.out | refine below_set ?_ GE356.out | refine below_set ?_ GE373.out | refine below_set ?_ GE389.out | refine below_set ?_ GE394.out) | exact HB.out)⟩⟩
   case rest => as_aux_lemma =>
    exact laws_FnPlaceWays.R2 k A0 c0 l0 A1 c1 l1 r w t349 t350 t351 t352 t353 t354 t360 t364 t365 t366 t367 t368 t369 t370 t371 t372 t377 t378 t381 t382 t385 t386 t387 t388 t390 t391 t392 t393 gb355 GE355 gb356 GE356 _ _ gb373 GE373 NB355_373 NB373_355 NB356_373 NB373_356 _ _ Ao41 co41 gb389 GE389 NB373_389 NB389_373 gb394 GE394 NB355_394 NB394_355 NB356_394 NB394_356 NB373_394 NB394_373 NB389_394 NB394_389 kj14 HJ14 _ _ kj121 HJ121 wc _ _ _ _ _ _ _ _ _ _ _ _ _ _ _ _ _ _ _ _ _ _ _ _ _ _ _ _ _ _ _ _ _ _ _ _ _ _ _ _ _ _ _ _ _ _ _ _ _ _ _ _ _ _ _ _ _ _ _ _ _ _ _ _ _ _ _ _ _ _ _ _ _ _ _ _ _ _ _ _ _ _ _ _ _ _ _ _ _ _ _ _ _ _ _ _ _ _ _ _ _ _ _ _ _ _ _ _ _ _ _ _ _ _ _ _ _ _ _ _ _ _ _ _ _ _ _ _ _ _ _ _ _ _ _ _ _ _ _ _ _ _ _ _ _ _ _ _ _ _ _ _ _ _ _ _ _ _ _ _ _ _ _ _ _ _ _ _ _ _ _ _ _ _ _ _ _ _ _ _ _ _ _ _ _ _ _ _ _ _ _ _ _ _ _ _ _ _ _ _ _ _ _ _ _ _ _ _ _ _ _ _ _ _ _ _ _ _ _ _ _ _ _ _ _ _ _ hcut _ (by assumption)
end Go.Proofs.Ytmjejlifohghjaa.FC
