import Derived.Test.YtafpehjedkplpaaFBx0
import Derived.Test.YtafpehjedkplpaaFBx1
import Derived.Test.YtafpehjedkplpaaFBx2
import Derived.Test.YtafpehjedkplpaaFBx4
import Derived.Test.YtafpehjedkplpaaFBx6
import Derived.Test.YtafpehjedkplpaaFBx7
import Derived.Test.YtafpehjedkplpaaFBx9
import Derived.Test.YtafpehjedkplpaaFBx11
import Derived.Test.YtafpehjedkplpaaFBx13
import Derived.Test.YtafpehjedkplpaaFBx14
import Derived.Test.YtafpehjedkplpaaFBx16
import Derived.Test.YtafpehjedkplpaaFBx17
import Derived.Test.YtafpehjedkplpaaFBx18
import Derived.Test.YtafpehjedkplpaaFBx190
-- laid by pr.py (wip/tools) over the kit's printer; Lean checks it
namespace Go.Proofs.Ytafpehjedkplpaa.FB
open Go.RowKit Go.Proofs.YtafpehjedkplpaaW.PrintWords Go.Proofs.YtafpehjedkplpaaW.PrintLast Go.Proofs.YtafpehjedkplpaaW.PrintMore
attribute [local go_sem] max2_int min2_int max_two min_two max_three min_three max_four min_four   -- for this text's walks alone
set_option linter.unusedVariables false
set_option linter.unusedSimpArgs false

attribute [local go_sem high] eqA28
/-! #### a part of the walk of laws_FnTurns -/
set_option maxHeartbeats 8000000 in
set_option maxRecDepth 100000 in
theorem laws_FnTurns.R3 (k : Nat) (A0 : Option Addr) (c0 : Nat) (l0 : List Int) (A1 : Option Addr) (c1 : Nat) (l1 : List Int) (r : Bool) (w : World) (HR1 : Aside0 (Kd.C (Kd.int IntKind.u8) w A1 (List.length l1) l1)) (HC1 : Aside0 (List.length l1 ≤ c1)) (t323 : Int) (t324 : Int) (t325 : Int) (t326 : Int) (t328 : Int) (t329 : Int) (t330 : Bool) (t332 : Int) (t333 : Int) (t334 : Bool) (gb327 : Nat) (GE327 : Aside0 (Array.size (World.heap w) ≤ gb327)) (gb331 : Nat) (GE331 : Aside0 (Array.size (World.heap w) ≤ gb331)) (gb335 : Nat) (GE335 : Aside0 (Array.size (World.heap w) ≤ gb335)) (kj7 : Nat) (HJ7 : Aside0 (kj7 + 1 ≤ k)) (u12 : Value) (u13 : Value) (u14 : Value) (u15 : Value) (u16 : Value) (u17 : Value) (u18 : Value) (u19 : Value) (kj28 : Nat) (HJ28 : Aside0 (kj28 + 1 ≤ kj7)) (t350 : Int) (t351 : Int) (t352 : Int) (t353 : Int) (t359 : Bool) (t360 : List Int) (t363 : Bool) (t364 : Int) (t365 : Bool) (t366 : Int) (t367 : Bool) (gb354 : Nat) (GE354 : Aside0 (Array.size (World.heap w) ≤ gb354)) (gb355 : Nat) (GE355 : Aside0 (Array.size (World.heap w) ≤ gb355)) (v357 : Value) (v361 : Value) (kj197 : Nat) (HJ197 : Aside0 (kj197 + 1 ≤ kj28)) (HC235 : Aside0
    ((if t359 = true then
        Option.bind (impl_LeastTurns.f kj197 t352 t353 t350 t351) fun bt369 =>
          laws_FnTurns.l1 kj197 l1 t360 t366 (Prod.fst bt369) (Prod.snd bt369) t360 (↑(List.length t360)) 0 t350 t351
            t352 t353 t350 t351
      else j6 kj197 l1) =
      some r)) (wc : World) (u4 : Value) (u30 : Value) (u31 : Value) (u32 : Value) (u34 : Value) (u35 : Value) (u36 : Value) (u37 : Value) (u38 : Value) (u44 : Value) (u45 : Value) (u46 : Value) (u47 : Value) (u48 : Value) (u49 : Value) (u50 : Value) (u51 : Value) (u52 : Value) (u53 : Value) (u54 : Value) (u55 : Value) (u56 : Value) (u57 : Value) (u58 : Value) (u59 : Value) (u60 : Value) (u61 : Value) (u62 : Value) (u63 : Value) (u64 : Value) (u65 : Value) (u66 : Value) (u67 : Value) (u68 : Value) (u69 : Value) (u70 : Value) (u71 : Value) (u72 : Value) (u73 : Value) (u74 : Value) (u75 : Value) (u76 : Value) (u77 : Value) (u78 : Value) (u79 : Value) (u80 : Value) (u81 : Value) (u82 : Value) (u83 : Value) (u84 : Value) (u85 : Value) (u86 : Value) (u87 : Value) (u88 : Value) (u89 : Value) (u90 : Value) (u91 : Value) (u92 : Value) (u93 : Value) (u94 : Value) (u95 : Value) (u96 : Value) (u97 : Value) (u98 : Value) (u99 : Value) (u100 : Value) (u101 : Value) (u102 : Value) (u103 : Value) (u104 : Value) (u105 : Value) (u106 : Value) (u107 : Value) (u108 : Value) (u109 : Value) (u110 : Value) (u111 : Value) (u112 : Value) (u113 : Value) (u114 : Value) (u115 : Value) (u116 : Value) (u117 : Value) (u118 : Value) (u119 : Value) (u120 : Value) (u121 : Value) (u122 : Value) (u123 : Value) (u124 : Value) (u125 : Value) (u126 : Value) (u127 : Value) (u128 : Value) (u129 : Value) (u130 : Value) (u131 : Value) (u132 : Value) (u133 : Value) (u134 : Value) (u135 : Value) (u136 : Value) (u137 : Value) (u138 : Value) (u139 : Value) (u140 : Value) (u141 : Value) (u142 : Value) (u143 : Value) (u144 : Value) (u145 : Value) (u146 : Value) (u147 : Value) (u148 : Value) (u149 : Value) (u150 : Value) (u151 : Value) (u152 : Value) (u153 : Value) (u154 : Value) (u155 : Value) (u156 : Value) (u157 : Value) (u158 : Value) (u159 : Value) (u160 : Value) (u161 : Value) (u162 : Value) (u163 : Value) (u164 : Value) (u165 : Value) (u166 : Value) (u167 : Value) (u168 : Value) (u169 : Value) (u170 : Value) (u171 : Value) (u172 : Value) (u173 : Value) (u174 : Value) (u175 : Value) (u176 : Value) (u177 : Value) (u178 : Value) (u179 : Value) (u180 : Value) (u181 : Value) (u182 : Value) (u183 : Value) (u184 : Value) (u185 : Value) (u186 : Value) (u187 : Value) (u188 : Value) (u189 : Value) (u190 : Value) (u191 : Value) (u192 : Value) (u193 : Value) (u194 : Value) (u195 : Value) (u196 : Value) (u197 : Value) (u198 : Value) (u199 : Value) (u200 : Value) (u201 : Value) (u202 : Value) (u203 : Value) (u204 : Value) (u205 : Value) (u206 : Value) (u207 : Value) (u208 : Value) (u209 : Value) (u210 : Value) (u211 : Value) (u212 : Value) (u213 : Value) (u214 : Value) (u215 : Value) (u216 : Value) (u217 : Value) (u218 : Value) (u219 : Value) (u220 : Value) (u221 : Value) (u222 : Value) (u223 : Value) (u224 : Value) (u225 : Value) (u226 : Value) (u227 : Value) (u228 : Value) (u229 : Value) (u230 : Value) (u231 : Value) (u232 : Value) (u233 : Value) (u234 : Value) (u235 : Value) (u236 : Value) (u237 : Value) (u238 : Value) (u239 : Value) (u240 : Value) (u241 : Value) (u242 : Value) (u243 : Value) (u244 : Value) (u245 : Value) (u246 : Value) (u247 : Value) (u248 : Value) (u249 : Value) (u250 : Value) (u251 : Value) (u252 : Value) (u253 : Value) (u254 : Value) (u255 : Value) (u256 : Value) (u257 : Value) (u258 : Value) (u259 : Value) (u260 : Value) (u261 : Value) (u262 : Value) (u263 : Value) (u264 : Value) (u265 : Value) (u266 : Value) (u267 : Value) (u268 : Value) (u269 : Value) (u270 : Value) (u271 : Value) (u272 : Value) (u273 : Value) (u274 : Value) (u275 : Value) (u276 : Value) (u277 : Value) (u278 : Value) (u279 : Value) (u280 : Value) (u281 : Value) (u282 : Value) (u283 : Value) (u284 : Value) (u285 : Value) (u286 : Value) (u287 : Value) (u288 : Value) (u289 : Value) (u290 : Value) (u291 : Value) (u292 : Value) (u293 : Value) (u294 : Value) (u295 : Value) (u296 : Value) (u297 : Value) (hcut : ∃ kq,
    Aside0 (j6 kq l1 = some r) ∧
      Aside0 (kq ≤ kj197) ∧
        Aside0
            ((World.heap wc)[gb327]? = some (Obj.cells #[Value.int IntKind.i64 t323, Value.int IntKind.i64 t324] 28)) ∧
          Aside0
              ((World.heap wc)[gb331]? =
                some (Obj.cells #[Value.int IntKind.i64 t328, Value.int IntKind.i64 t329] 28)) ∧
            Aside0
                ((World.heap wc)[gb335]? =
                  some (Obj.cells #[Value.int IntKind.i64 t332, Value.int IntKind.i64 t333] 28)) ∧
              Aside0
                  ((World.heap wc)[gb354]? =
                    some (Obj.cells #[Value.int IntKind.i64 t350, Value.int IntKind.i64 t351] 28)) ∧
                Aside0
                    ((World.heap wc)[gb355]? =
                      some (Obj.cells #[Value.int IntKind.i64 t352, Value.int IntKind.i64 t353] 28)) ∧
                  Aside0 (Below (Array.size (World.heap w)) w wc)) (K_ : Act → World → Prop) (hK_ : ∀ (a_ : Act) (w_ : World), Code.wp Try.prog (laws_FnTurns.dropSeq 14 (Try.f14.body.getD .skip)) (bodyPost Try.prog Try.f14 fun e w' => e = .returned (.bool r) ∧ Below w.heap.size w w') a_ w_ → K_ a_ w_) :
    K_ {
      tmps :=
        #[Value.slice A0 (List.length l0) c0, Value.slice A1 (List.length l1) c1, undef, undef, u4,
          Value.pointer (some { block := gb327, off := 0 }), Value.int IntKind.i64 t325, Value.int IntKind.i64 t326,
          Value.pointer (some { block := gb331, off := 0 }), Value.bool t330,
          Value.pointer (some { block := gb335, off := 0 }), Value.bool t334, u12, u13, u14, u15, u16, u17, u18, u19,
          Value.pointer (some { block := gb354, off := 0 }), Value.pointer (some { block := gb355, off := 0 }), v357,
          Value.bool t359, v361, Value.bool t363, Value.int IntKind.i64 t364, Value.bool t365,
          Value.int IntKind.i64 t366, Value.bool t367, u30, u31, u32, undef, u34, u35, u36, u37, u38, undef, undef,
          undef, undef, undef, u44, u45, u46, u47, u48, u49, u50, u51, u52, u53, u54, u55, u56, u57, u58, u59, u60, u61,
          u62, u63, u64, u65, u66, u67, u68, u69, u70, u71, u72, u73, u74, u75, u76, u77, u78, u79, u80, u81, u82, u83,
          u84, u85, u86, u87, u88, u89, u90, u91, u92, u93, u94, u95, u96, u97, u98, u99, u100, u101, u102, u103, u104,
          u105, u106, u107, u108, u109, u110, u111, u112, u113, u114, u115, u116, u117, u118, u119, u120, u121, u122,
          u123, u124, u125, u126, u127, u128, u129, u130, u131, u132, u133, u134, u135, u136, u137, u138, u139, u140,
          u141, u142, u143, u144, u145, u146, u147, u148, u149, u150, u151, u152, u153, u154, u155, u156, u157, u158,
          u159, u160, u161, u162, u163, u164, u165, u166, u167, u168, u169, u170, u171, u172, u173, u174, u175, u176,
          u177, u178, u179, u180, u181, u182, u183, u184, u185, u186, u187, u188, u189, u190, u191, u192, u193, u194,
          u195, u196, u197, u198, u199, u200, u201, u202, u203, u204, u205, u206, u207, u208, u209, u210, u211, u212,
          u213, u214, u215, u216, u217, u218, u219, u220, u221, u222, u223, u224, u225, u226, u227, u228, u229, u230,
          u231, u232, u233, u234, u235, u236, u237, u238, u239, u240, u241, u242, u243, u244, u245, u246, u247, u248,
          u249, u250, u251, u252, u253, u254, u255, u256, u257, u258, u259, u260, u261, u262, u263, u264, u265, u266,
          u267, u268, u269, u270, u271, u272, u273, u274, u275, u276, u277, u278, u279, u280, u281, u282, u283, u284,
          u285, u286, u287, u288, u289, u290, u291, u292, u293, u294, u295, u296, u297],
      defers := [] } wc := by
  refine hK_ _ _ ?_
  clear hK_
  conv => arg 2; whnf
  clear HC235
  (try clear c257b0); (try clear c258b0); (try clear c259b0); (try clear c264b0); (try clear c372b0); (try clear p372); (try clear q372); (try clear c384b0); (try clear c384b1); (try clear c385b0); (try clear c397b0); (try clear c397b1); (try clear c397b2); (try clear c414b0); (try clear c414b1); (try clear hx372_0); (try clear p372); (try clear q372)
  obtain ⟨kq, HA, HJ234, BK327, BK331, BK335, BK354, BK355, HB⟩ := hcut
  cases kq with
  | zero => exact absurd HA.out (by simp [laws_FnTurns.j6])
  | succ kj234 =>
   have H := HA.out
   clear HA
   simp only [laws_FnTurns.j6] at H
   replace H := Option.bind_eq_some_iff.mp H
   obtain ⟨⟨t381, t382⟩, A4710, H⟩ := H
   replace H : ((impl_ThirdDir.f t381 t382).bind fun bt384 => ((spec_ThirdDir.f kj234 t381 t382).bind fun bt386 => (if (bt384.2 != bt386.2) = true then (laws_FnTurns.j7 kj234 bt384.2 bt386.1 true t381 t382) else (laws_FnTurns.j7 kj234 bt384.2 bt386.1 (bt384.1 != bt386.1) t381 t382)))) = some r := H
   have A471 := Aside0.mk A4710
   clear A4710
   replace H := Option.bind_eq_some_iff.mp H
   obtain ⟨⟨t384, t385⟩, A4720, H⟩ := H
   replace H : ((spec_ThirdDir.f kj234 t381 t382).bind fun bt386 => (if (t385 != bt386.2) = true then (laws_FnTurns.j7 kj234 t385 bt386.1 true t381 t382) else (laws_FnTurns.j7 kj234 t385 bt386.1 (t384 != bt386.1) t381 t382))) = some r := H
   have A472 := Aside0.mk A4720
   clear A4720
   replace H := Option.bind_eq_some_iff.mp H
   obtain ⟨⟨t386, t387⟩, A4730, H⟩ := H
   replace H : (if (t385 != t387) = true then (laws_FnTurns.j7 kj234 t385 t386 true t381 t382) else (laws_FnTurns.j7 kj234 t385 t386 (t384 != t386) t381 t382)) = some r := H
   have A473 := Aside0.mk A4730
   clear A4730
   have HC474 := Aside0.mk H
   clear H
   go_upto_region 47 with (first | ((with_reducible refine gate_callee (f := 49) rfl ?_); refine goesL_ (some 251) rfl rfl Try.func49 (by as_aux_lemma => kernel_rfl) rfl #[.slice A1 l1.length c1] rfl (by (try simp only [List.map_toArray, List.map_cons, List.map_nil]); first | done | rfl | (simp only [List.length_drop, List.length_take]; rfl)) ?_; (with_reducible refine (spec_DrawThirdDir.calls kj234 _ _ l1 t381 t382 _ ?side1 ?side2 A471.out).mono ?_); (case side1 => repeat (first | exact (Kd.C_below HR1.out HB.out) | (with_reducible refine Kd.C_alloc ?_ _) | (with_reducible refine Kd.C_drewN ?_ _) | (with_reducible refine Kd.C_drew ?_))); (case side2 => exact HC1.out); rintro e w475 ⟨rfl, hb⟩; refine ⟨_, rfl, ?_⟩; have n0_ := Aside0.mk (blk_below (g := gb327) (o := .cells #[.int .i64 t323, .int .i64 t324] 28 (0, 0)) (by (with_reducible repeat (first | refine blk_drewN ?_ _ | refine blk_drew ?_ | refine blk_alloc ?_ _)); exact BK327.out) hb); have n1_ := Aside0.mk (blk_below (g := gb331) (o := .cells #[.int .i64 t328, .int .i64 t329] 28 (0, 0)) (by (with_reducible repeat (first | refine blk_drewN ?_ _ | refine blk_drew ?_ | refine blk_alloc ?_ _)); exact BK331.out) hb); have n2_ := Aside0.mk (blk_below (g := gb335) (o := .cells #[.int .i64 t332, .int .i64 t333] 28 (0, 0)) (by (with_reducible repeat (first | refine blk_drewN ?_ _ | refine blk_drew ?_ | refine blk_alloc ?_ _)); exact BK335.out) hb); have n3_ := Aside0.mk (blk_below (g := gb354) (o := .cells #[.int .i64 t350, .int .i64 t351] 28 (0, 0)) (by (with_reducible repeat (first | refine blk_drewN ?_ _ | refine blk_drew ?_ | refine blk_alloc ?_ _)); exact BK354.out) hb); have n4_ := Aside0.mk (blk_below (g := gb355) (o := .cells #[.int .i64 t352, .int .i64 t353] 28 (0, 0)) (by (with_reducible repeat (first | refine blk_drewN ?_ _ | refine blk_drew ?_ | refine blk_alloc ?_ _)); exact BK355.out) hb); have n5_ := Aside0.mk (below_step (by repeat (first | (with_reducible first | exact HB.out | apply below_alloc | apply pw_below_drewN | apply below_drew1 | refine below_set ?_ GE327.out | refine below_set ?_ GE331.out | refine below_set ?_ GE335.out | refine below_set ?_ GE354.out | refine below_set ?_ GE355.out) | exact HB.out)) hb); clear BK327; clear BK331; clear BK335; clear BK354; clear BK355; clear HB; have BK327 := n0_; have BK331 := n1_; have BK335 := n2_; have BK354 := n3_; have BK355 := n4_; have HB := n5_; clear n0_ n1_ n2_ n3_ n4_ n5_; (try clear hb); (try clear hb2); (try clear hk); (try clear hi)) | ((with_reducible refine gate_dst (N := 39) rfl ?_); refine box_event ?hg (N := 39) ?hd (cs := #[.int .i64 0, .int .i64 0]) (t := 28) ?hr ?_; (case hd => rfl); (case hg => rfl); (case hr => first | (go_simp; done) | (go_simp; rfl)); intro gb383 hg w476 hbox hb; have n0_ := Aside0.mk (blk_below (g := gb327) (o := .cells #[.int .i64 t323, .int .i64 t324] 28 (0, 0)) (by (with_reducible repeat (first | refine blk_drewN ?_ _ | refine blk_drew ?_ | refine blk_alloc ?_ _)); exact BK327.out) hb); have n1_ := Aside0.mk (blk_below (g := gb331) (o := .cells #[.int .i64 t328, .int .i64 t329] 28 (0, 0)) (by (with_reducible repeat (first | refine blk_drewN ?_ _ | refine blk_drew ?_ | refine blk_alloc ?_ _)); exact BK331.out) hb); have n2_ := Aside0.mk (blk_below (g := gb335) (o := .cells #[.int .i64 t332, .int .i64 t333] 28 (0, 0)) (by (with_reducible repeat (first | refine blk_drewN ?_ _ | refine blk_drew ?_ | refine blk_alloc ?_ _)); exact BK335.out) hb); have n3_ := Aside0.mk (blk_below (g := gb354) (o := .cells #[.int .i64 t350, .int .i64 t351] 28 (0, 0)) (by (with_reducible repeat (first | refine blk_drewN ?_ _ | refine blk_drew ?_ | refine blk_alloc ?_ _)); exact BK354.out) hb); have n4_ := Aside0.mk (blk_below (g := gb355) (o := .cells #[.int .i64 t352, .int .i64 t353] 28 (0, 0)) (by (with_reducible repeat (first | refine blk_drewN ?_ _ | refine blk_drew ?_ | refine blk_alloc ?_ _)); exact BK355.out) hb); have n5_ := Aside0.mk (below_step (by repeat (first | (with_reducible first | exact HB.out | apply below_alloc | apply pw_below_drewN | apply below_drew1 | refine below_set ?_ GE327.out | refine below_set ?_ GE331.out | refine below_set ?_ GE335.out | refine below_set ?_ GE354.out | refine below_set ?_ GE355.out) | exact HB.out)) hb); have n6_ := Aside0.mk (hbox); have n7_ := Aside0.mk ((by rw [hg]; exact (below_size (by repeat (first | (with_reducible first | exact HB.out | apply below_alloc | apply pw_below_drewN | apply below_drew1 | refine below_set ?_ GE327.out | refine below_set ?_ GE331.out | refine below_set ?_ GE335.out | refine below_set ?_ GE354.out | refine below_set ?_ GE355.out) | exact HB.out))) : w.heap.size ≤ gb383)); have n8_ := Aside0.mk ((by rw [hg]; exact (below_size (by repeat (first | (with_reducible first | exact HB.out | apply below_alloc | apply pw_below_drewN | apply below_drew1 | refine below_set ?_ GE327.out | refine below_set ?_ GE331.out | refine below_set ?_ GE335.out | refine below_set ?_ GE354.out | refine below_set ?_ GE355.out) | exact HB.out))) : w.heap.size ≤ gb383)); have n9_ := Aside0.mk ((by rw [hg]; exact Nat.ne_of_lt (blk_lt (g := gb327) (o := .cells #[.int .i64 t323, .int .i64 t324] 28 (0, 0)) (by (with_reducible repeat (first | refine blk_drewN ?_ _ | refine blk_drew ?_ | refine blk_alloc ?_ _)); exact BK327.out)) : gb327 ≠ gb383)); have n10_ := Aside0.mk ((by rw [hg]; exact Nat.ne_of_gt (blk_lt (g := gb327) (o := .cells #[.int .i64 t323, .int .i64 t324] 28 (0, 0)) (by (with_reducible repeat (first | refine blk_drewN ?_ _ | refine blk_drew ?_ | refine blk_alloc ?_ _)); exact BK327.out)) : gb383 ≠ gb327)); have n11_ := Aside0.mk ((by rw [hg]; exact Nat.ne_of_lt (blk_lt (g := gb331) (o := .cells #[.int .i64 t328, .int .i64 t329] 28 (0, 0)) (by (with_reducible repeat (first | refine blk_drewN ?_ _ | refine blk_drew ?_ | refine blk_alloc ?_ _)); exact BK331.out)) : gb331 ≠ gb383)); have n12_ := Aside0.mk ((by rw [hg]; exact Nat.ne_of_gt (blk_lt (g := gb331) (o := .cells #[.int .i64 t328, .int .i64 t329] 28 (0, 0)) (by (with_reducible repeat (first | refine blk_drewN ?_ _ | refine blk_drew ?_ | refine blk_alloc ?_ _)); exact BK331.out)) : gb383 ≠ gb331)); have n13_ := Aside0.mk ((by rw [hg]; exact Nat.ne_of_lt (blk_lt (g := gb335) (o := .cells #[.int .i64 t332, .int .i64 t333] 28 (0, 0)) (by (with_reducible repeat (first | refine blk_drewN ?_ _ | refine blk_drew ?_ | refine blk_alloc ?_ _)); exact BK335.out)) : gb335 ≠ gb383)); have n14_ := Aside0.mk ((by rw [hg]; exact Nat.ne_of_gt (blk_lt (g := gb335) (o := .cells #[.int .i64 t332, .int .i64 t333] 28 (0, 0)) (by (with_reducible repeat (first | refine blk_drewN ?_ _ | refine blk_drew ?_ | refine blk_alloc ?_ _)); exact BK335.out)) : gb383 ≠ gb335)); have n15_ := Aside0.mk ((by rw [hg]; exact Nat.ne_of_lt (blk_lt (g := gb354) (o := .cells #[.int .i64 t350, .int .i64 t351] 28 (0, 0)) (by (with_reducible repeat (first | refine blk_drewN ?_ _ | refine blk_drew ?_ | refine blk_alloc ?_ _)); exact BK354.out)) : gb354 ≠ gb383)); have n16_ := Aside0.mk ((by rw [hg]; exact Nat.ne_of_gt (blk_lt (g := gb354) (o := .cells #[.int .i64 t350, .int .i64 t351] 28 (0, 0)) (by (with_reducible repeat (first | refine blk_drewN ?_ _ | refine blk_drew ?_ | refine blk_alloc ?_ _)); exact BK354.out)) : gb383 ≠ gb354)); have n17_ := Aside0.mk ((by rw [hg]; exact Nat.ne_of_lt (blk_lt (g := gb355) (o := .cells #[.int .i64 t352, .int .i64 t353] 28 (0, 0)) (by (with_reducible repeat (first | refine blk_drewN ?_ _ | refine blk_drew ?_ | refine blk_alloc ?_ _)); exact BK355.out)) : gb355 ≠ gb383)); have n18_ := Aside0.mk ((by rw [hg]; exact Nat.ne_of_gt (blk_lt (g := gb355) (o := .cells #[.int .i64 t352, .int .i64 t353] 28 (0, 0)) (by (with_reducible repeat (first | refine blk_drewN ?_ _ | refine blk_drew ?_ | refine blk_alloc ?_ _)); exact BK355.out)) : gb383 ≠ gb355)); clear BK327; clear BK331; clear BK335; clear BK354; clear BK355; clear HB; have BK327 := n0_; have BK331 := n1_; have BK335 := n2_; have BK354 := n3_; have BK355 := n4_; have HB := n5_; have BK383 := n6_; have GW383 := n7_; have GE383 := n8_; have NB327_383 := n9_; have NB383_327 := n10_; have NB331_383 := n11_; have NB383_331 := n12_; have NB335_383 := n13_; have NB383_335 := n14_; have NB354_383 := n15_; have NB383_354 := n16_; have NB355_383 := n17_; have NB383_355 := n18_; clear n0_ n1_ n2_ n3_ n4_ n5_ n6_ n7_ n8_ n9_ n10_ n11_ n12_ n13_ n14_ n15_ n16_ n17_ n18_; clear hb hbox hg; have hnb477 := NB383_327.out; have hnc477 := NB327_383.out; have hnb478 := NB383_331.out; have hnc478 := NB331_383.out; have hnb479 := NB383_335.out; have hnc479 := NB335_383.out; have hnb480 := NB383_354.out; have hnc480 := NB354_383.out; have hnb481 := NB383_355.out; have hnc481 := NB355_383.out; have hcz482_0 : w476.cell? ⟨gb383, 0, none⟩ = some (.int .i64 0) := (blk_cell BK383.out 0).trans rfl; have hcz482_1 : w476.cell? ⟨gb383, 1, none⟩ = some (.int .i64 0) := (blk_cell BK383.out 1).trans rfl; have hfz482_0 := blk_frozen BK383.out 0; have hfz482_1 := blk_frozen BK383.out 1) | ((with_reducible refine gate_callee (f := 35) rfl ?_); refine goesL_ (some 254) rfl rfl Try.func35 (by as_aux_lemma => kernel_rfl) rfl #[.agg #[.int .i64 t381, .int .i64 t382]] rfl (by (try simp only [List.map_toArray, List.map_cons, List.map_nil]); first | done | rfl | (simp only [List.length_drop, List.length_take]; rfl)) ?_; (with_reducible refine (impl_ThirdDir.calls t381 t382 t384 t385 _ A472.out).mono ?_); rintro e w483 ⟨rfl, hb⟩; refine ⟨_, rfl, ?_⟩; have n0_ := Aside0.mk (blk_below (g := gb327) (o := .cells #[.int .i64 t323, .int .i64 t324] 28 (0, 0)) (by (with_reducible repeat (first | refine blk_drewN ?_ _ | refine blk_drew ?_ | refine blk_alloc ?_ _)); refine blk_far ?_ NB327_383.out _; (with_reducible repeat (first | refine blk_drewN ?_ _ | refine blk_drew ?_ | refine blk_alloc ?_ _)); refine blk_far ?_ NB327_383.out _; (with_reducible repeat (first | refine blk_drewN ?_ _ | refine blk_drew ?_ | refine blk_alloc ?_ _)); exact BK327.out) hb); have n1_ := Aside0.mk (blk_below (g := gb331) (o := .cells #[.int .i64 t328, .int .i64 t329] 28 (0, 0)) (by (with_reducible repeat (first | refine blk_drewN ?_ _ | refine blk_drew ?_ | refine blk_alloc ?_ _)); refine blk_far ?_ NB331_383.out _; (with_reducible repeat (first | refine blk_drewN ?_ _ | refine blk_drew ?_ | refine blk_alloc ?_ _)); refine blk_far ?_ NB331_383.out _; (with_reducible repeat (first | refine blk_drewN ?_ _ | refine blk_drew ?_ | refine blk_alloc ?_ _)); exact BK331.out) hb); have n2_ := Aside0.mk (blk_below (g := gb335) (o := .cells #[.int .i64 t332, .int .i64 t333] 28 (0, 0)) (by (with_reducible repeat (first | refine blk_drewN ?_ _ | refine blk_drew ?_ | refine blk_alloc ?_ _)); refine blk_far ?_ NB335_383.out _; (with_reducible repeat (first | refine blk_drewN ?_ _ | refine blk_drew ?_ | refine blk_alloc ?_ _)); refine blk_far ?_ NB335_383.out _; (with_reducible repeat (first | refine blk_drewN ?_ _ | refine blk_drew ?_ | refine blk_alloc ?_ _)); exact BK335.out) hb); have n3_ := Aside0.mk (blk_below (g := gb354) (o := .cells #[.int .i64 t350, .int .i64 t351] 28 (0, 0)) (by (with_reducible repeat (first | refine blk_drewN ?_ _ | refine blk_drew ?_ | refine blk_alloc ?_ _)); refine blk_far ?_ NB354_383.out _; (with_reducible repeat (first | refine blk_drewN ?_ _ | refine blk_drew ?_ | refine blk_alloc ?_ _)); refine blk_far ?_ NB354_383.out _; (with_reducible repeat (first | refine blk_drewN ?_ _ | refine blk_drew ?_ | refine blk_alloc ?_ _)); exact BK354.out) hb); have n4_ := Aside0.mk (blk_below (g := gb355) (o := .cells #[.int .i64 t352, .int .i64 t353] 28 (0, 0)) (by (with_reducible repeat (first | refine blk_drewN ?_ _ | refine blk_drew ?_ | refine blk_alloc ?_ _)); refine blk_far ?_ NB355_383.out _; (with_reducible repeat (first | refine blk_drewN ?_ _ | refine blk_drew ?_ | refine blk_alloc ?_ _)); refine blk_far ?_ NB355_383.out _; (with_reducible repeat (first | refine blk_drewN ?_ _ | refine blk_drew ?_ | refine blk_alloc ?_ _)); exact BK355.out) hb); have n5_ := Aside0.mk (blk_below (g := gb383) (o := .cells #[.int .i64 t381, .int .i64 t382] 28 (0, 0)) (by (with_reducible repeat (first | refine blk_drewN ?_ _ | refine blk_drew ?_ | refine blk_alloc ?_ _)); refine blk_put (cs := #[.int .i64 t381, .int .i64 0]) ?_ 1 _ rfl; (with_reducible repeat (first | refine blk_drewN ?_ _ | refine blk_drew ?_ | refine blk_alloc ?_ _)); refine blk_put (cs := #[.int .i64 0, .int .i64 0]) ?_ 0 _ rfl; (with_reducible repeat (first | refine blk_drewN ?_ _ | refine blk_drew ?_ | refine blk_alloc ?_ _)); exact BK383.out) hb); have n6_ := Aside0.mk (below_step (by repeat (first | (with_reducible first | exact HB.out | apply below_alloc | apply pw_below_drewN | apply below_drew1 | refine below_set ?_ GE327.out | refine below_set ?_ GE331.out | refine below_set ?_ GE335.out | refine below_set ?_ GE354.out | refine below_set ?_ GE355.out | refine below_set ?_ GE383.out) | exact HB.out)) hb); clear BK327; clear BK331; clear BK335; clear BK354; clear BK355; clear BK383; clear HB; have BK327 := n0_; have BK331 := n1_; have BK335 := n2_; have BK354 := n3_; have BK355 := n4_; have BK383 := n5_; have HB := n6_; clear n0_ n1_ n2_ n3_ n4_ n5_ n6_; (try clear hb); (try clear hb2); (try clear hk); (try clear hi); have hcz484_0 : w483.cell? ⟨gb383, 0, none⟩ = some (.int .i64 t381) := (blk_cell BK383.out 0).trans rfl; have hcz484_1 : w483.cell? ⟨gb383, 1, none⟩ = some (.int .i64 t382) := (blk_cell BK383.out 1).trans rfl; have hfz484_0 := blk_frozen BK383.out 0; have hfz484_1 := blk_frozen BK383.out 1) | ((with_reducible refine gate_callee (f := 34) rfl ?_); refine goesL_ (some 259) rfl rfl Try.func34 (by as_aux_lemma => kernel_rfl) rfl #[.agg #[.int .i64 t381, .int .i64 t382]] rfl (by (try simp only [List.map_toArray, List.map_cons, List.map_nil]); first | done | rfl | (simp only [List.length_drop, List.length_take]; rfl)) ?_; (with_reducible refine (spec_ThirdDir.calls kj234 t381 t382 t386 t387 _ A473.out).mono ?_); rintro e w485 ⟨rfl, hb⟩; refine ⟨_, rfl, ?_⟩; have n0_ := Aside0.mk (blk_below (g := gb327) (o := .cells #[.int .i64 t323, .int .i64 t324] 28 (0, 0)) (by (with_reducible repeat (first | refine blk_drewN ?_ _ | refine blk_drew ?_ | refine blk_alloc ?_ _)); exact BK327.out) hb); have n1_ := Aside0.mk (blk_below (g := gb331) (o := .cells #[.int .i64 t328, .int .i64 t329] 28 (0, 0)) (by (with_reducible repeat (first | refine blk_drewN ?_ _ | refine blk_drew ?_ | refine blk_alloc ?_ _)); exact BK331.out) hb); have n2_ := Aside0.mk (blk_below (g := gb335) (o := .cells #[.int .i64 t332, .int .i64 t333] 28 (0, 0)) (by (with_reducible repeat (first | refine blk_drewN ?_ _ | refine blk_drew ?_ | refine blk_alloc ?_ _)); exact BK335.out) hb); have n3_ := Aside0.mk (blk_below (g := gb354) (o := .cells #[.int .i64 t350, .int .i64 t351] 28 (0, 0)) (by (with_reducible repeat (first | refine blk_drewN ?_ _ | refine blk_drew ?_ | refine blk_alloc ?_ _)); exact BK354.out) hb); have n4_ := Aside0.mk (blk_below (g := gb355) (o := .cells #[.int .i64 t352, .int .i64 t353] 28 (0, 0)) (by (with_reducible repeat (first | refine blk_drewN ?_ _ | refine blk_drew ?_ | refine blk_alloc ?_ _)); exact BK355.out) hb); have n5_ := Aside0.mk (blk_below (g := gb383) (o := .cells #[.int .i64 t381, .int .i64 t382] 28 (0, 0)) (by (with_reducible repeat (first | refine blk_drewN ?_ _ | refine blk_drew ?_ | refine blk_alloc ?_ _)); exact BK383.out) hb); have n6_ := Aside0.mk (below_step (by repeat (first | (with_reducible first | exact HB.out | apply below_alloc | apply pw_below_drewN | apply below_drew1 | refine below_set ?_ GE327.out | refine below_set ?_ GE331.out | refine below_set ?_ GE335.out | refine below_set ?_ GE354.out | refine below_set ?_ GE355.out | refine below_set ?_ GE383.out) | exact HB.out)) hb); clear BK327; clear BK331; clear BK335; clear BK354; clear BK355; clear BK383; clear HB; have BK327 := n0_; have BK331 := n1_; have BK335 := n2_; have BK354 := n3_; have BK355 := n4_; have BK383 := n5_; have HB := n6_; clear n0_ n1_ n2_ n3_ n4_ n5_ n6_; (try clear hb); (try clear hb2); (try clear hk); (try clear hi)))
   (try simp only [Act.put, List.setIfInBounds_toArray, List.set_cons_zero, List.set_cons_succ])
   go_cut [269] (fun v269 wc => ∃ (kq : Nat) (x269_473 : Bool), v269 = .bool x269_473 ∧ Aside0 (laws_FnTurns.j7 kq t385 t386 x269_473 t381 t382 = some r) ∧ Aside0 (kq ≤ kj234) ∧ Aside0 (wc.heap[gb327]? = some (.cells #[.int .i64 t323, .int .i64 t324] 28 (0, 0))) ∧ Aside0 (wc.heap[gb331]? = some (.cells #[.int .i64 t328, .int .i64 t329] 28 (0, 0))) ∧ Aside0 (wc.heap[gb335]? = some (.cells #[.int .i64 t332, .int .i64 t333] 28 (0, 0))) ∧ Aside0 (wc.heap[gb354]? = some (.cells #[.int .i64 t350, .int .i64 t351] 28 (0, 0))) ∧ Aside0 (wc.heap[gb355]? = some (.cells #[.int .i64 t352, .int .i64 t353] 28 (0, 0))) ∧ Aside0 (wc.heap[gb383]? = some (.cells #[.int .i64 t381, .int .i64 t382] 28 (0, 0))) ∧ Aside0 (Below w.heap.size w wc))
   case first =>
    have H := HC474.out
    clear HC474
    refine dite ((t385 != t387) = true) (fun c486 => ?qp20) (fun c486 => ?qn20)
    case' qp20 =>
     rw [if_pos c486] at H
     have c486b0 : (t385 != t387) = true := c486
     (try (have c486b1 : decide (t385 = t387) = false := by simpa using c486))
     (try (have c486b2 : (t385 == t387) = false := by simpa using c486))
     (try (have c486b3 : ¬ (t385 = t387) := by simpa using c486))
    case' qn20 =>
     rw [if_neg c486] at H
     have c486b0 : (t385 != t387) = false := by simpa using c486
     (try (have c486b1 : decide (t385 = t387) = true := by simpa using c486))
     (try (have c486b2 : (t385 == t387) = true := by simpa using c486))
    all_goals
     clear c486
     (first | rw [c486b0] | (simp only [i64_w, i32_w]; rw [c486b0]) | skip)
     have H' := Aside0.mk H
     clear H
     go_wp2
    · go_meet
      case rel => exact ⟨_, ((t384 != t386)), (by first | rfl | (simp; done) | (simp [*]; done)), H', ⟨by have := HJ7.out; have := HJ28.out; have := HJ197.out; have := HJ234.out; first | omega | exact Nat.le_refl _⟩, ⟨by (with_reducible repeat (first | refine blk_drewN ?_ _ | refine blk_drew ?_ | refine blk_alloc ?_ _)); exact BK327.out⟩, ⟨by (with_reducible repeat (first | refine blk_drewN ?_ _ | refine blk_drew ?_ | refine blk_alloc ?_ _)); exact BK331.out⟩, ⟨by (with_reducible repeat (first | refine blk_drewN ?_ _ | refine blk_drew ?_ | refine blk_alloc ?_ _)); exact BK335.out⟩, ⟨by (with_reducible repeat (first | refine blk_drewN ?_ _ | refine blk_drew ?_ | refine blk_alloc ?_ _)); exact BK354.out⟩, ⟨by (with_reducible repeat (first | refine blk_drewN ?_ _ | refine blk_drew ?_ | refine blk_alloc ?_ _)); exact BK355.out⟩, ⟨by (with_reducible repeat (first | refine blk_drewN ?_ _ | refine blk_drew ?_ | refine blk_alloc ?_ _)); exact BK383.out⟩, ⟨by repeat (first | (with_reducible first | exact HB.out | apply below_alloc | apply pw_below_drewN | apply below_drew1 | refine below_set ?_ GE327.out | refine below_set ?_ GE331.out | refine below_set ?_ GE335.out | refine below_set ?_ GE354.out | refine below_set ?_ GE355.out | refine below_set ?_ GE383.out) | exact HB.out)⟩⟩
    · go_meet
      case rel => exact ⟨_, (true), (by first | rfl | (simp; done) | (simp [*]; done)), H', ⟨by have := HJ7.out; have := HJ28.out; have := HJ197.out; have := HJ234.out; first | omega | exact Nat.le_refl _⟩, ⟨by (with_reducible repeat (first | refine blk_drewN ?_ _ | refine blk_drew ?_ | refine blk_alloc ?_ _)); exact BK327.out⟩, ⟨by (with_reducible repeat (first | refine blk_drewN ?_ _ | refine blk_drew ?_ | refine blk_alloc ?_ _)); exact BK331.out⟩, ⟨by (with_reducible repeat (first | refine blk_drewN ?_ _ | refine blk_drew ?_ | refine blk_alloc ?_ _)); exact BK335.out⟩, ⟨by (with_reducible repeat (first | refine blk_drewN ?_ _ | refine blk_drew ?_ | refine blk_alloc ?_ _)); exact BK354.out⟩, ⟨by (with_reducible repeat (first | refine blk_drewN ?_ _ | refine blk_drew ?_ | refine blk_alloc ?_ _)); exact BK355.out⟩, ⟨by (with_reducible repeat (first | refine blk_drewN ?_ _ | refine blk_drew ?_ | refine blk_alloc ?_ _)); exact BK383.out⟩, ⟨by repeat (first | (with_reducible first | exact HB.out | apply below_alloc | apply pw_below_drewN | apply below_drew1 | refine below_set ?_ GE327.out | refine below_set ?_ GE331.out | refine below_set ?_ GE335.out | refine below_set ?_ GE354.out | refine below_set ?_ GE355.out | refine below_set ?_ GE383.out) | exact HB.out)⟩⟩
   case rest =>
    clear HC474
    (try clear c1); (try clear c257b0); (try clear c258b0); (try clear c259b0); (try clear c264b0); (try clear c372b0); (try clear p372); (try clear q372); (try clear c384b0); (try clear c384b1); (try clear c385b0); (try clear c397b0); (try clear c397b1); (try clear c397b2); (try clear c414b0); (try clear c414b1); (try clear c486b0); (try clear c486b1); (try clear c486b2); (try clear hx372_0); (try clear p372); (try clear q372)
    obtain ⟨kq, x269_473, rfl, HA, HJ473, BK327, BK331, BK335, BK354, BK355, BK383, HB⟩ := hcut
    cases kq with
    | zero => exact absurd HA.out (by simp [laws_FnTurns.j7])
    | succ kj473 =>
     have H := HA.out
     clear HA
     simp only [laws_FnTurns.j7] at H
     by_cases c487 : x269_473 = true
     ·
      subst c487
      have H1 : (some false) = some r := by rw [if_pos rfl] at H; exact H
      clear H
      have H := H1
      clear H1
      obtain rfl := Option.some.inj H
      go_wp2
      go_ret
      exact ⟨by first | rfl | (simp [errW_none, errW_some] <;> rfl) | (simp [*, errW_none, errW_some] <;> rfl), by repeat (first | (with_reducible first | exact HB.out | apply below_alloc | apply pw_below_drewN | apply below_drew1 | refine below_set ?_ GE327.out | refine below_set ?_ GE331.out | refine below_set ?_ GE335.out | refine below_set ?_ GE354.out | refine below_set ?_ GE355.out | refine below_set ?_ GE383.out) | exact HB.out)⟩
     ·
      replace c487 := Bool.eq_false_iff.mpr c487
      subst c487
      have H1 : (if t385 = true then (if t386 = t381 then (some false) else (if t386 = t382 then (some false) else ((impl_IsOrient.f t381 t386).bind fun t388 => (if t388 = true then ((impl_IsOrient.f t382 t386).bind fun t389 => (some t389)) else (some false))))) else (some true)) = some r := by rw [if_neg (show ¬ (false = true) by decide)] at H; exact H
      clear H
      have H := H1
      clear H1
      by_cases c488 : t385 = true
      ·
       subst c488
       have H1 : (if t386 = t381 then (some false) else (if t386 = t382 then (some false) else ((impl_IsOrient.f t381 t386).bind fun t388 => (if t388 = true then ((impl_IsOrient.f t382 t386).bind fun t389 => (some t389)) else (some false))))) = some r := by rw [if_pos rfl] at H; exact H
       clear H
       have H := H1
       clear H1
       by_cases c489 : t386 = t381
       ·
        rw [if_pos c489] at H
        have c489b0 : (t386 == t381) = true := beq_iff_eq.mpr c489
        have c489b1 : (t386 != t381) = false := bne_eq_false_iff_eq.mpr c489
        clear c489
        obtain rfl := Option.some.inj H
        have hnb490 := NB383_327.out
        have hnc490 := NB327_383.out
        have hnb491 := NB383_331.out
        have hnc491 := NB331_383.out
        have hnb492 := NB383_335.out
        have hnc492 := NB335_383.out
        have hnb493 := NB383_354.out
        have hnc493 := NB354_383.out
        have hnb494 := NB383_355.out
        have hnc494 := NB355_383.out
        have hcz495_0 : wc.cell? ⟨gb383, 0, none⟩ = some (.int .i64 t381) := (blk_cell BK383.out 0).trans rfl
        have hcz495_1 : wc.cell? ⟨gb383, 1, none⟩ = some (.int .i64 t382) := (blk_cell BK383.out 1).trans rfl
        have hfz495_0 := blk_frozen BK383.out 0
        have hfz495_1 := blk_frozen BK383.out 1
        go_wp2
        go_ret
        exact ⟨by first | rfl | (simp [errW_none, errW_some] <;> rfl) | (simp [*, errW_none, errW_some] <;> rfl), by repeat (first | (with_reducible first | exact HB.out | apply below_alloc | apply pw_below_drewN | apply below_drew1 | refine below_set ?_ GE327.out | refine below_set ?_ GE331.out | refine below_set ?_ GE335.out | refine below_set ?_ GE354.out | refine below_set ?_ GE355.out | refine below_set ?_ GE383.out) | exact HB.out)⟩
       ·
        rw [if_neg c489] at H
        have c489b0 : (t386 == t381) = false := beq_eq_false_iff_ne.mpr c489
        have c489b1 : (t386 != t381) = true := bne_iff_ne.mpr c489
        by_cases c496 : t386 = t382
        ·
         rw [if_pos c496] at H
         have c496b0 : (t386 == t382) = true := beq_iff_eq.mpr c496
         have c496b1 : (t386 != t382) = false := bne_eq_false_iff_eq.mpr c496
         clear c496
         obtain rfl := Option.some.inj H
         have hnb497 := NB383_327.out
         have hnc497 := NB327_383.out
         have hnb498 := NB383_331.out
         have hnc498 := NB331_383.out
         have hnb499 := NB383_335.out
         have hnc499 := NB335_383.out
         have hnb500 := NB383_354.out
         have hnc500 := NB354_383.out
         have hnb501 := NB383_355.out
         have hnc501 := NB355_383.out
         have hcz502_0 : wc.cell? ⟨gb383, 0, none⟩ = some (.int .i64 t381) := (blk_cell BK383.out 0).trans rfl
         have hcz502_1 : wc.cell? ⟨gb383, 1, none⟩ = some (.int .i64 t382) := (blk_cell BK383.out 1).trans rfl
         have hfz502_0 := blk_frozen BK383.out 0
         have hfz502_1 := blk_frozen BK383.out 1
         go_wp2
         go_ret
         exact ⟨by first | rfl | (simp [errW_none, errW_some] <;> rfl) | (simp [*, errW_none, errW_some] <;> rfl), by repeat (first | (with_reducible first | exact HB.out | apply below_alloc | apply pw_below_drewN | apply below_drew1 | refine below_set ?_ GE327.out | refine below_set ?_ GE331.out | refine below_set ?_ GE335.out | refine below_set ?_ GE354.out | refine below_set ?_ GE355.out | refine below_set ?_ GE383.out) | exact HB.out)⟩
        ·
         rw [if_neg c496] at H
         have c496b0 : (t386 == t382) = false := beq_eq_false_iff_ne.mpr c496
         have c496b1 : (t386 != t382) = true := bne_iff_ne.mpr c496
         replace H := Option.bind_eq_some_iff.mp H
         obtain ⟨t388, A5030, H⟩ := H
         replace H : (if t388 = true then ((impl_IsOrient.f t382 t386).bind fun t389 => (some t389)) else (some false)) = some r := H
         have A503 := Aside0.mk A5030
         clear A5030
         refine dite (t388 = true) (fun c504 => ?qp21) (fun c504 => ?qn21)
         case' qp21 =>
          subst c504
          have H1 : ((impl_IsOrient.f t382 t386).bind fun t389 => (some t389)) = some r := by rw [if_pos rfl] at H; exact H
          clear H
          have H := H1
          clear H1
          replace H := Option.bind_eq_some_iff.mp H
          obtain ⟨t389, A5050, H⟩ := H
          replace H : (some t389) = some r := H
          have A505 := Aside0.mk A5050
          clear A5050
         case' qn21 =>
          replace c504 := Bool.eq_false_iff.mpr c504
          subst c504
          have H1 : (some false) = some r := by rw [if_neg (show ¬ (false = true) by decide)] at H; exact H
          clear H
          have H := H1
          clear H1
         all_goals
          obtain rfl := Option.some.inj H
          have hnbx0 := NB383_327.out
          have hncx0 := NB327_383.out
          have hnbx1 := NB383_331.out
          have hncx1 := NB331_383.out
          have hnbx2 := NB383_335.out
          have hncx2 := NB335_383.out
          have hnbx3 := NB383_354.out
          have hncx3 := NB354_383.out
          have hnbx4 := NB383_355.out
          have hncx4 := NB355_383.out
          have hczx5_0 : wc.cell? ⟨gb383, 0, none⟩ = some (.int .i64 t381) := (blk_cell BK383.out 0).trans rfl
          have hczx5_1 : wc.cell? ⟨gb383, 1, none⟩ = some (.int .i64 t382) := (blk_cell BK383.out 1).trans rfl
          have hfzx5_0 := blk_frozen BK383.out 0
          have hfzx5_1 := blk_frozen BK383.out 1
          go_wp2_with (first | (go_at_call 19; (with_reducible refine (impl_IsOrient.calls t381 t386 _ _ A503.out).mono ?_); rintro e wx0 ⟨rfl, hb⟩; have n0_ := Aside0.mk (blk_below (g := gb327) (o := .cells #[.int .i64 t323, .int .i64 t324] 28 (0, 0)) (by (with_reducible repeat (first | refine blk_drewN ?_ _ | refine blk_drew ?_ | refine blk_alloc ?_ _)); exact BK327.out) hb); have n1_ := Aside0.mk (blk_below (g := gb331) (o := .cells #[.int .i64 t328, .int .i64 t329] 28 (0, 0)) (by (with_reducible repeat (first | refine blk_drewN ?_ _ | refine blk_drew ?_ | refine blk_alloc ?_ _)); exact BK331.out) hb); have n2_ := Aside0.mk (blk_below (g := gb335) (o := .cells #[.int .i64 t332, .int .i64 t333] 28 (0, 0)) (by (with_reducible repeat (first | refine blk_drewN ?_ _ | refine blk_drew ?_ | refine blk_alloc ?_ _)); exact BK335.out) hb); have n3_ := Aside0.mk (blk_below (g := gb354) (o := .cells #[.int .i64 t350, .int .i64 t351] 28 (0, 0)) (by (with_reducible repeat (first | refine blk_drewN ?_ _ | refine blk_drew ?_ | refine blk_alloc ?_ _)); exact BK354.out) hb); have n4_ := Aside0.mk (blk_below (g := gb355) (o := .cells #[.int .i64 t352, .int .i64 t353] 28 (0, 0)) (by (with_reducible repeat (first | refine blk_drewN ?_ _ | refine blk_drew ?_ | refine blk_alloc ?_ _)); exact BK355.out) hb); have n5_ := Aside0.mk (blk_below (g := gb383) (o := .cells #[.int .i64 t381, .int .i64 t382] 28 (0, 0)) (by (with_reducible repeat (first | refine blk_drewN ?_ _ | refine blk_drew ?_ | refine blk_alloc ?_ _)); exact BK383.out) hb); have n6_ := Aside0.mk (below_step (by repeat (first | (with_reducible first | exact HB.out | apply below_alloc | apply pw_below_drewN | apply below_drew1 | refine below_set ?_ GE327.out | refine below_set ?_ GE331.out | refine below_set ?_ GE335.out | refine below_set ?_ GE354.out | refine below_set ?_ GE355.out | refine below_set ?_ GE383.out) | exact HB.out)) hb); clear BK327; clear BK331; clear BK335; clear BK354; clear BK355; clear BK383; clear HB; have BK327 := n0_; have BK331 := n1_; have BK335 := n2_; have BK354 := n3_; have BK355 := n4_; have BK383 := n5_; have HB := n6_; clear n0_ n1_ n2_ n3_ n4_ n5_ n6_; (try clear hb); (try clear hb2); (try clear hk); (try clear hi); have hczx6_0 : wx0.cell? ⟨gb383, 0, none⟩ = some (.int .i64 t381) := (blk_cell BK383.out 0).trans rfl; have hczx6_1 : wx0.cell? ⟨gb383, 1, none⟩ = some (.int .i64 t382) := (blk_cell BK383.out 1).trans rfl; have hfzx6_0 := blk_frozen BK383.out 0; have hfzx6_1 := blk_frozen BK383.out 1) | (go_at_call 19; (with_reducible refine (impl_IsOrient.calls t382 t386 _ _ A505.out).mono ?_); rintro e wx1 ⟨rfl, hb⟩; have n0_ := Aside0.mk (blk_below (g := gb327) (o := .cells #[.int .i64 t323, .int .i64 t324] 28 (0, 0)) (by (with_reducible repeat (first | refine blk_drewN ?_ _ | refine blk_drew ?_ | refine blk_alloc ?_ _)); exact BK327.out) hb); have n1_ := Aside0.mk (blk_below (g := gb331) (o := .cells #[.int .i64 t328, .int .i64 t329] 28 (0, 0)) (by (with_reducible repeat (first | refine blk_drewN ?_ _ | refine blk_drew ?_ | refine blk_alloc ?_ _)); exact BK331.out) hb); have n2_ := Aside0.mk (blk_below (g := gb335) (o := .cells #[.int .i64 t332, .int .i64 t333] 28 (0, 0)) (by (with_reducible repeat (first | refine blk_drewN ?_ _ | refine blk_drew ?_ | refine blk_alloc ?_ _)); exact BK335.out) hb); have n3_ := Aside0.mk (blk_below (g := gb354) (o := .cells #[.int .i64 t350, .int .i64 t351] 28 (0, 0)) (by (with_reducible repeat (first | refine blk_drewN ?_ _ | refine blk_drew ?_ | refine blk_alloc ?_ _)); exact BK354.out) hb); have n4_ := Aside0.mk (blk_below (g := gb355) (o := .cells #[.int .i64 t352, .int .i64 t353] 28 (0, 0)) (by (with_reducible repeat (first | refine blk_drewN ?_ _ | refine blk_drew ?_ | refine blk_alloc ?_ _)); exact BK355.out) hb); have n5_ := Aside0.mk (blk_below (g := gb383) (o := .cells #[.int .i64 t381, .int .i64 t382] 28 (0, 0)) (by (with_reducible repeat (first | refine blk_drewN ?_ _ | refine blk_drew ?_ | refine blk_alloc ?_ _)); exact BK383.out) hb); have n6_ := Aside0.mk (below_step (by repeat (first | (with_reducible first | exact HB.out | apply below_alloc | apply pw_below_drewN | apply below_drew1 | refine below_set ?_ GE327.out | refine below_set ?_ GE331.out | refine below_set ?_ GE335.out | refine below_set ?_ GE354.out | refine below_set ?_ GE355.out | refine below_set ?_ GE383.out) | exact HB.out)) hb); clear BK327; clear BK331; clear BK335; clear BK354; clear BK355; clear BK383; clear HB; have BK327 := n0_; have BK331 := n1_; have BK335 := n2_; have BK354 := n3_; have BK355 := n4_; have BK383 := n5_; have HB := n6_; clear n0_ n1_ n2_ n3_ n4_ n5_ n6_; (try clear hb); (try clear hb2); (try clear hk); (try clear hi)))
         · go_ret
           exact ⟨by first | rfl | (simp [errW_none, errW_some] <;> rfl) | (simp [*, errW_none, errW_some] <;> rfl), by repeat (first | (with_reducible first | exact HB.out | apply below_alloc | apply pw_below_drewN | apply below_drew1 | refine below_set ?_ GE327.out | refine below_set ?_ GE331.out | refine below_set ?_ GE335.out | refine below_set ?_ GE354.out | refine below_set ?_ GE355.out | refine below_set ?_ GE383.out) | exact HB.out)⟩
         · go_ret
           exact ⟨by first | rfl | (simp [errW_none, errW_some] <;> rfl) | (simp [*, errW_none, errW_some] <;> rfl), by repeat (first | (with_reducible first | exact HB.out | apply below_alloc | apply pw_below_drewN | apply below_drew1 | refine below_set ?_ GE327.out | refine below_set ?_ GE331.out | refine below_set ?_ GE335.out | refine below_set ?_ GE354.out | refine below_set ?_ GE355.out | refine below_set ?_ GE383.out) | exact HB.out)⟩
      ·
       replace c488 := Bool.eq_false_iff.mpr c488
       subst c488
       have H1 : (some true) = some r := by rw [if_neg (show ¬ (false = true) by decide)] at H; exact H
       clear H
       have H := H1
       clear H1
       obtain rfl := Option.some.inj H
       go_wp2
       go_ret
       exact ⟨by first | rfl | (simp [errW_none, errW_some] <;> rfl) | (simp [*, errW_none, errW_some] <;> rfl), by repeat (first | (with_reducible first | exact HB.out | apply below_alloc | apply pw_below_drewN | apply below_drew1 | refine below_set ?_ GE327.out | refine below_set ?_ GE331.out | refine below_set ?_ GE335.out | refine below_set ?_ GE354.out | refine below_set ?_ GE355.out | refine below_set ?_ GE383.out) | exact HB.out)⟩
  
end Go.Proofs.Ytafpehjedkplpaa.FB
