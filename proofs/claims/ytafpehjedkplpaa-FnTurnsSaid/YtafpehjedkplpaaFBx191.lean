import Derived.Test.YtafpehjedkplpaaFBx0
import Derived.Test.YtafpehjedkplpaaFBx1
import Derived.Test.YtafpehjedkplpaaFBx2
import Derived.Test.YtafpehjedkplpaaFBx4
import Derived.Test.YtafpehjedkplpaaFBx6
import Derived.Test.YtafpehjedkplpaaFBx7
import Derived.Test.YtafpehjedkplpaaFBx9
import Derived.Test.YtafpehjedkplpaaFBx11
import Derived.Test.YtafpehjedkplpaaFBx13
import Derived.Test.YtafpehjedkplpaaFBx14
import Derived.Test.YtafpehjedkplpaaFBx16
import Derived.Test.YtafpehjedkplpaaFBx17
import Derived.Test.YtafpehjedkplpaaFBx18
import Derived.Test.YtafpehjedkplpaaFBx193
-- laid by pr.py (wip/tools) over the kit's printer; Lean checks it
namespace Go.Proofs.Ytafpehjedkplpaa.FB
open Go.RowKit Go.Proofs.YtafpehjedkplpaaW.PrintWords Go.Proofs.YtafpehjedkplpaaW.PrintLast Go.Proofs.YtafpehjedkplpaaW.PrintMore
attribute [local go_sem] max2_int min2_int max_two min_two max_three min_three max_four min_four   -- for this text's walks alone
set_option linter.unusedVariables false
set_option linter.unusedSimpArgs false

attribute [local go_sem high] eqA28
/-! #### a part of the walk of laws_FnTurns -/
set_option maxHeartbeats 8000000 in
set_option maxRecDepth 100000 in
theorem laws_FnTurns.R1 (k : Nat) (A0 : Option Addr) (c0 : Nat) (l0 : List Int) (A1 : Option Addr) (c1 : Nat) (l1 : List Int) (r : Bool) (w : World) (HR1 : Aside0 (Kd.C (Kd.int IntKind.u8) w A1 (List.length l1) l1)) (HC1 : Aside0 (List.length l1 ≤ c1)) (t323 : Int) (t324 : Int) (t325 : Int) (t326 : Int) (t328 : Int) (t329 : Int) (t330 : Bool) (t332 : Int) (t333 : Int) (t334 : Bool) (nd : Nat) (gb327 : Nat) (GE327 : Aside0 (Array.size (World.heap w) ≤ gb327)) (gb331 : Nat) (GE331 : Aside0 (Array.size (World.heap w) ≤ gb331)) (gb335 : Nat) (GE335 : Aside0 (Array.size (World.heap w) ≤ gb335)) (kj7 : Nat) (HJ7 : Aside0 (kj7 + 1 ≤ k)) (HC29 : Aside0
    ((if t330 = true then
        Option.bind (impl_TurnHand.f kj7 t328 t329 t325 (wrap64 (-t326))) fun bt336 =>
          if Prod.snd (Prod.snd bt336) = true then
            if (!Prod.fst bt336 == t323 || !Prod.fst (Prod.snd bt336) == t324) = true then j1 kj7 l1 t325 true t323 t324
            else Option.bind (impl_IsOrient.f t328 t329) fun t340 => j1 kj7 l1 t325 (!t340) t323 t324
          else j1 kj7 l1 t325 true t323 t324
      else j3 kj7 l1) =
      some r)) (wc : World) (u4 : Value) (u12 : Value) (u13 : Value) (u14 : Value) (u15 : Value) (u16 : Value) (u17 : Value) (u18 : Value) (u19 : Value) (u44 : Value) (u45 : Value) (u46 : Value) (u47 : Value) (u48 : Value) (u49 : Value) (u50 : Value) (u51 : Value) (u52 : Value) (u53 : Value) (u54 : Value) (u55 : Value) (u56 : Value) (u57 : Value) (u58 : Value) (u59 : Value) (u60 : Value) (u61 : Value) (u62 : Value) (u63 : Value) (u64 : Value) (u65 : Value) (u66 : Value) (u67 : Value) (u68 : Value) (u69 : Value) (u70 : Value) (u71 : Value) (u72 : Value) (u73 : Value) (u74 : Value) (u75 : Value) (u76 : Value) (u77 : Value) (u78 : Value) (u79 : Value) (u80 : Value) (u81 : Value) (u82 : Value) (u83 : Value) (u84 : Value) (u85 : Value) (u86 : Value) (u87 : Value) (u88 : Value) (u89 : Value) (u90 : Value) (u91 : Value) (u92 : Value) (u93 : Value) (u94 : Value) (u95 : Value) (u96 : Value) (u97 : Value) (u98 : Value) (u99 : Value) (u100 : Value) (u101 : Value) (u102 : Value) (u103 : Value) (u104 : Value) (u105 : Value) (u106 : Value) (u107 : Value) (u108 : Value) (u109 : Value) (u110 : Value) (u111 : Value) (u112 : Value) (u113 : Value) (u114 : Value) (u115 : Value) (u116 : Value) (u117 : Value) (u118 : Value) (u119 : Value) (u120 : Value) (u121 : Value) (u122 : Value) (u123 : Value) (u124 : Value) (u125 : Value) (u126 : Value) (u127 : Value) (u128 : Value) (u129 : Value) (u130 : Value) (u131 : Value) (u132 : Value) (u133 : Value) (u134 : Value) (u135 : Value) (u136 : Value) (u137 : Value) (u138 : Value) (u139 : Value) (u140 : Value) (u141 : Value) (u142 : Value) (u143 : Value) (u144 : Value) (u145 : Value) (u146 : Value) (u147 : Value) (u148 : Value) (u149 : Value) (u150 : Value) (u151 : Value) (u152 : Value) (u153 : Value) (u154 : Value) (u155 : Value) (u156 : Value) (u157 : Value) (u158 : Value) (u159 : Value) (u160 : Value) (u161 : Value) (u162 : Value) (u163 : Value) (u164 : Value) (u165 : Value) (u166 : Value) (u167 : Value) (u168 : Value) (u169 : Value) (u170 : Value) (u171 : Value) (u172 : Value) (u173 : Value) (u174 : Value) (u175 : Value) (u176 : Value) (u177 : Value) (u178 : Value) (u179 : Value) (u180 : Value) (u181 : Value) (u182 : Value) (u183 : Value) (u184 : Value) (u185 : Value) (u186 : Value) (u187 : Value) (u188 : Value) (u192 : Value) (u193 : Value) (u194 : Value) (u195 : Value) (u196 : Value) (u197 : Value) (u198 : Value) (u199 : Value) (u200 : Value) (u201 : Value) (u202 : Value) (u203 : Value) (u204 : Value) (u205 : Value) (u206 : Value) (u207 : Value) (u208 : Value) (u209 : Value) (u210 : Value) (u211 : Value) (u212 : Value) (u213 : Value) (u214 : Value) (u215 : Value) (u216 : Value) (u217 : Value) (u218 : Value) (u219 : Value) (u220 : Value) (u221 : Value) (u222 : Value) (u223 : Value) (u224 : Value) (u225 : Value) (u226 : Value) (u227 : Value) (u228 : Value) (u229 : Value) (u230 : Value) (u231 : Value) (u232 : Value) (u233 : Value) (u234 : Value) (u235 : Value) (u236 : Value) (u237 : Value) (u238 : Value) (u239 : Value) (u240 : Value) (u241 : Value) (u242 : Value) (u243 : Value) (u244 : Value) (u245 : Value) (u246 : Value) (u247 : Value) (u248 : Value) (u249 : Value) (u250 : Value) (u251 : Value) (u252 : Value) (u253 : Value) (u254 : Value) (u255 : Value) (u256 : Value) (u257 : Value) (u258 : Value) (u259 : Value) (u260 : Value) (u261 : Value) (u262 : Value) (u263 : Value) (u264 : Value) (u265 : Value) (u266 : Value) (u267 : Value) (u268 : Value) (u269 : Value) (u270 : Value) (u271 : Value) (u272 : Value) (u273 : Value) (u274 : Value) (u275 : Value) (u276 : Value) (u277 : Value) (u278 : Value) (u279 : Value) (u280 : Value) (u281 : Value) (u282 : Value) (u283 : Value) (u284 : Value) (u285 : Value) (u286 : Value) (u287 : Value) (u288 : Value) (u289 : Value) (u290 : Value) (u291 : Value) (u292 : Value) (u293 : Value) (u294 : Value) (u295 : Value) (u296 : Value) (u297 : Value) (hcut : ∃ kq,
    Aside0 (j3 kq l1 = some r) ∧
      Aside0 (kq ≤ kj7) ∧
        Aside0
            ((World.heap wc)[gb327]? = some (Obj.cells #[Value.int IntKind.i64 t323, Value.int IntKind.i64 t324] 28)) ∧
          Aside0
              ((World.heap wc)[gb331]? =
                some (Obj.cells #[Value.int IntKind.i64 t328, Value.int IntKind.i64 t329] 28)) ∧
            Aside0
                ((World.heap wc)[gb335]? =
                  some (Obj.cells #[Value.int IntKind.i64 t332, Value.int IntKind.i64 t333] 28)) ∧
              Aside0 (Below (Array.size (World.heap w)) w wc)) (K_ : Act → World → Prop) (hK_ : ∀ (a_ : Act) (w_ : World), Code.wp Try.prog (laws_FnTurns.dropSeq 7 (Try.f14.body.getD .skip)) (bodyPost Try.prog Try.f14 fun e w' => e = .returned (.bool r) ∧ Below w.heap.size w w') a_ w_ → K_ a_ w_) :
    K_ {
      tmps :=
        #[Value.slice A0 (List.length l0) c0, Value.slice A1 (List.length l1) c1, undef, undef, u4,
          Value.pointer (some { block := gb327, off := 0 }), Value.int IntKind.i64 t325, Value.int IntKind.i64 t326,
          Value.pointer (some { block := gb331, off := 0 }), Value.bool t330,
          Value.pointer (some { block := gb335, off := 0 }), Value.bool t334, u12, u13, u14, u15, u16, u17, u18, u19,
          undef, undef, undef, undef, undef, undef, undef, undef, undef, undef, undef, undef, undef, undef, undef,
          undef, undef, undef, undef, undef, undef, undef, undef, undef, u44, u45, u46, u47, u48, u49, u50, u51, u52,
          u53, u54, u55, u56, u57, u58, u59, u60, u61, u62, u63, u64, u65, u66, u67, u68, u69, u70, u71, u72, u73, u74,
          u75, u76, u77, u78, u79, u80, u81, u82, u83, u84, u85, u86, u87, u88, u89, u90, u91, u92, u93, u94, u95, u96,
          u97, u98, u99, u100, u101, u102, u103, u104, u105, u106, u107, u108, u109, u110, u111, u112, u113, u114, u115,
          u116, u117, u118, u119, u120, u121, u122, u123, u124, u125, u126, u127, u128, u129, u130, u131, u132, u133,
          u134, u135, u136, u137, u138, u139, u140, u141, u142, u143, u144, u145, u146, u147, u148, u149, u150, u151,
          u152, u153, u154, u155, u156, u157, u158, u159, u160, u161, u162, u163, u164, u165, u166, u167, u168, u169,
          u170, u171, u172, u173, u174, u175, u176, u177, u178, u179, u180, u181, u182, u183, u184, u185, u186, u187,
          u188, undef, undef, undef, u192, u193, u194, u195, u196, u197, u198, u199, u200, u201, u202, u203, u204, u205,
          u206, u207, u208, u209, u210, u211, u212, u213, u214, u215, u216, u217, u218, u219, u220, u221, u222, u223,
          u224, u225, u226, u227, u228, u229, u230, u231, u232, u233, u234, u235, u236, u237, u238, u239, u240, u241,
          u242, u243, u244, u245, u246, u247, u248, u249, u250, u251, u252, u253, u254, u255, u256, u257, u258, u259,
          u260, u261, u262, u263, u264, u265, u266, u267, u268, u269, u270, u271, u272, u273, u274, u275, u276, u277,
          u278, u279, u280, u281, u282, u283, u284, u285, u286, u287, u288, u289, u290, u291, u292, u293, u294, u295,
          u296, u297],
      defers := [] } wc := by
  refine hK_ _ _ ?_
  clear hK_
  conv => arg 2; whnf
  clear HC29
  (try clear c1); (try clear c22b0); (try clear c22b1); (try clear c22b2); (try clear c43b0); (try clear c73b0); (try clear c78b0); (try clear c174b0)
  obtain ⟨kq, HA, HJ28, BK327, BK331, BK335, HB⟩ := hcut
  cases kq with
  | zero => exact absurd HA.out (by simp [laws_FnTurns.j3])
  | succ kj28 =>
   have H := HA.out
   clear HA
   simp only [laws_FnTurns.j3] at H
   replace H := Option.bind_eq_some_iff.mp H
   obtain ⟨⟨t350, t351, t352, t353⟩, A1930, H⟩ := H
   replace H : ((impl_TurnWay.f kj28 t350 t351 t352 t353).bind fun bt356 => ((spec_TurnWay.f kj28 t350 t351 t352 t353).bind fun bt360 => ((impl_LeastTurns.f kj28 t350 t351 t352 t353).bind fun bt364 => ((spec_LeastTurns.f kj28 t350 t351 t352 t353).bind fun bt366 => (if (bt356.2 != bt360.2) = true then (laws_FnTurns.j4 kj28 l1 bt356.2 bt360.1 bt366.1 true t350 t351 t352 t353) else ((laws_sameInts.f kj28 bt356.1 bt360.1).bind fun t368 => (if t368 = true then (if (bt364.2 != bt366.2) = true then (laws_FnTurns.j4 kj28 l1 bt356.2 bt360.1 bt366.1 true t350 t351 t352 t353) else (if bt364.1 = bt366.1 then (laws_FnTurns.j4 kj28 l1 bt356.2 bt360.1 bt366.1 (bt356.2 != bt364.2) t350 t351 t352 t353) else (laws_FnTurns.j4 kj28 l1 bt356.2 bt360.1 bt366.1 true t350 t351 t352 t353))) else (laws_FnTurns.j4 kj28 l1 bt356.2 bt360.1 bt366.1 true t350 t351 t352 t353)))))))) = some r := H
   have A193 := Aside0.mk A1930
   clear A1930
   replace H := Option.bind_eq_some_iff.mp H
   obtain ⟨⟨t356, t359⟩, A1940, H⟩ := H
   replace H : ((spec_TurnWay.f kj28 t350 t351 t352 t353).bind fun bt360 => ((impl_LeastTurns.f kj28 t350 t351 t352 t353).bind fun bt364 => ((spec_LeastTurns.f kj28 t350 t351 t352 t353).bind fun bt366 => (if (t359 != bt360.2) = true then (laws_FnTurns.j4 kj28 l1 t359 bt360.1 bt366.1 true t350 t351 t352 t353) else ((laws_sameInts.f kj28 t356 bt360.1).bind fun t368 => (if t368 = true then (if (bt364.2 != bt366.2) = true then (laws_FnTurns.j4 kj28 l1 t359 bt360.1 bt366.1 true t350 t351 t352 t353) else (if bt364.1 = bt366.1 then (laws_FnTurns.j4 kj28 l1 t359 bt360.1 bt366.1 (t359 != bt364.2) t350 t351 t352 t353) else (laws_FnTurns.j4 kj28 l1 t359 bt360.1 bt366.1 true t350 t351 t352 t353))) else (laws_FnTurns.j4 kj28 l1 t359 bt360.1 bt366.1 true t350 t351 t352 t353))))))) = some r := H
   have A194 := Aside0.mk A1940
   clear A1940
   replace H := Option.bind_eq_some_iff.mp H
   obtain ⟨⟨t360, t363⟩, A1950, H⟩ := H
   replace H : ((impl_LeastTurns.f kj28 t350 t351 t352 t353).bind fun bt364 => ((spec_LeastTurns.f kj28 t350 t351 t352 t353).bind fun bt366 => (if (t359 != t363) = true then (laws_FnTurns.j4 kj28 l1 t359 t360 bt366.1 true t350 t351 t352 t353) else ((laws_sameInts.f kj28 t356 t360).bind fun t368 => (if t368 = true then (if (bt364.2 != bt366.2) = true then (laws_FnTurns.j4 kj28 l1 t359 t360 bt366.1 true t350 t351 t352 t353) else (if bt364.1 = bt366.1 then (laws_FnTurns.j4 kj28 l1 t359 t360 bt366.1 (t359 != bt364.2) t350 t351 t352 t353) else (laws_FnTurns.j4 kj28 l1 t359 t360 bt366.1 true t350 t351 t352 t353))) else (laws_FnTurns.j4 kj28 l1 t359 t360 bt366.1 true t350 t351 t352 t353)))))) = some r := H
   have A195 := Aside0.mk A1950
   clear A1950
   replace H := Option.bind_eq_some_iff.mp H
   obtain ⟨⟨t364, t365⟩, A1960, H⟩ := H
   replace H : ((spec_LeastTurns.f kj28 t350 t351 t352 t353).bind fun bt366 => (if (t359 != t363) = true then (laws_FnTurns.j4 kj28 l1 t359 t360 bt366.1 true t350 t351 t352 t353) else ((laws_sameInts.f kj28 t356 t360).bind fun t368 => (if t368 = true then (if (t365 != bt366.2) = true then (laws_FnTurns.j4 kj28 l1 t359 t360 bt366.1 true t350 t351 t352 t353) else (if t364 = bt366.1 then (laws_FnTurns.j4 kj28 l1 t359 t360 bt366.1 (t359 != t365) t350 t351 t352 t353) else (laws_FnTurns.j4 kj28 l1 t359 t360 bt366.1 true t350 t351 t352 t353))) else (laws_FnTurns.j4 kj28 l1 t359 t360 bt366.1 true t350 t351 t352 t353))))) = some r := H
   have A196 := Aside0.mk A1960
   clear A1960
   replace H := Option.bind_eq_some_iff.mp H
   obtain ⟨⟨t366, t367⟩, A1970, H⟩ := H
   replace H : (if (t359 != t363) = true then (laws_FnTurns.j4 kj28 l1 t359 t360 t366 true t350 t351 t352 t353) else ((laws_sameInts.f kj28 t356 t360).bind fun t368 => (if t368 = true then (if (t365 != t367) = true then (laws_FnTurns.j4 kj28 l1 t359 t360 t366 true t350 t351 t352 t353) else (if t364 = t366 then (laws_FnTurns.j4 kj28 l1 t359 t360 t366 (t359 != t365) t350 t351 t352 t353) else (laws_FnTurns.j4 kj28 l1 t359 t360 t366 true t350 t351 t352 t353))) else (laws_FnTurns.j4 kj28 l1 t359 t360 t366 true t350 t351 t352 t353)))) = some r := H
   have A197 := Aside0.mk A1970
   clear A1970
   have HC198 := Aside0.mk H
   clear H
   go_upto_region 28 with (first | ((with_reducible refine gate_callee (f := 47) rfl ?_); refine goesL_ (some 130) rfl rfl Try.func47 (by as_aux_lemma => kernel_rfl) rfl #[.slice A1 l1.length c1] rfl (by (try simp only [List.map_toArray, List.map_cons, List.map_nil]); first | done | rfl | (simp only [List.length_drop, List.length_take]; rfl)) ?_; (with_reducible refine (spec_DrawTurnWay.calls kj28 _ _ l1 t350 t351 t352 t353 _ ?side1 ?side2 A193.out).mono ?_); (case side1 => repeat (first | exact (Kd.C_below HR1.out HB.out) | (with_reducible refine Kd.C_alloc ?_ _) | (with_reducible refine Kd.C_drewN ?_ _) | (with_reducible refine Kd.C_drew ?_))); (case side2 => exact HC1.out); rintro e w199 ⟨rfl, hb⟩; refine ⟨_, rfl, ?_⟩; have n0_ := Aside0.mk (blk_below (g := gb327) (o := .cells #[.int .i64 t323, .int .i64 t324] 28 (0, 0)) (by (with_reducible repeat (first | refine blk_drewN ?_ _ | refine blk_drew ?_ | refine blk_alloc ?_ _)); exact BK327.out) hb); have n1_ := Aside0.mk (blk_below (g := gb331) (o := .cells #[.int .i64 t328, .int .i64 t329] 28 (0, 0)) (by (with_reducible repeat (first | refine blk_drewN ?_ _ | refine blk_drew ?_ | refine blk_alloc ?_ _)); exact BK331.out) hb); have n2_ := Aside0.mk (blk_below (g := gb335) (o := .cells #[.int .i64 t332, .int .i64 t333] 28 (0, 0)) (by (with_reducible repeat (first | refine blk_drewN ?_ _ | refine blk_drew ?_ | refine blk_alloc ?_ _)); exact BK335.out) hb); have n3_ := Aside0.mk (below_step (by repeat (first | (with_reducible first | exact HB.out | apply below_alloc | apply pw_below_drewN | apply below_drew1 | refine below_set ?_ GE327.out | refine below_set ?_ GE331.out | refine below_set ?_ GE335.out) | exact HB.out)) hb); clear BK327; clear BK331; clear BK335; clear HB; have BK327 := n0_; have BK331 := n1_; have BK335 := n2_; have HB := n3_; clear n0_ n1_ n2_ n3_; (try clear hb); (try clear hb2); (try clear hk); (try clear hi)) | ((with_reducible refine gate_dst (N := 20) rfl ?_); refine box_event ?hg (N := 20) ?hd (cs := #[.int .i64 0, .int .i64 0]) (t := 28) ?hr ?_; (case hd => rfl); (case hg => rfl); (case hr => first | (go_simp; done) | (go_simp; rfl)); intro gb354 hg w200 hbox hb; have n0_ := Aside0.mk (blk_below (g := gb327) (o := .cells #[.int .i64 t323, .int .i64 t324] 28 (0, 0)) (by (with_reducible repeat (first | refine blk_drewN ?_ _ | refine blk_drew ?_ | refine blk_alloc ?_ _)); exact BK327.out) hb); have n1_ := Aside0.mk (blk_below (g := gb331) (o := .cells #[.int .i64 t328, .int .i64 t329] 28 (0, 0)) (by (with_reducible repeat (first | refine blk_drewN ?_ _ | refine blk_drew ?_ | refine blk_alloc ?_ _)); exact BK331.out) hb); have n2_ := Aside0.mk (blk_below (g := gb335) (o := .cells #[.int .i64 t332, .int .i64 t333] 28 (0, 0)) (by (with_reducible repeat (first | refine blk_drewN ?_ _ | refine blk_drew ?_ | refine blk_alloc ?_ _)); exact BK335.out) hb); have n3_ := Aside0.mk (below_step (by repeat (first | (with_reducible first | exact HB.out | apply below_alloc | apply pw_below_drewN | apply below_drew1 | refine below_set ?_ GE327.out | refine below_set ?_ GE331.out | refine below_set ?_ GE335.out) | exact HB.out)) hb); have n4_ := Aside0.mk (hbox); have n5_ := Aside0.mk ((by rw [hg]; exact (below_size (by repeat (first | (with_reducible first | exact HB.out | apply below_alloc | apply pw_below_drewN | apply below_drew1 | refine below_set ?_ GE327.out | refine below_set ?_ GE331.out | refine below_set ?_ GE335.out) | exact HB.out))) : w.heap.size ≤ gb354)); have n6_ := Aside0.mk ((by rw [hg]; exact (below_size (by repeat (first | (with_reducible first | exact HB.out | apply below_alloc | apply pw_below_drewN | apply below_drew1 | refine below_set ?_ GE327.out | refine below_set ?_ GE331.out | refine below_set ?_ GE335.out) | exact HB.out))) : w.heap.size ≤ gb354)); have n7_ := Aside0.mk ((by rw [hg]; exact Nat.ne_of_lt (blk_lt (g := gb327) (o := .cells #[.int .i64 t323, .int .i64 t324] 28 (0, 0)) (by (with_reducible repeat (first | refine blk_drewN ?_ _ | refine blk_drew ?_ | refine blk_alloc ?_ _)); exact BK327.out)) : gb327 ≠ gb354)); have n8_ := Aside0.mk ((by rw [hg]; exact Nat.ne_of_gt (blk_lt (g := gb327) (o := .cells #[.int .i64 t323, .int .i64 t324] 28 (0, 0)) (by (with_reducible repeat (first | refine blk_drewN ?_ _ | refine blk_drew ?_ | refine blk_alloc ?_ _)); exact BK327.out)) : gb354 ≠ gb327)); have n9_ := Aside0.mk ((by rw [hg]; exact Nat.ne_of_lt (blk_lt (g := gb331) (o := .cells #[.int .i64 t328, .int .i64 t329] 28 (0, 0)) (by (with_reducible repeat (first | refine blk_drewN ?_ _ | refine blk_drew ?_ | refine blk_alloc ?_ _)); exact BK331.out)) : gb331 ≠ gb354)); have n10_ := Aside0.mk ((by rw [hg]; exact Nat.ne_of_gt (blk_lt (g := gb331) (o := .cells #[.int .i64 t328, .int .i64 t329] 28 (0, 0)) (by (with_reducible repeat (first | refine blk_drewN ?_ _ | refine blk_drew ?_ | refine blk_alloc ?_ _)); exact BK331.out)) : gb354 ≠ gb331)); have n11_ := Aside0.mk ((by rw [hg]; exact Nat.ne_of_lt (blk_lt (g := gb335) (o := .cells #[.int .i64 t332, .int .i64 t333] 28 (0, 0)) (by (with_reducible repeat (first | refine blk_drewN ?_ _ | refine blk_drew ?_ | refine blk_alloc ?_ _)); exact BK335.out)) : gb335 ≠ gb354)); have n12_ := Aside0.mk ((by rw [hg]; exact Nat.ne_of_gt (blk_lt (g := gb335) (o := .cells #[.int .i64 t332, .int .i64 t333] 28 (0, 0)) (by (with_reducible repeat (first | refine blk_drewN ?_ _ | refine blk_drew ?_ | refine blk_alloc ?_ _)); exact BK335.out)) : gb354 ≠ gb335)); clear BK327; clear BK331; clear BK335; clear HB; have BK327 := n0_; have BK331 := n1_; have BK335 := n2_; have HB := n3_; have BK354 := n4_; have GW354 := n5_; have GE354 := n6_; have NB327_354 := n7_; have NB354_327 := n8_; have NB331_354 := n9_; have NB354_331 := n10_; have NB335_354 := n11_; have NB354_335 := n12_; clear n0_ n1_ n2_ n3_ n4_ n5_ n6_ n7_ n8_ n9_ n10_ n11_ n12_; clear hb hbox hg) | ((with_reducible refine gate_dst (N := 21) rfl ?_); refine box_event ?hg (N := 21) ?hd (cs := #[.int .i64 0, .int .i64 0]) (t := 28) ?hr ?_; (case hd => rfl); (case hg => rfl); (case hr => first | (go_simp; done) | (go_simp; rfl)); intro gb355 hg w201 hbox hb; have n0_ := Aside0.mk (blk_below (g := gb327) (o := .cells #[.int .i64 t323, .int .i64 t324] 28 (0, 0)) (by (with_reducible repeat (first | refine blk_drewN ?_ _ | refine blk_drew ?_ | refine blk_alloc ?_ _)); exact BK327.out) hb); have n1_ := Aside0.mk (blk_below (g := gb331) (o := .cells #[.int .i64 t328, .int .i64 t329] 28 (0, 0)) (by (with_reducible repeat (first | refine blk_drewN ?_ _ | refine blk_drew ?_ | refine blk_alloc ?_ _)); exact BK331.out) hb); have n2_ := Aside0.mk (blk_below (g := gb335) (o := .cells #[.int .i64 t332, .int .i64 t333] 28 (0, 0)) (by (with_reducible repeat (first | refine blk_drewN ?_ _ | refine blk_drew ?_ | refine blk_alloc ?_ _)); exact BK335.out) hb); have n3_ := Aside0.mk (blk_below (g := gb354) (o := .cells #[.int .i64 0, .int .i64 0] 28 (0, 0)) (by (with_reducible repeat (first | refine blk_drewN ?_ _ | refine blk_drew ?_ | refine blk_alloc ?_ _)); exact BK354.out) hb); have n4_ := Aside0.mk (below_step (by repeat (first | (with_reducible first | exact HB.out | apply below_alloc | apply pw_below_drewN | apply below_drew1 | refine below_set ?_ GE327.out | refine below_set ?_ GE331.out | refine below_set ?_ GE335.out | refine below_set ?_ GE354.out) | exact HB.out)) hb); have n5_ := Aside0.mk (hbox); have n6_ := Aside0.mk ((by rw [hg]; exact (below_size (by repeat (first | (with_reducible first | exact HB.out | apply below_alloc | apply pw_below_drewN | apply below_drew1 | refine below_set ?_ GE327.out | refine below_set ?_ GE331.out | refine below_set ?_ GE335.out | refine below_set ?_ GE354.out) | exact HB.out))) : w.heap.size ≤ gb355)); have n7_ := Aside0.mk ((by rw [hg]; exact (below_size (by repeat (first | (with_reducible first | exact HB.out | apply below_alloc | apply pw_below_drewN | apply below_drew1 | refine below_set ?_ GE327.out | refine below_set ?_ GE331.out | refine below_set ?_ GE335.out | refine below_set ?_ GE354.out) | exact HB.out))) : w.heap.size ≤ gb355)); have n8_ := Aside0.mk ((by rw [hg]; exact Nat.ne_of_lt (blk_lt (g := gb327) (o := .cells #[.int .i64 t323, .int .i64 t324] 28 (0, 0)) (by (with_reducible repeat (first | refine blk_drewN ?_ _ | refine blk_drew ?_ | refine blk_alloc ?_ _)); exact BK327.out)) : gb327 ≠ gb355)); have n9_ := Aside0.mk ((by rw [hg]; exact Nat.ne_of_gt (blk_lt (g := gb327) (o := .cells #[.int .i64 t323, .int .i64 t324] 28 (0, 0)) (by (with_reducible repeat (first | refine blk_drewN ?_ _ | refine blk_drew ?_ | refine blk_alloc ?_ _)); exact BK327.out)) : gb355 ≠ gb327)); have n10_ := Aside0.mk ((by rw [hg]; exact Nat.ne_of_lt (blk_lt (g := gb331) (o := .cells #[.int .i64 t328, .int .i64 t329] 28 (0, 0)) (by (with_reducible repeat (first | refine blk_drewN ?_ _ | refine blk_drew ?_ | refine blk_alloc ?_ _)); exact BK331.out)) : gb331 ≠ gb355)); have n11_ := Aside0.mk ((by rw [hg]; exact Nat.ne_of_gt (blk_lt (g := gb331) (o := .cells #[.int .i64 t328, .int .i64 t329] 28 (0, 0)) (by (with_reducible repeat (first | refine blk_drewN ?_ _ | refine blk_drew ?_ | refine blk_alloc ?_ _)); exact BK331.out)) : gb355 ≠ gb331)); have n12_ := Aside0.mk ((by rw [hg]; exact Nat.ne_of_lt (blk_lt (g := gb335) (o := .cells #[.int .i64 t332, .int .i64 t333] 28 (0, 0)) (by (with_reducible repeat (first | refine blk_drewN ?_ _ | refine blk_drew ?_ | refine blk_alloc ?_ _)); exact BK335.out)) : gb335 ≠ gb355)); have n13_ := Aside0.mk ((by rw [hg]; exact Nat.ne_of_gt (blk_lt (g := gb335) (o := .cells #[.int .i64 t332, .int .i64 t333] 28 (0, 0)) (by (with_reducible repeat (first | refine blk_drewN ?_ _ | refine blk_drew ?_ | refine blk_alloc ?_ _)); exact BK335.out)) : gb355 ≠ gb335)); have n14_ := Aside0.mk ((by rw [hg]; exact Nat.ne_of_lt (blk_lt (g := gb354) (o := .cells #[.int .i64 0, .int .i64 0] 28 (0, 0)) (by (with_reducible repeat (first | refine blk_drewN ?_ _ | refine blk_drew ?_ | refine blk_alloc ?_ _)); exact BK354.out)) : gb354 ≠ gb355)); have n15_ := Aside0.mk ((by rw [hg]; exact Nat.ne_of_gt (blk_lt (g := gb354) (o := .cells #[.int .i64 0, .int .i64 0] 28 (0, 0)) (by (with_reducible repeat (first | refine blk_drewN ?_ _ | refine blk_drew ?_ | refine blk_alloc ?_ _)); exact BK354.out)) : gb355 ≠ gb354)); clear BK327; clear BK331; clear BK335; clear BK354; clear HB; have BK327 := n0_; have BK331 := n1_; have BK335 := n2_; have BK354 := n3_; have HB := n4_; have BK355 := n5_; have GW355 := n6_; have GE355 := n7_; have NB327_355 := n8_; have NB355_327 := n9_; have NB331_355 := n10_; have NB355_331 := n11_; have NB335_355 := n12_; have NB355_335 := n13_; have NB354_355 := n14_; have NB355_354 := n15_; clear n0_ n1_ n2_ n3_ n4_ n5_ n6_ n7_ n8_ n9_ n10_ n11_ n12_ n13_ n14_ n15_; clear hb hbox hg; have hnb202 := NB354_327.out; have hnc202 := NB327_354.out; have hnb203 := NB354_331.out; have hnc203 := NB331_354.out; have hnb204 := NB354_335.out; have hnc204 := NB335_354.out; have hnb205 := NB354_355.out; have hnc205 := NB355_354.out; have hcz206_0 : w201.cell? ⟨gb354, 0, none⟩ = some (.int .i64 0) := (blk_cell BK354.out 0).trans rfl; have hcz206_1 : w201.cell? ⟨gb354, 1, none⟩ = some (.int .i64 0) := (blk_cell BK354.out 1).trans rfl; have hfz206_0 := blk_frozen BK354.out 0; have hfz206_1 := blk_frozen BK354.out 1; have hnb207 := NB355_327.out; have hnc207 := NB327_355.out; have hnb208 := NB355_331.out; have hnc208 := NB331_355.out; have hnb209 := NB355_335.out; have hnc209 := NB335_355.out; have hcz210_0 : w201.cell? ⟨gb355, 0, none⟩ = some (.int .i64 0) := (blk_cell BK355.out 0).trans rfl; have hcz210_1 : w201.cell? ⟨gb355, 1, none⟩ = some (.int .i64 0) := (blk_cell BK355.out 1).trans rfl; have hfz210_0 := blk_frozen BK355.out 0; have hfz210_1 := blk_frozen BK355.out 1) | ((with_reducible refine gate_callee (f := 41) rfl ?_); refine goesL_ (some 136) rfl rfl Try.func41 (by as_aux_lemma => kernel_rfl) rfl #[.agg #[.int .i64 t350, .int .i64 t351], .agg #[.int .i64 t352, .int .i64 t353]] rfl (by (try simp only [List.map_toArray, List.map_cons, List.map_nil]); first | done | rfl | (simp only [List.length_drop, List.length_take]; rfl)) ?_; (with_reducible refine (impl_TurnWay.calls kj28 t350 t351 t352 t353 t356 t359 _ A194.out).mono ?_); rintro e w211 ⟨v357, rfl, ho0, hb⟩; refine ⟨_, rfl, ?_⟩; have n0_ := Aside0.mk (Kd.R_lower ho0 (below_size (by repeat (first | (with_reducible first | exact HB.out | apply below_alloc | apply pw_below_drewN | apply below_drew1 | refine below_set ?_ GE327.out | refine below_set ?_ GE331.out | refine below_set ?_ GE335.out | refine below_set ?_ GE354.out | refine below_set ?_ GE355.out) | exact HB.out)))); have n1_ := Aside0.mk (blk_below (g := gb327) (o := .cells #[.int .i64 t323, .int .i64 t324] 28 (0, 0)) (by (with_reducible repeat (first | refine blk_drewN ?_ _ | refine blk_drew ?_ | refine blk_alloc ?_ _)); refine blk_far ?_ NB327_355.out _; (with_reducible repeat (first | refine blk_drewN ?_ _ | refine blk_drew ?_ | refine blk_alloc ?_ _)); refine blk_far ?_ NB327_355.out _; (with_reducible repeat (first | refine blk_drewN ?_ _ | refine blk_drew ?_ | refine blk_alloc ?_ _)); refine blk_far ?_ NB327_354.out _; (with_reducible repeat (first | refine blk_drewN ?_ _ | refine blk_drew ?_ | refine blk_alloc ?_ _)); refine blk_far ?_ NB327_354.out _; (with_reducible repeat (first | refine blk_drewN ?_ _ | refine blk_drew ?_ | refine blk_alloc ?_ _)); exact BK327.out) hb); have n2_ := Aside0.mk (blk_below (g := gb331) (o := .cells #[.int .i64 t328, .int .i64 t329] 28 (0, 0)) (by (with_reducible repeat (first | refine blk_drewN ?_ _ | refine blk_drew ?_ | refine blk_alloc ?_ _)); refine blk_far ?_ NB331_355.out _; (with_reducible repeat (first | refine blk_drewN ?_ _ | refine blk_drew ?_ | refine blk_alloc ?_ _)); refine blk_far ?_ NB331_355.out _; (with_reducible repeat (first | refine blk_drewN ?_ _ | refine blk_drew ?_ | refine blk_alloc ?_ _)); refine blk_far ?_ NB331_354.out _; (with_reducible repeat (first | refine blk_drewN ?_ _ | refine blk_drew ?_ | refine blk_alloc ?_ _)); refine blk_far ?_ NB331_354.out _; (with_reducible repeat (first | refine blk_drewN ?_ _ | refine blk_drew ?_ | refine blk_alloc ?_ _)); exact BK331.out) hb); have n3_ := Aside0.mk (blk_below (g := gb335) (o := .cells #[.int .i64 t332, .int .i64 t333] 28 (0, 0)) (by (with_reducible repeat (first | refine blk_drewN ?_ _ | refine blk_drew ?_ | refine blk_alloc ?_ _)); refine blk_far ?_ NB335_355.out _; (with_reducible repeat (first | refine blk_drewN ?_ _ | refine blk_drew ?_ | refine blk_alloc ?_ _)); refine blk_far ?_ NB335_355.out _; (with_reducible repeat (first | refine blk_drewN ?_ _ | refine blk_drew ?_ | refine blk_alloc ?_ _)); refine blk_far ?_ NB335_354.out _; (with_reducible repeat (first | refine blk_drewN ?_ _ | refine blk_drew ?_ | refine blk_alloc ?_ _)); refine blk_far ?_ NB335_354.out _; (with_reducible repeat (first | refine blk_drewN ?_ _ | refine blk_drew ?_ | refine blk_alloc ?_ _)); exact BK335.out) hb); have n4_ := Aside0.mk (blk_below (g := gb354) (o := .cells #[.int .i64 t350, .int .i64 t351] 28 (0, 0)) (by (with_reducible repeat (first | refine blk_drewN ?_ _ | refine blk_drew ?_ | refine blk_alloc ?_ _)); refine blk_far ?_ NB354_355.out _; (with_reducible repeat (first | refine blk_drewN ?_ _ | refine blk_drew ?_ | refine blk_alloc ?_ _)); refine blk_far ?_ NB354_355.out _; (with_reducible repeat (first | refine blk_drewN ?_ _ | refine blk_drew ?_ | refine blk_alloc ?_ _)); refine blk_put (cs := #[.int .i64 t350, .int .i64 0]) ?_ 1 _ rfl; (with_reducible repeat (first | refine blk_drewN ?_ _ | refine blk_drew ?_ | refine blk_alloc ?_ _)); refine blk_put (cs := #[.int .i64 0, .int .i64 0]) ?_ 0 _ rfl; (with_reducible repeat (first | refine blk_drewN ?_ _ | refine blk_drew ?_ | refine blk_alloc ?_ _)); exact BK354.out) hb); have n5_ := Aside0.mk (blk_below (g := gb355) (o := .cells #[.int .i64 t352, .int .i64 t353] 28 (0, 0)) (by (with_reducible repeat (first | refine blk_drewN ?_ _ | refine blk_drew ?_ | refine blk_alloc ?_ _)); refine blk_put (cs := #[.int .i64 t352, .int .i64 0]) ?_ 1 _ rfl; (with_reducible repeat (first | refine blk_drewN ?_ _ | refine blk_drew ?_ | refine blk_alloc ?_ _)); refine blk_put (cs := #[.int .i64 0, .int .i64 0]) ?_ 0 _ rfl; (with_reducible repeat (first | refine blk_drewN ?_ _ | refine blk_drew ?_ | refine blk_alloc ?_ _)); refine blk_far ?_ NB355_354.out _; (with_reducible repeat (first | refine blk_drewN ?_ _ | refine blk_drew ?_ | refine blk_alloc ?_ _)); refine blk_far ?_ NB355_354.out _; (with_reducible repeat (first | refine blk_drewN ?_ _ | refine blk_drew ?_ | refine blk_alloc ?_ _)); exact BK355.out) hb); have n6_ := Aside0.mk (below_step (by repeat (first | (with_reducible first | exact HB.out | apply below_alloc | apply pw_below_drewN | apply below_drew1 | refine below_set ?_ GE327.out | refine below_set ?_ GE331.out | refine below_set ?_ GE335.out | refine below_set ?_ GE354.out | refine below_set ?_ GE355.out) | exact HB.out)) hb); clear BK327; clear BK331; clear BK335; clear BK354; clear BK355; clear HB; have HO358 := n0_; have BK327 := n1_; have BK331 := n2_; have BK335 := n3_; have BK354 := n4_; have BK355 := n5_; have HB := n6_; clear n0_ n1_ n2_ n3_ n4_ n5_ n6_; (try clear hb); (try clear hb2); (try clear hk); (try clear hi); (try clear ho0); have hcz212_0 : w211.cell? ⟨gb354, 0, none⟩ = some (.int .i64 t350) := (blk_cell BK354.out 0).trans rfl; have hcz212_1 : w211.cell? ⟨gb354, 1, none⟩ = some (.int .i64 t351) := (blk_cell BK354.out 1).trans rfl; have hfz212_0 := blk_frozen BK354.out 0; have hfz212_1 := blk_frozen BK354.out 1; have hcz213_0 : w211.cell? ⟨gb355, 0, none⟩ = some (.int .i64 t352) := (blk_cell BK355.out 0).trans rfl; have hcz213_1 : w211.cell? ⟨gb355, 1, none⟩ = some (.int .i64 t353) := (blk_cell BK355.out 1).trans rfl; have hfz213_0 := blk_frozen BK355.out 0; have hfz213_1 := blk_frozen BK355.out 1) | ((with_reducible refine gate_callee (f := 40) rfl ?_); refine goesL_ (some 142) rfl rfl Try.func40 (by as_aux_lemma => kernel_rfl) rfl #[.agg #[.int .i64 t350, .int .i64 t351], .agg #[.int .i64 t352, .int .i64 t353]] rfl (by (try simp only [List.map_toArray, List.map_cons, List.map_nil]); first | done | rfl | (simp only [List.length_drop, List.length_take]; rfl)) ?_; (with_reducible refine (spec_TurnWay.calls kj28 t350 t351 t352 t353 t360 t363 _ A195.out).mono ?_); rintro e w214 ⟨v361, rfl, ho0, hb⟩; refine ⟨_, rfl, ?_⟩; have n0_ := Aside0.mk (Kd.R_elder' (by (with_reducible repeat (first | apply Kd.R_alloc | apply Kd.R_drewN | apply Kd.R_drew)); exact HO358.out) (Kd.R_base ho0) hb); have n1_ := Aside0.mk (Kd.R_lower (Kd.R_new' ho0 (Kd.R_lt (by (with_reducible repeat (first | apply Kd.R_alloc | apply Kd.R_drewN | apply Kd.R_drew)); exact HO358.out))) (below_size (by repeat (first | (with_reducible first | exact HB.out | apply below_alloc | apply pw_below_drewN | apply below_drew1 | refine below_set ?_ GE327.out | refine below_set ?_ GE331.out | refine below_set ?_ GE335.out | refine below_set ?_ GE354.out | refine below_set ?_ GE355.out) | exact HB.out)))); have n2_ := Aside0.mk (blk_below (g := gb327) (o := .cells #[.int .i64 t323, .int .i64 t324] 28 (0, 0)) (by (with_reducible repeat (first | refine blk_drewN ?_ _ | refine blk_drew ?_ | refine blk_alloc ?_ _)); exact BK327.out) hb); have n3_ := Aside0.mk (blk_below (g := gb331) (o := .cells #[.int .i64 t328, .int .i64 t329] 28 (0, 0)) (by (with_reducible repeat (first | refine blk_drewN ?_ _ | refine blk_drew ?_ | refine blk_alloc ?_ _)); exact BK331.out) hb); have n4_ := Aside0.mk (blk_below (g := gb335) (o := .cells #[.int .i64 t332, .int .i64 t333] 28 (0, 0)) (by (with_reducible repeat (first | refine blk_drewN ?_ _ | refine blk_drew ?_ | refine blk_alloc ?_ _)); exact BK335.out) hb); have n5_ := Aside0.mk (blk_below (g := gb354) (o := .cells #[.int .i64 t350, .int .i64 t351] 28 (0, 0)) (by (with_reducible repeat (first | refine blk_drewN ?_ _ | refine blk_drew ?_ | refine blk_alloc ?_ _)); exact BK354.out) hb); have n6_ := Aside0.mk (blk_below (g := gb355) (o := .cells #[.int .i64 t352, .int .i64 t353] 28 (0, 0)) (by (with_reducible repeat (first | refine blk_drewN ?_ _ | refine blk_drew ?_ | refine blk_alloc ?_ _)); exact BK355.out) hb); have n7_ := Aside0.mk (below_step (by repeat (first | (with_reducible first | exact HB.out | apply below_alloc | apply pw_below_drewN | apply below_drew1 | refine below_set ?_ GE327.out | refine below_set ?_ GE331.out | refine below_set ?_ GE335.out | refine below_set ?_ GE354.out | refine below_set ?_ GE355.out) | exact HB.out)) hb); clear HO358; clear BK327; clear BK331; clear BK335; clear BK354; clear BK355; clear HB; have HO358 := n0_; have HO362 := n1_; have BK327 := n2_; have BK331 := n3_; have BK335 := n4_; have BK354 := n5_; have BK355 := n6_; have HB := n7_; clear n0_ n1_ n2_ n3_ n4_ n5_ n6_ n7_; (try clear hb); (try clear hb2); (try clear hk); (try clear hi); (try clear ho0); have hcz215_0 : w214.cell? ⟨gb354, 0, none⟩ = some (.int .i64 t350) := (blk_cell BK354.out 0).trans rfl; have hcz215_1 : w214.cell? ⟨gb354, 1, none⟩ = some (.int .i64 t351) := (blk_cell BK354.out 1).trans rfl; have hfz215_0 := blk_frozen BK354.out 0; have hfz215_1 := blk_frozen BK354.out 1; have hcz216_0 : w214.cell? ⟨gb355, 0, none⟩ = some (.int .i64 t352) := (blk_cell BK355.out 0).trans rfl; have hcz216_1 : w214.cell? ⟨gb355, 1, none⟩ = some (.int .i64 t353) := (blk_cell BK355.out 1).trans rfl; have hfz216_0 := blk_frozen BK355.out 0; have hfz216_1 := blk_frozen BK355.out 1) | ((with_reducible refine gate_callee (f := 39) rfl ?_); refine goesL_ (some 148) rfl rfl Try.func39 (by as_aux_lemma => kernel_rfl) rfl #[.agg #[.int .i64 t350, .int .i64 t351], .agg #[.int .i64 t352, .int .i64 t353]] rfl (by (try simp only [List.map_toArray, List.map_cons, List.map_nil]); first | done | rfl | (simp only [List.length_drop, List.length_take]; rfl)) ?_; (with_reducible refine (impl_LeastTurns.calls kj28 t350 t351 t352 t353 t364 t365 _ A196.out).mono ?_); rintro e w217 ⟨rfl, hb⟩; refine ⟨_, rfl, ?_⟩; have n0_ := Aside0.mk (Kd.R_below (by (with_reducible repeat (first | apply Kd.R_alloc | apply Kd.R_drewN | apply Kd.R_drew)); exact HO358.out) hb); have n1_ := Aside0.mk (Kd.R_below (by (with_reducible repeat (first | apply Kd.R_alloc | apply Kd.R_drewN | apply Kd.R_drew)); exact HO362.out) hb); have n2_ := Aside0.mk (blk_below (g := gb327) (o := .cells #[.int .i64 t323, .int .i64 t324] 28 (0, 0)) (by (with_reducible repeat (first | refine blk_drewN ?_ _ | refine blk_drew ?_ | refine blk_alloc ?_ _)); exact BK327.out) hb); have n3_ := Aside0.mk (blk_below (g := gb331) (o := .cells #[.int .i64 t328, .int .i64 t329] 28 (0, 0)) (by (with_reducible repeat (first | refine blk_drewN ?_ _ | refine blk_drew ?_ | refine blk_alloc ?_ _)); exact BK331.out) hb); have n4_ := Aside0.mk (blk_below (g := gb335) (o := .cells #[.int .i64 t332, .int .i64 t333] 28 (0, 0)) (by (with_reducible repeat (first | refine blk_drewN ?_ _ | refine blk_drew ?_ | refine blk_alloc ?_ _)); exact BK335.out) hb); have n5_ := Aside0.mk (blk_below (g := gb354) (o := .cells #[.int .i64 t350, .int .i64 t351] 28 (0, 0)) (by (with_reducible repeat (first | refine blk_drewN ?_ _ | refine blk_drew ?_ | refine blk_alloc ?_ _)); exact BK354.out) hb); have n6_ := Aside0.mk (blk_below (g := gb355) (o := .cells #[.int .i64 t352, .int .i64 t353] 28 (0, 0)) (by (with_reducible repeat (first | refine blk_drewN ?_ _ | refine blk_drew ?_ | refine blk_alloc ?_ _)); exact BK355.out) hb); have n7_ := Aside0.mk (below_step (by repeat (first | (with_reducible first | exact HB.out | apply below_alloc | apply pw_below_drewN | apply below_drew1 | refine below_set ?_ GE327.out | refine below_set ?_ GE331.out | refine below_set ?_ GE335.out | refine below_set ?_ GE354.out | refine below_set ?_ GE355.out) | exact HB.out)) hb); clear HO358; clear HO362; clear BK327; clear BK331; clear BK335; clear BK354; clear BK355; clear HB; have HO358 := n0_; have HO362 := n1_; have BK327 := n2_; have BK331 := n3_; have BK335 := n4_; have BK354 := n5_; have BK355 := n6_; have HB := n7_; clear n0_ n1_ n2_ n3_ n4_ n5_ n6_ n7_; (try clear hb); (try clear hb2); (try clear hk); (try clear hi); have hcz218_0 : w217.cell? ⟨gb354, 0, none⟩ = some (.int .i64 t350) := (blk_cell BK354.out 0).trans rfl; have hcz218_1 : w217.cell? ⟨gb354, 1, none⟩ = some (.int .i64 t351) := (blk_cell BK354.out 1).trans rfl; have hfz218_0 := blk_frozen BK354.out 0; have hfz218_1 := blk_frozen BK354.out 1; have hcz219_0 : w217.cell? ⟨gb355, 0, none⟩ = some (.int .i64 t352) := (blk_cell BK355.out 0).trans rfl; have hcz219_1 : w217.cell? ⟨gb355, 1, none⟩ = some (.int .i64 t353) := (blk_cell BK355.out 1).trans rfl; have hfz219_0 := blk_frozen BK355.out 0; have hfz219_1 := blk_frozen BK355.out 1) | ((with_reducible refine gate_callee (f := 38) rfl ?_); refine goesL_ (some 154) rfl rfl Try.func38 (by as_aux_lemma => kernel_rfl) rfl #[.agg #[.int .i64 t350, .int .i64 t351], .agg #[.int .i64 t352, .int .i64 t353]] rfl (by (try simp only [List.map_toArray, List.map_cons, List.map_nil]); first | done | rfl | (simp only [List.length_drop, List.length_take]; rfl)) ?_; (with_reducible refine (spec_LeastTurns.calls kj28 t350 t351 t352 t353 t366 t367 _ A197.out).mono ?_); rintro e w220 ⟨rfl, hb⟩; refine ⟨_, rfl, ?_⟩; have n0_ := Aside0.mk (Kd.R_below (by (with_reducible repeat (first | apply Kd.R_alloc | apply Kd.R_drewN | apply Kd.R_drew)); exact HO358.out) hb); have n1_ := Aside0.mk (Kd.R_below (by (with_reducible repeat (first | apply Kd.R_alloc | apply Kd.R_drewN | apply Kd.R_drew)); exact HO362.out) hb); have n2_ := Aside0.mk (blk_below (g := gb327) (o := .cells #[.int .i64 t323, .int .i64 t324] 28 (0, 0)) (by (with_reducible repeat (first | refine blk_drewN ?_ _ | refine blk_drew ?_ | refine blk_alloc ?_ _)); exact BK327.out) hb); have n3_ := Aside0.mk (blk_below (g := gb331) (o := .cells #[.int .i64 t328, .int .i64 t329] 28 (0, 0)) (by (with_reducible repeat (first | refine blk_drewN ?_ _ | refine blk_drew ?_ | refine blk_alloc ?_ _)); exact BK331.out) hb); have n4_ := Aside0.mk (blk_below (g := gb335) (o := .cells #[.int .i64 t332, .int .i64 t333] 28 (0, 0)) (by (with_reducible repeat (first | refine blk_drewN ?_ _ | refine blk_drew ?_ | refine blk_alloc ?_ _)); exact BK335.out) hb); have n5_ := Aside0.mk (blk_below (g := gb354) (o := .cells #[.int .i64 t350, .int .i64 t351] 28 (0, 0)) (by (with_reducible repeat (first | refine blk_drewN ?_ _ | refine blk_drew ?_ | refine blk_alloc ?_ _)); exact BK354.out) hb); have n6_ := Aside0.mk (blk_below (g := gb355) (o := .cells #[.int .i64 t352, .int .i64 t353] 28 (0, 0)) (by (with_reducible repeat (first | refine blk_drewN ?_ _ | refine blk_drew ?_ | refine blk_alloc ?_ _)); exact BK355.out) hb); have n7_ := Aside0.mk (below_step (by repeat (first | (with_reducible first | exact HB.out | apply below_alloc | apply pw_below_drewN | apply below_drew1 | refine below_set ?_ GE327.out | refine below_set ?_ GE331.out | refine below_set ?_ GE335.out | refine below_set ?_ GE354.out | refine below_set ?_ GE355.out) | exact HB.out)) hb); clear HO358; clear HO362; clear BK327; clear BK331; clear BK335; clear BK354; clear BK355; clear HB; have HO358 := n0_; have HO362 := n1_; have BK327 := n2_; have BK331 := n3_; have BK335 := n4_; have BK354 := n5_; have BK355 := n6_; have HB := n7_; clear n0_ n1_ n2_ n3_ n4_ n5_ n6_ n7_; (try clear hb); (try clear hb2); (try clear hk); (try clear hi)))
   (try simp only [Act.put, List.setIfInBounds_toArray, List.set_cons_zero, List.set_cons_succ])
   go_cut [180] (fun v180 wc => ∃ (kq : Nat) (x180_197 : Bool), v180 = .bool x180_197 ∧ Aside0 (laws_FnTurns.j4 kq l1 t359 t360 t366 x180_197 t350 t351 t352 t353 = some r) ∧ Aside0 (kq ≤ kj28) ∧ Aside0 (Kd.R (Kd.int .i64) 3 wc w.heap.size (fun _ => True) v361 t360) ∧ Aside0 (wc.heap[gb327]? = some (.cells #[.int .i64 t323, .int .i64 t324] 28 (0, 0))) ∧ Aside0 (wc.heap[gb331]? = some (.cells #[.int .i64 t328, .int .i64 t329] 28 (0, 0))) ∧ Aside0 (wc.heap[gb335]? = some (.cells #[.int .i64 t332, .int .i64 t333] 28 (0, 0))) ∧ Aside0 (wc.heap[gb354]? = some (.cells #[.int .i64 t350, .int .i64 t351] 28 (0, 0))) ∧ Aside0 (wc.heap[gb355]? = some (.cells #[.int .i64 t352, .int .i64 t353] 28 (0, 0))) ∧ Aside0 (Below w.heap.size w wc))
   case first =>
    have H := HC198.out
    clear HC198
    by_cases c221 : (t359 != t363) = true
    ·
     rw [if_pos c221] at H
     have c221b0 : (t359 != t363) = true := c221
     (try (have c221b1 : decide (t359 = t363) = false := by simpa using c221))
     (try (have c221b2 : (t359 == t363) = false := by simpa using c221))
     (try (have c221b3 : ¬ (t359 = t363) := by simpa using c221))
     clear c221
     (first | rw [c221b0] | (simp only [i64_w, i32_w]; rw [c221b0]) | skip)
     have H' := Aside0.mk H
     clear H
     go_wp2
     go_meet
     case rel => exact ⟨_, (true), (by first | rfl | (simp; done) | (simp [*]; done)), H', ⟨by have := HJ7.out; have := HJ28.out; first | omega | exact Nat.le_refl _⟩, ⟨by (with_reducible repeat (first | apply Kd.R_alloc | apply Kd.R_drewN | apply Kd.R_drew)); exact Kd.R_mono HO362.out (fun _ hk => trivial)⟩, ⟨by (with_reducible repeat (first | refine blk_drewN ?_ _ | refine blk_drew ?_ | refine blk_alloc ?_ _)); exact BK327.out⟩, ⟨by (with_reducible repeat (first | refine blk_drewN ?_ _ | refine blk_drew ?_ | refine blk_alloc ?_ _)); exact BK331.out⟩, ⟨by (with_reducible repeat (first | refine blk_drewN ?_ _ | refine blk_drew ?_ | refine blk_alloc ?_ _)); exact BK335.out⟩, ⟨by (with_reducible repeat (first | refine blk_drewN ?_ _ | refine blk_drew ?_ | refine blk_alloc ?_ _)); exact BK354.out⟩, ⟨by (with_reducible repeat (first | refine blk_drewN ?_ _ | refine blk_drew ?_ | refine blk_alloc ?_ _)); exact BK355.out⟩, ⟨by repeat (first | (with_reducible first | exact HB.out | apply below_alloc | apply pw_below_drewN | apply below_drew1 | refine below_set ?_ GE327.out | refine below_set ?_ GE331.out | refine below_set ?_ GE335.out | refine below_set ?_ GE354.out | refine below_set ?_ GE355.out) | exact HB.out)⟩⟩
    ·
     rw [if_neg c221] at H
     have c221b0 : (t359 != t363) = false := by simpa using c221
     (try (have c221b1 : decide (t359 = t363) = true := by simpa using c221))
     (try (have c221b2 : (t359 == t363) = true := by simpa using c221))
     clear c221
     (first | rw [c221b0] | (simp only [i64_w, i32_w]; rw [c221b0]) | skip)
     replace H := Option.bind_eq_some_iff.mp H
     obtain ⟨t368, A2220, H⟩ := H
     replace H : (if t368 = true then (if (t365 != t367) = true then (laws_FnTurns.j4 kj28 l1 t359 t360 t366 true t350 t351 t352 t353) else (if t364 = t366 then (laws_FnTurns.j4 kj28 l1 t359 t360 t366 (t359 != t365) t350 t351 t352 t353) else (laws_FnTurns.j4 kj28 l1 t359 t360 t366 true t350 t351 t352 t353))) else (laws_FnTurns.j4 kj28 l1 t359 t360 t366 true t350 t351 t352 t353)) = some r := H
     have A222 := Aside0.mk A2220
     clear A2220
     refine dite (t368 = true) (fun c223 => ?qp6) (fun c223 => ?qn6)
     case' qp6 =>
      subst c223
      have H1 : (if (t365 != t367) = true then (laws_FnTurns.j4 kj28 l1 t359 t360 t366 true t350 t351 t352 t353) else (if t364 = t366 then (laws_FnTurns.j4 kj28 l1 t359 t360 t366 (t359 != t365) t350 t351 t352 t353) else (laws_FnTurns.j4 kj28 l1 t359 t360 t366 true t350 t351 t352 t353))) = some r := by rw [if_pos rfl] at H; exact H
      clear H
      have H := H1
      clear H1
      refine dite ((t365 != t367) = true) (fun c224 => ?qp7) (fun c224 => ?qn7)
      case' qp7 =>
       rw [if_pos c224] at H
       have c224b0 : (t365 != t367) = true := c224
       (try (have c224b1 : decide (t365 = t367) = false := by simpa using c224))
       (try (have c224b2 : (t365 == t367) = false := by simpa using c224))
       (try (have c224b3 : ¬ (t365 = t367) := by simpa using c224))
       clear c224
      case' qn7 =>
       rw [if_neg c224] at H
       have c224b0 : (t365 != t367) = false := by simpa using c224
       (try (have c224b1 : decide (t365 = t367) = true := by simpa using c224))
       (try (have c224b2 : (t365 == t367) = true := by simpa using c224))
       clear c224
       refine dite (t364 = t366) (fun c227 => ?qp8) (fun c227 => ?qn8)
       case' qp8 =>
        rw [if_pos c227] at H
        have c227b0 : (t364 == t366) = true := beq_iff_eq.mpr c227
        have c227b1 : (t364 != t366) = false := bne_eq_false_iff_eq.mpr c227
        clear c227
       case' qn8 =>
        rw [if_neg c227] at H
        have c227b0 : (t364 == t366) = false := beq_eq_false_iff_ne.mpr c227
        have c227b1 : (t364 != t366) = true := bne_iff_ne.mpr c227
     case' qn6 =>
      replace c223 := Bool.eq_false_iff.mpr c223
      subst c223
      have H1 : (laws_FnTurns.j4 kj28 l1 t359 t360 t366 true t350 t351 t352 t353) = some r := by rw [if_neg (show ¬ (false = true) by decide)] at H; exact H
      clear H
      have H := H1
      clear H1
     all_goals
      have H' := Aside0.mk H
      clear H
      obtain ⟨Aox0, cox0, eox0⟩ := Kd.R_slice HO358.out
      subst eox0
      obtain ⟨Aox1, cox1, eox1⟩ := Kd.R_slice HO362.out
      subst eox1
      go_wp2_with (first | (go_at_call 48; (with_reducible refine (laws_sameInts.calls kj28 _ _ t356 _ _ t360 false _ ?side1 ?side2 ?side3 ?side4 A222.out).mono ?_); (case side1 => repeat (first | exact (Kd.R_reads' HO358.out).2.2 | (with_reducible refine Kd.C_alloc ?_ _) | (with_reducible refine Kd.C_drewN ?_ _) | (with_reducible refine Kd.C_drew ?_))); (case side2 => exact (Kd.R_reads' HO358.out).2.1); (case side3 => repeat (first | exact (Kd.R_reads' HO362.out).2.2 | (with_reducible refine Kd.C_alloc ?_ _) | (with_reducible refine Kd.C_drewN ?_ _) | (with_reducible refine Kd.C_drew ?_))); (case side4 => exact (Kd.R_reads' HO362.out).2.1); rintro e w' ⟨rfl, ⟨nd, rfl⟩⟩) | (go_at_call 48; (with_reducible refine (laws_sameInts.calls kj28 _ _ t356 _ _ t360 true _ ?side1 ?side2 ?side3 ?side4 A222.out).mono ?_); (case side1 => repeat (first | exact (Kd.R_reads' HO358.out).2.2 | (with_reducible refine Kd.C_alloc ?_ _) | (with_reducible refine Kd.C_drewN ?_ _) | (with_reducible refine Kd.C_drew ?_))); (case side2 => exact (Kd.R_reads' HO358.out).2.1); (case side3 => repeat (first | exact (Kd.R_reads' HO362.out).2.2 | (with_reducible refine Kd.C_alloc ?_ _) | (with_reducible refine Kd.C_drewN ?_ _) | (with_reducible refine Kd.C_drew ?_))); (case side4 => exact (Kd.R_reads' HO362.out).2.1); rintro e w' ⟨rfl, ⟨nd, rfl⟩⟩))
     · go_meet
       case rel => exact ⟨_, (true), (by first | rfl | (simp; done) | (simp [*]; done)), H', ⟨by have := HJ7.out; have := HJ28.out; first | omega | exact Nat.le_refl _⟩, ⟨by (with_reducible repeat (first | apply Kd.R_alloc | apply Kd.R_drewN | apply Kd.R_drew)); exact Kd.R_mono HO362.out (fun _ hk => trivial)⟩, ⟨by (with_reducible repeat (first | refine blk_drewN ?_ _ | refine blk_drew ?_ | refine blk_alloc ?_ _)); exact BK327.out⟩, ⟨by (with_reducible repeat (first | refine blk_drewN ?_ _ | refine blk_drew ?_ | refine blk_alloc ?_ _)); exact BK331.out⟩, ⟨by (with_reducible repeat (first | refine blk_drewN ?_ _ | refine blk_drew ?_ | refine blk_alloc ?_ _)); exact BK335.out⟩, ⟨by (with_reducible repeat (first | refine blk_drewN ?_ _ | refine blk_drew ?_ | refine blk_alloc ?_ _)); exact BK354.out⟩, ⟨by (with_reducible repeat (first | refine blk_drewN ?_ _ | refine blk_drew ?_ | refine blk_alloc ?_ _)); exact BK355.out⟩, ⟨by repeat (first | (with_reducible first | exact HB.out | apply below_alloc | apply pw_below_drewN | apply below_drew1 | refine below_set ?_ GE327.out | refine below_set ?_ GE331.out | refine below_set ?_ GE335.out | refine below_set ?_ GE354.out | refine below_set ?_ GE355.out) | exact HB.out)⟩⟩
     · go_meet
       case rel => exact ⟨_, (true), (by first | rfl | (simp; done) | (simp [*]; done)), H', ⟨by have := HJ7.out; have := HJ28.out; first | omega | exact Nat.le_refl _⟩, ⟨by (with_reducible repeat (first | apply Kd.R_alloc | apply Kd.R_drewN | apply Kd.R_drew)); exact Kd.R_mono HO362.out (fun _ hk => trivial)⟩, ⟨by (with_reducible repeat (first | refine blk_drewN ?_ _ | refine blk_drew ?_ | refine blk_alloc ?_ _)); exact BK327.out⟩, ⟨by (with_reducible repeat (first | refine blk_drewN ?_ _ | refine blk_drew ?_ | refine blk_alloc ?_ _)); exact BK331.out⟩, ⟨by (with_reducible repeat (first | refine blk_drewN ?_ _ | refine blk_drew ?_ | refine blk_alloc ?_ _)); exact BK335.out⟩, ⟨by (with_reducible repeat (first | refine blk_drewN ?_ _ | refine blk_drew ?_ | refine blk_alloc ?_ _)); exact BK354.out⟩, ⟨by (with_reducible repeat (first | refine blk_drewN ?_ _ | refine blk_drew ?_ | refine blk_alloc ?_ _)); exact BK355.out⟩, ⟨by repeat (first | (with_reducible first | exact HB.out | apply below_alloc | apply pw_below_drewN | apply below_drew1 | refine below_set ?_ GE327.out | refine below_set ?_ GE331.out | refine below_set ?_ GE335.out | refine below_set ?_ GE354.out | refine below_set ?_ GE355.out) | exact HB.out)⟩⟩
     · go_meet
       case rel => exact ⟨_, ((t359 != t365)), (by first | rfl | (simp; done) | (simp [*]; done)), H', ⟨by have := HJ7.out; have := HJ28.out; first | omega | exact Nat.le_refl _⟩, ⟨by (with_reducible repeat (first | apply Kd.R_alloc | apply Kd.R_drewN | apply Kd.R_drew)); exact Kd.R_mono HO362.out (fun _ hk => trivial)⟩, ⟨by (with_reducible repeat (first | refine blk_drewN ?_ _ | refine blk_drew ?_ | refine blk_alloc ?_ _)); exact BK327.out⟩, ⟨by (with_reducible repeat (first | refine blk_drewN ?_ _ | refine blk_drew ?_ | refine blk_alloc ?_ _)); exact BK331.out⟩, ⟨by (with_reducible repeat (first | refine blk_drewN ?_ _ | refine blk_drew ?_ | refine blk_alloc ?_ _)); exact BK335.out⟩, ⟨by (with_reducible repeat (first | refine blk_drewN ?_ _ | refine blk_drew ?_ | refine blk_alloc ?_ _)); exact BK354.out⟩, ⟨by (with_reducible repeat (first | refine blk_drewN ?_ _ | refine blk_drew ?_ | refine blk_alloc ?_ _)); exact BK355.out⟩, ⟨by repeat (first | (with_reducible first | exact HB.out | apply below_alloc | apply pw_below_drewN | apply below_drew1 | refine below_set ?_ GE327.out | refine below_set ?_ GE331.out | refine below_set ?_ GE335.out | refine below_set ?_ GE354.out | refine below_set ?_ GE355.out) | exact HB.out)⟩⟩
     · go_meet
       case rel => exact ⟨_, (true), (by first | rfl | (simp; done) | (simp [*]; done)), H', ⟨by have := HJ7.out; have := HJ28.out; first | omega | exact Nat.le_refl _⟩, ⟨by (with_reducible repeat (first | apply Kd.R_alloc | apply Kd.R_drewN | apply Kd.R_drew)); exact Kd.R_mono HO362.out (fun _ hk => trivial)⟩, ⟨by (with_reducible repeat (first | refine blk_drewN ?_ _ | refine blk_drew ?_ | refine blk_alloc ?_ _)); exact BK327.out⟩, ⟨by (with_reducible repeat (first | refine blk_drewN ?_ _ | refine blk_drew ?_ | refine blk_alloc ?_ _)); exact BK331.out⟩, ⟨by (with_reducible repeat (first | refine blk_drewN ?_ _ | refine blk_drew ?_ | refine blk_alloc ?_ _)); exact BK335.out⟩, ⟨by (with_reducible repeat (first | refine blk_drewN ?_ _ | refine blk_drew ?_ | refine blk_alloc ?_ _)); exact BK354.out⟩, ⟨by (with_reducible repeat (first | refine blk_drewN ?_ _ | refine blk_drew ?_ | refine blk_alloc ?_ _)); exact BK355.out⟩, ⟨by repeat (first | (with_reducible first | exact HB.out | apply below_alloc | apply pw_below_drewN | apply below_drew1 | refine below_set ?_ GE327.out | refine below_set ?_ GE331.out | refine below_set ?_ GE335.out | refine below_set ?_ GE354.out | refine below_set ?_ GE355.out) | exact HB.out)⟩⟩
   case rest => as_aux_lemma =>
    clear HC198
    (try clear c1); (try clear c22b0); (try clear c22b1); (try clear c22b2); (try clear c43b0); (try clear c73b0); (try clear c78b0); (try clear c174b0); (try clear c221b0); (try clear c221b1); (try clear c221b2); (try clear c224b0); (try clear c224b1); (try clear c224b2); (try clear c227b0); (try clear c227b1)
    obtain ⟨kq, x180_197, rfl, HA, HJ197, HO_24, BK327, BK331, BK335, BK354, BK355, HB⟩ := hcut
    cases kq with
    | zero => exact absurd HA.out (by simp [laws_FnTurns.j4])
    | succ kj197 =>
     have H := HA.out
     clear HA
     simp only [laws_FnTurns.j4] at H
     by_cases c234 : x180_197 = true
     ·
      subst c234
      have H1 : (some false) = some r := by rw [if_pos rfl] at H; exact H
      clear H
      have H := H1
      clear H1
      obtain rfl := Option.some.inj H
      go_wp2
      go_ret
      exact ⟨by first | rfl | (simp [errW_none, errW_some] <;> rfl) | (simp [*, errW_none, errW_some] <;> rfl), by repeat (first | (with_reducible first | exact HB.out | apply below_alloc | apply pw_below_drewN | apply below_drew1 | refine below_set ?_ GE327.out | refine below_set ?_ GE331.out | refine below_set ?_ GE335.out | refine below_set ?_ GE354.out | refine below_set ?_ GE355.out) | exact HB.out)⟩
     · as_aux_lemma =>
      replace c234 := Bool.eq_false_iff.mpr c234
      subst c234
      have H1 : (if t359 = true then ((impl_LeastTurns.f kj197 t352 t353 t350 t351).bind fun bt369 => (laws_FnTurns.l1 kj197 l1 t360 t366 bt369.1 bt369.2 t360 (t360.length : Int) 0 t350 t351 t352 t353 t350 t351)) else (laws_FnTurns.j6 kj197 l1)) = some r := by rw [if_neg (show ¬ (false = true) by decide)] at H; exact H
      clear H
      have H := H1
      clear H1
      have HC235 := Aside0.mk H
      clear H
      go_upto_if 181 with (fail)
      go_cut [] (fun wc => ∃ (kq : Nat), Aside0 (laws_FnTurns.j6 kq l1 = some r) ∧ Aside0 (kq ≤ kj197) ∧ Aside0 (wc.heap[gb327]? = some (.cells #[.int .i64 t323, .int .i64 t324] 28 (0, 0))) ∧ Aside0 (wc.heap[gb331]? = some (.cells #[.int .i64 t328, .int .i64 t329] 28 (0, 0))) ∧ Aside0 (wc.heap[gb335]? = some (.cells #[.int .i64 t332, .int .i64 t333] 28 (0, 0))) ∧ Aside0 (wc.heap[gb354]? = some (.cells #[.int .i64 t350, .int .i64 t351] 28 (0, 0))) ∧ Aside0 (wc.heap[gb355]? = some (.cells #[.int .i64 t352, .int .i64 t353] 28 (0, 0))) ∧ Aside0 (Below w.heap.size w wc))
      case first => as_aux_lemma =>
       have H := HC235.out
       clear HC235
       by_cases c236 : t359 = true
       · as_aux_lemma =>
        subst c236
        have H1 : ((impl_LeastTurns.f kj197 t352 t353 t350 t351).bind fun bt369 => (laws_FnTurns.l1 kj197 l1 t360 t366 bt369.1 bt369.2 t360 (t360.length : Int) 0 t350 t351 t352 t353 t350 t351)) = some r := by rw [if_pos rfl] at H; exact H
        clear H
        have H := H1
        clear H1
        replace H := Option.bind_eq_some_iff.mp H
        obtain ⟨⟨t369, t370⟩, A2370, H⟩ := H
        replace H : (laws_FnTurns.l1 kj197 l1 t360 t366 t369 t370 t360 (t360.length : Int) 0 t350 t351 t352 t353 t350 t351) = some r := H
        have A237 := Aside0.mk A2370
        clear A2370
        have H' := Aside0.mk H
        clear H
        have hnb238 := NB355_327.out
        have hnc238 := NB327_355.out
        have hnb239 := NB355_331.out
        have hnc239 := NB331_355.out
        have hnb240 := NB355_335.out
        have hnc240 := NB335_355.out
        have hnb241 := NB355_354.out
        have hnc241 := NB354_355.out
        have hcz242_0 : wc.cell? ⟨gb355, 0, none⟩ = some (.int .i64 t352) := (blk_cell BK355.out 0).trans rfl
        have hcz242_1 : wc.cell? ⟨gb355, 1, none⟩ = some (.int .i64 t353) := (blk_cell BK355.out 1).trans rfl
        have hfz242_0 := blk_frozen BK355.out 0
        have hfz242_1 := blk_frozen BK355.out 1
        have hnb243 := NB354_327.out
        have hnc243 := NB327_354.out
        have hnb244 := NB354_331.out
        have hnc244 := NB331_354.out
        have hnb245 := NB354_335.out
        have hnc245 := NB335_354.out
        have hcz246_0 : wc.cell? ⟨gb354, 0, none⟩ = some (.int .i64 t350) := (blk_cell BK354.out 0).trans rfl
        have hcz246_1 : wc.cell? ⟨gb354, 1, none⟩ = some (.int .i64 t351) := (blk_cell BK354.out 1).trans rfl
        have hfz246_0 := blk_frozen BK354.out 0
        have hfz246_1 := blk_frozen BK354.out 1
        go_wp2_with (first | ((with_reducible refine gate_callee (f := 39) rfl ?_); refine goesL_ (some 185) rfl rfl Try.func39 (by as_aux_lemma => kernel_rfl) rfl #[.agg #[.int .i64 t352, .int .i64 t353], .agg #[.int .i64 t350, .int .i64 t351]] rfl (by (try simp only [List.map_toArray, List.map_cons, List.map_nil]); first | done | rfl | (simp only [List.length_drop, List.length_take]; rfl)) ?_; (with_reducible refine (impl_LeastTurns.calls kj197 t352 t353 t350 t351 t369 t370 _ A237.out).mono ?_); rintro e w247 ⟨rfl, hb⟩; refine ⟨_, rfl, ?_⟩; have n0_ := Aside0.mk (Kd.R_below (by (with_reducible repeat (first | apply Kd.R_alloc | apply Kd.R_drewN | apply Kd.R_drew)); exact HO_24.out) hb); have n1_ := Aside0.mk (blk_below (g := gb327) (o := .cells #[.int .i64 t323, .int .i64 t324] 28 (0, 0)) (by (with_reducible repeat (first | refine blk_drewN ?_ _ | refine blk_drew ?_ | refine blk_alloc ?_ _)); exact BK327.out) hb); have n2_ := Aside0.mk (blk_below (g := gb331) (o := .cells #[.int .i64 t328, .int .i64 t329] 28 (0, 0)) (by (with_reducible repeat (first | refine blk_drewN ?_ _ | refine blk_drew ?_ | refine blk_alloc ?_ _)); exact BK331.out) hb); have n3_ := Aside0.mk (blk_below (g := gb335) (o := .cells #[.int .i64 t332, .int .i64 t333] 28 (0, 0)) (by (with_reducible repeat (first | refine blk_drewN ?_ _ | refine blk_drew ?_ | refine blk_alloc ?_ _)); exact BK335.out) hb); have n4_ := Aside0.mk (blk_below (g := gb354) (o := .cells #[.int .i64 t350, .int .i64 t351] 28 (0, 0)) (by (with_reducible repeat (first | refine blk_drewN ?_ _ | refine blk_drew ?_ | refine blk_alloc ?_ _)); exact BK354.out) hb); have n5_ := Aside0.mk (blk_below (g := gb355) (o := .cells #[.int .i64 t352, .int .i64 t353] 28 (0, 0)) (by (with_reducible repeat (first | refine blk_drewN ?_ _ | refine blk_drew ?_ | refine blk_alloc ?_ _)); exact BK355.out) hb); have n6_ := Aside0.mk (below_step (by repeat (first | (with_reducible first | exact HB.out | apply below_alloc | apply pw_below_drewN | apply below_drew1 | refine below_set ?_ GE327.out | refine below_set ?_ GE331.out | refine below_set ?_ GE335.out | refine below_set ?_ GE354.out | refine below_set ?_ GE355.out) | exact HB.out)) hb); clear HO_24; clear BK327; clear BK331; clear BK335; clear BK354; clear BK355; clear HB; have HO_24 := n0_; have BK327 := n1_; have BK331 := n2_; have BK335 := n3_; have BK354 := n4_; have BK355 := n5_; have HB := n6_; clear n0_ n1_ n2_ n3_ n4_ n5_ n6_; (try clear hb); (try clear hb2); (try clear hk); (try clear hi); have hcz248_0 : w247.cell? ⟨gb354, 0, none⟩ = some (.int .i64 t350) := (blk_cell BK354.out 0).trans rfl; have hcz248_1 : w247.cell? ⟨gb354, 1, none⟩ = some (.int .i64 t351) := (blk_cell BK354.out 1).trans rfl; have hfz248_0 := blk_frozen BK354.out 0; have hfz248_1 := blk_frozen BK354.out 1) | ((with_reducible refine gate_dst (N := 32) rfl ?_); refine box_event ?hg (N := 32) ?hd (cs := #[.int .i64 0, .int .i64 0]) (t := 28) ?hr ?_; (case hd => rfl); (case hg => rfl); (case hr => first | (go_simp; done) | (go_simp; rfl)); intro gb371 hg w249 hbox hb; have n0_ := Aside0.mk (Kd.R_below (by (with_reducible repeat (first | apply Kd.R_alloc | apply Kd.R_drewN | apply Kd.R_drew)); exact HO_24.out) hb); have n1_ := Aside0.mk (blk_below (g := gb327) (o := .cells #[.int .i64 t323, .int .i64 t324] 28 (0, 0)) (by (with_reducible repeat (first | refine blk_drewN ?_ _ | refine blk_drew ?_ | refine blk_alloc ?_ _)); exact BK327.out) hb); have n2_ := Aside0.mk (blk_below (g := gb331) (o := .cells #[.int .i64 t328, .int .i64 t329] 28 (0, 0)) (by (with_reducible repeat (first | refine blk_drewN ?_ _ | refine blk_drew ?_ | refine blk_alloc ?_ _)); exact BK331.out) hb); have n3_ := Aside0.mk (blk_below (g := gb335) (o := .cells #[.int .i64 t332, .int .i64 t333] 28 (0, 0)) (by (with_reducible repeat (first | refine blk_drewN ?_ _ | refine blk_drew ?_ | refine blk_alloc ?_ _)); exact BK335.out) hb); have n4_ := Aside0.mk (blk_below (g := gb354) (o := .cells #[.int .i64 t350, .int .i64 t351] 28 (0, 0)) (by (with_reducible repeat (first | refine blk_drewN ?_ _ | refine blk_drew ?_ | refine blk_alloc ?_ _)); exact BK354.out) hb); have n5_ := Aside0.mk (blk_below (g := gb355) (o := .cells #[.int .i64 t352, .int .i64 t353] 28 (0, 0)) (by (with_reducible repeat (first | refine blk_drewN ?_ _ | refine blk_drew ?_ | refine blk_alloc ?_ _)); exact BK355.out) hb); have n6_ := Aside0.mk (below_step (by repeat (first | (with_reducible first | exact HB.out | apply below_alloc | apply pw_below_drewN | apply below_drew1 | refine below_set ?_ GE327.out | refine below_set ?_ GE331.out | refine below_set ?_ GE335.out | refine below_set ?_ GE354.out | refine below_set ?_ GE355.out) | exact HB.out)) hb); have n7_ := Aside0.mk (hbox); have n8_ := Aside0.mk ((by rw [hg]; exact (below_size (by repeat (first | (with_reducible first | exact HB.out | apply below_alloc | apply pw_below_drewN | apply below_drew1 | refine below_set ?_ GE327.out | refine below_set ?_ GE331.out | refine below_set ?_ GE335.out | refine below_set ?_ GE354.out | refine below_set ?_ GE355.out) | exact HB.out))) : w.heap.size ≤ gb371)); have n9_ := Aside0.mk ((by rw [hg]; exact (below_size (by repeat (first | (with_reducible first | exact HB.out | apply below_alloc | apply pw_below_drewN | apply below_drew1 | refine below_set ?_ GE327.out | refine below_set ?_ GE331.out | refine below_set ?_ GE335.out | refine below_set ?_ GE354.out | refine below_set ?_ GE355.out) | exact HB.out))) : w.heap.size ≤ gb371)); have n10_ := Aside0.mk ((by rw [hg]; exact Nat.ne_of_lt (blk_lt (g := gb327) (o := .cells #[.int .i64 t323, .int .i64 t324] 28 (0, 0)) (by (with_reducible repeat (first | refine blk_drewN ?_ _ | refine blk_drew ?_ | refine blk_alloc ?_ _)); exact BK327.out)) : gb327 ≠ gb371)); have n11_ := Aside0.mk ((by rw [hg]; exact Nat.ne_of_gt (blk_lt (g := gb327) (o := .cells #[.int .i64 t323, .int .i64 t324] 28 (0, 0)) (by (with_reducible repeat (first | refine blk_drewN ?_ _ | refine blk_drew ?_ | refine blk_alloc ?_ _)); exact BK327.out)) : gb371 ≠ gb327)); have n12_ := Aside0.mk ((by rw [hg]; exact Nat.ne_of_lt (blk_lt (g := gb331) (o := .cells #[.int .i64 t328, .int .i64 t329] 28 (0, 0)) (by (with_reducible repeat (first | refine blk_drewN ?_ _ | refine blk_drew ?_ | refine blk_alloc ?_ _)); exact BK331.out)) : gb331 ≠ gb371)); have n13_ := Aside0.mk ((by rw [hg]; exact Nat.ne_of_gt (blk_lt (g := gb331) (o := .cells #[.int .i64 t328, .int .i64 t329] 28 (0, 0)) (by (with_reducible repeat (first | refine blk_drewN ?_ _ | refine blk_drew ?_ | refine blk_alloc ?_ _)); exact BK331.out)) : gb371 ≠ gb331)); have n14_ := Aside0.mk ((by rw [hg]; exact Nat.ne_of_lt (blk_lt (g := gb335) (o := .cells #[.int .i64 t332, .int .i64 t333] 28 (0, 0)) (by (with_reducible repeat (first | refine blk_drewN ?_ _ | refine blk_drew ?_ | refine blk_alloc ?_ _)); exact BK335.out)) : gb335 ≠ gb371)); have n15_ := Aside0.mk ((by rw [hg]; exact Nat.ne_of_gt (blk_lt (g := gb335) (o := .cells #[.int .i64 t332, .int .i64 t333] 28 (0, 0)) (by (with_reducible repeat (first | refine blk_drewN ?_ _ | refine blk_drew ?_ | refine blk_alloc ?_ _)); exact BK335.out)) : gb371 ≠ gb335)); have n16_ := Aside0.mk ((by rw [hg]; exact Nat.ne_of_lt (blk_lt (g := gb354) (o := .cells #[.int .i64 t350, .int .i64 t351] 28 (0, 0)) (by (with_reducible repeat (first | refine blk_drewN ?_ _ | refine blk_drew ?_ | refine blk_alloc ?_ _)); exact BK354.out)) : gb354 ≠ gb371)); have n17_ := Aside0.mk ((by rw [hg]; exact Nat.ne_of_gt (blk_lt (g := gb354) (o := .cells #[.int .i64 t350, .int .i64 t351] 28 (0, 0)) (by (with_reducible repeat (first | refine blk_drewN ?_ _ | refine blk_drew ?_ | refine blk_alloc ?_ _)); exact BK354.out)) : gb371 ≠ gb354)); have n18_ := Aside0.mk ((by rw [hg]; exact Nat.ne_of_lt (blk_lt (g := gb355) (o := .cells #[.int .i64 t352, .int .i64 t353] 28 (0, 0)) (by (with_reducible repeat (first | refine blk_drewN ?_ _ | refine blk_drew ?_ | refine blk_alloc ?_ _)); exact BK355.out)) : gb355 ≠ gb371)); have n19_ := Aside0.mk ((by rw [hg]; exact Nat.ne_of_gt (blk_lt (g := gb355) (o := .cells #[.int .i64 t352, .int .i64 t353] 28 (0, 0)) (by (with_reducible repeat (first | refine blk_drewN ?_ _ | refine blk_drew ?_ | refine blk_alloc ?_ _)); exact BK355.out)) : gb371 ≠ gb355)); clear HO_24; clear BK327; clear BK331; clear BK335; clear BK354; clear BK355; clear HB; have HO_24 := n0_; have BK327 := n1_; have BK331 := n2_; have BK335 := n3_; have BK354 := n4_; have BK355 := n5_; have HB := n6_; have BK371 := n7_; have GW371 := n8_; have GE371 := n9_; have NB327_371 := n10_; have NB371_327 := n11_; have NB331_371 := n12_; have NB371_331 := n13_; have NB335_371 := n14_; have NB371_335 := n15_; have NB354_371 := n16_; have NB371_354 := n17_; have NB355_371 := n18_; have NB371_355 := n19_; clear n0_ n1_ n2_ n3_ n4_ n5_ n6_ n7_ n8_ n9_ n10_ n11_ n12_ n13_ n14_ n15_ n16_ n17_ n18_ n19_; clear hb hbox hg; have hnb250 := NB371_327.out; have hnc250 := NB327_371.out; have hnb251 := NB371_331.out; have hnc251 := NB331_371.out; have hnb252 := NB371_335.out; have hnc252 := NB335_371.out; have hnb253 := NB371_354.out; have hnc253 := NB354_371.out; have hnb254 := NB371_355.out; have hnc254 := NB355_371.out; have hcz255_0 : w249.cell? ⟨gb371, 0, none⟩ = some (.int .i64 0) := (blk_cell BK371.out 0).trans rfl; have hcz255_1 : w249.cell? ⟨gb371, 1, none⟩ = some (.int .i64 0) := (blk_cell BK371.out 1).trans rfl; have hfz255_0 := blk_frozen BK371.out 0; have hfz255_1 := blk_frozen BK371.out 1; obtain ⟨Ao256, co256, eo256⟩ := Kd.R_slice HO_24.out; subst eo256))
        go_loopg [191] kj197 (fun kq v191 w' => ∃ (x191_4 : Int) (x372000_4 : Int) (x372001_4 : Int), v191 = .int .i64 x191_4 ∧ Aside0 (laws_FnTurns.l1 kq l1 t360 t366 t369 t370 t360 (t360.length : Int) x191_4 t350 t351 t352 t353 x372000_4 x372001_4 = some r) ∧ Aside0 (kq ≤ kj197) ∧ Aside0 (Kd.R (Kd.int .i64) 3 w' w.heap.size (fun _ => True) (.slice Ao256 t360.length co256) t360) ∧ Aside0 (Kd.R (Kd.int .i64) 3 w' w.heap.size (fun _ => True) (.slice Ao256 t360.length co256) t360) ∧ Aside0 (w'.heap[gb327]? = some (.cells #[.int .i64 t323, .int .i64 t324] 28 (0, 0))) ∧ Aside0 (w'.heap[gb331]? = some (.cells #[.int .i64 t328, .int .i64 t329] 28 (0, 0))) ∧ Aside0 (w'.heap[gb335]? = some (.cells #[.int .i64 t332, .int .i64 t333] 28 (0, 0))) ∧ Aside0 (w'.heap[gb354]? = some (.cells #[.int .i64 t350, .int .i64 t351] 28 (0, 0))) ∧ Aside0 (w'.heap[gb355]? = some (.cells #[.int .i64 t352, .int .i64 t353] 28 (0, 0))) ∧ Aside0 (w'.heap[gb371]? = some (.cells #[.int .i64 x372000_4, .int .i64 x372001_4] 28 (0, 0))) ∧ Aside0 (Below w.heap.size w w'))
        case atStart => exact ⟨(0), (t350), (t351), (by first | rfl | (simp; done) | (simp [*]; done)), H', ⟨Nat.le_refl _⟩, ⟨by (with_reducible repeat (first | apply Kd.R_alloc | apply Kd.R_drewN | apply Kd.R_drew)); exact Kd.R_mono (Kd.R_far (p := ⟨gb371, 1, none⟩) (Kd.R_far (p := ⟨gb371, 0, none⟩) (Kd.R_types HO_24.out BK371.out (by decide)) (fun _ hk => hk.2) (.int .i64 t350)) (fun _ hk => hk.2) (.int .i64 t351)) (fun _ hk => trivial)⟩, ⟨by (with_reducible repeat (first | apply Kd.R_alloc | apply Kd.R_drewN | apply Kd.R_drew)); exact Kd.R_mono (Kd.R_far (p := ⟨gb371, 1, none⟩) (Kd.R_far (p := ⟨gb371, 0, none⟩) (Kd.R_types HO_24.out BK371.out (by decide)) (fun _ hk => hk.2) (.int .i64 t350)) (fun _ hk => hk.2) (.int .i64 t351)) (fun _ hk => trivial)⟩, ⟨by (with_reducible repeat (first | refine blk_drewN ?_ _ | refine blk_drew ?_ | refine blk_alloc ?_ _)); refine blk_far ?_ NB327_371.out _; (with_reducible repeat (first | refine blk_drewN ?_ _ | refine blk_drew ?_ | refine blk_alloc ?_ _)); refine blk_far ?_ NB327_371.out _; (with_reducible repeat (first | refine blk_drewN ?_ _ | refine blk_drew ?_ | refine blk_alloc ?_ _)); exact BK327.out⟩, ⟨by (with_reducible repeat (first | refine blk_drewN ?_ _ | refine blk_drew ?_ | refine blk_alloc ?_ _)); refine blk_far ?_ NB331_371.out _; (with_reducible repeat (first | refine blk_drewN ?_ _ | refine blk_drew ?_ | refine blk_alloc ?_ _)); refine blk_far ?_ NB331_371.out _; (with_reducible repeat (first | refine blk_drewN ?_ _ | refine blk_drew ?_ | refine blk_alloc ?_ _)); exact BK331.out⟩, ⟨by (with_reducible repeat (first | refine blk_drewN ?_ _ | refine blk_drew ?_ | refine blk_alloc ?_ _)); refine blk_far ?_ NB335_371.out _; (with_reducible repeat (first | refine blk_drewN ?_ _ | refine blk_drew ?_ | refine blk_alloc ?_ _)); refine blk_far ?_ NB335_371.out _; (with_reducible repeat (first | refine blk_drewN ?_ _ | refine blk_drew ?_ | refine blk_alloc ?_ _)); exact BK335.out⟩, ⟨by (with_reducible repeat (first | refine blk_drewN ?_ _ | refine blk_drew ?_ | refine blk_alloc ?_ _)); refine blk_far ?_ NB354_371.out _; (with_reducible repeat (first | refine blk_drewN ?_ _ | refine blk_drew ?_ | refine blk_alloc ?_ _)); refine blk_far ?_ NB354_371.out _; (with_reducible repeat (first | refine blk_drewN ?_ _ | refine blk_drew ?_ | refine blk_alloc ?_ _)); exact BK354.out⟩, ⟨by (with_reducible repeat (first | refine blk_drewN ?_ _ | refine blk_drew ?_ | refine blk_alloc ?_ _)); refine blk_far ?_ NB355_371.out _; (with_reducible repeat (first | refine blk_drewN ?_ _ | refine blk_drew ?_ | refine blk_alloc ?_ _)); refine blk_far ?_ NB355_371.out _; (with_reducible repeat (first | refine blk_drewN ?_ _ | refine blk_drew ?_ | refine blk_alloc ?_ _)); exact BK355.out⟩, ⟨by (with_reducible repeat (first | refine blk_drewN ?_ _ | refine blk_drew ?_ | refine blk_alloc ?_ _)); refine blk_put (cs := #[.int .i64 t350, .int .i64 0]) ?_ 1 _ rfl; (with_reducible repeat (first | refine blk_drewN ?_ _ | refine blk_drew ?_ | refine blk_alloc ?_ _)); refine blk_put (cs := #[.int .i64 0, .int .i64 0]) ?_ 0 _ rfl; (with_reducible repeat (first | refine blk_drewN ?_ _ | refine blk_drew ?_ | refine blk_alloc ?_ _)); exact BK371.out⟩, ⟨by repeat (first | (with_reducible first | exact HB.out | apply below_alloc | apply pw_below_drewN | apply below_drew1 | refine below_set ?_ GE327.out | refine below_set ?_ GE331.out | refine below_set ?_ GE335.out | refine below_set ?_ GE354.out | refine below_set ?_ GE355.out | refine below_set ?_ GE371.out) | exact HB.out)⟩⟩
        case round => as_aux_lemma =>
         clear H'
         (try clear c1); (try clear c22b0); (try clear c22b1); (try clear c22b2); (try clear c43b0); (try clear c73b0); (try clear c78b0); (try clear c174b0); (try clear c221b0); (try clear c221b1); (try clear c221b2); (try clear c224b0); (try clear c224b1); (try clear c224b2); (try clear c227b0); (try clear c227b1)
         obtain ⟨x191_4, x372000_4, x372001_4, rfl, HA, HK4, HO_24, HO_189, BK327, BK331, BK335, BK354, BK355, BK371, HB⟩ := hrel
         cases gk with
         | zero => exact absurd HA.out (by simp [laws_FnTurns.l1])
         | succ k4 =>
          have H := HA.out
          clear HA
          simp only [laws_FnTurns.l1] at H
          by_cases c257 : x191_4 < (t360.length : Int)
          · as_aux_lemma =>
           rw [if_pos c257] at H
           have c257b0 : decide (x191_4 < (t360.length : Int)) = true := decide_eq_true c257
           clear c257
           (first | rw [c257b0] | (simp only [i64_w, i32_w]; rw [c257b0]) | skip)
           refine dite (0 ≤ x191_4) (fun c258 => ?qp9) (fun c258 => ?qn9)
           case' qp9 =>
            rw [if_pos c258] at H
            have c258b0 : decide (0 ≤ x191_4) = true := decide_eq_true c258
            clear c258
            refine dite (x191_4 < (t360.length : Int)) (fun c259 => ?qp10) (fun c259 => ?qn10)
            case' qp10 =>
             rw [if_pos c259] at H
             have c259b0 : decide (x191_4 < (t360.length : Int)) = true := decide_eq_true c259
             clear c259
             replace H := Option.bind_eq_some_iff.mp H
             obtain ⟨⟨t373, t374, t375⟩, A2600, H⟩ := H
             replace H : ((spec_TurnHand.f k4 x372000_4 x372001_4 (rd t360 x191_4) 1).bind fun bt377 => (if t375 = true then (if bt377.2.2 = true then (if (!(t373 == bt377.1) || (!(t374 == bt377.2.1))) = true then (some false) else (laws_FnTurns.l1 k4 l1 t360 t366 t369 t370 t360 (t360.length : Int) (wrap64 (x191_4 + 1)) t350 t351 t352 t353 bt377.1 bt377.2.1)) else (some false)) else (some false))) = some r := H
             have A260 := Aside0.mk A2600
             clear A2600
             replace H := Option.bind_eq_some_iff.mp H
             obtain ⟨⟨t377, t378, t379⟩, A2610, H⟩ := H
             replace H : (if t375 = true then (if t379 = true then (if (!(t373 == t377) || (!(t374 == t378))) = true then (some false) else (laws_FnTurns.l1 k4 l1 t360 t366 t369 t370 t360 (t360.length : Int) (wrap64 (x191_4 + 1)) t350 t351 t352 t353 t377 t378)) else (some false)) else (some false)) = some r := H
             have A261 := Aside0.mk A2610
             clear A2610
             refine dite (t375 = true) (fun c262 => ?qp11) (fun c262 => ?qn11)
             case' qp11 =>
              subst c262
              have H1 : (if t379 = true then (if (!(t373 == t377) || (!(t374 == t378))) = true then (some false) else (laws_FnTurns.l1 k4 l1 t360 t366 t369 t370 t360 (t360.length : Int) (wrap64 (x191_4 + 1)) t350 t351 t352 t353 t377 t378)) else (some false)) = some r := by rw [if_pos rfl] at H; exact H
              clear H
              have H := H1
              clear H1
              refine dite (t379 = true) (fun c263 => ?qp12) (fun c263 => ?qn12)
              case' qp12 =>
               subst c263
               have H1 : (if (!(t373 == t377) || (!(t374 == t378))) = true then (some false) else (laws_FnTurns.l1 k4 l1 t360 t366 t369 t370 t360 (t360.length : Int) (wrap64 (x191_4 + 1)) t350 t351 t352 t353 t377 t378)) = some r := by rw [if_pos rfl] at H; exact H
               clear H
               have H := H1
               clear H1
               refine dite ((!(t373 == t377) || (!(t374 == t378))) = true) (fun c264 => ?qp13) (fun c264 => ?qn13)
               case' qp13 =>
                rw [if_pos c264] at H
                have c264b0 : (!(t373 == t377) || (!(t374 == t378))) = true := c264
                clear c264
                obtain rfl := Option.some.inj H
               case' qn13 =>
                rw [if_neg c264] at H
                have c264b0 : (!(t373 == t377) || (!(t374 == t378))) = false := by simpa using c264
                clear c264
                have H' := Aside0.mk H
                clear H
              case' qn12 =>
               replace c263 := Bool.eq_false_iff.mpr c263
               subst c263
               have H1 : (some false) = some r := by rw [if_neg (show ¬ (false = true) by decide)] at H; exact H
               clear H
               have H := H1
               clear H1
               obtain rfl := Option.some.inj H
             case' qn11 =>
              replace c262 := Bool.eq_false_iff.mpr c262
              subst c262
              have H1 : (some false) = some r := by rw [if_neg (show ¬ (false = true) by decide)] at H; exact H
              clear H
              have H := H1
              clear H1
              obtain rfl := Option.some.inj H
            case' qn10 =>
             rw [if_neg c259] at H
             exact absurd H (by simp)
           case' qn9 =>
            rw [if_neg c258] at H
            exact absurd H (by simp)
           all_goals
            have px0 : 0 ≤ (x191_4 : Int) := of_decide_eq_true (by first | (with_reducible assumption) | assumption)
            have qx0 : x191_4 < (t360.length : Int) := of_decide_eq_true (by first | (with_reducible assumption) | assumption)
            obtain ⟨adx0, ex0, hxx0_0⟩ := Kd.at_int (Kd.R_reads' HO_189.out).2.2 x191_4 px0 qx0
            cases ex0
            replace px0 := eq_true px0
            replace qx0 := eq_true qx0
            have hnbx1 := NB371_327.out
            have hncx1 := NB327_371.out
            have hnbx2 := NB371_331.out
            have hncx2 := NB331_371.out
            have hnbx3 := NB371_335.out
            have hncx3 := NB335_371.out
            have hnbx4 := NB371_354.out
            have hncx4 := NB354_371.out
            have hnbx5 := NB371_355.out
            have hncx5 := NB355_371.out
            have hczx6_0 : wr.cell? ⟨gb371, 0, none⟩ = some (.int .i64 x372000_4) := (blk_cell BK371.out 0).trans rfl
            have hczx6_1 : wr.cell? ⟨gb371, 1, none⟩ = some (.int .i64 x372001_4) := (blk_cell BK371.out 1).trans rfl
            have hfzx6_0 := blk_frozen BK371.out 0
            have hfzx6_1 := blk_frozen BK371.out 1
            go_wp2_with (first | ((with_reducible refine gate_callee (f := 37) rfl ?_); refine goesL_ (some 198) rfl rfl Try.func37 (by as_aux_lemma => kernel_rfl) rfl #[.agg #[.int .i64 x372000_4, .int .i64 x372001_4], .int .i64 (rd t360 x191_4), .int .i64 1] rfl (by (try simp only [List.map_toArray, List.map_cons, List.map_nil]); first | done | rfl | (simp only [List.length_drop, List.length_take]; rfl)) ?_; (with_reducible refine (impl_TurnHand.calls k4 x372000_4 x372001_4 (rd t360 x191_4) 1 t373 t374 _ _ A260.out).mono ?_); rintro e wx0 ⟨rfl, hb⟩; refine ⟨_, rfl, ?_⟩; have n0_ := Aside0.mk (Kd.R_below (by (with_reducible repeat (first | apply Kd.R_alloc | apply Kd.R_drewN | apply Kd.R_drew)); exact HO_24.out) hb); have n1_ := Aside0.mk (Kd.R_below (by (with_reducible repeat (first | apply Kd.R_alloc | apply Kd.R_drewN | apply Kd.R_drew)); exact HO_189.out) hb); have n2_ := Aside0.mk (blk_below (g := gb327) (o := .cells #[.int .i64 t323, .int .i64 t324] 28 (0, 0)) (by (with_reducible repeat (first | refine blk_drewN ?_ _ | refine blk_drew ?_ | refine blk_alloc ?_ _)); exact BK327.out) hb); have n3_ := Aside0.mk (blk_below (g := gb331) (o := .cells #[.int .i64 t328, .int .i64 t329] 28 (0, 0)) (by (with_reducible repeat (first | refine blk_drewN ?_ _ | refine blk_drew ?_ | refine blk_alloc ?_ _)); exact BK331.out) hb); have n4_ := Aside0.mk (blk_below (g := gb335) (o := .cells #[.int .i64 t332, .int .i64 t333] 28 (0, 0)) (by (with_reducible repeat (first | refine blk_drewN ?_ _ | refine blk_drew ?_ | refine blk_alloc ?_ _)); exact BK335.out) hb); have n5_ := Aside0.mk (blk_below (g := gb354) (o := .cells #[.int .i64 t350, .int .i64 t351] 28 (0, 0)) (by (with_reducible repeat (first | refine blk_drewN ?_ _ | refine blk_drew ?_ | refine blk_alloc ?_ _)); exact BK354.out) hb); have n6_ := Aside0.mk (blk_below (g := gb355) (o := .cells #[.int .i64 t352, .int .i64 t353] 28 (0, 0)) (by (with_reducible repeat (first | refine blk_drewN ?_ _ | refine blk_drew ?_ | refine blk_alloc ?_ _)); exact BK355.out) hb); have n7_ := Aside0.mk (blk_below (g := gb371) (o := .cells #[.int .i64 x372000_4, .int .i64 x372001_4] 28 (0, 0)) (by (with_reducible repeat (first | refine blk_drewN ?_ _ | refine blk_drew ?_ | refine blk_alloc ?_ _)); exact BK371.out) hb); have n8_ := Aside0.mk (below_step (by repeat (first | (with_reducible first | exact HB.out | apply below_alloc | apply pw_below_drewN | apply below_drew1 | refine below_set ?_ GE327.out | refine below_set ?_ GE331.out | refine below_set ?_ GE335.out | refine below_set ?_ GE354.out | refine below_set ?_ GE355.out | refine below_set ?_ GE371.out) | exact HB.out)) hb); clear HO_24; clear HO_189; clear BK327; clear BK331; clear BK335; clear BK354; clear BK355; clear BK371; clear HB; have HO_24 := n0_; have HO_189 := n1_; have BK327 := n2_; have BK331 := n3_; have BK335 := n4_; have BK354 := n5_; have BK355 := n6_; have BK371 := n7_; have HB := n8_; clear n0_ n1_ n2_ n3_ n4_ n5_ n6_ n7_ n8_; (try clear hb); (try clear hb2); (try clear hk); (try clear hi)) | ((with_reducible refine gate_dst (N := 35) rfl ?_); refine box_event ?hg (N := 35) ?hd (cs := #[.int .i64 0, .int .i64 0]) (t := 28) ?hr ?_; (case hd => rfl); (case hg => rfl); (case hr => first | (go_simp; done) | (go_simp; rfl)); intro gbx0 hg wx1 hbox hb; have n0_ := Aside0.mk (Kd.R_below (by (with_reducible repeat (first | apply Kd.R_alloc | apply Kd.R_drewN | apply Kd.R_drew)); exact HO_24.out) hb); have n1_ := Aside0.mk (Kd.R_below (by (with_reducible repeat (first | apply Kd.R_alloc | apply Kd.R_drewN | apply Kd.R_drew)); exact HO_189.out) hb); have n2_ := Aside0.mk (blk_below (g := gb327) (o := .cells #[.int .i64 t323, .int .i64 t324] 28 (0, 0)) (by (with_reducible repeat (first | refine blk_drewN ?_ _ | refine blk_drew ?_ | refine blk_alloc ?_ _)); exact BK327.out) hb); have n3_ := Aside0.mk (blk_below (g := gb331) (o := .cells #[.int .i64 t328, .int .i64 t329] 28 (0, 0)) (by (with_reducible repeat (first | refine blk_drewN ?_ _ | refine blk_drew ?_ | refine blk_alloc ?_ _)); exact BK331.out) hb); have n4_ := Aside0.mk (blk_below (g := gb335) (o := .cells #[.int .i64 t332, .int .i64 t333] 28 (0, 0)) (by (with_reducible repeat (first | refine blk_drewN ?_ _ | refine blk_drew ?_ | refine blk_alloc ?_ _)); exact BK335.out) hb); have n5_ := Aside0.mk (blk_below (g := gb354) (o := .cells #[.int .i64 t350, .int .i64 t351] 28 (0, 0)) (by (with_reducible repeat (first | refine blk_drewN ?_ _ | refine blk_drew ?_ | refine blk_alloc ?_ _)); exact BK354.out) hb); have n6_ := Aside0.mk (blk_below (g := gb355) (o := .cells #[.int .i64 t352, .int .i64 t353] 28 (0, 0)) (by (with_reducible repeat (first | refine blk_drewN ?_ _ | refine blk_drew ?_ | refine blk_alloc ?_ _)); exact BK355.out) hb); have n7_ := Aside0.mk (blk_below (g := gb371) (o := .cells #[.int .i64 x372000_4, .int .i64 x372001_4] 28 (0, 0)) (by (with_reducible repeat (first | refine blk_drewN ?_ _ | refine blk_drew ?_ | refine blk_alloc ?_ _)); exact BK371.out) hb); have n8_ := Aside0.mk (below_step (by repeat (first | (with_reducible first | exact HB.out | apply below_alloc | apply pw_below_drewN | apply below_drew1 | refine below_set ?_ GE327.out | refine below_set ?_ GE331.out | refine below_set ?_ GE335.out | refine below_set ?_ GE354.out | refine below_set ?_ GE355.out | refine below_set ?_ GE371.out) | exact HB.out)) hb); have n9_ := Aside0.mk (hbox); have n10_ := Aside0.mk ((by rw [hg]; exact (below_size (by repeat (first | (with_reducible first | exact HB.out | apply below_alloc | apply pw_below_drewN | apply below_drew1 | refine below_set ?_ GE327.out | refine below_set ?_ GE331.out | refine below_set ?_ GE335.out | refine below_set ?_ GE354.out | refine below_set ?_ GE355.out | refine below_set ?_ GE371.out) | exact HB.out))) : w.heap.size ≤ gbx0)); have n11_ := Aside0.mk ((by rw [hg]; exact (below_size (by repeat (first | (with_reducible first | exact HB.out | apply below_alloc | apply pw_below_drewN | apply below_drew1 | refine below_set ?_ GE327.out | refine below_set ?_ GE331.out | refine below_set ?_ GE335.out | refine below_set ?_ GE354.out | refine below_set ?_ GE355.out | refine below_set ?_ GE371.out) | exact HB.out))) : w.heap.size ≤ gbx0)); have n12_ := Aside0.mk ((by rw [hg]; exact Nat.ne_of_lt (blk_lt (g := gb327) (o := .cells #[.int .i64 t323, .int .i64 t324] 28 (0, 0)) (by (with_reducible repeat (first | refine blk_drewN ?_ _ | refine blk_drew ?_ | refine blk_alloc ?_ _)); exact BK327.out)) : gb327 ≠ gbx0)); have n13_ := Aside0.mk ((by rw [hg]; exact Nat.ne_of_gt (blk_lt (g := gb327) (o := .cells #[.int .i64 t323, .int .i64 t324] 28 (0, 0)) (by (with_reducible repeat (first | refine blk_drewN ?_ _ | refine blk_drew ?_ | refine blk_alloc ?_ _)); exact BK327.out)) : gbx0 ≠ gb327)); have n14_ := Aside0.mk ((by rw [hg]; exact Nat.ne_of_lt (blk_lt (g := gb331) (o := .cells #[.int .i64 t328, .int .i64 t329] 28 (0, 0)) (by (with_reducible repeat (first | refine blk_drewN ?_ _ | refine blk_drew ?_ | refine blk_alloc ?_ _)); exact BK331.out)) : gb331 ≠ gbx0)); have n15_ := Aside0.mk ((by rw [hg]; exact Nat.ne_of_gt (blk_lt (g := gb331) (o := .cells #[.int .i64 t328, .int .i64 t329] 28 (0, 0)) (by (with_reducible repeat (first | refine blk_drewN ?_ _ | refine blk_drew ?_ | refine blk_alloc ?_ _)); exact BK331.out)) : gbx0 ≠ gb331)); have n16_ := Aside0.mk ((by rw [hg]; exact Nat.ne_of_lt (blk_lt (g := gb335) (o := .cells #[.int .i64 t332, .int .i64 t333] 28 (0, 0)) (by (with_reducible repeat (first | refine blk_drewN ?_ _ | refine blk_drew ?_ | refine blk_alloc ?_ _)); exact BK335.out)) : gb335 ≠ gbx0)); have n17_ := Aside0.mk ((by rw [hg]; exact Nat.ne_of_gt (blk_lt (g := gb335) (o := .cells #[.int .i64 t332, .int .i64 t333] 28 (0, 0)) (by (with_reducible repeat (first | refine blk_drewN ?_ _ | refine blk_drew ?_ | refine blk_alloc ?_ _)); exact BK335.out)) : gbx0 ≠ gb335)); have n18_ := Aside0.mk ((by rw [hg]; exact Nat.ne_of_lt (blk_lt (g := gb354) (o := .cells #[.int .i64 t350, .int .i64 t351] 28 (0, 0)) (by (with_reducible repeat (first | refine blk_drewN ?_ _ | refine blk_drew ?_ | refine blk_alloc ?_ _)); exact BK354.out)) : gb354 ≠ gbx0)); have n19_ := Aside0.mk ((by rw [hg]; exact Nat.ne_of_gt (blk_lt (g := gb354) (o := .cells #[.int .i64 t350, .int .i64 t351] 28 (0, 0)) (by (with_reducible repeat (first | refine blk_drewN ?_ _ | refine blk_drew ?_ | refine blk_alloc ?_ _)); exact BK354.out)) : gbx0 ≠ gb354)); have n20_ := Aside0.mk ((by rw [hg]; exact Nat.ne_of_lt (blk_lt (g := gb355) (o := .cells #[.int .i64 t352, .int .i64 t353] 28 (0, 0)) (by (with_reducible repeat (first | refine blk_drewN ?_ _ | refine blk_drew ?_ | refine blk_alloc ?_ _)); exact BK355.out)) : gb355 ≠ gbx0)); have n21_ := Aside0.mk ((by rw [hg]; exact Nat.ne_of_gt (blk_lt (g := gb355) (o := .cells #[.int .i64 t352, .int .i64 t353] 28 (0, 0)) (by (with_reducible repeat (first | refine blk_drewN ?_ _ | refine blk_drew ?_ | refine blk_alloc ?_ _)); exact BK355.out)) : gbx0 ≠ gb355)); have n22_ := Aside0.mk ((by rw [hg]; exact Nat.ne_of_lt (blk_lt (g := gb371) (o := .cells #[.int .i64 x372000_4, .int .i64 x372001_4] 28 (0, 0)) (by (with_reducible repeat (first | refine blk_drewN ?_ _ | refine blk_drew ?_ | refine blk_alloc ?_ _)); exact BK371.out)) : gb371 ≠ gbx0)); have n23_ := Aside0.mk ((by rw [hg]; exact Nat.ne_of_gt (blk_lt (g := gb371) (o := .cells #[.int .i64 x372000_4, .int .i64 x372001_4] 28 (0, 0)) (by (with_reducible repeat (first | refine blk_drewN ?_ _ | refine blk_drew ?_ | refine blk_alloc ?_ _)); exact BK371.out)) : gbx0 ≠ gb371)); clear HO_24; clear HO_189; clear BK327; clear BK331; clear BK335; clear BK354; clear BK355; clear BK371; clear HB; have HO_24 := n0_; have HO_189 := n1_; have BK327 := n2_; have BK331 := n3_; have BK335 := n4_; have BK354 := n5_; have BK355 := n6_; have BK371 := n7_; have HB := n8_; have BKx0 := n9_; have GWx0 := n10_; have GEx0 := n11_; have NBx1_376 := n12_; have NBx0_327 := n13_; have NBx2_376 := n14_; have NBx0_331 := n15_; have NBx3_376 := n16_; have NBx0_335 := n17_; have NBx4_376 := n18_; have NBx0_354 := n19_; have NBx5_376 := n20_; have NBx0_355 := n21_; have NBx6_376 := n22_; have NBx0_371 := n23_; clear n0_ n1_ n2_ n3_ n4_ n5_ n6_ n7_ n8_ n9_ n10_ n11_ n12_ n13_ n14_ n15_ n16_ n17_ n18_ n19_ n20_ n21_ n22_ n23_; clear hb hbox hg; have hnbx7 := NBx0_327.out; have hncx7 := NBx1_376.out; have hnbx8 := NBx0_331.out; have hncx8 := NBx2_376.out; have hnbx9 := NBx0_335.out; have hncx9 := NBx3_376.out; have hnbx10 := NBx0_354.out; have hncx10 := NBx4_376.out; have hnbx11 := NBx0_355.out; have hncx11 := NBx5_376.out; have hnbx12 := NBx0_371.out; have hncx12 := NBx6_376.out; have hczx13_0 : wx1.cell? ⟨gbx0, 0, none⟩ = some (.int .i64 0) := (blk_cell BKx0.out 0).trans rfl; have hczx13_1 : wx1.cell? ⟨gbx0, 1, none⟩ = some (.int .i64 0) := (blk_cell BKx0.out 1).trans rfl; have hfzx13_0 := blk_frozen BKx0.out 0; have hfzx13_1 := blk_frozen BKx0.out 1; have hczx14_0 : wx1.cell? ⟨gb371, 0, none⟩ = some (.int .i64 x372000_4) := (blk_cell BK371.out 0).trans rfl; have hczx14_1 : wx1.cell? ⟨gb371, 1, none⟩ = some (.int .i64 x372001_4) := (blk_cell BK371.out 1).trans rfl; have hfzx14_0 := blk_frozen BK371.out 0; have hfzx14_1 := blk_frozen BK371.out 1) | ((with_reducible refine gate_callee (f := 36) rfl ?_); refine goesL_ (some 204) rfl rfl Try.func36 (by as_aux_lemma => kernel_rfl) rfl #[.agg #[.int .i64 x372000_4, .int .i64 x372001_4], .int .i64 (rd t360 x191_4), .int .i64 1] rfl (by (try simp only [List.map_toArray, List.map_cons, List.map_nil]); first | done | rfl | (simp only [List.length_drop, List.length_take]; rfl)) ?_; (with_reducible refine (spec_TurnHand.calls k4 x372000_4 x372001_4 (rd t360 x191_4) 1 t377 t378 _ _ A261.out).mono ?_); rintro e wx2 ⟨rfl, hb⟩; refine ⟨_, rfl, ?_⟩; have n0_ := Aside0.mk (Kd.R_below (by (with_reducible repeat (first | apply Kd.R_alloc | apply Kd.R_drewN | apply Kd.R_drew)); exact (Kd.R_mono (Kd.R_far (p := ⟨gbx0, 1, none⟩) (Kd.R_far (p := ⟨gbx0, 0, none⟩) (Kd.R_types HO_24.out BKx0.out (by decide)) (fun _ hk => hk.2) (.int .i64 t373)) (fun _ hk => hk.2) (.int .i64 t374)) (fun _ h_ => h_.1))) hb); have n1_ := Aside0.mk (Kd.R_below (by (with_reducible repeat (first | apply Kd.R_alloc | apply Kd.R_drewN | apply Kd.R_drew)); exact (Kd.R_mono (Kd.R_far (p := ⟨gbx0, 1, none⟩) (Kd.R_far (p := ⟨gbx0, 0, none⟩) (Kd.R_types HO_189.out BKx0.out (by decide)) (fun _ hk => hk.2) (.int .i64 t373)) (fun _ hk => hk.2) (.int .i64 t374)) (fun _ h_ => h_.1))) hb); have n2_ := Aside0.mk (blk_below (g := gb327) (o := .cells #[.int .i64 t323, .int .i64 t324] 28 (0, 0)) (by (with_reducible repeat (first | refine blk_drewN ?_ _ | refine blk_drew ?_ | refine blk_alloc ?_ _)); refine blk_far ?_ NBx1_376.out _; (with_reducible repeat (first | refine blk_drewN ?_ _ | refine blk_drew ?_ | refine blk_alloc ?_ _)); refine blk_far ?_ NBx1_376.out _; (with_reducible repeat (first | refine blk_drewN ?_ _ | refine blk_drew ?_ | refine blk_alloc ?_ _)); exact BK327.out) hb); have n3_ := Aside0.mk (blk_below (g := gb331) (o := .cells #[.int .i64 t328, .int .i64 t329] 28 (0, 0)) (by (with_reducible repeat (first | refine blk_drewN ?_ _ | refine blk_drew ?_ | refine blk_alloc ?_ _)); refine blk_far ?_ NBx2_376.out _; (with_reducible repeat (first | refine blk_drewN ?_ _ | refine blk_drew ?_ | refine blk_alloc ?_ _)); refine blk_far ?_ NBx2_376.out _; (with_reducible repeat (first | refine blk_drewN ?_ _ | refine blk_drew ?_ | refine blk_alloc ?_ _)); exact BK331.out) hb); have n4_ := Aside0.mk (blk_below (g := gb335) (o := .cells #[.int .i64 t332, .int .i64 t333] 28 (0, 0)) (by (with_reducible repeat (first | refine blk_drewN ?_ _ | refine blk_drew ?_ | refine blk_alloc ?_ _)); refine blk_far ?_ NBx3_376.out _; (with_reducible repeat (first | refine blk_drewN ?_ _ | refine blk_drew ?_ | refine blk_alloc ?_ _)); refine blk_far ?_ NBx3_376.out _; (with_reducible repeat (first | refine blk_drewN ?_ _ | refine blk_drew ?_ | refine blk_alloc ?_ _)); exact BK335.out) hb); have n5_ := Aside0.mk (blk_below (g := gb354) (o := .cells #[.int .i64 t350, .int .i64 t351] 28 (0, 0)) (by (with_reducible repeat (first | refine blk_drewN ?_ _ | refine blk_drew ?_ | refine blk_alloc ?_ _)); refine blk_far ?_ NBx4_376.out _; (with_reducible repeat (first | refine blk_drewN ?_ _ | refine blk_drew ?_ | refine blk_alloc ?_ _)); refine blk_far ?_ NBx4_376.out _; (with_reducible repeat (first | refine blk_drewN ?_ _ | refine blk_drew ?_ | refine blk_alloc ?_ _)); exact BK354.out) hb); have n6_ := Aside0.mk (blk_below (g := gb355) (o := .cells #[.int .i64 t352, .int .i64 t353] 28 (0, 0)) (by (with_reducible repeat (first | refine blk_drewN ?_ _ | refine blk_drew ?_ | refine blk_alloc ?_ _)); refine blk_far ?_ NBx5_376.out _; (with_reducible repeat (first | refine blk_drewN ?_ _ | refine blk_drew ?_ | refine blk_alloc ?_ _)); refine blk_far ?_ NBx5_376.out _; (with_reducible repeat (first | refine blk_drewN ?_ _ | refine blk_drew ?_ | refine blk_alloc ?_ _)); exact BK355.out) hb); have n7_ := Aside0.mk (blk_below (g := gb371) (o := .cells #[.int .i64 x372000_4, .int .i64 x372001_4] 28 (0, 0)) (by (with_reducible repeat (first | refine blk_drewN ?_ _ | refine blk_drew ?_ | refine blk_alloc ?_ _)); refine blk_far ?_ NBx6_376.out _; (with_reducible repeat (first | refine blk_drewN ?_ _ | refine blk_drew ?_ | refine blk_alloc ?_ _)); refine blk_far ?_ NBx6_376.out _; (with_reducible repeat (first | refine blk_drewN ?_ _ | refine blk_drew ?_ | refine blk_alloc ?_ _)); exact BK371.out) hb); have n8_ := Aside0.mk (blk_below (g := gbx0) (o := .cells #[.int .i64 t373, .int .i64 t374] 28 (0, 0)) (by (with_reducible repeat (first | refine blk_drewN ?_ _ | refine blk_drew ?_ | refine blk_alloc ?_ _)); refine blk_put (cs := #[.int .i64 t373, .int .i64 0]) ?_ 1 _ rfl; (with_reducible repeat (first | refine blk_drewN ?_ _ | refine blk_drew ?_ | refine blk_alloc ?_ _)); refine blk_put (cs := #[.int .i64 0, .int .i64 0]) ?_ 0 _ rfl; (with_reducible repeat (first | refine blk_drewN ?_ _ | refine blk_drew ?_ | refine blk_alloc ?_ _)); exact BKx0.out) hb); have n9_ := Aside0.mk (below_step (by repeat (first | (with_reducible first | exact HB.out | apply below_alloc | apply pw_below_drewN | apply below_drew1 | refine below_set ?_ GE327.out | refine below_set ?_ GE331.out | refine below_set ?_ GE335.out | refine below_set ?_ GE354.out | refine below_set ?_ GE355.out | refine below_set ?_ GE371.out | refine below_set ?_ GEx0.out) | exact HB.out)) hb); clear HO_24; clear HO_189; clear BK327; clear BK331; clear BK335; clear BK354; clear BK355; clear BK371; clear BKx0; clear HB; have HO_24 := n0_; have HO_189 := n1_; have BK327 := n2_; have BK331 := n3_; have BK335 := n4_; have BK354 := n5_; have BK355 := n6_; have BK371 := n7_; have BKx0 := n8_; have HB := n9_; clear n0_ n1_ n2_ n3_ n4_ n5_ n6_ n7_ n8_ n9_; (try clear hb); (try clear hb2); (try clear hk); (try clear hi)) | ((with_reducible refine gate_dst (N := 37) rfl ?_); refine box_event ?hg (N := 37) ?hd (cs := #[.int .i64 0, .int .i64 0]) (t := 28) ?hr ?_; (case hd => rfl); (case hg => rfl); (case hr => first | (go_simp; done) | (go_simp; rfl)); intro gbx7 hg wx3 hbox hb; have n0_ := Aside0.mk (Kd.R_below (by (with_reducible repeat (first | apply Kd.R_alloc | apply Kd.R_drewN | apply Kd.R_drew)); exact HO_24.out) hb); have n1_ := Aside0.mk (Kd.R_below (by (with_reducible repeat (first | apply Kd.R_alloc | apply Kd.R_drewN | apply Kd.R_drew)); exact HO_189.out) hb); have n2_ := Aside0.mk (blk_below (g := gb327) (o := .cells #[.int .i64 t323, .int .i64 t324] 28 (0, 0)) (by (with_reducible repeat (first | refine blk_drewN ?_ _ | refine blk_drew ?_ | refine blk_alloc ?_ _)); exact BK327.out) hb); have n3_ := Aside0.mk (blk_below (g := gb331) (o := .cells #[.int .i64 t328, .int .i64 t329] 28 (0, 0)) (by (with_reducible repeat (first | refine blk_drewN ?_ _ | refine blk_drew ?_ | refine blk_alloc ?_ _)); exact BK331.out) hb); have n4_ := Aside0.mk (blk_below (g := gb335) (o := .cells #[.int .i64 t332, .int .i64 t333] 28 (0, 0)) (by (with_reducible repeat (first | refine blk_drewN ?_ _ | refine blk_drew ?_ | refine blk_alloc ?_ _)); exact BK335.out) hb); have n5_ := Aside0.mk (blk_below (g := gb354) (o := .cells #[.int .i64 t350, .int .i64 t351] 28 (0, 0)) (by (with_reducible repeat (first | refine blk_drewN ?_ _ | refine blk_drew ?_ | refine blk_alloc ?_ _)); exact BK354.out) hb); have n6_ := Aside0.mk (blk_below (g := gb355) (o := .cells #[.int .i64 t352, .int .i64 t353] 28 (0, 0)) (by (with_reducible repeat (first | refine blk_drewN ?_ _ | refine blk_drew ?_ | refine blk_alloc ?_ _)); exact BK355.out) hb); have n7_ := Aside0.mk (blk_below (g := gb371) (o := .cells #[.int .i64 x372000_4, .int .i64 x372001_4] 28 (0, 0)) (by (with_reducible repeat (first | refine blk_drewN ?_ _ | refine blk_drew ?_ | refine blk_alloc ?_ _)); exact BK371.out) hb); have n8_ := Aside0.mk (blk_below (g := gbx0) (o := .cells #[.int .i64 t373, .int .i64 t374] 28 (0, 0)) (by (with_reducible repeat (first | refine blk_drewN ?_ _ | refine blk_drew ?_ | refine blk_alloc ?_ _)); exact BKx0.out) hb); have n9_ := Aside0.mk (below_step (by repeat (first | (with_reducible first | exact HB.out | apply below_alloc | apply pw_below_drewN | apply below_drew1 | refine below_set ?_ GE327.out | refine below_set ?_ GE331.out | refine below_set ?_ GE335.out | refine below_set ?_ GE354.out | refine below_set ?_ GE355.out | refine below_set ?_ GE371.out | refine below_set ?_ GEx0.out) | exact HB.out)) hb); have n10_ := Aside0.mk (hbox); have n11_ := Aside0.mk ((by rw [hg]; exact (below_size (by repeat (first | (with_reducible first | exact HB.out | apply below_alloc | apply pw_below_drewN | apply below_drew1 | refine below_set ?_ GE327.out | refine below_set ?_ GE331.out | refine below_set ?_ GE335.out | refine below_set ?_ GE354.out | refine below_set ?_ GE355.out | refine below_set ?_ GE371.out | refine below_set ?_ GEx0.out) | exact HB.out))) : w.heap.size ≤ gbx7)); have n12_ := Aside0.mk ((by rw [hg]; exact (below_size (by repeat (first | (with_reducible first | exact HB.out | apply below_alloc | apply pw_below_drewN | apply below_drew1 | refine below_set ?_ GE327.out | refine below_set ?_ GE331.out | refine below_set ?_ GE335.out | refine below_set ?_ GE354.out | refine below_set ?_ GE355.out | refine below_set ?_ GE371.out | refine below_set ?_ GEx0.out) | exact HB.out))) : w.heap.size ≤ gbx7)); have n13_ := Aside0.mk ((by rw [hg]; exact Nat.ne_of_lt (blk_lt (g := gb327) (o := .cells #[.int .i64 t323, .int .i64 t324] 28 (0, 0)) (by (with_reducible repeat (first | refine blk_drewN ?_ _ | refine blk_drew ?_ | refine blk_alloc ?_ _)); exact BK327.out)) : gb327 ≠ gbx7)); have n14_ := Aside0.mk ((by rw [hg]; exact Nat.ne_of_gt (blk_lt (g := gb327) (o := .cells #[.int .i64 t323, .int .i64 t324] 28 (0, 0)) (by (with_reducible repeat (first | refine blk_drewN ?_ _ | refine blk_drew ?_ | refine blk_alloc ?_ _)); exact BK327.out)) : gbx7 ≠ gb327)); have n15_ := Aside0.mk ((by rw [hg]; exact Nat.ne_of_lt (blk_lt (g := gb331) (o := .cells #[.int .i64 t328, .int .i64 t329] 28 (0, 0)) (by (with_reducible repeat (first | refine blk_drewN ?_ _ | refine blk_drew ?_ | refine blk_alloc ?_ _)); exact BK331.out)) : gb331 ≠ gbx7)); have n16_ := Aside0.mk ((by rw [hg]; exact Nat.ne_of_gt (blk_lt (g := gb331) (o := .cells #[.int .i64 t328, .int .i64 t329] 28 (0, 0)) (by (with_reducible repeat (first | refine blk_drewN ?_ _ | refine blk_drew ?_ | refine blk_alloc ?_ _)); exact BK331.out)) : gbx7 ≠ gb331)); have n17_ := Aside0.mk ((by rw [hg]; exact Nat.ne_of_lt (blk_lt (g := gb335) (o := .cells #[.int .i64 t332, .int .i64 t333] 28 (0, 0)) (by (with_reducible repeat (first | refine blk_drewN ?_ _ | refine blk_drew ?_ | refine blk_alloc ?_ _)); exact BK335.out)) : gb335 ≠ gbx7)); have n18_ := Aside0.mk ((by rw [hg]; exact Nat.ne_of_gt (blk_lt (g := gb335) (o := .cells #[.int .i64 t332, .int .i64 t333] 28 (0, 0)) (by (with_reducible repeat (first | refine blk_drewN ?_ _ | refine blk_drew ?_ | refine blk_alloc ?_ _)); exact BK335.out)) : gbx7 ≠ gb335)); have n19_ := Aside0.mk ((by rw [hg]; exact Nat.ne_of_lt (blk_lt (g := gb354) (o := .cells #[.int .i64 t350, .int .i64 t351] 28 (0, 0)) (by (with_reducible repeat (first | refine blk_drewN ?_ _ | refine blk_drew ?_ | refine blk_alloc ?_ _)); exact BK354.out)) : gb354 ≠ gbx7)); have n20_ := Aside0.mk ((by rw [hg]; exact Nat.ne_of_gt (blk_lt (g := gb354) (o := .cells #[.int .i64 t350, .int .i64 t351] 28 (0, 0)) (by (with_reducible repeat (first | refine blk_drewN ?_ _ | refine blk_drew ?_ | refine blk_alloc ?_ _)); exact BK354.out)) : gbx7 ≠ gb354)); have n21_ := Aside0.mk ((by rw [hg]; exact Nat.ne_of_lt (blk_lt (g := gb355) (o := .cells #[.int .i64 t352, .int .i64 t353] 28 (0, 0)) (by (with_reducible repeat (first | refine blk_drewN ?_ _ | refine blk_drew ?_ | refine blk_alloc ?_ _)); exact BK355.out)) : gb355 ≠ gbx7)); have n22_ := Aside0.mk ((by rw [hg]; exact Nat.ne_of_gt (blk_lt (g := gb355) (o := .cells #[.int .i64 t352, .int .i64 t353] 28 (0, 0)) (by (with_reducible repeat (first | refine blk_drewN ?_ _ | refine blk_drew ?_ | refine blk_alloc ?_ _)); exact BK355.out)) : gbx7 ≠ gb355)); have n23_ := Aside0.mk ((by rw [hg]; exact Nat.ne_of_lt (blk_lt (g := gb371) (o := .cells #[.int .i64 x372000_4, .int .i64 x372001_4] 28 (0, 0)) (by (with_reducible repeat (first | refine blk_drewN ?_ _ | refine blk_drew ?_ | refine blk_alloc ?_ _)); exact BK371.out)) : gb371 ≠ gbx7)); have n24_ := Aside0.mk ((by rw [hg]; exact Nat.ne_of_gt (blk_lt (g := gb371) (o := .cells #[.int .i64 x372000_4, .int .i64 x372001_4] 28 (0, 0)) (by (with_reducible repeat (first | refine blk_drewN ?_ _ | refine blk_drew ?_ | refine blk_alloc ?_ _)); exact BK371.out)) : gbx7 ≠ gb371)); have n25_ := Aside0.mk ((by rw [hg]; exact Nat.ne_of_lt (blk_lt (g := gbx0) (o := .cells #[.int .i64 t373, .int .i64 t374] 28 (0, 0)) (by (with_reducible repeat (first | refine blk_drewN ?_ _ | refine blk_drew ?_ | refine blk_alloc ?_ _)); exact BKx0.out)) : gbx0 ≠ gbx7)); have n26_ := Aside0.mk ((by rw [hg]; exact Nat.ne_of_gt (blk_lt (g := gbx0) (o := .cells #[.int .i64 t373, .int .i64 t374] 28 (0, 0)) (by (with_reducible repeat (first | refine blk_drewN ?_ _ | refine blk_drew ?_ | refine blk_alloc ?_ _)); exact BKx0.out)) : gbx7 ≠ gbx0)); clear HO_24; clear HO_189; clear BK327; clear BK331; clear BK335; clear BK354; clear BK355; clear BK371; clear BKx0; clear HB; have HO_24 := n0_; have HO_189 := n1_; have BK327 := n2_; have BK331 := n3_; have BK335 := n4_; have BK354 := n5_; have BK355 := n6_; have BK371 := n7_; have BKx0 := n8_; have HB := n9_; have BKx7 := n10_; have GWx7 := n11_; have GEx7 := n12_; have NBx1_380 := n13_; have NBx7_327 := n14_; have NBx2_380 := n15_; have NBx7_331 := n16_; have NBx3_380 := n17_; have NBx7_335 := n18_; have NBx4_380 := n19_; have NBx7_354 := n20_; have NBx5_380 := n21_; have NBx7_355 := n22_; have NBx6_380 := n23_; have NBx7_371 := n24_; have NBx0_380 := n25_; have NBx7_376 := n26_; clear n0_ n1_ n2_ n3_ n4_ n5_ n6_ n7_ n8_ n9_ n10_ n11_ n12_ n13_ n14_ n15_ n16_ n17_ n18_ n19_ n20_ n21_ n22_ n23_ n24_ n25_ n26_; clear hb hbox hg; have hnbx15 := NBx7_327.out; have hncx15 := NBx1_380.out; have hnbx16 := NBx7_331.out; have hncx16 := NBx2_380.out; have hnbx17 := NBx7_335.out; have hncx17 := NBx3_380.out; have hnbx18 := NBx7_354.out; have hncx18 := NBx4_380.out; have hnbx19 := NBx7_355.out; have hncx19 := NBx5_380.out; have hnbx20 := NBx7_371.out; have hncx20 := NBx6_380.out; have hnbx21 := NBx7_376.out; have hncx21 := NBx0_380.out; have hczx22_0 : wx3.cell? ⟨gbx7, 0, none⟩ = some (.int .i64 0) := (blk_cell BKx7.out 0).trans rfl; have hczx22_1 : wx3.cell? ⟨gbx7, 1, none⟩ = some (.int .i64 0) := (blk_cell BKx7.out 1).trans rfl; have hfzx22_0 := blk_frozen BKx7.out 0; have hfzx22_1 := blk_frozen BKx7.out 1; have hczx23_0 : wx3.cell? ⟨gbx0, 0, none⟩ = some (.int .i64 t373) := (blk_cell BKx0.out 0).trans rfl; have hczx23_1 : wx3.cell? ⟨gbx0, 1, none⟩ = some (.int .i64 t374) := (blk_cell BKx0.out 1).trans rfl; have hfzx23_0 := blk_frozen BKx0.out 0; have hfzx23_1 := blk_frozen BKx0.out 1; have hczx24_0 : wx3.cell? ⟨gb371, 0, none⟩ = some (.int .i64 x372000_4) := (blk_cell BK371.out 0).trans rfl; have hczx24_1 : wx3.cell? ⟨gb371, 1, none⟩ = some (.int .i64 x372001_4) := (blk_cell BK371.out 1).trans rfl; have hfzx24_0 := blk_frozen BK371.out 0; have hfzx24_1 := blk_frozen BK371.out 1))
           · go_ret
             exact ⟨by first | rfl | (simp [errW_none, errW_some] <;> rfl) | (simp [*, errW_none, errW_some] <;> rfl), by repeat (first | (with_reducible first | exact HB.out | apply below_alloc | apply pw_below_drewN | apply below_drew1 | refine below_set ?_ GE327.out | refine below_set ?_ GE331.out | refine below_set ?_ GE335.out | refine below_set ?_ GE354.out | refine below_set ?_ GE355.out | refine below_set ?_ GE371.out | refine below_set ?_ GEx0.out | refine below_set ?_ GEx7.out) | exact HB.out)⟩
           · go_ret
             exact ⟨by first | rfl | (simp [errW_none, errW_some] <;> rfl) | (simp [*, errW_none, errW_some] <;> rfl), by repeat (first | (with_reducible first | exact HB.out | apply below_alloc | apply pw_below_drewN | apply below_drew1 | refine below_set ?_ GE327.out | refine below_set ?_ GE331.out | refine below_set ?_ GE335.out | refine below_set ?_ GE354.out | refine below_set ?_ GE355.out | refine below_set ?_ GE371.out | refine below_set ?_ GEx0.out | refine below_set ?_ GEx7.out) | exact HB.out)⟩
           ·
            go_roundg k4
            case measure => have := HJ7.out; have := HJ28.out; have := HJ197.out; have := HK4.out; omega
            case rel => exact ⟨(wrap64 (x191_4 + 1)), (t377), (t378), (by first | rfl | (simp; done) | (simp [*]; done)), H', ⟨by have := HJ7.out; have := HJ28.out; have := HJ197.out; have := HK4.out; omega⟩, ⟨by (with_reducible repeat (first | apply Kd.R_alloc | apply Kd.R_drewN | apply Kd.R_drew)); exact Kd.R_mono (Kd.R_far (p := ⟨gb371, 1, none⟩) (Kd.R_far (p := ⟨gb371, 0, none⟩) (Kd.R_far (p := ⟨gbx7, 1, none⟩) (Kd.R_far (p := ⟨gbx7, 0, none⟩) (Kd.R_types (Kd.R_types HO_24.out BKx7.out (by decide)) BK371.out (by decide)) (fun _ hk => hk.1.2) (.int .i64 t377)) (fun _ hk => hk.1.2) (.int .i64 t378)) (fun _ hk => hk.2) (.int .i64 t377)) (fun _ hk => hk.2) (.int .i64 t378)) (fun _ hk => trivial)⟩, ⟨by (with_reducible repeat (first | apply Kd.R_alloc | apply Kd.R_drewN | apply Kd.R_drew)); exact Kd.R_mono (Kd.R_far (p := ⟨gb371, 1, none⟩) (Kd.R_far (p := ⟨gb371, 0, none⟩) (Kd.R_far (p := ⟨gbx7, 1, none⟩) (Kd.R_far (p := ⟨gbx7, 0, none⟩) (Kd.R_types (Kd.R_types HO_189.out BKx7.out (by decide)) BK371.out (by decide)) (fun _ hk => hk.1.2) (.int .i64 t377)) (fun _ hk => hk.1.2) (.int .i64 t378)) (fun _ hk => hk.2) (.int .i64 t377)) (fun _ hk => hk.2) (.int .i64 t378)) (fun _ hk => trivial)⟩, ⟨by (with_reducible repeat (first | refine blk_drewN ?_ _ | refine blk_drew ?_ | refine blk_alloc ?_ _)); refine blk_far ?_ NB327_371.out _; (with_reducible repeat (first | refine blk_drewN ?_ _ | refine blk_drew ?_ | refine blk_alloc ?_ _)); refine blk_far ?_ NB327_371.out _; (with_reducible repeat (first | refine blk_drewN ?_ _ | refine blk_drew ?_ | refine blk_alloc ?_ _)); refine blk_far ?_ NBx1_380.out _; (with_reducible repeat (first | refine blk_drewN ?_ _ | refine blk_drew ?_ | refine blk_alloc ?_ _)); refine blk_far ?_ NBx1_380.out _; (with_reducible repeat (first | refine blk_drewN ?_ _ | refine blk_drew ?_ | refine blk_alloc ?_ _)); exact BK327.out⟩, ⟨by (with_reducible repeat (first | refine blk_drewN ?_ _ | refine blk_drew ?_ | refine blk_alloc ?_ _)); refine blk_far ?_ NB331_371.out _; (with_reducible repeat (first | refine blk_drewN ?_ _ | refine blk_drew ?_ | refine blk_alloc ?_ _)); refine blk_far ?_ NB331_371.out _; (with_reducible repeat (first | refine blk_drewN ?_ _ | refine blk_drew ?_ | refine blk_alloc ?_ _)); refine blk_far ?_ NBx2_380.out _; (with_reducible repeat (first | refine blk_drewN ?_ _ | refine blk_drew ?_ | refine blk_alloc ?_ _)); refine blk_far ?_ NBx2_380.out _; (with_reducible repeat (first | refine blk_drewN ?_ _ | refine blk_drew ?_ | refine blk_alloc ?_ _)); exact BK331.out⟩, ⟨by (with_reducible repeat (first | refine blk_drewN ?_ _ | refine blk_drew ?_ | refine blk_alloc ?_ _)); refine blk_far ?_ NB335_371.out _; (with_reducible repeat (first | refine blk_drewN ?_ _ | refine blk_drew ?_ | refine blk_alloc ?_ _)); refine blk_far ?_ NB335_371.out _; (with_reducible repeat (first | refine blk_drewN ?_ _ | refine blk_drew ?_ | refine blk_alloc ?_ _)); refine blk_far ?_ NBx3_380.out _; (with_reducible repeat (first | refine blk_drewN ?_ _ | refine blk_drew ?_ | refine blk_alloc ?_ _)); refine blk_far ?_ NBx3_380.out _; (with_reducible repeat (first | refine blk_drewN ?_ _ | refine blk_drew ?_ | refine blk_alloc ?_ _)); exact BK335.out⟩, ⟨by (with_reducible repeat (first | refine blk_drewN ?_ _ | refine blk_drew ?_ | refine blk_alloc ?_ _)); refine blk_far ?_ NB354_371.out _; (with_reducible repeat (first | refine blk_drewN ?_ _ | refine blk_drew ?_ | refine blk_alloc ?_ _)); refine blk_far ?_ NB354_371.out _; (with_reducible repeat (first | refine blk_drewN ?_ _ | refine blk_drew ?_ | refine blk_alloc ?_ _)); refine blk_far ?_ NBx4_380.out _; (with_reducible repeat (first | refine blk_drewN ?_ _ | refine blk_drew ?_ | refine blk_alloc ?_ _)); refine blk_far ?_ NBx4_380.out _; (with_reducible repeat (first | refine blk_drewN ?_ _ | refine blk_drew ?_ | refine blk_alloc ?_ _)); exact BK354.out⟩, ⟨by (with_reducible repeat (first | refine blk_drewN ?_ _ | refine blk_drew ?_ | refine blk_alloc ?_ _)); refine blk_far ?_ NB355_371.out _; (with_reducible repeat (first | refine blk_drewN ?_ _ | refine blk_drew ?_ | refine blk_alloc ?_ _)); refine blk_far ?_ NB355_371.out _; (with_reducible repeat (first | refine blk_drewN ?_ _ | refine blk_drew ?_ | refine blk_alloc ?_ _)); refine blk_far ?_ NBx5_380.out _; (with_reducible repeat (first | refine blk_drewN ?_ _ | refine blk_drew ?_ | refine blk_alloc ?_ _)); refine blk_far ?_ NBx5_380.out _; (with_reducible repeat (first | refine blk_drewN ?_ _ | refine blk_drew ?_ | refine blk_alloc ?_ _)); exact BK355.out⟩, ⟨by (with_reducible repeat (first | refine blk_drewN ?_ _ | refine blk_drew ?_ | refine blk_alloc ?_ _)); refine blk_put (cs := #[.int .i64 t377, .int .i64 x372001_4]) ?_ 1 _ rfl; (with_reducible repeat (first | refine blk_drewN ?_ _ | refine blk_drew ?_ | refine blk_alloc ?_ _)); refine blk_put (cs := #[.int .i64 x372000_4, .int .i64 x372001_4]) ?_ 0 _ rfl; (with_reducible repeat (first | refine blk_drewN ?_ _ | refine blk_drew ?_ | refine blk_alloc ?_ _)); refine blk_far ?_ NBx6_380.out _; (with_reducible repeat (first | refine blk_drewN ?_ _ | refine blk_drew ?_ | refine blk_alloc ?_ _)); refine blk_far ?_ NBx6_380.out _; (with_reducible repeat (first | refine blk_drewN ?_ _ | refine blk_drew ?_ | refine blk_alloc ?_ _)); exact BK371.out⟩, ⟨by repeat (first | (with_reducible first | exact HB.out | apply below_alloc | apply pw_below_drewN | apply below_drew1 | refine below_set ?_ GE327.out | refine below_set ?_ GE331.out | refine below_set ?_ GE335.out | refine below_set ?_ GE354.out | refine below_set ?_ GE355.out | refine below_set ?_ GE371.out | refine below_set ?_ GEx0.out | refine below_set ?_ GEx7.out) | exact HB.out)⟩⟩
           · go_ret
             exact ⟨by first | rfl | (simp [errW_none, errW_some] <;> rfl) | (simp [*, errW_none, errW_some] <;> rfl), by repeat (first | (with_reducible first | exact HB.out | apply below_alloc | apply pw_below_drewN | apply below_drew1 | refine below_set ?_ GE327.out | refine below_set ?_ GE331.out | refine below_set ?_ GE335.out | refine below_set ?_ GE354.out | refine below_set ?_ GE355.out | refine below_set ?_ GE371.out | refine below_set ?_ GEx0.out | refine below_set ?_ GEx7.out) | exact HB.out)⟩
          · as_aux_lemma =>
           rw [if_neg c257] at H
           have c257b0 : decide (x191_4 < (t360.length : Int)) = false := decide_eq_false c257
           clear c257
           (first | rw [c257b0] | (simp only [i64_w, i32_w]; rw [c257b0]) | skip)
           refine dite ((!(x372000_4 == t352) || (!(x372001_4 == t353))) = true) (fun c372 => ?qp14) (fun c372 => ?qn14)
           case' qp14 =>
            rw [if_pos c372] at H
            have c372b0 : (!(x372000_4 == t352) || (!(x372001_4 == t353))) = true := c372
            clear c372
            obtain rfl := Option.some.inj H
            have hnbx0 := NB371_327.out
            have hncx0 := NB327_371.out
            have hnbx1 := NB371_331.out
            have hncx1 := NB331_371.out
            have hnbx2 := NB371_335.out
            have hncx2 := NB335_371.out
            have hnbx3 := NB371_354.out
            have hncx3 := NB354_371.out
            have hnbx4 := NB371_355.out
            have hncx4 := NB355_371.out
            have hczx5_0 : wr.cell? ⟨gb371, 0, none⟩ = some (.int .i64 x372000_4) := (blk_cell BK371.out 0).trans rfl
            have hczx5_1 : wr.cell? ⟨gb371, 1, none⟩ = some (.int .i64 x372001_4) := (blk_cell BK371.out 1).trans rfl
            have hfzx5_0 := blk_frozen BK371.out 0
            have hfzx5_1 := blk_frozen BK371.out 1
            have hnbx6 := NB355_327.out
            have hncx6 := NB327_355.out
            have hnbx7 := NB355_331.out
            have hncx7 := NB331_355.out
            have hnbx8 := NB355_335.out
            have hncx8 := NB335_355.out
            have hnbx9 := NB355_354.out
            have hncx9 := NB354_355.out
            have hczx10_0 : wr.cell? ⟨gb355, 0, none⟩ = some (.int .i64 t352) := (blk_cell BK355.out 0).trans rfl
            have hczx10_1 : wr.cell? ⟨gb355, 1, none⟩ = some (.int .i64 t353) := (blk_cell BK355.out 1).trans rfl
            have hfzx10_0 := blk_frozen BK355.out 0
            have hfzx10_1 := blk_frozen BK355.out 1
           case' qn14 =>
            rw [if_neg c372] at H
            have c372b0 : (!(x372000_4 == t352) || (!(x372001_4 == t353))) = false := by simpa using c372
            clear c372
            refine dite ((t360.length : Int) = t366) (fun c384 => ?qp15) (fun c384 => ?qn15)
            case' qp15 =>
             rw [if_pos c384] at H
             have c384b0 : ((t360.length : Int) == t366) = true := beq_iff_eq.mpr c384
             have c384b1 : ((t360.length : Int) != t366) = false := bne_eq_false_iff_eq.mpr c384
             clear c384
             refine dite (t366 > 3) (fun c385 => ?qp16) (fun c385 => ?qn16)
             case' qp16 =>
              rw [if_pos c385] at H
              have c385b0 : decide (3 < t366) = true := decide_eq_true c385
              clear c385
              obtain rfl := Option.some.inj H
              have hnbx0 := NB371_327.out
              have hncx0 := NB327_371.out
              have hnbx1 := NB371_331.out
              have hncx1 := NB331_371.out
              have hnbx2 := NB371_335.out
              have hncx2 := NB335_371.out
              have hnbx3 := NB371_354.out
              have hncx3 := NB354_371.out
              have hnbx4 := NB371_355.out
              have hncx4 := NB355_371.out
              have hczx5_0 : wr.cell? ⟨gb371, 0, none⟩ = some (.int .i64 x372000_4) := (blk_cell BK371.out 0).trans rfl
              have hczx5_1 : wr.cell? ⟨gb371, 1, none⟩ = some (.int .i64 x372001_4) := (blk_cell BK371.out 1).trans rfl
              have hfzx5_0 := blk_frozen BK371.out 0
              have hfzx5_1 := blk_frozen BK371.out 1
              have hnbx6 := NB355_327.out
              have hncx6 := NB327_355.out
              have hnbx7 := NB355_331.out
              have hncx7 := NB331_355.out
              have hnbx8 := NB355_335.out
              have hncx8 := NB335_355.out
              have hnbx9 := NB355_354.out
              have hncx9 := NB354_355.out
              have hczx10_0 : wr.cell? ⟨gb355, 0, none⟩ = some (.int .i64 t352) := (blk_cell BK355.out 0).trans rfl
              have hczx10_1 : wr.cell? ⟨gb355, 1, none⟩ = some (.int .i64 t353) := (blk_cell BK355.out 1).trans rfl
              have hfzx10_0 := blk_frozen BK355.out 0
              have hfzx10_1 := blk_frozen BK355.out 1
             case' qn16 =>
              rw [if_neg c385] at H
              have c385b0 : decide (3 < t366) = false := decide_eq_false c385
              clear c385
              refine dite (((t366 == 0) != (t350 == t352 && (t351 == t353))) = true) (fun c397 => ?qp17) (fun c397 => ?qn17)
              case' qp17 =>
               rw [if_pos c397] at H
               have c397b0 : ((t366 == 0) != (t350 == t352 && (t351 == t353))) = true := c397
               (try (have c397b1 : decide ((t366 == 0) = (t350 == t352 && (t351 == t353))) = false := by simpa using c397))
               (try (have c397b2 : ((t366 == 0) == (t350 == t352 && (t351 == t353))) = false := by simpa using c397))
               (try (have c397b3 : ¬ ((t366 == 0) = (t350 == t352 && (t351 == t353))) := by simpa using c397))
               clear c397
               obtain rfl := Option.some.inj H
               have hnbx0 := NB371_327.out
               have hncx0 := NB327_371.out
               have hnbx1 := NB371_331.out
               have hncx1 := NB331_371.out
               have hnbx2 := NB371_335.out
               have hncx2 := NB335_371.out
               have hnbx3 := NB371_354.out
               have hncx3 := NB354_371.out
               have hnbx4 := NB371_355.out
               have hncx4 := NB355_371.out
               have hczx5_0 : wr.cell? ⟨gb371, 0, none⟩ = some (.int .i64 x372000_4) := (blk_cell BK371.out 0).trans rfl
               have hczx5_1 : wr.cell? ⟨gb371, 1, none⟩ = some (.int .i64 x372001_4) := (blk_cell BK371.out 1).trans rfl
               have hfzx5_0 := blk_frozen BK371.out 0
               have hfzx5_1 := blk_frozen BK371.out 1
               have hnbx6 := NB355_327.out
               have hncx6 := NB327_355.out
               have hnbx7 := NB355_331.out
               have hncx7 := NB331_355.out
               have hnbx8 := NB355_335.out
               have hncx8 := NB335_355.out
               have hnbx9 := NB355_354.out
               have hncx9 := NB354_355.out
               have hczx10_0 : wr.cell? ⟨gb355, 0, none⟩ = some (.int .i64 t352) := (blk_cell BK355.out 0).trans rfl
               have hczx10_1 : wr.cell? ⟨gb355, 1, none⟩ = some (.int .i64 t353) := (blk_cell BK355.out 1).trans rfl
               have hfzx10_0 := blk_frozen BK355.out 0
               have hfzx10_1 := blk_frozen BK355.out 1
               have hnbx11 := NB354_327.out
               have hncx11 := NB327_354.out
               have hnbx12 := NB354_331.out
               have hncx12 := NB331_354.out
               have hnbx13 := NB354_335.out
               have hncx13 := NB335_354.out
               have hczx14_0 : wr.cell? ⟨gb354, 0, none⟩ = some (.int .i64 t350) := (blk_cell BK354.out 0).trans rfl
               have hczx14_1 : wr.cell? ⟨gb354, 1, none⟩ = some (.int .i64 t351) := (blk_cell BK354.out 1).trans rfl
               have hfzx14_0 := blk_frozen BK354.out 0
               have hfzx14_1 := blk_frozen BK354.out 1
              case' qn17 =>
               rw [if_neg c397] at H
               have c397b0 : ((t366 == 0) != (t350 == t352 && (t351 == t353))) = false := by simpa using c397
               (try (have c397b1 : decide ((t366 == 0) = (t350 == t352 && (t351 == t353))) = true := by simpa using c397))
               (try (have c397b2 : ((t366 == 0) == (t350 == t352 && (t351 == t353))) = true := by simpa using c397))
               clear c397
               refine dite (t370 = true) (fun c413 => ?qp18) (fun c413 => ?qn18)
               case' qp18 =>
                subst c413
                have H1 : (if t369 = t366 then (laws_FnTurns.j6 k4 l1) else (some false)) = some r := by rw [if_pos rfl] at H; exact H
                clear H
                have H := H1
                clear H1
                refine dite (t369 = t366) (fun c414 => ?qp19) (fun c414 => ?qn19)
                case' qp19 =>
                 rw [if_pos c414] at H
                 have c414b0 : (t369 == t366) = true := beq_iff_eq.mpr c414
                 have c414b1 : (t369 != t366) = false := bne_eq_false_iff_eq.mpr c414
                 clear c414
                 have H' := Aside0.mk H
                 clear H
                 have hnbx0 := NB371_327.out
                 have hncx0 := NB327_371.out
                 have hnbx1 := NB371_331.out
                 have hncx1 := NB331_371.out
                 have hnbx2 := NB371_335.out
                 have hncx2 := NB335_371.out
                 have hnbx3 := NB371_354.out
                 have hncx3 := NB354_371.out
                 have hnbx4 := NB371_355.out
                 have hncx4 := NB355_371.out
                 have hczx5_0 : wr.cell? ⟨gb371, 0, none⟩ = some (.int .i64 x372000_4) := (blk_cell BK371.out 0).trans rfl
                 have hczx5_1 : wr.cell? ⟨gb371, 1, none⟩ = some (.int .i64 x372001_4) := (blk_cell BK371.out 1).trans rfl
                 have hfzx5_0 := blk_frozen BK371.out 0
                 have hfzx5_1 := blk_frozen BK371.out 1
                 have hnbx6 := NB355_327.out
                 have hncx6 := NB327_355.out
                 have hnbx7 := NB355_331.out
                 have hncx7 := NB331_355.out
                 have hnbx8 := NB355_335.out
                 have hncx8 := NB335_355.out
                 have hnbx9 := NB355_354.out
                 have hncx9 := NB354_355.out
                 have hczx10_0 : wr.cell? ⟨gb355, 0, none⟩ = some (.int .i64 t352) := (blk_cell BK355.out 0).trans rfl
                 have hczx10_1 : wr.cell? ⟨gb355, 1, none⟩ = some (.int .i64 t353) := (blk_cell BK355.out 1).trans rfl
                 have hfzx10_0 := blk_frozen BK355.out 0
                 have hfzx10_1 := blk_frozen BK355.out 1
                 have hnbx11 := NB354_327.out
                 have hncx11 := NB327_354.out
                 have hnbx12 := NB354_331.out
                 have hncx12 := NB331_354.out
                 have hnbx13 := NB354_335.out
                 have hncx13 := NB335_354.out
                 have hczx14_0 : wr.cell? ⟨gb354, 0, none⟩ = some (.int .i64 t350) := (blk_cell BK354.out 0).trans rfl
                 have hczx14_1 : wr.cell? ⟨gb354, 1, none⟩ = some (.int .i64 t351) := (blk_cell BK354.out 1).trans rfl
                 have hfzx14_0 := blk_frozen BK354.out 0
                 have hfzx14_1 := blk_frozen BK354.out 1
                case' qn19 =>
                 rw [if_neg c414] at H
                 have c414b0 : (t369 == t366) = false := beq_eq_false_iff_ne.mpr c414
                 have c414b1 : (t369 != t366) = true := bne_iff_ne.mpr c414
                 obtain rfl := Option.some.inj H
                 have hnbx0 := NB371_327.out
                 have hncx0 := NB327_371.out
                 have hnbx1 := NB371_331.out
                 have hncx1 := NB331_371.out
                 have hnbx2 := NB371_335.out
                 have hncx2 := NB335_371.out
                 have hnbx3 := NB371_354.out
                 have hncx3 := NB354_371.out
                 have hnbx4 := NB371_355.out
                 have hncx4 := NB355_371.out
                 have hczx5_0 : wr.cell? ⟨gb371, 0, none⟩ = some (.int .i64 x372000_4) := (blk_cell BK371.out 0).trans rfl
                 have hczx5_1 : wr.cell? ⟨gb371, 1, none⟩ = some (.int .i64 x372001_4) := (blk_cell BK371.out 1).trans rfl
                 have hfzx5_0 := blk_frozen BK371.out 0
                 have hfzx5_1 := blk_frozen BK371.out 1
                 have hnbx6 := NB355_327.out
                 have hncx6 := NB327_355.out
                 have hnbx7 := NB355_331.out
                 have hncx7 := NB331_355.out
                 have hnbx8 := NB355_335.out
                 have hncx8 := NB335_355.out
                 have hnbx9 := NB355_354.out
                 have hncx9 := NB354_355.out
                 have hczx10_0 : wr.cell? ⟨gb355, 0, none⟩ = some (.int .i64 t352) := (blk_cell BK355.out 0).trans rfl
                 have hczx10_1 : wr.cell? ⟨gb355, 1, none⟩ = some (.int .i64 t353) := (blk_cell BK355.out 1).trans rfl
                 have hfzx10_0 := blk_frozen BK355.out 0
                 have hfzx10_1 := blk_frozen BK355.out 1
                 have hnbx11 := NB354_327.out
                 have hncx11 := NB327_354.out
                 have hnbx12 := NB354_331.out
                 have hncx12 := NB331_354.out
                 have hnbx13 := NB354_335.out
                 have hncx13 := NB335_354.out
                 have hczx14_0 : wr.cell? ⟨gb354, 0, none⟩ = some (.int .i64 t350) := (blk_cell BK354.out 0).trans rfl
                 have hczx14_1 : wr.cell? ⟨gb354, 1, none⟩ = some (.int .i64 t351) := (blk_cell BK354.out 1).trans rfl
                 have hfzx14_0 := blk_frozen BK354.out 0
                 have hfzx14_1 := blk_frozen BK354.out 1
               case' qn18 =>
                replace c413 := Bool.eq_false_iff.mpr c413
                subst c413
                have H1 : (some false) = some r := by rw [if_neg (show ¬ (false = true) by decide)] at H; exact H
                clear H
                have H := H1
                clear H1
                obtain rfl := Option.some.inj H
                have hnbx0 := NB371_327.out
                have hncx0 := NB327_371.out
                have hnbx1 := NB371_331.out
                have hncx1 := NB331_371.out
                have hnbx2 := NB371_335.out
                have hncx2 := NB335_371.out
                have hnbx3 := NB371_354.out
                have hncx3 := NB354_371.out
                have hnbx4 := NB371_355.out
                have hncx4 := NB355_371.out
                have hczx5_0 : wr.cell? ⟨gb371, 0, none⟩ = some (.int .i64 x372000_4) := (blk_cell BK371.out 0).trans rfl
                have hczx5_1 : wr.cell? ⟨gb371, 1, none⟩ = some (.int .i64 x372001_4) := (blk_cell BK371.out 1).trans rfl
                have hfzx5_0 := blk_frozen BK371.out 0
                have hfzx5_1 := blk_frozen BK371.out 1
                have hnbx6 := NB355_327.out
                have hncx6 := NB327_355.out
                have hnbx7 := NB355_331.out
                have hncx7 := NB331_355.out
                have hnbx8 := NB355_335.out
                have hncx8 := NB335_355.out
                have hnbx9 := NB355_354.out
                have hncx9 := NB354_355.out
                have hczx10_0 : wr.cell? ⟨gb355, 0, none⟩ = some (.int .i64 t352) := (blk_cell BK355.out 0).trans rfl
                have hczx10_1 : wr.cell? ⟨gb355, 1, none⟩ = some (.int .i64 t353) := (blk_cell BK355.out 1).trans rfl
                have hfzx10_0 := blk_frozen BK355.out 0
                have hfzx10_1 := blk_frozen BK355.out 1
                have hnbx11 := NB354_327.out
                have hncx11 := NB327_354.out
                have hnbx12 := NB354_331.out
                have hncx12 := NB331_354.out
                have hnbx13 := NB354_335.out
                have hncx13 := NB335_354.out
                have hczx14_0 : wr.cell? ⟨gb354, 0, none⟩ = some (.int .i64 t350) := (blk_cell BK354.out 0).trans rfl
                have hczx14_1 : wr.cell? ⟨gb354, 1, none⟩ = some (.int .i64 t351) := (blk_cell BK354.out 1).trans rfl
                have hfzx14_0 := blk_frozen BK354.out 0
                have hfzx14_1 := blk_frozen BK354.out 1
            case' qn15 =>
             rw [if_neg c384] at H
             have c384b0 : ((t360.length : Int) == t366) = false := beq_eq_false_iff_ne.mpr c384
             have c384b1 : ((t360.length : Int) != t366) = true := bne_iff_ne.mpr c384
             obtain rfl := Option.some.inj H
             have hnbx0 := NB371_327.out
             have hncx0 := NB327_371.out
             have hnbx1 := NB371_331.out
             have hncx1 := NB331_371.out
             have hnbx2 := NB371_335.out
             have hncx2 := NB335_371.out
             have hnbx3 := NB371_354.out
             have hncx3 := NB354_371.out
             have hnbx4 := NB371_355.out
             have hncx4 := NB355_371.out
             have hczx5_0 : wr.cell? ⟨gb371, 0, none⟩ = some (.int .i64 x372000_4) := (blk_cell BK371.out 0).trans rfl
             have hczx5_1 : wr.cell? ⟨gb371, 1, none⟩ = some (.int .i64 x372001_4) := (blk_cell BK371.out 1).trans rfl
             have hfzx5_0 := blk_frozen BK371.out 0
             have hfzx5_1 := blk_frozen BK371.out 1
             have hnbx6 := NB355_327.out
             have hncx6 := NB327_355.out
             have hnbx7 := NB355_331.out
             have hncx7 := NB331_355.out
             have hnbx8 := NB355_335.out
             have hncx8 := NB335_355.out
             have hnbx9 := NB355_354.out
             have hncx9 := NB354_355.out
             have hczx10_0 : wr.cell? ⟨gb355, 0, none⟩ = some (.int .i64 t352) := (blk_cell BK355.out 0).trans rfl
             have hczx10_1 : wr.cell? ⟨gb355, 1, none⟩ = some (.int .i64 t353) := (blk_cell BK355.out 1).trans rfl
             have hfzx10_0 := blk_frozen BK355.out 0
             have hfzx10_1 := blk_frozen BK355.out 1
           all_goals
            go_wp2
           · go_ret
             exact ⟨by first | rfl | (simp [errW_none, errW_some] <;> rfl) | (simp [*, errW_none, errW_some] <;> rfl), by repeat (first | (with_reducible first | exact HB.out | apply below_alloc | apply pw_below_drewN | apply below_drew1 | refine below_set ?_ GE327.out | refine below_set ?_ GE331.out | refine below_set ?_ GE335.out | refine below_set ?_ GE354.out | refine below_set ?_ GE355.out | refine below_set ?_ GE371.out) | exact HB.out)⟩
           · go_ret
             exact ⟨by first | rfl | (simp [errW_none, errW_some] <;> rfl) | (simp [*, errW_none, errW_some] <;> rfl), by repeat (first | (with_reducible first | exact HB.out | apply below_alloc | apply pw_below_drewN | apply below_drew1 | refine below_set ?_ GE327.out | refine below_set ?_ GE331.out | refine below_set ?_ GE335.out | refine below_set ?_ GE354.out | refine below_set ?_ GE355.out | refine below_set ?_ GE371.out) | exact HB.out)⟩
           · go_ret
             exact ⟨by first | rfl | (simp [errW_none, errW_some] <;> rfl) | (simp [*, errW_none, errW_some] <;> rfl), by repeat (first | (with_reducible first | exact HB.out | apply below_alloc | apply pw_below_drewN | apply below_drew1 | refine below_set ?_ GE327.out | refine below_set ?_ GE331.out | refine below_set ?_ GE335.out | refine below_set ?_ GE354.out | refine below_set ?_ GE355.out | refine below_set ?_ GE371.out) | exact HB.out)⟩
           · go_meet
             case rel => exact ⟨_, H', ⟨by have := HJ7.out; have := HJ28.out; have := HJ197.out; have := HK4.out; first | omega | exact Nat.le_refl _⟩, ⟨by (with_reducible repeat (first | refine blk_drewN ?_ _ | refine blk_drew ?_ | refine blk_alloc ?_ _)); exact BK327.out⟩, ⟨by (with_reducible repeat (first | refine blk_drewN ?_ _ | refine blk_drew ?_ | refine blk_alloc ?_ _)); exact BK331.out⟩, ⟨by (with_reducible repeat (first | refine blk_drewN ?_ _ | refine blk_drew ?_ | refine blk_alloc ?_ _)); exact BK335.out⟩, ⟨by (with_reducible repeat (first | refine blk_drewN ?_ _ | refine blk_drew ?_ | refine blk_alloc ?_ _)); exact BK354.out⟩, ⟨by (with_reducible repeat (first | refine blk_drewN ?_ _ | refine blk_drew ?_ | refine blk_alloc ?_ _)); exact BK355.out⟩, ⟨by repeat (first | (with_reducible first | exact HB.out | apply below_alloc | apply pw_below_drewN | apply below_drew1 | refine below_set ?_ GE327.out | refine below_set ?_ GE331.out | refine below_set ?_ GE335.out | refine below_set ?_ GE354.out | refine below_set ?_ GE355.out | refine below_set ?_ GE371.out) | exact HB.out)⟩⟩
           · go_ret
             exact ⟨by first | rfl | (simp [errW_none, errW_some] <;> rfl) | (simp [*, errW_none, errW_some] <;> rfl), by repeat (first | (with_reducible first | exact HB.out | apply below_alloc | apply pw_below_drewN | apply below_drew1 | refine below_set ?_ GE327.out | refine below_set ?_ GE331.out | refine below_set ?_ GE335.out | refine below_set ?_ GE354.out | refine below_set ?_ GE355.out | refine below_set ?_ GE371.out) | exact HB.out)⟩
           · go_ret
             exact ⟨by first | rfl | (simp [errW_none, errW_some] <;> rfl) | (simp [*, errW_none, errW_some] <;> rfl), by repeat (first | (with_reducible first | exact HB.out | apply below_alloc | apply pw_below_drewN | apply below_drew1 | refine below_set ?_ GE327.out | refine below_set ?_ GE331.out | refine below_set ?_ GE335.out | refine below_set ?_ GE354.out | refine below_set ?_ GE355.out | refine below_set ?_ GE371.out) | exact HB.out)⟩
           · go_ret
             exact ⟨by first | rfl | (simp [errW_none, errW_some] <;> rfl) | (simp [*, errW_none, errW_some] <;> rfl), by repeat (first | (with_reducible first | exact HB.out | apply below_alloc | apply pw_below_drewN | apply below_drew1 | refine below_set ?_ GE327.out | refine below_set ?_ GE331.out | refine below_set ?_ GE335.out | refine below_set ?_ GE354.out | refine below_set ?_ GE355.out | refine below_set ?_ GE371.out) | exact HB.out)⟩
       ·
        replace c236 := Bool.eq_false_iff.mpr c236
        subst c236
        have H1 : (laws_FnTurns.j6 kj197 l1) = some r := by rw [if_neg (show ¬ (false = true) by decide)] at H; exact H
        clear H
        have H := H1
        clear H1
        have H' := Aside0.mk H
        clear H
        go_wp2
        go_meet
        case rel => exact ⟨_, H', ⟨by have := HJ7.out; have := HJ28.out; have := HJ197.out; first | omega | exact Nat.le_refl _⟩, ⟨by (with_reducible repeat (first | refine blk_drewN ?_ _ | refine blk_drew ?_ | refine blk_alloc ?_ _)); exact BK327.out⟩, ⟨by (with_reducible repeat (first | refine blk_drewN ?_ _ | refine blk_drew ?_ | refine blk_alloc ?_ _)); exact BK331.out⟩, ⟨by (with_reducible repeat (first | refine blk_drewN ?_ _ | refine blk_drew ?_ | refine blk_alloc ?_ _)); exact BK335.out⟩, ⟨by (with_reducible repeat (first | refine blk_drewN ?_ _ | refine blk_drew ?_ | refine blk_alloc ?_ _)); exact BK354.out⟩, ⟨by (with_reducible repeat (first | refine blk_drewN ?_ _ | refine blk_drew ?_ | refine blk_alloc ?_ _)); exact BK355.out⟩, ⟨by repeat (first | (with_reducible first | exact HB.out | apply below_alloc | apply pw_below_drewN | apply below_drew1 | refine below_set ?_ GE327.out | refine below_set ?_ GE331.out | refine below_set ?_ GE335.out | refine below_set ?_ GE354.out | refine below_set ?_ GE355.out) | exact HB.out)⟩⟩
      case rest => as_aux_lemma =>
       exact laws_FnTurns.R3 _ A0 _ _ A1 _ _ _ _ HR1 HC1 _ _ _ _ _ _ _ _ _ _ _ GE327 _ GE331 _ GE335 _ HJ7 _ _ _ _ _ _ _ _ _ HJ28 _ _ _ _ _ _ _ _ _ _ _ _ GE354 _ GE355 _ _ _ HJ197 HC235 _ _ _ _ _ _ _ _ _ _ _ _ _ _ _ _ _ _ _ _ _ _ _ _ _ _ _ _ _ _ _ _ _ _ _ _ _ _ _ _ _ _ _ _ _ _ _ _ _ _ _ _ _ _ _ _ _ _ _ _ _ _ _ _ _ _ _ _ _ _ _ _ _ _ _ _ _ _ _ _ _ _ _ _ _ _ _ _ _ _ _ _ _ _ _ _ _ _ _ _ _ _ _ _ _ _ _ _ _ _ _ _ _ _ _ _ _ _ _ _ _ _ _ _ _ _ _ _ _ _ _ _ _ _ _ _ _ _ _ _ _ _ _ _ _ _ _ _ _ _ _ _ _ _ _ _ _ _ _ _ _ _ _ _ _ _ _ _ _ _ _ _ _ _ _ _ _ _ _ _ _ _ _ _ _ _ _ _ _ _ _ _ _ _ _ _ _ _ _ _ _ _ _ _ _ _ _ _ _ _ _ _ _ _ _ _ _ _ _ _ _ _ _ _ _ _ _ _ _ _ _ _ _ _ _ _ _ _ _ _ _ _ _ _ _ _ _ _ _ _ _ _ _ _ _ _ _ _ _ _ _ _ _ _ hcut _ (by assumption)
end Go.Proofs.Ytafpehjedkplpaa.FB
