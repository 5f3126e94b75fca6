import Derived.Test.YtaecjbhenknfkaaFDx0
import Derived.Test.YtaecjbhenknfkaaFDx2
import Derived.Test.YtaecjbhenknfkaaFDx6
import Derived.Test.YtaecjbhenknfkaaFDx9
import Derived.Test.YtaecjbhenknfkaaFDx10
import Derived.Test.YtaecjbhenknfkaaFDx11
import Derived.Test.YtaecjbhenknfkaaFDx12
import Derived.Test.YtaecjbhenknfkaaFDx14
import Derived.Test.YtaecjbhenknfkaaFDx16
import Derived.Test.YtaecjbhenknfkaaFDx18
import Derived.Test.YtaecjbhenknfkaaFDx20
import Derived.Test.YtaecjbhenknfkaaFDx22
import Derived.Test.YtaecjbhenknfkaaFDx23
import Derived.Test.YtaecjbhenknfkaaFDx27
import Derived.Test.YtaecjbhenknfkaaFDx28
import Derived.Test.YtaecjbhenknfkaaFDx292
-- laid by pr.py (wip/tools) over the kit's printer; Lean checks it
namespace Go.Proofs.Ytaecjbhenknfkaa.FD
open Go.RowKit Go.Proofs.YtaecjbhenknfkaaW.PrintWords Go.Proofs.YtaecjbhenknfkaaW.PrintLast Go.Proofs.YtaecjbhenknfkaaW.PrintMore
attribute [local go_sem] max2_int min2_int max_two min_two max_three min_three max_four min_four   -- for this text's walks alone
set_option linter.unusedVariables false
set_option linter.unusedSimpArgs false

/-! #### a part of the walk of laws_FnFingers -/
set_option maxHeartbeats 40000000 in
set_option maxRecDepth 100000 in
theorem laws_FnFingers.R0 (k : Nat) (A0 : Option Addr) (c0 : Nat) (l0 : List Int) (A1 : Option Addr) (c1 : Nat) (l1 : List Int) (s1 : Int) (s2 : Int) (s3 : Int) (s4 : Int) (s5 : Int) (s6 : Bool) (f : Int) (v : Int) (r1 : Int) (r2 : Int) (r3 : Int) (r4 : Int) (r5 : Int) (r6 : Bool) (ok : Bool) (b1 : Int) (b2 : Int) (b3 : Int) (b4 : Int) (b5 : Int) (b6 : Bool) (o1 : Int) (o2 : Int) (o3 : Int) (o4 : Int) (o5 : Int) (g : Bool) (n : Int) (e : Bool) (L : List S25) (x1 : Int) (x2 : Int) (x3 : Int) (x4 : Int) (x5 : Int) (x6 : Bool) (i : Int) (d : Int) (h : Bool) (w : World) (hc1 : List.length l1 ≤ c1) (hd2 : spec_DrawOppositeShape.f k l1 = some (b1, b2, b3, b4, b5, b6)) (hi2 : impl_OppositeShape.f k b1 b2 b3 b4 b5 b6 = some (o1, o2, o3, o4, o5, false, g)) (hs2 : spec_OppositeShape.f k b1 b2 b3 b4 b5 b6 = some (o1, o2, o3, o4, o5, false, g)) (hi3 : impl_OpenFingers.f k b1 b2 b3 b4 b5 b6 = some (n, g)) (hs3 : spec_OpenFingers.f k b1 b2 b3 b4 b5 b6 = some (n, g)) (hi4 : impl_IsEasyShape.f b1 b2 b3 b4 b5 b6 = some (e, g)) (hs4 : spec_IsEasyShape.f k b1 b2 b3 b4 b5 b6 = some (e, g)) (hi5 : impl_IsShape.f b1 b2 b3 b4 b5 b6 = some g) (hd3 : spec_DrawNearestShape.f k l1 = some (L, x1, x2, x3, x4, x5, x6)) (hi6 : impl_NearestShape.f k L x1 x2 x3 x4 x5 x6 = some (i, d, h)) (hs6 : spec_NearestShape.f k L x1 x2 x3 x4 x5 x6 = some (i, d, h)) (HR0 : Aside0 (Kd.C (Kd.int IntKind.u8) w A0 (List.length l0) l0)) (HR1 : Aside0 (Kd.C (Kd.int IntKind.u8) w A1 (List.length l1) l1)) (HS : Aside0 (ok = true → Set s1 s2 s3 s4 s5 s6 f v r1 r2 r3 r4 r5 r6)) (HO : Aside0 (g = true → Opp k b1 b2 b3 b4 b5 o1 o2 o3 o4 o5 n)) (HN : Aside0 (h = true → Near k L i d x1 x2 x3 x4 x5 x6)) (g5 : Nat) (g8 : Nat) (g10 : Nat) (U10 : World) (HB : Aside0 (Below (Array.size (World.heap w)) w U10)) (wc : World) (u4 : Value) (u12 : Value) (u13 : Value) (u14 : Value) (u15 : Value) (u48 : Value) (u49 : Value) (u50 : Value) (u51 : Value) (u52 : Value) (u53 : Value) (u54 : Value) (u55 : Value) (u56 : Value) (u57 : Value) (u58 : Value) (u59 : Value) (u60 : Value) (u61 : Value) (u62 : Value) (u63 : Value) (u64 : Value) (u65 : Value) (u66 : Value) (u67 : Value) (u68 : Value) (u69 : Value) (u70 : Value) (u71 : Value) (u72 : Value) (u73 : Value) (u74 : Value) (u75 : Value) (u76 : Value) (u77 : Value) (u78 : Value) (u79 : Value) (u80 : Value) (u81 : Value) (u82 : Value) (u83 : Value) (u84 : Value) (u85 : Value) (u86 : Value) (u87 : Value) (u88 : Value) (u89 : Value) (u90 : Value) (u91 : Value) (u92 : Value) (u93 : Value) (u94 : Value) (u95 : Value) (u96 : Value) (u97 : Value) (u98 : Value) (u99 : Value) (u100 : Value) (u101 : Value) (u102 : Value) (u103 : Value) (u104 : Value) (u105 : Value) (u106 : Value) (u107 : Value) (u108 : Value) (u109 : Value) (u110 : Value) (u111 : Value) (u112 : Value) (u113 : Value) (u114 : Value) (u115 : Value) (u116 : Value) (u117 : Value) (u118 : Value) (u119 : Value) (u120 : Value) (u121 : Value) (u122 : Value) (u123 : Value) (u124 : Value) (u125 : Value) (u126 : Value) (u127 : Value) (u128 : Value) (u129 : Value) (u130 : Value) (u131 : Value) (u132 : Value) (u133 : Value) (u134 : Value) (u135 : Value) (u136 : Value) (u137 : Value) (u138 : Value) (u139 : Value) (u140 : Value) (u141 : Value) (u142 : Value) (u143 : Value) (u144 : Value) (u145 : Value) (u146 : Value) (u147 : Value) (u148 : Value) (u149 : Value) (u150 : Value) (u151 : Value) (u152 : Value) (u153 : Value) (u154 : Value) (u155 : Value) (u156 : Value) (u157 : Value) (u158 : Value) (u159 : Value) (u160 : Value) (u161 : Value) (u162 : Value) (u163 : Value) (u164 : Value) (u165 : Value) (u166 : Value) (u167 : Value) (u168 : Value) (u169 : Value) (u170 : Value) (u171 : Value) (u172 : Value) (u173 : Value) (u174 : Value) (u175 : Value) (u176 : Value) (u177 : Value) (u178 : Value) (u179 : Value) (u180 : Value) (u181 : Value) (u182 : Value) (u183 : Value) (u184 : Value) (u185 : Value) (u186 : Value) (u187 : Value) (u188 : Value) (u189 : Value) (u190 : Value) (u191 : Value) (u192 : Value) (u193 : Value) (u194 : Value) (u195 : Value) (u196 : Value) (u197 : Value) (u198 : Value) (u199 : Value) (u200 : Value) (u201 : Value) (u202 : Value) (u203 : Value) (u204 : Value) (u205 : Value) (u206 : Value) (u207 : Value) (u208 : Value) (u209 : Value) (u210 : Value) (u211 : Value) (u212 : Value) (u213 : Value) (u214 : Value) (u215 : Value) (u216 : Value) (u217 : Value) (u218 : Value) (u219 : Value) (u220 : Value) (u221 : Value) (u222 : Value) (u223 : Value) (u224 : Value) (u225 : Value) (u226 : Value) (u227 : Value) (u228 : Value) (u229 : Value) (u230 : Value) (u231 : Value) (u232 : Value) (u233 : Value) (u234 : Value) (u235 : Value) (u236 : Value) (u237 : Value) (u238 : Value) (u239 : Value) (u240 : Value) (u241 : Value) (u242 : Value) (u243 : Value) (u244 : Value) (u245 : Value) (u246 : Value) (u247 : Value) (u248 : Value) (u249 : Value) (u250 : Value) (u251 : Value) (u252 : Value) (u253 : Value) (u254 : Value) (u255 : Value) (u256 : Value) (u257 : Value) (u258 : Value) (u259 : Value) (u260 : Value) (u261 : Value) (u262 : Value) (u263 : Value) (u264 : Value) (u265 : Value) (u266 : Value) (u267 : Value) (u268 : Value) (u269 : Value) (u270 : Value) (u271 : Value) (u272 : Value) (u273 : Value) (u274 : Value) (u275 : Value) (u276 : Value) (u277 : Value) (u278 : Value) (u279 : Value) (u280 : Value) (u281 : Value) (u282 : Value) (u283 : Value) (u284 : Value) (u285 : Value) (u286 : Value) (u287 : Value) (u288 : Value) (u289 : Value) (u290 : Value) (u291 : Value) (u292 : Value) (u293 : Value) (u294 : Value) (u295 : Value) (u296 : Value) (u297 : Value) (u298 : Value) (u299 : Value) (u303 : Value) (u304 : Value) (u305 : Value) (u306 : Value) (u307 : Value) (u308 : Value) (u309 : Value) (u310 : Value) (u311 : Value) (u312 : Value) (u313 : Value) (u314 : Value) (u315 : Value) (u316 : Value) (u317 : Value) (u318 : Value) (u319 : Value) (u320 : Value) (u321 : Value) (u322 : Value) (u323 : Value) (u324 : Value) (u325 : Value) (u326 : Value) (u327 : Value) (u328 : Value) (u329 : Value) (u330 : Value) (u331 : Value) (u332 : Value) (u333 : Value) (u334 : Value) (u335 : Value) (u336 : Value) (u337 : Value) (u338 : Value) (u339 : Value) (u340 : Value) (hcut : Aside0 (Below (Array.size (World.heap w)) w wc)) (K0_ : Act → World → Prop) (hK0_ : ∀ (a_ : Act) (w_ : World), Code.wp Try.prog (laws_FnFingers.sub [1, 1, 1, 1, 1, 1, 1] (Try.f12.body.getD .skip)) (bodyPost Try.prog Try.f12 fun e w' => e = .returned (.bool true) ∧ Below w.heap.size w w') a_ w_ → K0_ a_ w_) :
    K0_ {
      tmps :=
        #[Value.slice A0 (List.length l0) c0, Value.slice A1 (List.length l1) c1, undef, undef, u4,
          Value.pointer (some { block := g5, off := 0 }), Value.int IntKind.i64 f, Value.int IntKind.i64 v,
          Value.pointer (some { block := g8, off := 0 }), Value.bool ok,
          Value.pointer (some { block := g10, off := 0 }), Value.bool ok, u12, u13, u14, u15, undef, undef, undef,
          undef, undef, undef, undef, undef, undef, undef, undef, undef, undef, undef, undef, undef, undef, undef,
          undef, undef, undef, undef, undef, undef, undef, undef, undef, undef, undef, undef, undef, undef, u48, u49,
          u50, u51, u52, u53, u54, u55, u56, u57, u58, u59, u60, u61, u62, u63, u64, u65, u66, u67, u68, u69, u70, u71,
          u72, u73, u74, u75, u76, u77, u78, u79, u80, u81, u82, u83, u84, u85, u86, u87, u88, u89, u90, u91, u92, u93,
          u94, u95, u96, u97, u98, u99, u100, u101, u102, u103, u104, u105, u106, u107, u108, u109, u110, u111, u112,
          u113, u114, u115, u116, u117, u118, u119, u120, u121, u122, u123, u124, u125, u126, u127, u128, u129, u130,
          u131, u132, u133, u134, u135, u136, u137, u138, u139, u140, u141, u142, u143, u144, u145, u146, u147, u148,
          u149, u150, u151, u152, u153, u154, u155, u156, u157, u158, u159, u160, u161, u162, u163, u164, u165, u166,
          u167, u168, u169, u170, u171, u172, u173, u174, u175, u176, u177, u178, u179, u180, u181, u182, u183, u184,
          u185, u186, u187, u188, u189, u190, u191, u192, u193, u194, u195, u196, u197, u198, u199, u200, u201, u202,
          u203, u204, u205, u206, u207, u208, u209, u210, u211, u212, u213, u214, u215, u216, u217, u218, u219, u220,
          u221, u222, u223, u224, u225, u226, u227, u228, u229, u230, u231, u232, u233, u234, u235, u236, u237, u238,
          u239, u240, u241, u242, u243, u244, u245, u246, u247, u248, u249, u250, u251, u252, u253, u254, u255, u256,
          u257, u258, u259, u260, u261, u262, u263, u264, u265, u266, u267, u268, u269, u270, u271, u272, u273, u274,
          u275, u276, u277, u278, u279, u280, u281, u282, u283, u284, u285, u286, u287, u288, u289, u290, u291, u292,
          u293, u294, u295, u296, u297, u298, u299, undef, undef, undef, u303, u304, u305, u306, u307, u308, u309, u310,
          u311, u312, u313, u314, u315, u316, u317, u318, u319, u320, u321, u322, u323, u324, u325, u326, u327, u328,
          u329, u330, u331, u332, u333, u334, u335, u336, u337, u338, u339, u340],
      defers := [] } wc := by
  refine hK0_ _ _ ?_
  clear hK0_
  conv => arg 2; whnf
  have HB := hcut
  clear hcut HS
  go_upto_region 20 with (first | ((with_reducible refine gate_dst (N := 144) rfl ?_); refine goesL_ (some 144) rfl rfl Try.func41 (by kernel_rfl) rfl #[.slice A1 l1.length c1] rfl (by (try simp only [List.map_toArray, List.map_cons, List.map_nil]); first | done | rfl) ?_; (with_reducible refine (spec_DrawOppositeShape.calls k A1 c1 l1 b1 b2 b3 b4 b5 b6 _ (Kd.C_below HR1.out HB.out) hc1 hd2).mono ?_); rintro e w144 ⟨rfl, hb⟩; refine ⟨_, rfl, ?_⟩; have n0 := Aside0.mk (below_step HB.out hb); clear HB; have HB := n0; clear n0; clear hb) | ((with_reducible refine gate_dst (N := 16) rfl ?_); refine box_event ?hg (N := 16) ?hd (cs := #[.int .i64 0, .int .i64 0, .int .i64 0, .int .i64 0, .int .i64 0, .bool false]) (t := 25) ?hr ?_; (case hd => rfl); (case hg => rfl); (case hr => first | (go_simp; done) | (go_simp; rfl)); intro g16 hg v16 hbox hb; have G16 := Aside0.mk (show w.heap.size ≤ g16 by rw [hg]; exact below_size HB.out); have n0 := Aside0.mk (below_step HB.out hb); clear HB; have HB := n0; clear n0; have B16 := Aside0.mk hbox; clear hb hbox hg; obtain ⟨q16_0, q16_1, q16_2, q16_3, q16_4, q16_5⟩ := laws_FnFingers.c6 B16.out; obtain ⟨f16_0, f16_1, f16_2, f16_3, f16_4, f16_5⟩ := laws_FnFingers.f6 B16.out))
  obtain ⟨U16, hW⟩ : ∃ W, W = (World.setCell (World.setCell (World.setCell (World.setCell (World.setCell (World.setCell v16 ⟨g16, 0, none⟩ (.int .i64 b1)) ⟨g16, 1, none⟩ (.int .i64 b2)) ⟨g16, 2, none⟩ (.int .i64 b3)) ⟨g16, 3, none⟩ (.int .i64 b4)) ⟨g16, 4, none⟩ (.int .i64 b5)) ⟨g16, 5, none⟩ (.bool b6)) := ⟨_, rfl⟩
  rw [← hW]
  have n0 := Aside0.mk (laws_FnFingers.b6 hW B16.out)
  have n1 := Aside0.mk (laws_FnFingers.l6 hW HB.out G16.out)
  clear B16
  clear HB
  have B16 := n0
  have HB := n1
  clear n0
  clear n1
  clear hW
  clear q16_0 q16_1 q16_2 q16_3 q16_4 q16_5 f16_0 f16_1 f16_2 f16_3 f16_4 f16_5
  obtain ⟨q16_0, q16_1, q16_2, q16_3, q16_4, q16_5⟩ := laws_FnFingers.c6 B16.out
  go_upto_region 21 with (first | ((with_reducible refine gate_dst (N := 147) rfl ?_); refine goesL_ (some 147) rfl rfl Try.func27 (by kernel_rfl) rfl #[.agg #[.int .i64 b1, .int .i64 b2, .int .i64 b3, .int .i64 b4, .int .i64 b5, .bool b6]] rfl (by (try simp only [List.map_toArray, List.map_cons, List.map_nil]); first | done | rfl) ?_; (with_reducible refine (impl_OppositeShape.calls k b1 b2 b3 b4 b5 b6 o1 o2 o3 o4 o5 false g _ hi2).mono ?_); rintro e w147 ⟨rfl, hb⟩; refine ⟨_, rfl, ?_⟩; have n0 := Aside0.mk (blk_below B16.out hb); have n1 := Aside0.mk (below_step HB.out hb); clear B16; clear HB; have B16 := n0; have HB := n1; clear n0; clear n1; clear hb; clear q16_0 q16_1 q16_2 q16_3 q16_4 q16_5; obtain ⟨q16_0, q16_1, q16_2, q16_3, q16_4, q16_5⟩ := laws_FnFingers.c6 B16.out) | ((with_reducible refine gate_dst (N := 17) rfl ?_); refine box_event ?hg (N := 17) ?hd (cs := #[.int .i64 0, .int .i64 0, .int .i64 0, .int .i64 0, .int .i64 0, .bool false]) (t := 25) ?hr ?_; (case hd => rfl); (case hg => rfl); (case hr => first | (go_simp; done) | (go_simp; rfl)); intro g17 hg v17 hbox hb; have D1617 := Aside0.mk (show g16 ≠ g17 by rw [hg]; exact Nat.ne_of_lt (blk_lt B16.out)); have G17 := Aside0.mk (show w.heap.size ≤ g17 by rw [hg]; exact below_size HB.out); have n0 := Aside0.mk (blk_below B16.out hb); have n1 := Aside0.mk (below_step HB.out hb); clear B16; clear HB; have B16 := n0; have HB := n1; clear n0; clear n1; have B17 := Aside0.mk hbox; clear hb hbox hg; clear q16_0 q16_1 q16_2 q16_3 q16_4 q16_5; obtain ⟨q16_0, q16_1, q16_2, q16_3, q16_4, q16_5⟩ := laws_FnFingers.c6 B16.out; obtain ⟨q17_0, q17_1, q17_2, q17_3, q17_4, q17_5⟩ := laws_FnFingers.c6 B17.out; obtain ⟨f17_0, f17_1, f17_2, f17_3, f17_4, f17_5⟩ := laws_FnFingers.f6 B17.out))
  obtain ⟨U17, hW⟩ : ∃ W, W = (World.setCell (World.setCell (World.setCell (World.setCell (World.setCell (World.setCell v17 ⟨g17, 0, none⟩ (.int .i64 o1)) ⟨g17, 1, none⟩ (.int .i64 o2)) ⟨g17, 2, none⟩ (.int .i64 o3)) ⟨g17, 3, none⟩ (.int .i64 o4)) ⟨g17, 4, none⟩ (.int .i64 o5)) ⟨g17, 5, none⟩ (.bool false)) := ⟨_, rfl⟩
  rw [← hW]
  have n0 := Aside0.mk (laws_FnFingers.o6 hW D1617.out B16.out)
  have n1 := Aside0.mk (laws_FnFingers.b6 hW B17.out)
  have n2 := Aside0.mk (laws_FnFingers.l6 hW HB.out G17.out)
  clear B16
  clear B17
  clear HB
  have B16 := n0
  have B17 := n1
  have HB := n2
  clear n0
  clear n1
  clear n2
  clear hW
  clear q16_0 q16_1 q16_2 q16_3 q16_4 q16_5 q17_0 q17_1 q17_2 q17_3 q17_4 q17_5 f17_0 f17_1 f17_2 f17_3 f17_4 f17_5
  obtain ⟨q16_0, q16_1, q16_2, q16_3, q16_4, q16_5⟩ := laws_FnFingers.c6 B16.out
  obtain ⟨q17_0, q17_1, q17_2, q17_3, q17_4, q17_5⟩ := laws_FnFingers.c6 B17.out
  go_upto_region 22 with (first | ((with_reducible refine gate_dst (N := 152) rfl ?_); refine goesL_ (some 152) rfl rfl Try.func26 (by kernel_rfl) rfl #[.agg #[.int .i64 b1, .int .i64 b2, .int .i64 b3, .int .i64 b4, .int .i64 b5, .bool b6]] rfl (by (try simp only [List.map_toArray, List.map_cons, List.map_nil]); first | done | rfl) ?_; (with_reducible refine (spec_OppositeShape.calls k b1 b2 b3 b4 b5 b6 o1 o2 o3 o4 o5 false g _ hs2).mono ?_); rintro e w152 ⟨rfl, hb⟩; refine ⟨_, rfl, ?_⟩; have n0 := Aside0.mk (blk_below B16.out hb); have n1 := Aside0.mk (blk_below B17.out hb); have n2 := Aside0.mk (below_step HB.out hb); clear B16; clear B17; clear HB; have B16 := n0; have B17 := n1; have HB := n2; clear n0; clear n1; clear n2; clear hb; clear q16_0 q16_1 q16_2 q16_3 q16_4 q16_5 q17_0 q17_1 q17_2 q17_3 q17_4 q17_5; obtain ⟨q16_0, q16_1, q16_2, q16_3, q16_4, q16_5⟩ := laws_FnFingers.c6 B16.out; obtain ⟨q17_0, q17_1, q17_2, q17_3, q17_4, q17_5⟩ := laws_FnFingers.c6 B17.out) | ((with_reducible refine gate_dst (N := 19) rfl ?_); refine box_event ?hg (N := 19) ?hd (cs := #[.int .i64 0, .int .i64 0, .int .i64 0, .int .i64 0, .int .i64 0, .bool false]) (t := 25) ?hr ?_; (case hd => rfl); (case hg => rfl); (case hr => first | (go_simp; done) | (go_simp; rfl)); intro g19 hg v19 hbox hb; have D1619 := Aside0.mk (show g16 ≠ g19 by rw [hg]; exact Nat.ne_of_lt (blk_lt B16.out)); have D1719 := Aside0.mk (show g17 ≠ g19 by rw [hg]; exact Nat.ne_of_lt (blk_lt B17.out)); have G19 := Aside0.mk (show w.heap.size ≤ g19 by rw [hg]; exact below_size HB.out); have n0 := Aside0.mk (blk_below B16.out hb); have n1 := Aside0.mk (blk_below B17.out hb); have n2 := Aside0.mk (below_step HB.out hb); clear B16; clear B17; clear HB; have B16 := n0; have B17 := n1; have HB := n2; clear n0; clear n1; clear n2; have B19 := Aside0.mk hbox; clear hb hbox hg; clear q16_0 q16_1 q16_2 q16_3 q16_4 q16_5 q17_0 q17_1 q17_2 q17_3 q17_4 q17_5; obtain ⟨q16_0, q16_1, q16_2, q16_3, q16_4, q16_5⟩ := laws_FnFingers.c6 B16.out; obtain ⟨q17_0, q17_1, q17_2, q17_3, q17_4, q17_5⟩ := laws_FnFingers.c6 B17.out; obtain ⟨q19_0, q19_1, q19_2, q19_3, q19_4, q19_5⟩ := laws_FnFingers.c6 B19.out; obtain ⟨f19_0, f19_1, f19_2, f19_3, f19_4, f19_5⟩ := laws_FnFingers.f6 B19.out))
  obtain ⟨U19, hW⟩ : ∃ W, W = (World.setCell (World.setCell (World.setCell (World.setCell (World.setCell (World.setCell v19 ⟨g19, 0, none⟩ (.int .i64 o1)) ⟨g19, 1, none⟩ (.int .i64 o2)) ⟨g19, 2, none⟩ (.int .i64 o3)) ⟨g19, 3, none⟩ (.int .i64 o4)) ⟨g19, 4, none⟩ (.int .i64 o5)) ⟨g19, 5, none⟩ (.bool false)) := ⟨_, rfl⟩
  rw [← hW]
  have n0 := Aside0.mk (laws_FnFingers.o6 hW D1619.out B16.out)
  have n1 := Aside0.mk (laws_FnFingers.o6 hW D1719.out B17.out)
  have n2 := Aside0.mk (laws_FnFingers.b6 hW B19.out)
  have n3 := Aside0.mk (laws_FnFingers.l6 hW HB.out G19.out)
  clear B16
  clear B17
  clear B19
  clear HB
  have B16 := n0
  have B17 := n1
  have B19 := n2
  have HB := n3
  clear n0
  clear n1
  clear n2
  clear n3
  clear hW
  clear q16_0 q16_1 q16_2 q16_3 q16_4 q16_5 q17_0 q17_1 q17_2 q17_3 q17_4 q17_5 q19_0 q19_1 q19_2 q19_3 q19_4 q19_5 f19_0 f19_1 f19_2 f19_3 f19_4 f19_5
  obtain ⟨q16_0, q16_1, q16_2, q16_3, q16_4, q16_5⟩ := laws_FnFingers.c6 B16.out
  obtain ⟨q17_0, q17_1, q17_2, q17_3, q17_4, q17_5⟩ := laws_FnFingers.c6 B17.out
  obtain ⟨q19_0, q19_1, q19_2, q19_3, q19_4, q19_5⟩ := laws_FnFingers.c6 B19.out
  have k2 : (g != g) = false := bne_self_eq_false g
  have k3 : (n != n) = false := bne_self_eq_false n
  have k4 : (e != e) = false := bne_self_eq_false e
  go_upto_if 219 with (first | ((with_reducible refine gate_dst (N := 157) rfl ?_); refine goesL_ (some 157) rfl rfl Try.func20 (by kernel_rfl) rfl #[.agg #[.int .i64 b1, .int .i64 b2, .int .i64 b3, .int .i64 b4, .int .i64 b5, .bool b6]] rfl (by (try simp only [List.map_toArray, List.map_cons, List.map_nil]); first | done | rfl) ?_; (with_reducible refine (impl_OpenFingers.calls k b1 b2 b3 b4 b5 b6 n g _ hi3).mono ?_); rintro e w157 ⟨rfl, hb⟩; refine ⟨_, rfl, ?_⟩; have n0 := Aside0.mk (blk_below B16.out hb); have n1 := Aside0.mk (blk_below B17.out hb); have n2 := Aside0.mk (blk_below B19.out hb); have n3 := Aside0.mk (below_step HB.out hb); clear B16; clear B17; clear B19; clear HB; have B16 := n0; have B17 := n1; have B19 := n2; have HB := n3; clear n0; clear n1; clear n2; clear n3; clear hb; clear q16_0 q16_1 q16_2 q16_3 q16_4 q16_5 q17_0 q17_1 q17_2 q17_3 q17_4 q17_5 q19_0 q19_1 q19_2 q19_3 q19_4 q19_5; obtain ⟨q16_0, q16_1, q16_2, q16_3, q16_4, q16_5⟩ := laws_FnFingers.c6 B16.out; obtain ⟨q17_0, q17_1, q17_2, q17_3, q17_4, q17_5⟩ := laws_FnFingers.c6 B17.out; obtain ⟨q19_0, q19_1, q19_2, q19_3, q19_4, q19_5⟩ := laws_FnFingers.c6 B19.out) | ((with_reducible refine gate_dst (N := 162) rfl ?_); refine goesL_ (some 162) rfl rfl Try.func19 (by kernel_rfl) rfl #[.agg #[.int .i64 b1, .int .i64 b2, .int .i64 b3, .int .i64 b4, .int .i64 b5, .bool b6]] rfl (by (try simp only [List.map_toArray, List.map_cons, List.map_nil]); first | done | rfl) ?_; (with_reducible refine (spec_OpenFingers.calls k b1 b2 b3 b4 b5 b6 n g _ hs3).mono ?_); rintro e w162 ⟨rfl, hb⟩; refine ⟨_, rfl, ?_⟩; have n0 := Aside0.mk (blk_below B16.out hb); have n1 := Aside0.mk (blk_below B17.out hb); have n2 := Aside0.mk (blk_below B19.out hb); have n3 := Aside0.mk (below_step HB.out hb); clear B16; clear B17; clear B19; clear HB; have B16 := n0; have B17 := n1; have B19 := n2; have HB := n3; clear n0; clear n1; clear n2; clear n3; clear hb; clear q16_0 q16_1 q16_2 q16_3 q16_4 q16_5 q17_0 q17_1 q17_2 q17_3 q17_4 q17_5 q19_0 q19_1 q19_2 q19_3 q19_4 q19_5; obtain ⟨q16_0, q16_1, q16_2, q16_3, q16_4, q16_5⟩ := laws_FnFingers.c6 B16.out; obtain ⟨q17_0, q17_1, q17_2, q17_3, q17_4, q17_5⟩ := laws_FnFingers.c6 B17.out; obtain ⟨q19_0, q19_1, q19_2, q19_3, q19_4, q19_5⟩ := laws_FnFingers.c6 B19.out) | ((with_reducible refine gate_dst (N := 167) rfl ?_); refine goesL_ (some 167) rfl rfl Try.func18 (by kernel_rfl) rfl #[.agg #[.int .i64 b1, .int .i64 b2, .int .i64 b3, .int .i64 b4, .int .i64 b5, .bool b6]] rfl (by (try simp only [List.map_toArray, List.map_cons, List.map_nil]); first | done | rfl) ?_; (with_reducible refine (impl_IsEasyShape.calls b1 b2 b3 b4 b5 b6 e g _ hi4).mono ?_); rintro e w167 ⟨rfl, hb⟩; refine ⟨_, rfl, ?_⟩; have n0 := Aside0.mk (blk_below B16.out hb); have n1 := Aside0.mk (blk_below B17.out hb); have n2 := Aside0.mk (blk_below B19.out hb); have n3 := Aside0.mk (below_step HB.out hb); clear B16; clear B17; clear B19; clear HB; have B16 := n0; have B17 := n1; have B19 := n2; have HB := n3; clear n0; clear n1; clear n2; clear n3; clear hb; clear q16_0 q16_1 q16_2 q16_3 q16_4 q16_5 q17_0 q17_1 q17_2 q17_3 q17_4 q17_5 q19_0 q19_1 q19_2 q19_3 q19_4 q19_5; obtain ⟨q16_0, q16_1, q16_2, q16_3, q16_4, q16_5⟩ := laws_FnFingers.c6 B16.out; obtain ⟨q17_0, q17_1, q17_2, q17_3, q17_4, q17_5⟩ := laws_FnFingers.c6 B17.out; obtain ⟨q19_0, q19_1, q19_2, q19_3, q19_4, q19_5⟩ := laws_FnFingers.c6 B19.out) | ((with_reducible refine gate_dst (N := 172) rfl ?_); refine goesL_ (some 172) rfl rfl Try.func17 (by kernel_rfl) rfl #[.agg #[.int .i64 b1, .int .i64 b2, .int .i64 b3, .int .i64 b4, .int .i64 b5, .bool b6]] rfl (by (try simp only [List.map_toArray, List.map_cons, List.map_nil]); first | done | rfl) ?_; (with_reducible refine (spec_IsEasyShape.calls k b1 b2 b3 b4 b5 b6 e g _ hs4).mono ?_); rintro e w172 ⟨rfl, hb⟩; refine ⟨_, rfl, ?_⟩; have n0 := Aside0.mk (blk_below B16.out hb); have n1 := Aside0.mk (blk_below B17.out hb); have n2 := Aside0.mk (blk_below B19.out hb); have n3 := Aside0.mk (below_step HB.out hb); clear B16; clear B17; clear B19; clear HB; have B16 := n0; have B17 := n1; have B19 := n2; have HB := n3; clear n0; clear n1; clear n2; clear n3; clear hb; clear q16_0 q16_1 q16_2 q16_3 q16_4 q16_5 q17_0 q17_1 q17_2 q17_3 q17_4 q17_5 q19_0 q19_1 q19_2 q19_3 q19_4 q19_5; obtain ⟨q16_0, q16_1, q16_2, q16_3, q16_4, q16_5⟩ := laws_FnFingers.c6 B16.out; obtain ⟨q17_0, q17_1, q17_2, q17_3, q17_4, q17_5⟩ := laws_FnFingers.c6 B17.out; obtain ⟨q19_0, q19_1, q19_2, q19_3, q19_4, q19_5⟩ := laws_FnFingers.c6 B19.out) | ((with_reducible refine gate_dst (N := 206) rfl ?_); (refine gate_guard (by rfl) ?_; dsimp only); refine goesL_ (some 206) rfl rfl Try.func16 (by kernel_rfl) rfl #[.agg #[.int .i64 b1, .int .i64 b2, .int .i64 b3, .int .i64 b4, .int .i64 b5, .bool b6]] rfl (by (try simp only [List.map_toArray, List.map_cons, List.map_nil]); first | done | rfl) ?_; (with_reducible refine (impl_IsShape.calls b1 b2 b3 b4 b5 b6 g _ hi5).mono ?_); rintro e w206 ⟨rfl, hb⟩; refine ⟨_, rfl, ?_⟩; have n0 := Aside0.mk (blk_below B16.out hb); have n1 := Aside0.mk (blk_below B17.out hb); have n2 := Aside0.mk (blk_below B19.out hb); have n3 := Aside0.mk (below_step HB.out hb); clear B16; clear B17; clear B19; clear HB; have B16 := n0; have B17 := n1; have B19 := n2; have HB := n3; clear n0; clear n1; clear n2; clear n3; clear hb; clear q16_0 q16_1 q16_2 q16_3 q16_4 q16_5 q17_0 q17_1 q17_2 q17_3 q17_4 q17_5 q19_0 q19_1 q19_2 q19_3 q19_4 q19_5; obtain ⟨q16_0, q16_1, q16_2, q16_3, q16_4, q16_5⟩ := laws_FnFingers.c6 B16.out; obtain ⟨q17_0, q17_1, q17_2, q17_3, q17_4, q17_5⟩ := laws_FnFingers.c6 B17.out; obtain ⟨q19_0, q19_1, q19_2, q19_3, q19_4, q19_5⟩ := laws_FnFingers.c6 B19.out))
  clear k2 k3 k4 hd2 hi2 hs2 hi3 hs3 hi4 hs4 hi5
  go_cut [] (fun wc => Aside0 (Below w.heap.size w wc))
  case first =>
    cases g
    · go_wp2
      go_meet
      case rel => exact HB
    · obtain ⟨h1, m, h2, h3, h4⟩ := HO.out rfl
      have k5 : (m != m) = false := bne_self_eq_false m
      have k6 : decide (4 < wrap64 (n + m)) = false := decide_eq_false h4
      clear HO HN h4
      go_upto_region 30 with (first | ((with_reducible refine gate_dst (N := 222) rfl ?_); refine goesL_ (some 222) rfl rfl Try.func27 (by kernel_rfl) rfl #[.agg #[.int .i64 o1, .int .i64 o2, .int .i64 o3, .int .i64 o4, .int .i64 o5, .bool false]] rfl (by (try simp only [List.map_toArray, List.map_cons, List.map_nil]); first | done | rfl) ?_; (with_reducible refine (impl_OppositeShape.calls k o1 o2 o3 o4 o5 false b1 b2 b3 b4 b5 false true _ h1).mono ?_); rintro e w222 ⟨rfl, hb⟩; refine ⟨_, rfl, ?_⟩; have n0 := Aside0.mk (blk_below B16.out hb); have n1 := Aside0.mk (blk_below B17.out hb); have n2 := Aside0.mk (blk_below B19.out hb); have n3 := Aside0.mk (below_step HB.out hb); clear B16; clear B17; clear B19; clear HB; have B16 := n0; have B17 := n1; have B19 := n2; have HB := n3; clear n0; clear n1; clear n2; clear n3; clear hb; clear q16_0 q16_1 q16_2 q16_3 q16_4 q16_5 q17_0 q17_1 q17_2 q17_3 q17_4 q17_5 q19_0 q19_1 q19_2 q19_3 q19_4 q19_5; obtain ⟨q16_0, q16_1, q16_2, q16_3, q16_4, q16_5⟩ := laws_FnFingers.c6 B16.out; obtain ⟨q17_0, q17_1, q17_2, q17_3, q17_4, q17_5⟩ := laws_FnFingers.c6 B17.out; obtain ⟨q19_0, q19_1, q19_2, q19_3, q19_4, q19_5⟩ := laws_FnFingers.c6 B19.out) | ((with_reducible refine gate_dst (N := 29) rfl ?_); refine box_event ?hg (N := 29) ?hd (cs := #[.int .i64 0, .int .i64 0, .int .i64 0, .int .i64 0, .int .i64 0, .bool false]) (t := 25) ?hr ?_; (case hd => rfl); (case hg => rfl); (case hr => first | (go_simp; done) | (go_simp; rfl)); intro g29 hg v29 hbox hb; have D1629 := Aside0.mk (show g16 ≠ g29 by rw [hg]; exact Nat.ne_of_lt (blk_lt B16.out)); have D1729 := Aside0.mk (show g17 ≠ g29 by rw [hg]; exact Nat.ne_of_lt (blk_lt B17.out)); have D1929 := Aside0.mk (show g19 ≠ g29 by rw [hg]; exact Nat.ne_of_lt (blk_lt B19.out)); have G29 := Aside0.mk (show w.heap.size ≤ g29 by rw [hg]; exact below_size HB.out); have n0 := Aside0.mk (blk_below B16.out hb); have n1 := Aside0.mk (blk_below B17.out hb); have n2 := Aside0.mk (blk_below B19.out hb); have n3 := Aside0.mk (below_step HB.out hb); clear B16; clear B17; clear B19; clear HB; have B16 := n0; have B17 := n1; have B19 := n2; have HB := n3; clear n0; clear n1; clear n2; clear n3; have B29 := Aside0.mk hbox; clear hb hbox hg; clear q16_0 q16_1 q16_2 q16_3 q16_4 q16_5 q17_0 q17_1 q17_2 q17_3 q17_4 q17_5 q19_0 q19_1 q19_2 q19_3 q19_4 q19_5; obtain ⟨q16_0, q16_1, q16_2, q16_3, q16_4, q16_5⟩ := laws_FnFingers.c6 B16.out; obtain ⟨q17_0, q17_1, q17_2, q17_3, q17_4, q17_5⟩ := laws_FnFingers.c6 B17.out; obtain ⟨q19_0, q19_1, q19_2, q19_3, q19_4, q19_5⟩ := laws_FnFingers.c6 B19.out; obtain ⟨q29_0, q29_1, q29_2, q29_3, q29_4, q29_5⟩ := laws_FnFingers.c6 B29.out; obtain ⟨f29_0, f29_1, f29_2, f29_3, f29_4, f29_5⟩ := laws_FnFingers.f6 B29.out))
      obtain ⟨U29, hW⟩ : ∃ W, W = (World.setCell (World.setCell (World.setCell (World.setCell (World.setCell (World.setCell v29 ⟨g29, 0, none⟩ (.int .i64 b1)) ⟨g29, 1, none⟩ (.int .i64 b2)) ⟨g29, 2, none⟩ (.int .i64 b3)) ⟨g29, 3, none⟩ (.int .i64 b4)) ⟨g29, 4, none⟩ (.int .i64 b5)) ⟨g29, 5, none⟩ (.bool false)) := ⟨_, rfl⟩
      rw [← hW]
      have n0 := Aside0.mk (laws_FnFingers.o6 hW D1629.out B16.out)
      have n1 := Aside0.mk (laws_FnFingers.o6 hW D1729.out B17.out)
      have n2 := Aside0.mk (laws_FnFingers.o6 hW D1929.out B19.out)
      have n3 := Aside0.mk (laws_FnFingers.b6 hW B29.out)
      have n4 := Aside0.mk (laws_FnFingers.l6 hW HB.out G29.out)
      clear B16
      clear B17
      clear B19
      clear B29
      clear HB
      have B16 := n0
      have B17 := n1
      have B19 := n2
      have B29 := n3
      have HB := n4
      clear n0
      clear n1
      clear n2
      clear n3
      clear n4
      clear hW
      clear q16_0 q16_1 q16_2 q16_3 q16_4 q16_5 q17_0 q17_1 q17_2 q17_3 q17_4 q17_5 q19_0 q19_1 q19_2 q19_3 q19_4 q19_5 q29_0 q29_1 q29_2 q29_3 q29_4 q29_5 f29_0 f29_1 f29_2 f29_3 f29_4 f29_5
      obtain ⟨q16_0, q16_1, q16_2, q16_3, q16_4, q16_5⟩ := laws_FnFingers.c6 B16.out
      obtain ⟨q17_0, q17_1, q17_2, q17_3, q17_4, q17_5⟩ := laws_FnFingers.c6 B17.out
      obtain ⟨q19_0, q19_1, q19_2, q19_3, q19_4, q19_5⟩ := laws_FnFingers.c6 B19.out
      obtain ⟨q29_0, q29_1, q29_2, q29_3, q29_4, q29_5⟩ := laws_FnFingers.c6 B29.out
      go_upto_region 31 with (first | ((with_reducible refine gate_dst (N := 31) rfl ?_); refine box_event ?hg (N := 31) ?hd (cs := #[.int .i64 0, .int .i64 0, .int .i64 0, .int .i64 0, .int .i64 0, .bool false]) (t := 25) ?hr ?_; (case hd => rfl); (case hg => rfl); (case hr => first | (go_simp; done) | (go_simp; rfl)); intro g31 hg v31 hbox hb; have D1631 := Aside0.mk (show g16 ≠ g31 by rw [hg]; exact Nat.ne_of_lt (blk_lt B16.out)); have D1731 := Aside0.mk (show g17 ≠ g31 by rw [hg]; exact Nat.ne_of_lt (blk_lt B17.out)); have D1931 := Aside0.mk (show g19 ≠ g31 by rw [hg]; exact Nat.ne_of_lt (blk_lt B19.out)); have D2931 := Aside0.mk (show g29 ≠ g31 by rw [hg]; exact Nat.ne_of_lt (blk_lt B29.out)); have G31 := Aside0.mk (show w.heap.size ≤ g31 by rw [hg]; exact below_size HB.out); have n0 := Aside0.mk (blk_below B16.out hb); have n1 := Aside0.mk (blk_below B17.out hb); have n2 := Aside0.mk (blk_below B19.out hb); have n3 := Aside0.mk (blk_below B29.out hb); have n4 := Aside0.mk (below_step HB.out hb); clear B16; clear B17; clear B19; clear B29; clear HB; have B16 := n0; have B17 := n1; have B19 := n2; have B29 := n3; have HB := n4; clear n0; clear n1; clear n2; clear n3; clear n4; have B31 := Aside0.mk hbox; clear hb hbox hg; clear q16_0 q16_1 q16_2 q16_3 q16_4 q16_5 q17_0 q17_1 q17_2 q17_3 q17_4 q17_5 q19_0 q19_1 q19_2 q19_3 q19_4 q19_5 q29_0 q29_1 q29_2 q29_3 q29_4 q29_5; obtain ⟨q16_0, q16_1, q16_2, q16_3, q16_4, q16_5⟩ := laws_FnFingers.c6 B16.out; obtain ⟨q17_0, q17_1, q17_2, q17_3, q17_4, q17_5⟩ := laws_FnFingers.c6 B17.out; obtain ⟨q19_0, q19_1, q19_2, q19_3, q19_4, q19_5⟩ := laws_FnFingers.c6 B19.out; obtain ⟨q29_0, q29_1, q29_2, q29_3, q29_4, q29_5⟩ := laws_FnFingers.c6 B29.out; obtain ⟨q31_0, q31_1, q31_2, q31_3, q31_4, q31_5⟩ := laws_FnFingers.c6 B31.out; obtain ⟨f31_0, f31_1, f31_2, f31_3, f31_4, f31_5⟩ := laws_FnFingers.f6 B31.out))
      obtain ⟨U31, hW⟩ : ∃ W, W = (World.setCell (World.setCell (World.setCell (World.setCell (World.setCell (World.setCell v31 ⟨g31, 0, none⟩ (.int .i64 b1)) ⟨g31, 1, none⟩ (.int .i64 b2)) ⟨g31, 2, none⟩ (.int .i64 b3)) ⟨g31, 3, none⟩ (.int .i64 b4)) ⟨g31, 4, none⟩ (.int .i64 b5)) ⟨g31, 5, none⟩ (.bool b6)) := ⟨_, rfl⟩
      rw [← hW]
      have n0 := Aside0.mk (laws_FnFingers.o6 hW D1631.out B16.out)
      have n1 := Aside0.mk (laws_FnFingers.o6 hW D1731.out B17.out)
      have n2 := Aside0.mk (laws_FnFingers.o6 hW D1931.out B19.out)
      have n3 := Aside0.mk (laws_FnFingers.o6 hW D2931.out B29.out)
      have n4 := Aside0.mk (laws_FnFingers.b6 hW B31.out)
      have n5 := Aside0.mk (laws_FnFingers.l6 hW HB.out G31.out)
      clear B16
      clear B17
      clear B19
      clear B29
      clear B31
      clear HB
      have B16 := n0
      have B17 := n1
      have B19 := n2
      have B29 := n3
      have B31 := n4
      have HB := n5
      clear n0
      clear n1
      clear n2
      clear n3
      clear n4
      clear n5
      clear hW
      clear q16_0 q16_1 q16_2 q16_3 q16_4 q16_5 q17_0 q17_1 q17_2 q17_3 q17_4 q17_5 q19_0 q19_1 q19_2 q19_3 q19_4 q19_5 q29_0 q29_1 q29_2 q29_3 q29_4 q29_5 q31_0 q31_1 q31_2 q31_3 q31_4 q31_5 f31_0 f31_1 f31_2 f31_3 f31_4 f31_5
      obtain ⟨q16_0, q16_1, q16_2, q16_3, q16_4, q16_5⟩ := laws_FnFingers.c6 B16.out
      obtain ⟨q17_0, q17_1, q17_2, q17_3, q17_4, q17_5⟩ := laws_FnFingers.c6 B17.out
      obtain ⟨q19_0, q19_1, q19_2, q19_3, q19_4, q19_5⟩ := laws_FnFingers.c6 B19.out
      obtain ⟨q29_0, q29_1, q29_2, q29_3, q29_4, q29_5⟩ := laws_FnFingers.c6 B29.out
      obtain ⟨q31_0, q31_1, q31_2, q31_3, q31_4, q31_5⟩ := laws_FnFingers.c6 B31.out
      obtain ⟨f31_0, f31_1, f31_2, f31_3, f31_4, f31_5⟩ := laws_FnFingers.f6 B31.out
      go_upto_region 32 with (fail)
      obtain ⟨U32, hW⟩ : ∃ W, W = World.setCell U31 ⟨g31, 5, none⟩ (.bool false) := ⟨_, rfl⟩
      rw [← hW]
      have n0 := Aside0.mk (show U32.heap[g16]? = some (.cells #[.int .i64 b1, .int .i64 b2, .int .i64 b3, .int .i64 b4, .int .i64 b5, .bool b6] 25 (0, 0)) by rw [hW]; exact blk_far B16.out D1631.out _); have n1 := Aside0.mk (show U32.heap[g17]? = some (.cells #[.int .i64 o1, .int .i64 o2, .int .i64 o3, .int .i64 o4, .int .i64 o5, .bool false] 25 (0, 0)) by rw [hW]; exact blk_far B17.out D1731.out _); have n2 := Aside0.mk (show U32.heap[g19]? = some (.cells #[.int .i64 o1, .int .i64 o2, .int .i64 o3, .int .i64 o4, .int .i64 o5, .bool false] 25 (0, 0)) by rw [hW]; exact blk_far B19.out D1931.out _); have n3 := Aside0.mk (show U32.heap[g29]? = some (.cells #[.int .i64 b1, .int .i64 b2, .int .i64 b3, .int .i64 b4, .int .i64 b5, .bool false] 25 (0, 0)) by rw [hW]; exact blk_far B29.out D2931.out _); have n4 := Aside0.mk (show U32.heap[g31]? = some (.cells #[.int .i64 b1, .int .i64 b2, .int .i64 b3, .int .i64 b4, .int .i64 b5, .bool false] 25 (0, 0)) by rw [hW]; exact blk_put B31.out 5 _ rfl); have n5 := Aside0.mk (show Below w.heap.size w U32 by rw [hW]; exact below_set HB.out G31.out); clear B16; clear B17; clear B19; clear B29; clear B31; clear HB; have B16 := n0; have B17 := n1; have B19 := n2; have B29 := n3; have B31 := n4; have HB := n5; clear n0; clear n1; clear n2; clear n3; clear n4; clear n5
      clear hW
      clear q16_0 q16_1 q16_2 q16_3 q16_4 q16_5 q17_0 q17_1 q17_2 q17_3 q17_4 q17_5 q19_0 q19_1 q19_2 q19_3 q19_4 q19_5 q29_0 q29_1 q29_2 q29_3 q29_4 q29_5 q31_0 q31_1 q31_2 q31_3 q31_4 q31_5 f31_0 f31_1 f31_2 f31_3 f31_4 f31_5; obtain ⟨q16_0, q16_1, q16_2, q16_3, q16_4, q16_5⟩ := laws_FnFingers.c6 B16.out; obtain ⟨q17_0, q17_1, q17_2, q17_3, q17_4, q17_5⟩ := laws_FnFingers.c6 B17.out; obtain ⟨q19_0, q19_1, q19_2, q19_3, q19_4, q19_5⟩ := laws_FnFingers.c6 B19.out; obtain ⟨q29_0, q29_1, q29_2, q29_3, q29_4, q29_5⟩ := laws_FnFingers.c6 B29.out; obtain ⟨q31_0, q31_1, q31_2, q31_3, q31_4, q31_5⟩ := laws_FnFingers.c6 B31.out
      go_wp2_with (first | ((with_reducible refine gate_dst (N := 229) rfl ?_); refine goesL_ (some 229) rfl rfl Try.func20 (by kernel_rfl) rfl #[.agg #[.int .i64 o1, .int .i64 o2, .int .i64 o3, .int .i64 o4, .int .i64 o5, .bool false]] rfl (by (try simp only [List.map_toArray, List.map_cons, List.map_nil]); first | done | rfl) ?_; (with_reducible refine (impl_OpenFingers.calls k o1 o2 o3 o4 o5 false m true _ h2).mono ?_); rintro e w229 ⟨rfl, hb⟩; refine ⟨_, rfl, ?_⟩; have n0 := Aside0.mk (blk_below B16.out hb); have n1 := Aside0.mk (blk_below B17.out hb); have n2 := Aside0.mk (blk_below B19.out hb); have n3 := Aside0.mk (blk_below B29.out hb); have n4 := Aside0.mk (blk_below B31.out hb); have n5 := Aside0.mk (below_step HB.out hb); clear B16; clear B17; clear B19; clear B29; clear B31; clear HB; have B16 := n0; have B17 := n1; have B19 := n2; have B29 := n3; have B31 := n4; have HB := n5; clear n0; clear n1; clear n2; clear n3; clear n4; clear n5; clear hb; clear q16_0 q16_1 q16_2 q16_3 q16_4 q16_5 q17_0 q17_1 q17_2 q17_3 q17_4 q17_5 q19_0 q19_1 q19_2 q19_3 q19_4 q19_5 q29_0 q29_1 q29_2 q29_3 q29_4 q29_5 q31_0 q31_1 q31_2 q31_3 q31_4 q31_5; obtain ⟨q16_0, q16_1, q16_2, q16_3, q16_4, q16_5⟩ := laws_FnFingers.c6 B16.out; obtain ⟨q17_0, q17_1, q17_2, q17_3, q17_4, q17_5⟩ := laws_FnFingers.c6 B17.out; obtain ⟨q19_0, q19_1, q19_2, q19_3, q19_4, q19_5⟩ := laws_FnFingers.c6 B19.out; obtain ⟨q29_0, q29_1, q29_2, q29_3, q29_4, q29_5⟩ := laws_FnFingers.c6 B29.out; obtain ⟨q31_0, q31_1, q31_2, q31_3, q31_4, q31_5⟩ := laws_FnFingers.c6 B31.out) | ((with_reducible refine gate_dst (N := 234) rfl ?_); refine goesL_ (some 234) rfl rfl Try.func19 (by kernel_rfl) rfl #[.agg #[.int .i64 o1, .int .i64 o2, .int .i64 o3, .int .i64 o4, .int .i64 o5, .bool false]] rfl (by (try simp only [List.map_toArray, List.map_cons, List.map_nil]); first | done | rfl) ?_; (with_reducible refine (spec_OpenFingers.calls k o1 o2 o3 o4 o5 false m true _ h3).mono ?_); rintro e w234 ⟨rfl, hb⟩; refine ⟨_, rfl, ?_⟩; have n0 := Aside0.mk (blk_below B16.out hb); have n1 := Aside0.mk (blk_below B17.out hb); have n2 := Aside0.mk (blk_below B19.out hb); have n3 := Aside0.mk (blk_below B29.out hb); have n4 := Aside0.mk (blk_below B31.out hb); have n5 := Aside0.mk (below_step HB.out hb); clear B16; clear B17; clear B19; clear B29; clear B31; clear HB; have B16 := n0; have B17 := n1; have B19 := n2; have B29 := n3; have B31 := n4; have HB := n5; clear n0; clear n1; clear n2; clear n3; clear n4; clear n5; clear hb; clear q16_0 q16_1 q16_2 q16_3 q16_4 q16_5 q17_0 q17_1 q17_2 q17_3 q17_4 q17_5 q19_0 q19_1 q19_2 q19_3 q19_4 q19_5 q29_0 q29_1 q29_2 q29_3 q29_4 q29_5 q31_0 q31_1 q31_2 q31_3 q31_4 q31_5; obtain ⟨q16_0, q16_1, q16_2, q16_3, q16_4, q16_5⟩ := laws_FnFingers.c6 B16.out; obtain ⟨q17_0, q17_1, q17_2, q17_3, q17_4, q17_5⟩ := laws_FnFingers.c6 B17.out; obtain ⟨q19_0, q19_1, q19_2, q19_3, q19_4, q19_5⟩ := laws_FnFingers.c6 B19.out; obtain ⟨q29_0, q29_1, q29_2, q29_3, q29_4, q29_5⟩ := laws_FnFingers.c6 B29.out; obtain ⟨q31_0, q31_1, q31_2, q31_3, q31_4, q31_5⟩ := laws_FnFingers.c6 B31.out))
      go_meet
      case rel => exact HB
  case rest =>
    exact laws_FnFingers.R1 k A0 c0 l0 A1 c1 l1 f v r6 ok b1 b2 b3 b4 b5 b6 o1 o2 o3 o4 o5 g n e L x1 x2 x3 x4 x5 x6 i d h w hc1 hd3 hi6 hs6 HR0 HR1 HO HN g5 g8 g10 _ _ _ _ _ _ _ g16 g17 g19 w206 HB wc _ _ _ _ _ _ _ _ _ _ _ _ _ _ _ _ _ _ _ _ _ _ _ _ _ _ _ _ _ _ _ _ _ _ _ _ _ _ _ _ _ _ _ _ _ _ _ _ _ _ _ _ _ _ _ _ _ _ _ _ _ _ _ _ _ _ _ _ _ _ _ _ _ _ _ _ _ _ _ _ _ _ _ _ _ _ _ _ _ _ _ _ _ _ _ _ _ _ _ _ _ _ _ _ _ _ _ _ _ _ _ _ _ _ _ _ _ _ _ _ _ _ _ _ _ _ _ _ _ _ _ _ _ _ _ _ _ _ _ _ _ _ _ _ _ _ _ _ _ _ _ _ _ _ _ _ _ _ _ _ _ _ _ _ _ _ _ _ _ _ _ _ _ _ _ _ _ _ _ _ _ _ _ _ _ _ _ _ _ _ _ _ _ _ _ _ _ _ _ _ _ _ _ _ _ _ _ _ _ _ _ _ _ _ _ _ _ _ _ _ _ _ _ _ _ _ _ _ _ _ _ _ _ _ _ _ _ _ _ _ _ _ _ _ _ _ _ _ _ _ _ _ _ _ _ _ _ _ _ _ _ _ _ _ _ _ _ _ _ _ _ _ _ _ _ _ _ _ _ _ _ _ _ _ _ _ _ _ _ _ _ _ _ _ _ hcut _ (by assumption)
end Go.Proofs.Ytaecjbhenknfkaa.FD
