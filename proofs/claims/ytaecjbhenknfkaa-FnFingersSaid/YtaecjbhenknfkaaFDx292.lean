import Derived.Test.YtaecjbhenknfkaaFDx0
import Derived.Test.YtaecjbhenknfkaaFDx2
import Derived.Test.YtaecjbhenknfkaaFDx6
import Derived.Test.YtaecjbhenknfkaaFDx9
import Derived.Test.YtaecjbhenknfkaaFDx10
import Derived.Test.YtaecjbhenknfkaaFDx11
import Derived.Test.YtaecjbhenknfkaaFDx12
import Derived.Test.YtaecjbhenknfkaaFDx14
import Derived.Test.YtaecjbhenknfkaaFDx16
import Derived.Test.YtaecjbhenknfkaaFDx18
import Derived.Test.YtaecjbhenknfkaaFDx20
import Derived.Test.YtaecjbhenknfkaaFDx22
import Derived.Test.YtaecjbhenknfkaaFDx23
import Derived.Test.YtaecjbhenknfkaaFDx27
import Derived.Test.YtaecjbhenknfkaaFDx28
namespace Go.Proofs.Ytaecjbhenknfkaa.FD
open Go.RowKit Go.Proofs.YtaecjbhenknfkaaW.PrintWords Go.Proofs.YtaecjbhenknfkaaW.PrintLast Go.Proofs.YtaecjbhenknfkaaW.PrintMore
attribute [local go_sem] max2_int min2_int max_two min_two max_three min_three max_four min_four   -- for this text's walks alone
set_option linter.unusedVariables false
set_option linter.unusedSimpArgs false

/-! ### laws_FnFingers: function 12 -/
theorem laws_FnFingers.b6 {w W : World} {g : Nat} {t : TypeId} {a0 a1 a2 a3 a4 a5 v0 v1 v2 v3 v4 v5 : Value} (hW : W = ((((((World.setCell w ⟨g, 0, none⟩ v0).setCell ⟨g, 1, none⟩ v1).setCell ⟨g, 2, none⟩ v2).setCell ⟨g, 3, none⟩ v3).setCell ⟨g, 4, none⟩ v4).setCell ⟨g, 5, none⟩ v5)) (h : w.heap[g]? = some (.cells #[a0, a1, a2, a3, a4, a5] t (0, 0))) : W.heap[g]? = some (.cells #[v0, v1, v2, v3, v4, v5] t (0, 0)) := by
  subst hW
  exact blk_put (blk_put (blk_put (blk_put (blk_put (blk_put h 0 v0 rfl) 1 v1 rfl) 2 v2 rfl) 3 v3 rfl) 4 v4 rfl) 5 v5 rfl
theorem laws_FnFingers.c6 {w : World} {g : Nat} {t : TypeId} {v0 v1 v2 v3 v4 v5 : Value} (h : w.heap[g]? = some (.cells #[v0, v1, v2, v3, v4, v5] t (0, 0))) : w.cell? ⟨g, 0, none⟩ = some v0 ∧ w.cell? ⟨g, 1, none⟩ = some v1 ∧ w.cell? ⟨g, 2, none⟩ = some v2 ∧ w.cell? ⟨g, 3, none⟩ = some v3 ∧ w.cell? ⟨g, 4, none⟩ = some v4 ∧ w.cell? ⟨g, 5, none⟩ = some v5 := ⟨(blk_cell h 0).trans rfl, (blk_cell h 1).trans rfl, (blk_cell h 2).trans rfl, (blk_cell h 3).trans rfl, (blk_cell h 4).trans rfl, (blk_cell h 5).trans rfl⟩
theorem laws_FnFingers.f6 {w : World} {g : Nat} {t : TypeId} {cs : Array Value} (h : w.heap[g]? = some (.cells cs t (0, 0))) : w.frozen? ⟨g, 0, none⟩ = false ∧ w.frozen? ⟨g, 1, none⟩ = false ∧ w.frozen? ⟨g, 2, none⟩ = false ∧ w.frozen? ⟨g, 3, none⟩ = false ∧ w.frozen? ⟨g, 4, none⟩ = false ∧ w.frozen? ⟨g, 5, none⟩ = false := ⟨blk_frozen h 0, blk_frozen h 1, blk_frozen h 2, blk_frozen h 3, blk_frozen h 4, blk_frozen h 5⟩
theorem laws_FnFingers.o6 {w W : World} {g : Nat} {v0 v1 v2 v3 v4 v5 : Value} (hW : W = ((((((World.setCell w ⟨g, 0, none⟩ v0).setCell ⟨g, 1, none⟩ v1).setCell ⟨g, 2, none⟩ v2).setCell ⟨g, 3, none⟩ v3).setCell ⟨g, 4, none⟩ v4).setCell ⟨g, 5, none⟩ v5)) {q : Nat} {t : TypeId} {cs : Array Value} (hq : q ≠ g) (h : w.heap[q]? = some (.cells cs t (0, 0))) : W.heap[q]? = some (.cells cs t (0, 0)) := by
  subst hW
  exact blk_far (blk_far (blk_far (blk_far (blk_far (blk_far h hq _) hq _) hq _) hq _) hq _) hq _
theorem laws_FnFingers.l6 {w W u : World} {g : Nat} {v0 v1 v2 v3 v4 v5 : Value} (hW : W = ((((((World.setCell w ⟨g, 0, none⟩ v0).setCell ⟨g, 1, none⟩ v1).setCell ⟨g, 2, none⟩ v2).setCell ⟨g, 3, none⟩ v3).setCell ⟨g, 4, none⟩ v4).setCell ⟨g, 5, none⟩ v5)) (h : Below u.heap.size u w) (hg : u.heap.size ≤ g) : Below u.heap.size u W := by
  subst hW
  exact below_set (below_set (below_set (below_set (below_set (below_set h hg) hg) hg) hg) hg) hg
theorem laws_FnFingers.r6 {α : Type} {K : Kd α} {w W : World} {g : Nat} {v0 v1 v2 v3 v4 v5 : Value} (hW : W = ((((((World.setCell w ⟨g, 0, none⟩ v0).setCell ⟨g, 1, none⟩ v1).setCell ⟨g, 2, none⟩ v2).setCell ⟨g, 3, none⟩ v3).setCell ⟨g, 4, none⟩ v4).setCell ⟨g, 5, none⟩ v5)) {e : TypeId} {base : Nat} {ok : Nat → Prop} {v : Value} {l : List α} (h : Kd.R K e w base (fun k => ok k ∧ k ≠ g) v l) : Kd.R K e W base (fun k => ok k ∧ k ≠ g) v l := by
  subst hW
  exact Kd.R_far (p := ⟨g, 5, none⟩) (Kd.R_far (p := ⟨g, 4, none⟩) (Kd.R_far (p := ⟨g, 3, none⟩) (Kd.R_far (p := ⟨g, 2, none⟩) (Kd.R_far (p := ⟨g, 1, none⟩) (Kd.R_far (p := ⟨g, 0, none⟩) h (fun _ hk => hk.2) v0) (fun _ hk => hk.2) v1) (fun _ hk => hk.2) v2) (fun _ hk => hk.2) v3) (fun _ hk => hk.2) v4) (fun _ hk => hk.2) v5
/-- What the setting of a finger keeps. -/
def laws_FnFingers.Set (t a b c d : Int) (s : Bool) (f v r1 r2 r3 r4 r5 : Int) (r6 : Bool) : Prop := impl_IsShape.f r1 r2 r3 r4 r5 r6 = some true ∧ (r6 = true → s = true) ∧ ∀ i : Int, 0 ≤ i → i < 5 → (i = f → rd [r1, r2, r3, r4, r5] i = v) ∧ (¬ i = f → rd [r1, r2, r3, r4, r5] i = rd [t, a, b, c, d] i)
/-- What opposite shapes are to one another. -/
def laws_FnFingers.Opp (k : Nat) (u1 u2 u3 u4 u5 o1 o2 o3 o4 o5 n : Int) : Prop := impl_OppositeShape.f k o1 o2 o3 o4 o5 false = some (u1, u2, u3, u4, u5, false, true) ∧ ∃ m, impl_OpenFingers.f k o1 o2 o3 o4 o5 false = some (m, true) ∧ spec_OpenFingers.f k o1 o2 o3 o4 o5 false = some (m, true) ∧ ¬ 4 < wrap64 (n + m)
/-- What the nearest is among all. -/
def laws_FnFingers.Near (k : Nat) (L : List S25) (i d x1 x2 x3 x4 x5 : Int) (x6 : Bool) : Prop := ∀ j : Int, 0 ≤ j → j < (L.length : Int) → ∃ z, impl_ShapeDistance.f k (rd_T25 L j).f0 (rd_T25 L j).f1 (rd_T25 L j).f2 (rd_T25 L j).f3 (rd_T25 L j).f4 (rd_T25 L j).f5 x1 x2 x3 x4 x5 x6 = some (z, true) ∧ d ≤ z ∧ (j = i → z = d) ∧ (j < i → ¬ z = d)
theorem laws_FnFingers.mono : True := trivial   -- a mark for mkpart2.py: the walk begins here
/-- A part of a code: 0 a sequence's first, 1 its rest, 2 a block's or a loop's, 3 where a test holds, 4 where not. -/
def laws_FnFingers.sub : List Nat → Code → Code
  | 0 :: p, .seq a _ => laws_FnFingers.sub p a
  | 1 :: p, .seq _ b => laws_FnFingers.sub p b
  | 2 :: p, .block _ a => laws_FnFingers.sub p a
  | 2 :: p, .loop a => laws_FnFingers.sub p a
  | 3 :: p, .cond _ a _ => laws_FnFingers.sub p a
  | 4 :: p, .cond _ _ b => laws_FnFingers.sub p b
  | _, c => c
end Go.Proofs.Ytaecjbhenknfkaa.FD

namespace Go.Proofs.Ytaecjbhenknfkaa.FD
open Go.RowKit Go.Proofs.YtaecjbhenknfkaaW.PrintWords Go.Proofs.YtaecjbhenknfkaaW.PrintLast Go.Proofs.YtaecjbhenknfkaaW.PrintMore
attribute [local go_sem] max2_int min2_int max_two min_two max_three min_three max_four min_four   -- for this text's walks alone
set_option linter.unusedVariables false
set_option linter.unusedSimpArgs false

/-! #### a part of the walk of laws_FnFingers -/
set_option maxHeartbeats 40000000 in
set_option maxRecDepth 100000 in
theorem laws_FnFingers.R1 (k : Nat) (A0 : Option Addr) (c0 : Nat) (l0 : List Int) (A1 : Option Addr) (c1 : Nat) (l1 : List Int) (f : Int) (v : Int) (r6 : Bool) (ok : Bool) (b1 : Int) (b2 : Int) (b3 : Int) (b4 : Int) (b5 : Int) (b6 : Bool) (o1 : Int) (o2 : Int) (o3 : Int) (o4 : Int) (o5 : Int) (g : Bool) (n : Int) (e : Bool) (L : List S25) (x1 : Int) (x2 : Int) (x3 : Int) (x4 : Int) (x5 : Int) (x6 : Bool) (i : Int) (d : Int) (h : Bool) (w : World) (hc1 : List.length l1 ≤ c1) (hd3 : spec_DrawNearestShape.f k l1 = some (L, x1, x2, x3, x4, x5, x6)) (hi6 : impl_NearestShape.f k L x1 x2 x3 x4 x5 x6 = some (i, d, h)) (hs6 : spec_NearestShape.f k L x1 x2 x3 x4 x5 x6 = some (i, d, h)) (HR0 : Aside0 (Kd.C (Kd.int IntKind.u8) w A0 (List.length l0) l0)) (HR1 : Aside0 (Kd.C (Kd.int IntKind.u8) w A1 (List.length l1) l1)) (HO : Aside0 (g = true → Opp k b1 b2 b3 b4 b5 o1 o2 o3 o4 o5 n)) (HN : Aside0 (h = true → Near k L i d x1 x2 x3 x4 x5 x6)) (g5 : Nat) (g8 : Nat) (g10 : Nat) (u12 : Value) (u13 : Value) (u14 : Value) (u15 : Value) (u102 : Value) (u103 : Value) (u104 : Value) (g16 : Nat) (g17 : Nat) (g19 : Nat) (w206 : World) (HB : Aside0 (Below (Array.size (World.heap w)) w w206)) (wc : World) (u4 : Value) (u29 : Value) (u30 : Value) (u31 : Value) (u32 : Value) (u33 : Value) (u34 : Value) (u35 : Value) (u48 : Value) (u49 : Value) (u50 : Value) (u51 : Value) (u52 : Value) (u53 : Value) (u54 : Value) (u55 : Value) (u56 : Value) (u57 : Value) (u58 : Value) (u59 : Value) (u60 : Value) (u61 : Value) (u62 : Value) (u63 : Value) (u64 : Value) (u65 : Value) (u66 : Value) (u67 : Value) (u68 : Value) (u69 : Value) (u70 : Value) (u71 : Value) (u72 : Value) (u73 : Value) (u74 : Value) (u75 : Value) (u76 : Value) (u77 : Value) (u78 : Value) (u79 : Value) (u80 : Value) (u81 : Value) (u82 : Value) (u83 : Value) (u84 : Value) (u85 : Value) (u86 : Value) (u87 : Value) (u88 : Value) (u89 : Value) (u90 : Value) (u91 : Value) (u92 : Value) (u93 : Value) (u94 : Value) (u95 : Value) (u96 : Value) (u97 : Value) (u98 : Value) (u99 : Value) (u100 : Value) (u101 : Value) (u105 : Value) (u106 : Value) (u107 : Value) (u108 : Value) (u109 : Value) (u110 : Value) (u111 : Value) (u112 : Value) (u113 : Value) (u114 : Value) (u115 : Value) (u116 : Value) (u117 : Value) (u118 : Value) (u119 : Value) (u120 : Value) (u121 : Value) (u122 : Value) (u123 : Value) (u124 : Value) (u125 : Value) (u126 : Value) (u127 : Value) (u128 : Value) (u129 : Value) (u130 : Value) (u131 : Value) (u132 : Value) (u133 : Value) (u134 : Value) (u135 : Value) (u136 : Value) (u137 : Value) (u138 : Value) (u139 : Value) (u140 : Value) (u141 : Value) (u142 : Value) (u143 : Value) (u144 : Value) (u145 : Value) (u146 : Value) (u147 : Value) (u148 : Value) (u149 : Value) (u150 : Value) (u151 : Value) (u152 : Value) (u153 : Value) (u154 : Value) (u155 : Value) (u156 : Value) (u157 : Value) (u158 : Value) (u159 : Value) (u160 : Value) (u161 : Value) (u162 : Value) (u163 : Value) (u164 : Value) (u165 : Value) (u166 : Value) (u167 : Value) (u168 : Value) (u169 : Value) (u170 : Value) (u171 : Value) (u172 : Value) (u173 : Value) (u174 : Value) (u175 : Value) (u176 : Value) (u177 : Value) (u178 : Value) (u179 : Value) (u180 : Value) (u181 : Value) (u182 : Value) (u183 : Value) (u184 : Value) (u185 : Value) (u186 : Value) (u187 : Value) (u188 : Value) (u189 : Value) (u190 : Value) (u191 : Value) (u192 : Value) (u193 : Value) (u194 : Value) (u195 : Value) (u196 : Value) (u197 : Value) (u198 : Value) (u199 : Value) (u200 : Value) (u201 : Value) (u202 : Value) (u203 : Value) (u204 : Value) (u205 : Value) (u206 : Value) (u207 : Value) (u208 : Value) (u209 : Value) (u210 : Value) (u211 : Value) (u212 : Value) (u213 : Value) (u214 : Value) (u215 : Value) (u216 : Value) (u217 : Value) (u218 : Value) (u219 : Value) (u220 : Value) (u221 : Value) (u222 : Value) (u223 : Value) (u224 : Value) (u225 : Value) (u226 : Value) (u227 : Value) (u228 : Value) (u229 : Value) (u230 : Value) (u231 : Value) (u232 : Value) (u233 : Value) (u234 : Value) (u235 : Value) (u236 : Value) (u237 : Value) (u238 : Value) (u239 : Value) (u240 : Value) (u241 : Value) (u242 : Value) (u243 : Value) (u244 : Value) (u245 : Value) (u246 : Value) (u247 : Value) (u248 : Value) (u249 : Value) (u250 : Value) (u251 : Value) (u252 : Value) (u253 : Value) (u254 : Value) (u255 : Value) (u256 : Value) (u257 : Value) (u258 : Value) (u259 : Value) (u260 : Value) (u261 : Value) (u262 : Value) (u263 : Value) (u264 : Value) (u265 : Value) (u266 : Value) (u267 : Value) (u268 : Value) (u269 : Value) (u270 : Value) (u271 : Value) (u272 : Value) (u273 : Value) (u274 : Value) (u275 : Value) (u276 : Value) (u277 : Value) (u278 : Value) (u279 : Value) (u280 : Value) (u281 : Value) (u282 : Value) (u283 : Value) (u284 : Value) (u285 : Value) (u286 : Value) (u287 : Value) (u288 : Value) (u289 : Value) (u290 : Value) (u291 : Value) (u292 : Value) (u293 : Value) (u294 : Value) (u295 : Value) (u296 : Value) (u297 : Value) (u298 : Value) (u299 : Value) (u303 : Value) (u304 : Value) (u305 : Value) (u306 : Value) (u307 : Value) (u308 : Value) (u309 : Value) (u310 : Value) (u311 : Value) (u312 : Value) (u313 : Value) (u314 : Value) (u315 : Value) (u316 : Value) (u317 : Value) (u318 : Value) (u319 : Value) (u320 : Value) (u321 : Value) (u322 : Value) (u323 : Value) (u324 : Value) (u325 : Value) (u326 : Value) (u327 : Value) (u328 : Value) (u329 : Value) (u330 : Value) (u331 : Value) (u332 : Value) (u333 : Value) (u334 : Value) (u335 : Value) (u336 : Value) (u337 : Value) (u338 : Value) (u339 : Value) (u340 : Value) (hcut : Aside0 (Below (Array.size (World.heap w)) w wc)) (K0_ : Act → World → Prop) (hK0_ : ∀ (a_ : Act) (w_ : World), Code.wp Try.prog (laws_FnFingers.sub [1, 1, 1, 1, 1, 1, 1, 1, 1, 1, 1, 1, 1, 1, 1, 1] (Try.f12.body.getD .skip)) (bodyPost Try.prog Try.f12 fun e w' => e = .returned (.bool true) ∧ Below w.heap.size w w') a_ w_ → K0_ a_ w_) :
    K0_ {
      tmps :=
        #[Value.slice A0 (List.length l0) c0, Value.slice A1 (List.length l1) c1, undef, undef, u4,
          Value.pointer (some { block := g5, off := 0 }), Value.int IntKind.i64 f, Value.int IntKind.i64 v,
          Value.pointer (some { block := g8, off := 0 }), Value.bool ok,
          Value.pointer (some { block := g10, off := 0 }), Value.bool ok, u12, u13, u14, u15,
          Value.pointer (some { block := g16, off := 0 }), Value.pointer (some { block := g17, off := 0 }),
          Value.bool g, Value.pointer (some { block := g19, off := 0 }), Value.bool g, Value.int IntKind.i64 n,
          Value.bool g, Value.int IntKind.i64 n, Value.bool g, Value.bool e, Value.bool g, Value.bool e, Value.bool g,
          u29, u30, u31, u32, u33, u34, u35, undef, undef, undef, undef, undef, undef, undef, undef, undef, undef,
          undef, undef, u48, u49, u50, u51, u52, u53, u54, u55, u56, u57, u58, u59, u60, u61, u62, u63, u64, u65, u66,
          u67, u68, u69, u70, u71, u72, u73, u74, u75, u76, u77, u78, u79, u80, u81, u82, u83, u84, u85, u86, u87, u88,
          u89, u90, u91, u92, u93, u94, u95, u96, u97, u98, u99, u100, u101, u102, u103, u104, u105, u106, u107, u108,
          u109, u110, u111, u112, u113, u114, u115, u116, u117, u118, u119, u120, u121, u122, u123, u124, u125, u126,
          u127, u128, u129, u130, u131, u132, u133, u134, u135, u136, u137, u138, u139, u140, u141, u142, u143, u144,
          u145, u146, u147, u148, u149, u150, u151, u152, u153, u154, u155, u156, u157, u158, u159, u160, u161, u162,
          u163, u164, u165, u166, u167, u168, u169, u170, u171, u172, u173, u174, u175, u176, u177, u178, u179, u180,
          u181, u182, u183, u184, u185, u186, u187, u188, u189, u190, u191, u192, u193, u194, u195, u196, u197, u198,
          u199, u200, u201, u202, u203, u204, u205, u206, u207, u208, u209, u210, u211, u212, u213, u214, u215, u216,
          u217, u218, u219, u220, u221, u222, u223, u224, u225, u226, u227, u228, u229, u230, u231, u232, u233, u234,
          u235, u236, u237, u238, u239, u240, u241, u242, u243, u244, u245, u246, u247, u248, u249, u250, u251, u252,
          u253, u254, u255, u256, u257, u258, u259, u260, u261, u262, u263, u264, u265, u266, u267, u268, u269, u270,
          u271, u272, u273, u274, u275, u276, u277, u278, u279, u280, u281, u282, u283, u284, u285, u286, u287, u288,
          u289, u290, u291, u292, u293, u294, u295, u296, u297, u298, u299, undef, undef, undef, u303, u304, u305, u306,
          u307, u308, u309, u310, u311, u312, u313, u314, u315, u316, u317, u318, u319, u320, u321, u322, u323, u324,
          u325, u326, u327, u328, u329, u330, u331, u332, u333, u334, u335, u336, u337, u338, u339, u340],
      defers := [] } wc := by
  refine hK0_ _ _ ?_
  clear hK0_
  conv => arg 2; whnf
  have HB := hcut
  clear hcut HO
  go_upto_region 37 with (first | ((with_reducible refine gate_dst (N := 269) rfl ?_); refine goesL_ (some 269) rfl rfl Try.func42 (by kernel_rfl) rfl #[.slice A1 l1.length c1] rfl (by (try simp only [List.map_toArray, List.map_cons, List.map_nil]); first | done | rfl) ?_; (with_reducible refine (spec_DrawNearestShape.calls k A1 c1 l1 L x1 x2 x3 x4 x5 x6 _ (Kd.C_below HR1.out HB.out) hc1 hd3).mono ?_); rintro e w269 ⟨v269, rfl, ho, hb⟩; refine ⟨_, rfl, ?_⟩; obtain ⟨AL, cL, eL⟩ := Kd.R_slice ho; subst eL; have HQ := Aside0.mk (Kd.R_lower ho (below_size HB.out)); clear ho; have n0 := Aside0.mk (below_step HB.out hb); clear HB; have HB := n0; clear n0; clear hb; have HL := HQ; clear HQ) | ((with_reducible refine gate_dst (N := 37) rfl ?_); refine box_event ?hg (N := 37) ?hd (cs := #[.int .i64 0, .int .i64 0, .int .i64 0, .int .i64 0, .int .i64 0, .bool false]) (t := 25) ?hr ?_; (case hd => rfl); (case hg => rfl); (case hr => first | (go_simp; done) | (go_simp; rfl)); intro g37 hg v37 hbox hb; have G37 := Aside0.mk (show w.heap.size ≤ g37 by rw [hg]; exact below_size HB.out); have XHL37 := Aside0.mk (Kd.R_elderB HL.out g37 (Nat.le_of_eq hg.symm)); clear HL; have HL := XHL37; clear XHL37; have n0 := Aside0.mk (Kd.R_below HL.out hb); have n1 := Aside0.mk (below_step HB.out hb); clear HL; clear HB; have HL := n0; have HB := n1; clear n0; clear n1; have B37 := Aside0.mk hbox; clear hb hbox hg; obtain ⟨q37_0, q37_1, q37_2, q37_3, q37_4, q37_5⟩ := laws_FnFingers.c6 B37.out; obtain ⟨f37_0, f37_1, f37_2, f37_3, f37_4, f37_5⟩ := laws_FnFingers.f6 B37.out))
  obtain ⟨U37, hW⟩ : ∃ W, W = (World.setCell (World.setCell (World.setCell (World.setCell (World.setCell (World.setCell v37 ⟨g37, 0, none⟩ (.int .i64 x1)) ⟨g37, 1, none⟩ (.int .i64 x2)) ⟨g37, 2, none⟩ (.int .i64 x3)) ⟨g37, 3, none⟩ (.int .i64 x4)) ⟨g37, 4, none⟩ (.int .i64 x5)) ⟨g37, 5, none⟩ (.bool x6)) := ⟨_, rfl⟩
  rw [← hW]
  have n0 := Aside0.mk (laws_FnFingers.b6 hW B37.out)
  have n1 := Aside0.mk (laws_FnFingers.r6 hW HL.out)
  have n2 := Aside0.mk (laws_FnFingers.l6 hW HB.out G37.out)
  clear B37
  clear HL
  clear HB
  have B37 := n0
  have HL := n1
  have HB := n2
  clear n0
  clear n1
  clear n2
  clear hW
  clear q37_0 q37_1 q37_2 q37_3 q37_4 q37_5 f37_0 f37_1 f37_2 f37_3 f37_4 f37_5
  obtain ⟨q37_0, q37_1, q37_2, q37_3, q37_4, q37_5⟩ := laws_FnFingers.c6 B37.out
  have k2 : (h != h) = false := bne_self_eq_false h
  have k3 : (i != i) = false := bne_self_eq_false i
  have k4 : (d != d) = false := bne_self_eq_false d
  go_upto_region 41 with (first | ((with_reducible refine gate_dst (N := 275) rfl ?_); refine goesL_ (some 275) rfl rfl Try.func33 (by kernel_rfl) rfl #[.slice AL L.length cL, .agg #[.int .i64 x1, .int .i64 x2, .int .i64 x3, .int .i64 x4, .int .i64 x5, .bool x6]] rfl (by (try simp only [List.map_toArray, List.map_cons, List.map_nil]); first | done | rfl) ?_; (with_reducible refine (impl_NearestShape.calls k AL cL L x1 x2 x3 x4 x5 x6 i d h _ (Kd.R_reads' HL.out).2.2 (Kd.R_reads' HL.out).2.1 hi6).mono ?_); rintro e w275 ⟨rfl, hb⟩; refine ⟨_, rfl, ?_⟩; have n0 := Aside0.mk (blk_below B37.out hb); have n1 := Aside0.mk (Kd.R_below HL.out hb); have n2 := Aside0.mk (below_step HB.out hb); clear B37; clear HL; clear HB; have B37 := n0; have HL := n1; have HB := n2; clear n0; clear n1; clear n2; clear hb; clear q37_0 q37_1 q37_2 q37_3 q37_4 q37_5; obtain ⟨q37_0, q37_1, q37_2, q37_3, q37_4, q37_5⟩ := laws_FnFingers.c6 B37.out) | ((with_reducible refine gate_dst (N := 282) rfl ?_); refine goesL_ (some 282) rfl rfl Try.func31 (by kernel_rfl) rfl #[.slice AL L.length cL, .agg #[.int .i64 x1, .int .i64 x2, .int .i64 x3, .int .i64 x4, .int .i64 x5, .bool x6]] rfl (by (try simp only [List.map_toArray, List.map_cons, List.map_nil]); first | done | rfl) ?_; (with_reducible refine (spec_NearestShape.calls k AL cL L x1 x2 x3 x4 x5 x6 i d h _ (Kd.R_reads' HL.out).2.2 (Kd.R_reads' HL.out).2.1 hs6).mono ?_); rintro e w282 ⟨rfl, hb⟩; refine ⟨_, rfl, ?_⟩; have n0 := Aside0.mk (blk_below B37.out hb); have n1 := Aside0.mk (Kd.R_below HL.out hb); have n2 := Aside0.mk (below_step HB.out hb); clear B37; clear HL; clear HB; have B37 := n0; have HL := n1; have HB := n2; clear n0; clear n1; clear n2; clear hb; clear q37_0 q37_1 q37_2 q37_3 q37_4 q37_5; obtain ⟨q37_0, q37_1, q37_2, q37_3, q37_4, q37_5⟩ := laws_FnFingers.c6 B37.out))
  clear k2 k3 k4 hd3 hi6 hs6 HR0 HR1
  cases h
  · go_wp2
    go_ret
    exact ⟨rfl, HB.out⟩
  · have HNN := Aside0.mk (HN.out rfl)
    have HLL : Aside0 (L.length ≤ 9223372036854775807) := ⟨(Kd.R_reads' HL.out).2.2.2.1⟩
    clear HN
    go_wp2
    go_loopg [302] L.length (fun kq v302 w' => ∃ x : Int, v302 = .int .i64 x ∧ Aside0 (0 ≤ x ∧ x + kq = L.length) ∧ Aside0 (Kd.R k25 25 w' w.heap.size (fun _ => True) (.slice AL L.length cL) L) ∧ Aside0 (w'.heap[g37]? = some (.cells #[.int .i64 x1, .int .i64 x2, .int .i64 x3, .int .i64 x4, .int .i64 x5, .bool x6] 25 (0, 0))) ∧ Aside0 (Below w.heap.size w w'))
    case atStart => exact ⟨0, rfl, ⟨by omega⟩, ⟨Kd.R_mono HL.out (fun _ _ => trivial)⟩, B37, HB⟩
    case round =>
      obtain ⟨x, rfl, HX, HL, B37, HB⟩ := hrel
      obtain ⟨W1, rfl⟩ : ∃ W1, W1 = wr := ⟨wr, rfl⟩
      by_cases hlt : x < (L.length : Int)
      · have p0 : 0 ≤ x := HX.out.1
        have HW : Aside0 (wrap64 (x + 1) = x + 1) := ⟨wrap_up p0 hlt HLL.out⟩
        obtain ⟨z, hz, z1, z2, z3⟩ := HNN.out x p0 hlt
        have d1 : decide (x < (L.length : Int)) = true := decide_eq_true hlt
        obtain ⟨ad, E1, y0, y1, y2, y3, y4, y5⟩ := at_T25 (Kd.R_reads' HL.out).2.2 x p0 hlt
        cases E1
        replace p0 := eq_true p0
        replace hlt := eq_true hlt
        go_upto_region 45 with (first | ((with_reducible refine gate_dst (N := 45) rfl ?_); refine box_event ?hg (N := 45) ?hd (cs := #[.int .i64 0, .int .i64 0, .int .i64 0, .int .i64 0, .int .i64 0, .bool false]) (t := 25) ?hr ?_; (case hd => rfl); (case hg => rfl); (case hr => first | (go_simp; done) | (go_simp; rfl)); intro g45 hg v45 hbox hb; have D3745 := Aside0.mk (show g37 ≠ g45 by rw [hg]; exact Nat.ne_of_lt (blk_lt B37.out)); have G45 := Aside0.mk (show w.heap.size ≤ g45 by rw [hg]; exact below_size HB.out); have XHL45 := Aside0.mk (Kd.R_elderB HL.out g45 (Nat.le_of_eq hg.symm)); clear HL; have HL := XHL45; clear XHL45; have n0 := Aside0.mk (blk_below B37.out hb); have n1 := Aside0.mk (Kd.R_below HL.out hb); have n2 := Aside0.mk (below_step HB.out hb); clear B37; clear HL; clear HB; have B37 := n0; have HL := n1; have HB := n2; clear n0; clear n1; clear n2; have B45 := Aside0.mk hbox; clear hb hbox hg; obtain ⟨q37_0, q37_1, q37_2, q37_3, q37_4, q37_5⟩ := laws_FnFingers.c6 B37.out; obtain ⟨q45_0, q45_1, q45_2, q45_3, q45_4, q45_5⟩ := laws_FnFingers.c6 B45.out; obtain ⟨f45_0, f45_1, f45_2, f45_3, f45_4, f45_5⟩ := laws_FnFingers.f6 B45.out))
        obtain ⟨U45, hW⟩ : ∃ W, W = (World.setCell (World.setCell (World.setCell (World.setCell (World.setCell (World.setCell v45 ⟨g45, 0, none⟩ (.int .i64 (rd_T25 L x).f0)) ⟨g45, 1, none⟩ (.int .i64 (rd_T25 L x).f1)) ⟨g45, 2, none⟩ (.int .i64 (rd_T25 L x).f2)) ⟨g45, 3, none⟩ (.int .i64 (rd_T25 L x).f3)) ⟨g45, 4, none⟩ (.int .i64 (rd_T25 L x).f4)) ⟨g45, 5, none⟩ (.bool (rd_T25 L x).f5)) := ⟨_, rfl⟩
        rw [← hW]
        have n0 := Aside0.mk (laws_FnFingers.o6 hW D3745.out B37.out)
        have n1 := Aside0.mk (laws_FnFingers.b6 hW B45.out)
        have n2 := Aside0.mk (laws_FnFingers.r6 hW HL.out)
        have n3 := Aside0.mk (laws_FnFingers.l6 hW HB.out G45.out)
        clear B37
        clear B45
        clear HL
        clear HB
        have B37 := n0
        have B45 := n1
        have HL := n2
        have HB := n3
        clear n0
        clear n1
        clear n2
        clear n3
        clear hW
        clear q37_0 q37_1 q37_2 q37_3 q37_4 q37_5 q45_0 q45_1 q45_2 q45_3 q45_4 q45_5 f45_0 f45_1 f45_2 f45_3 f45_4 f45_5
        obtain ⟨q37_0, q37_1, q37_2, q37_3, q37_4, q37_5⟩ := laws_FnFingers.c6 B37.out
        obtain ⟨q45_0, q45_1, q45_2, q45_3, q45_4, q45_5⟩ := laws_FnFingers.c6 B45.out
        have d2 : decide (z < d) = false := decide_eq_false (by omega)
        clear y0 y1 y2 y3 y4 y5
        by_cases hi : x = i
        · have i1 : (x == i) = true := beq_iff_eq.mpr hi
          have i2 : (z != d) = false := bne_eq_false_iff_eq.mpr (z2 hi)
          have i3 : decide (x < i) = false := decide_eq_false (by omega)
          clear z1 z2 z3 hi
          go_wp2_with (first | ((with_reducible refine gate_dst (N := 310) rfl ?_); refine goesL_ (some 310) rfl rfl Try.func22 (by kernel_rfl) rfl #[.agg #[.int .i64 (rd_T25 L x).f0, .int .i64 (rd_T25 L x).f1, .int .i64 (rd_T25 L x).f2, .int .i64 (rd_T25 L x).f3, .int .i64 (rd_T25 L x).f4, .bool (rd_T25 L x).f5], .agg #[.int .i64 x1, .int .i64 x2, .int .i64 x3, .int .i64 x4, .int .i64 x5, .bool x6]] rfl (by (try simp only [List.map_toArray, List.map_cons, List.map_nil]); first | done | rfl) ?_; (with_reducible refine (impl_ShapeDistance.calls k (rd_T25 L x).f0 (rd_T25 L x).f1 (rd_T25 L x).f2 (rd_T25 L x).f3 (rd_T25 L x).f4 (rd_T25 L x).f5 x1 x2 x3 x4 x5 x6 z true _ hz).mono ?_); rintro e w310 ⟨rfl, hb⟩; refine ⟨_, rfl, ?_⟩; have n0 := Aside0.mk (blk_below B37.out hb); have n1 := Aside0.mk (blk_below B45.out hb); have n2 := Aside0.mk (Kd.R_below HL.out hb); have n3 := Aside0.mk (below_step HB.out hb); clear B37; clear B45; clear HL; clear HB; have B37 := n0; have B45 := n1; have HL := n2; have HB := n3; clear n0; clear n1; clear n2; clear n3; clear hb; clear q37_0 q37_1 q37_2 q37_3 q37_4 q37_5 q45_0 q45_1 q45_2 q45_3 q45_4 q45_5; obtain ⟨q37_0, q37_1, q37_2, q37_3, q37_4, q37_5⟩ := laws_FnFingers.c6 B37.out; obtain ⟨q45_0, q45_1, q45_2, q45_3, q45_4, q45_5⟩ := laws_FnFingers.c6 B45.out))
          go_roundg (gk - 1)
          case measure => have := HX.out.2; have := of_eq_true hlt; omega
          case rel => exact ⟨wrap64 (x + 1), rfl, ⟨by rw [HW.out]; have := HX.out; have := of_eq_true hlt; omega⟩, ⟨Kd.R_mono HL.out (fun _ _ => trivial)⟩, B37, HB⟩
        · have i1 : (x == i) = false := beq_eq_false_iff_ne.mpr hi
          by_cases hl : x < i
          · have i2 : (z == d) = false := beq_eq_false_iff_ne.mpr (z3 hl)
            have i3 : decide (x < i) = true := decide_eq_true hl
            clear z1 z2 z3 hi hl
            go_wp2_with (first | ((with_reducible refine gate_dst (N := 310) rfl ?_); refine goesL_ (some 310) rfl rfl Try.func22 (by kernel_rfl) rfl #[.agg #[.int .i64 (rd_T25 L x).f0, .int .i64 (rd_T25 L x).f1, .int .i64 (rd_T25 L x).f2, .int .i64 (rd_T25 L x).f3, .int .i64 (rd_T25 L x).f4, .bool (rd_T25 L x).f5], .agg #[.int .i64 x1, .int .i64 x2, .int .i64 x3, .int .i64 x4, .int .i64 x5, .bool x6]] rfl (by (try simp only [List.map_toArray, List.map_cons, List.map_nil]); first | done | rfl) ?_; (with_reducible refine (impl_ShapeDistance.calls k (rd_T25 L x).f0 (rd_T25 L x).f1 (rd_T25 L x).f2 (rd_T25 L x).f3 (rd_T25 L x).f4 (rd_T25 L x).f5 x1 x2 x3 x4 x5 x6 z true _ hz).mono ?_); rintro e w310 ⟨rfl, hb⟩; refine ⟨_, rfl, ?_⟩; have n0 := Aside0.mk (blk_below B37.out hb); have n1 := Aside0.mk (blk_below B45.out hb); have n2 := Aside0.mk (Kd.R_below HL.out hb); have n3 := Aside0.mk (below_step HB.out hb); clear B37; clear B45; clear HL; clear HB; have B37 := n0; have B45 := n1; have HL := n2; have HB := n3; clear n0; clear n1; clear n2; clear n3; clear hb; clear q37_0 q37_1 q37_2 q37_3 q37_4 q37_5 q45_0 q45_1 q45_2 q45_3 q45_4 q45_5; obtain ⟨q37_0, q37_1, q37_2, q37_3, q37_4, q37_5⟩ := laws_FnFingers.c6 B37.out; obtain ⟨q45_0, q45_1, q45_2, q45_3, q45_4, q45_5⟩ := laws_FnFingers.c6 B45.out))
            go_roundg (gk - 1)
            case measure => have := HX.out.2; have := of_eq_true hlt; omega
            case rel => exact ⟨wrap64 (x + 1), rfl, ⟨by rw [HW.out]; have := HX.out; have := of_eq_true hlt; omega⟩, ⟨Kd.R_mono HL.out (fun _ _ => trivial)⟩, B37, HB⟩
          · have i3 : decide (x < i) = false := decide_eq_false hl
            clear z1 z2 z3 hi hl
            go_wp2_with (first | ((with_reducible refine gate_dst (N := 310) rfl ?_); refine goesL_ (some 310) rfl rfl Try.func22 (by kernel_rfl) rfl #[.agg #[.int .i64 (rd_T25 L x).f0, .int .i64 (rd_T25 L x).f1, .int .i64 (rd_T25 L x).f2, .int .i64 (rd_T25 L x).f3, .int .i64 (rd_T25 L x).f4, .bool (rd_T25 L x).f5], .agg #[.int .i64 x1, .int .i64 x2, .int .i64 x3, .int .i64 x4, .int .i64 x5, .bool x6]] rfl (by (try simp only [List.map_toArray, List.map_cons, List.map_nil]); first | done | rfl) ?_; (with_reducible refine (impl_ShapeDistance.calls k (rd_T25 L x).f0 (rd_T25 L x).f1 (rd_T25 L x).f2 (rd_T25 L x).f3 (rd_T25 L x).f4 (rd_T25 L x).f5 x1 x2 x3 x4 x5 x6 z true _ hz).mono ?_); rintro e w310 ⟨rfl, hb⟩; refine ⟨_, rfl, ?_⟩; have n0 := Aside0.mk (blk_below B37.out hb); have n1 := Aside0.mk (blk_below B45.out hb); have n2 := Aside0.mk (Kd.R_below HL.out hb); have n3 := Aside0.mk (below_step HB.out hb); clear B37; clear B45; clear HL; clear HB; have B37 := n0; have B45 := n1; have HL := n2; have HB := n3; clear n0; clear n1; clear n2; clear n3; clear hb; clear q37_0 q37_1 q37_2 q37_3 q37_4 q37_5 q45_0 q45_1 q45_2 q45_3 q45_4 q45_5; obtain ⟨q37_0, q37_1, q37_2, q37_3, q37_4, q37_5⟩ := laws_FnFingers.c6 B37.out; obtain ⟨q45_0, q45_1, q45_2, q45_3, q45_4, q45_5⟩ := laws_FnFingers.c6 B45.out))
            go_roundg (gk - 1)
            case measure => have := HX.out.2; have := of_eq_true hlt; omega
            case rel => exact ⟨wrap64 (x + 1), rfl, ⟨by rw [HW.out]; have := HX.out; have := of_eq_true hlt; omega⟩, ⟨Kd.R_mono HL.out (fun _ _ => trivial)⟩, B37, HB⟩
      · have d1 : decide (x < (L.length : Int)) = false := decide_eq_false hlt
        clear hlt HX HNN
        go_wp2
        go_ret
        exact ⟨rfl, HB.out⟩
  
end Go.Proofs.Ytaecjbhenknfkaa.FD
