import Derived.Test.YtaecjbhenknfkaaFDx0
import Derived.Test.YtaecjbhenknfkaaFDx2
import Derived.Test.YtaecjbhenknfkaaFDx6
import Derived.Test.YtaecjbhenknfkaaFDx9
import Derived.Test.YtaecjbhenknfkaaFDx10
import Derived.Test.YtaecjbhenknfkaaFDx11
import Derived.Test.YtaecjbhenknfkaaFDx12
import Derived.Test.YtaecjbhenknfkaaFDx14
import Derived.Test.YtaecjbhenknfkaaFDx16
import Derived.Test.YtaecjbhenknfkaaFDx18
import Derived.Test.YtaecjbhenknfkaaFDx20
import Derived.Test.YtaecjbhenknfkaaFDx22
import Derived.Test.YtaecjbhenknfkaaFDx23
import Derived.Test.YtaecjbhenknfkaaFDx27
import Derived.Test.YtaecjbhenknfkaaFDx28
import Derived.Test.YtaecjbhenknfkaaFDx291
-- laid by pr.py (wip/tools) over the kit's printer; Lean checks it
namespace Go.Proofs.Ytaecjbhenknfkaa.FD
open Go.RowKit Go.Proofs.YtaecjbhenknfkaaW.PrintWords Go.Proofs.YtaecjbhenknfkaaW.PrintLast Go.Proofs.YtaecjbhenknfkaaW.PrintMore
attribute [local go_sem] max2_int min2_int max_two min_two max_three min_three max_four min_four   -- for this text's walks alone
set_option linter.unusedVariables false
set_option linter.unusedSimpArgs false

/-! #### the walk of laws_FnFingers -/
set_option maxHeartbeats 40000000 in
set_option maxRecDepth 100000 in
theorem laws_FnFingers.main (k : Nat) (A0 : Option Addr) (c0 : Nat) (l0 : List Int) (A1 : Option Addr) (c1 : Nat) (l1 : List Int) (s1 s2 s3 s4 s5 : Int) (s6 : Bool) (f v : Int) (r1 r2 r3 r4 r5 : Int) (r6 ok : Bool) (b1 b2 b3 b4 b5 : Int) (b6 : Bool) (o1 o2 o3 o4 o5 : Int) (g : Bool) (n : Int) (e : Bool) (L : List S25) (x1 x2 x3 x4 x5 : Int) (x6 : Bool) (i d : Int) (h : Bool) (w : World) (hr0 : Kd.C (Kd.int .u8) w A0 l0.length l0) (hc0 : l0.length ≤ c0) (hr1 : Kd.C (Kd.int .u8) w A1 l1.length l1) (hc1 : l1.length ≤ c1)
    (hbig : laws_big.f l0 l1 = some false) (hd1 : spec_DrawSetFinger.f k l0 = some (s1, s2, s3, s4, s5, s6, f, v)) (hi1 : impl_SetFinger.f s1 s2 s3 s4 s5 s6 f v = some (r1, r2, r3, r4, r5, r6, ok)) (hs1 : spec_SetFinger.f k s1 s2 s3 s4 s5 s6 f v = some (r1, r2, r3, r4, r5, r6, ok)) (hS : ok = true → laws_FnFingers.Set s1 s2 s3 s4 s5 s6 f v r1 r2 r3 r4 r5 r6) (hd2 : spec_DrawOppositeShape.f k l1 = some (b1, b2, b3, b4, b5, b6)) (hi2 : impl_OppositeShape.f k b1 b2 b3 b4 b5 b6 = some (o1, o2, o3, o4, o5, false, g)) (hs2 : spec_OppositeShape.f k b1 b2 b3 b4 b5 b6 = some (o1, o2, o3, o4, o5, false, g)) (hi3 : impl_OpenFingers.f k b1 b2 b3 b4 b5 b6 = some (n, g)) (hs3 : spec_OpenFingers.f k b1 b2 b3 b4 b5 b6 = some (n, g)) (hi4 : impl_IsEasyShape.f b1 b2 b3 b4 b5 b6 = some (e, g)) (hs4 : spec_IsEasyShape.f k b1 b2 b3 b4 b5 b6 = some (e, g)) (hi5 : impl_IsShape.f b1 b2 b3 b4 b5 b6 = some g) (hO : g = true → laws_FnFingers.Opp k b1 b2 b3 b4 b5 o1 o2 o3 o4 o5 n) (hd3 : spec_DrawNearestShape.f k l1 = some (L, x1, x2, x3, x4, x5, x6)) (hi6 : impl_NearestShape.f k L x1 x2 x3 x4 x5 x6 = some (i, d, h)) (hs6 : spec_NearestShape.f k L x1 x2 x3 x4 x5 x6 = some (i, d, h)) (hN : h = true → laws_FnFingers.Near k L i d x1 x2 x3 x4 x5 x6) :
    Calls Try.prog 12 #[.slice A0 l0.length c0, .slice A1 l1.length c1] w fun e w' => e = .returned (.bool true) ∧ Below w.heap.size w w' := by
  have HR0 := Aside0.mk hr0
  have HR1 := Aside0.mk hr1
  have HS := Aside0.mk hS
  have HO := Aside0.mk hO
  have HN := Aside0.mk hN
  have HB := Aside0.mk (Below.refl w.heap.size w)
  have k1 : (ok != ok) = false := bne_self_eq_false ok
  clear hr0 hr1 hS hO hN
  go_enter Try.func12, Try.ntmps12
  go_upto_region 4 with (first | ((with_reducible refine gate_dst (N := 50) rfl ?_); refine goesL_ (some 50) rfl rfl Try.func39 (by kernel_rfl) rfl #[.slice A0 l0.length c0, .slice A1 l1.length c1] rfl (by (try simp only [List.map_toArray, List.map_cons, List.map_nil]); first | done | rfl) ?_; (with_reducible refine (laws_big.calls A0 c0 l0 A1 c1 l1 false _ (Kd.C_below HR0.out HB.out) hc0 (Kd.C_below HR1.out HB.out) hc1 hbig).mono ?_); rintro e w50 ⟨rfl, hd⟩; refine ⟨_, rfl, ?_⟩; have hb := hd.below; have n0 := Aside0.mk (below_step HB.out hb); clear HB; have HB := n0; clear n0; clear hb hd) | ((with_reducible refine gate_dst (N := 53) rfl ?_); refine goesL_ (some 53) rfl rfl Try.func40 (by kernel_rfl) rfl #[.slice A0 l0.length c0] rfl (by (try simp only [List.map_toArray, List.map_cons, List.map_nil]); first | done | rfl) ?_; (with_reducible refine (spec_DrawSetFinger.calls k A0 c0 l0 s1 s2 s3 s4 s5 s6 f v _ (Kd.C_below HR0.out HB.out) hc0 hd1).mono ?_); rintro e w53 ⟨rfl, hb⟩; refine ⟨_, rfl, ?_⟩; have n0 := Aside0.mk (below_step HB.out hb); clear HB; have HB := n0; clear n0; clear hb) | ((with_reducible refine gate_dst (N := 5) rfl ?_); refine box_event ?hg (N := 5) ?hd (cs := #[.int .i64 0, .int .i64 0, .int .i64 0, .int .i64 0, .int .i64 0, .bool false]) (t := 25) ?hr ?_; (case hd => rfl); (case hg => rfl); (case hr => first | (go_simp; done) | (go_simp; rfl)); intro g5 hg v5 hbox hb; have G5 := Aside0.mk (show w.heap.size ≤ g5 by rw [hg]; exact below_size HB.out); have n0 := Aside0.mk (below_step HB.out hb); clear HB; have HB := n0; clear n0; have B5 := Aside0.mk hbox; clear hb hbox hg; obtain ⟨q5_0, q5_1, q5_2, q5_3, q5_4, q5_5⟩ := laws_FnFingers.c6 B5.out; obtain ⟨f5_0, f5_1, f5_2, f5_3, f5_4, f5_5⟩ := laws_FnFingers.f6 B5.out))
  obtain ⟨U5, hW⟩ : ∃ W, W = (World.setCell (World.setCell (World.setCell (World.setCell (World.setCell (World.setCell v5 ⟨g5, 0, none⟩ (.int .i64 s1)) ⟨g5, 1, none⟩ (.int .i64 s2)) ⟨g5, 2, none⟩ (.int .i64 s3)) ⟨g5, 3, none⟩ (.int .i64 s4)) ⟨g5, 4, none⟩ (.int .i64 s5)) ⟨g5, 5, none⟩ (.bool s6)) := ⟨_, rfl⟩
  rw [← hW]
  have n0 := Aside0.mk (laws_FnFingers.b6 hW B5.out)
  have n1 := Aside0.mk (laws_FnFingers.l6 hW HB.out G5.out)
  clear B5
  clear HB
  have B5 := n0
  have HB := n1
  clear n0
  clear n1
  clear hW
  clear q5_0 q5_1 q5_2 q5_3 q5_4 q5_5 f5_0 f5_1 f5_2 f5_3 f5_4 f5_5
  obtain ⟨q5_0, q5_1, q5_2, q5_3, q5_4, q5_5⟩ := laws_FnFingers.c6 B5.out
  go_upto_region 5 with (first | ((with_reducible refine gate_dst (N := 61) rfl ?_); refine goesL_ (some 61) rfl rfl Try.func29 (by kernel_rfl) rfl #[.agg #[.int .i64 s1, .int .i64 s2, .int .i64 s3, .int .i64 s4, .int .i64 s5, .bool s6], .int .i64 f, .int .i64 v] rfl (by (try simp only [List.map_toArray, List.map_cons, List.map_nil]); first | done | rfl) ?_; (with_reducible refine (impl_SetFinger.calls s1 s2 s3 s4 s5 s6 f v r1 r2 r3 r4 r5 r6 ok _ hi1).mono ?_); rintro e w61 ⟨rfl, hb⟩; refine ⟨_, rfl, ?_⟩; have n0 := Aside0.mk (blk_below B5.out hb); have n1 := Aside0.mk (below_step HB.out hb); clear B5; clear HB; have B5 := n0; have HB := n1; clear n0; clear n1; clear hb; clear q5_0 q5_1 q5_2 q5_3 q5_4 q5_5; obtain ⟨q5_0, q5_1, q5_2, q5_3, q5_4, q5_5⟩ := laws_FnFingers.c6 B5.out) | ((with_reducible refine gate_dst (N := 8) rfl ?_); refine box_event ?hg (N := 8) ?hd (cs := #[.int .i64 0, .int .i64 0, .int .i64 0, .int .i64 0, .int .i64 0, .bool false]) (t := 25) ?hr ?_; (case hd => rfl); (case hg => rfl); (case hr => first | (go_simp; done) | (go_simp; rfl)); intro g8 hg v8 hbox hb; have D58 := Aside0.mk (show g5 ≠ g8 by rw [hg]; exact Nat.ne_of_lt (blk_lt B5.out)); have G8 := Aside0.mk (show w.heap.size ≤ g8 by rw [hg]; exact below_size HB.out); have n0 := Aside0.mk (blk_below B5.out hb); have n1 := Aside0.mk (below_step HB.out hb); clear B5; clear HB; have B5 := n0; have HB := n1; clear n0; clear n1; have B8 := Aside0.mk hbox; clear hb hbox hg; clear q5_0 q5_1 q5_2 q5_3 q5_4 q5_5; obtain ⟨q5_0, q5_1, q5_2, q5_3, q5_4, q5_5⟩ := laws_FnFingers.c6 B5.out; obtain ⟨q8_0, q8_1, q8_2, q8_3, q8_4, q8_5⟩ := laws_FnFingers.c6 B8.out; obtain ⟨f8_0, f8_1, f8_2, f8_3, f8_4, f8_5⟩ := laws_FnFingers.f6 B8.out))
  obtain ⟨U8, hW⟩ : ∃ W, W = (World.setCell (World.setCell (World.setCell (World.setCell (World.setCell (World.setCell v8 ⟨g8, 0, none⟩ (.int .i64 r1)) ⟨g8, 1, none⟩ (.int .i64 r2)) ⟨g8, 2, none⟩ (.int .i64 r3)) ⟨g8, 3, none⟩ (.int .i64 r4)) ⟨g8, 4, none⟩ (.int .i64 r5)) ⟨g8, 5, none⟩ (.bool r6)) := ⟨_, rfl⟩
  rw [← hW]
  have n0 := Aside0.mk (laws_FnFingers.o6 hW D58.out B5.out)
  have n1 := Aside0.mk (laws_FnFingers.b6 hW B8.out)
  have n2 := Aside0.mk (laws_FnFingers.l6 hW HB.out G8.out)
  clear B5
  clear B8
  clear HB
  have B5 := n0
  have B8 := n1
  have HB := n2
  clear n0
  clear n1
  clear n2
  clear hW
  clear q5_0 q5_1 q5_2 q5_3 q5_4 q5_5 q8_0 q8_1 q8_2 q8_3 q8_4 q8_5 f8_0 f8_1 f8_2 f8_3 f8_4 f8_5
  obtain ⟨q5_0, q5_1, q5_2, q5_3, q5_4, q5_5⟩ := laws_FnFingers.c6 B5.out
  obtain ⟨q8_0, q8_1, q8_2, q8_3, q8_4, q8_5⟩ := laws_FnFingers.c6 B8.out
  go_upto_region 6 with (first | ((with_reducible refine gate_dst (N := 68) rfl ?_); refine goesL_ (some 68) rfl rfl Try.func28 (by kernel_rfl) rfl #[.agg #[.int .i64 s1, .int .i64 s2, .int .i64 s3, .int .i64 s4, .int .i64 s5, .bool s6], .int .i64 f, .int .i64 v] rfl (by (try simp only [List.map_toArray, List.map_cons, List.map_nil]); first | done | rfl) ?_; (with_reducible refine (spec_SetFinger.calls k s1 s2 s3 s4 s5 s6 f v r1 r2 r3 r4 r5 r6 ok _ hs1).mono ?_); rintro e w68 ⟨rfl, hb⟩; refine ⟨_, rfl, ?_⟩; have n0 := Aside0.mk (blk_below B5.out hb); have n1 := Aside0.mk (blk_below B8.out hb); have n2 := Aside0.mk (below_step HB.out hb); clear B5; clear B8; clear HB; have B5 := n0; have B8 := n1; have HB := n2; clear n0; clear n1; clear n2; clear hb; clear q5_0 q5_1 q5_2 q5_3 q5_4 q5_5 q8_0 q8_1 q8_2 q8_3 q8_4 q8_5; obtain ⟨q5_0, q5_1, q5_2, q5_3, q5_4, q5_5⟩ := laws_FnFingers.c6 B5.out; obtain ⟨q8_0, q8_1, q8_2, q8_3, q8_4, q8_5⟩ := laws_FnFingers.c6 B8.out) | ((with_reducible refine gate_dst (N := 10) rfl ?_); refine box_event ?hg (N := 10) ?hd (cs := #[.int .i64 0, .int .i64 0, .int .i64 0, .int .i64 0, .int .i64 0, .bool false]) (t := 25) ?hr ?_; (case hd => rfl); (case hg => rfl); (case hr => first | (go_simp; done) | (go_simp; rfl)); intro g10 hg v10 hbox hb; have D510 := Aside0.mk (show g5 ≠ g10 by rw [hg]; exact Nat.ne_of_lt (blk_lt B5.out)); have D810 := Aside0.mk (show g8 ≠ g10 by rw [hg]; exact Nat.ne_of_lt (blk_lt B8.out)); have G10 := Aside0.mk (show w.heap.size ≤ g10 by rw [hg]; exact below_size HB.out); have n0 := Aside0.mk (blk_below B5.out hb); have n1 := Aside0.mk (blk_below B8.out hb); have n2 := Aside0.mk (below_step HB.out hb); clear B5; clear B8; clear HB; have B5 := n0; have B8 := n1; have HB := n2; clear n0; clear n1; clear n2; have B10 := Aside0.mk hbox; clear hb hbox hg; clear q5_0 q5_1 q5_2 q5_3 q5_4 q5_5 q8_0 q8_1 q8_2 q8_3 q8_4 q8_5; obtain ⟨q5_0, q5_1, q5_2, q5_3, q5_4, q5_5⟩ := laws_FnFingers.c6 B5.out; obtain ⟨q8_0, q8_1, q8_2, q8_3, q8_4, q8_5⟩ := laws_FnFingers.c6 B8.out; obtain ⟨q10_0, q10_1, q10_2, q10_3, q10_4, q10_5⟩ := laws_FnFingers.c6 B10.out; obtain ⟨f10_0, f10_1, f10_2, f10_3, f10_4, f10_5⟩ := laws_FnFingers.f6 B10.out))
  obtain ⟨U10, hW⟩ : ∃ W, W = (World.setCell (World.setCell (World.setCell (World.setCell (World.setCell (World.setCell v10 ⟨g10, 0, none⟩ (.int .i64 r1)) ⟨g10, 1, none⟩ (.int .i64 r2)) ⟨g10, 2, none⟩ (.int .i64 r3)) ⟨g10, 3, none⟩ (.int .i64 r4)) ⟨g10, 4, none⟩ (.int .i64 r5)) ⟨g10, 5, none⟩ (.bool r6)) := ⟨_, rfl⟩
  rw [← hW]
  have n0 := Aside0.mk (laws_FnFingers.o6 hW D510.out B5.out)
  have n1 := Aside0.mk (laws_FnFingers.o6 hW D810.out B8.out)
  have n2 := Aside0.mk (laws_FnFingers.b6 hW B10.out)
  have n3 := Aside0.mk (laws_FnFingers.l6 hW HB.out G10.out)
  clear B5
  clear B8
  clear B10
  clear HB
  have B5 := n0
  have B8 := n1
  have B10 := n2
  have HB := n3
  clear n0
  clear n1
  clear n2
  clear n3
  clear hW
  clear q5_0 q5_1 q5_2 q5_3 q5_4 q5_5 q8_0 q8_1 q8_2 q8_3 q8_4 q8_5 q10_0 q10_1 q10_2 q10_3 q10_4 q10_5 f10_0 f10_1 f10_2 f10_3 f10_4 f10_5
  obtain ⟨q5_0, q5_1, q5_2, q5_3, q5_4, q5_5⟩ := laws_FnFingers.c6 B5.out
  obtain ⟨q8_0, q8_1, q8_2, q8_3, q8_4, q8_5⟩ := laws_FnFingers.c6 B8.out
  obtain ⟨q10_0, q10_1, q10_2, q10_3, q10_4, q10_5⟩ := laws_FnFingers.c6 B10.out
  clear hbig hd1 hi1 hs1
  go_upto_if 79 with (fail)
  clear k1
  go_cut [] (fun wc => Aside0 (Below w.heap.size w wc))
  case first =>
    cases ok
    · go_wp2
      go_meet
      case rel => exact HB
    · obtain ⟨hsh, hsp, hrd⟩ := HS.out rfl
      have HRD := Aside0.mk hrd
      have HSP := Aside0.mk hsp
      clear hrd hsp HS HO HN
      go_wp2_with (first | ((with_reducible refine gate_dst (N := 90) rfl ?_); refine Kd.R_lit (Kd.int .i64) _ 3 ?hg (N := 90) ?hd (xs := ([r1, r2, r3, r4, r5] : List Int)) (inner := [.int .i64 r1, .int .i64 r2, .int .i64 r3, .int .i64 r4, .int .i64 r5]) (ok := fun _ => True) (okp := fun _ => True) ?hr ?hp (fun _ hk => hk) trivial (Below.refl _ _) (Nat.le_refl _) (by simp) ?_; (case hd => rfl); (case hg => rfl); (case hr => first | (go_simp; done) | (go_simp; rfl)); (case hp => exact (Reps.one (show Kd.M (Kd.int .i64) _ _ _ r1 [.int .i64 r1] from rfl) (Reps.one (show Kd.M (Kd.int .i64) _ _ _ r2 [.int .i64 r2] from rfl) (Reps.one (show Kd.M (Kd.int .i64) _ _ _ r3 [.int .i64 r3] from rfl) (Reps.one (show Kd.M (Kd.int .i64) _ _ _ r4 [.int .i64 r4] from rfl) (Reps.one (show Kd.M (Kd.int .i64) _ _ _ r5 [.int .i64 r5] from rfl) (Reps.none _ _))))))); intro v90 w90 ho hb hg_ hnew_; clear hg_ hnew_; obtain ⟨RL, hRL⟩ : ∃ l : List Int, l = [r1, r2, r3, r4, r5] := ⟨_, rfl⟩; rw [← hRL] at ho; have ERL := Aside0.mk hRL; clear hRL; have HQ := Aside0.mk (Kd.R_lower ho (below_size HB.out)); clear ho; obtain ⟨Al, cl, el⟩ := Kd.R_slice HQ.out; subst el; have n0 := Aside0.mk (blk_below B5.out hb); have n1 := Aside0.mk (blk_below B8.out hb); have n2 := Aside0.mk (blk_below B10.out hb); have n3 := Aside0.mk (below_step HB.out hb); clear B5; clear B8; clear B10; clear HB; have B5 := n0; have B8 := n1; have B10 := n2; have HB := n3; clear n0; clear n1; clear n2; clear n3; have Hl := HQ; clear HQ hb; clear q5_0 q5_1 q5_2 q5_3 q5_4 q5_5 q8_0 q8_1 q8_2 q8_3 q8_4 q8_5 q10_0 q10_1 q10_2 q10_3 q10_4 q10_5; obtain ⟨q5_0, q5_1, q5_2, q5_3, q5_4, q5_5⟩ := laws_FnFingers.c6 B5.out; obtain ⟨q8_0, q8_1, q8_2, q8_3, q8_4, q8_5⟩ := laws_FnFingers.c6 B8.out; obtain ⟨q10_0, q10_1, q10_2, q10_3, q10_4, q10_5⟩ := laws_FnFingers.c6 B10.out) | ((with_reducible refine gate_dst (N := 101) rfl ?_); refine Kd.R_lit (Kd.int .i64) _ 3 ?hg (N := 101) ?hd (xs := ([s1, s2, s3, s4, s5] : List Int)) (inner := [.int .i64 s1, .int .i64 s2, .int .i64 s3, .int .i64 s4, .int .i64 s5]) (ok := fun _ => True) (okp := fun _ => True) ?hr ?hp (fun _ hk => hk) trivial (Below.refl _ _) (Nat.le_refl _) (by simp) ?_; (case hd => rfl); (case hg => rfl); (case hr => first | (go_simp; done) | (go_simp; rfl)); (case hp => exact (Reps.one (show Kd.M (Kd.int .i64) _ _ _ s1 [.int .i64 s1] from rfl) (Reps.one (show Kd.M (Kd.int .i64) _ _ _ s2 [.int .i64 s2] from rfl) (Reps.one (show Kd.M (Kd.int .i64) _ _ _ s3 [.int .i64 s3] from rfl) (Reps.one (show Kd.M (Kd.int .i64) _ _ _ s4 [.int .i64 s4] from rfl) (Reps.one (show Kd.M (Kd.int .i64) _ _ _ s5 [.int .i64 s5] from rfl) (Reps.none _ _))))))); intro v101 w101 ho hb hg_ hnew_; clear hg_ hnew_; obtain ⟨TL, hTL⟩ : ∃ l : List Int, l = [s1, s2, s3, s4, s5] := ⟨_, rfl⟩; rw [← hTL] at ho; have ETL := Aside0.mk hTL; clear hTL; have HQ := Aside0.mk (Kd.R_lower ho (below_size HB.out)); clear ho; obtain ⟨Am, cm, em⟩ := Kd.R_slice HQ.out; subst em; have n0 := Aside0.mk (blk_below B5.out hb); have n1 := Aside0.mk (blk_below B8.out hb); have n2 := Aside0.mk (blk_below B10.out hb); have n3 := Aside0.mk (Kd.R_below Hl.out hb); have n4 := Aside0.mk (below_step HB.out hb); clear B5; clear B8; clear B10; clear Hl; clear HB; have B5 := n0; have B8 := n1; have B10 := n2; have Hl := n3; have HB := n4; clear n0; clear n1; clear n2; clear n3; clear n4; have Hm := HQ; clear HQ hb; clear q5_0 q5_1 q5_2 q5_3 q5_4 q5_5 q8_0 q8_1 q8_2 q8_3 q8_4 q8_5 q10_0 q10_1 q10_2 q10_3 q10_4 q10_5; obtain ⟨q5_0, q5_1, q5_2, q5_3, q5_4, q5_5⟩ := laws_FnFingers.c6 B5.out; obtain ⟨q8_0, q8_1, q8_2, q8_3, q8_4, q8_5⟩ := laws_FnFingers.c6 B8.out; obtain ⟨q10_0, q10_1, q10_2, q10_3, q10_4, q10_5⟩ := laws_FnFingers.c6 B10.out))
      clear q5_0 q5_1 q5_2 q5_3 q5_4 q5_5 q8_0 q8_1 q8_2 q8_3 q8_4 q8_5 q10_0 q10_1 q10_2 q10_3 q10_4 q10_5
      go_loopg [104] 5 (fun kq v104 w' => ∃ x : Int, v104 = .int .i64 x ∧ Aside0 (0 ≤ x ∧ x + kq = 5) ∧ Aside0 (Kd.R (Kd.int .i64) 3 w' w.heap.size (fun _ => True) (.slice Al RL.length cl) RL) ∧ Aside0 (Kd.R (Kd.int .i64) 3 w' w.heap.size (fun _ => True) (.slice Am TL.length cm) TL) ∧ Aside0 (w'.heap[g5]? = some (.cells #[.int .i64 s1, .int .i64 s2, .int .i64 s3, .int .i64 s4, .int .i64 s5, .bool s6] 25 (0, 0))) ∧ Aside0 (w'.heap[g8]? = some (.cells #[.int .i64 r1, .int .i64 r2, .int .i64 r3, .int .i64 r4, .int .i64 r5, .bool r6] 25 (0, 0))) ∧ Aside0 (w'.heap[g10]? = some (.cells #[.int .i64 r1, .int .i64 r2, .int .i64 r3, .int .i64 r4, .int .i64 r5, .bool r6] 25 (0, 0))) ∧ Aside0 (Below w.heap.size w w'))
      case atStart => exact ⟨0, rfl, ⟨by omega⟩, Hl, Hm, B5, B8, B10, HB⟩
      case round =>
        obtain ⟨x, rfl, HX, Hl, Hm, B5, B8, B10, HB⟩ := hrel
        have el : RL.length = 5 := by rw [ERL.out]; rfl
        have em : TL.length = 5 := by rw [ETL.out]; rfl
        by_cases hlt : x < 5
        · have p0 : 0 ≤ x := HX.out.1
          have HW : Aside0 (wrap64 (x + 1) = x + 1) := ⟨by unfold wrap64; omega⟩
          have hl : x < (RL.length : Int) := by omega
          have hm : x < (TL.length : Int) := by omega
          obtain ⟨h1, h2⟩ := HRD.out x p0 hlt
          rw [← ERL.out, ← ETL.out] at h2
          rw [← ERL.out] at h1
          have d1 : decide (x < (RL.length : Int)) = true := decide_eq_true hl
          have d2 : decide (x < (TL.length : Int)) = true := decide_eq_true hm
          have d3 := decide_eq_true p0
          obtain ⟨a1, E1, y1⟩ := Kd.at_int (Kd.R_reads' Hl.out).2.2 x p0 hl
          obtain ⟨a2, E2, y2⟩ := Kd.at_int (Kd.R_reads' Hm.out).2.2 x p0 hm
          cases E1
          cases E2
          replace p0 := eq_true p0
          replace hl := eq_true hl
          replace hm := eq_true hm
          by_cases hf : x = f
          · have i1 : (x == f) = true := beq_iff_eq.mpr hf
            have i2 : (x != f) = false := bne_eq_false_iff_eq.mpr hf
            have i3 : (rd RL x != v) = false := bne_eq_false_iff_eq.mpr (h1 hf)
            clear h1 h2 hf el em hlt
            go_wp2
            go_roundg (gk - 1)
            case measure => have := HX.out.2; have := of_eq_true hl; have : RL.length = 5 := (by rw [ERL.out]; rfl); omega
            case rel => exact ⟨wrap64 (x + 1), rfl, ⟨by rw [HW.out]; have := HX.out; have := of_eq_true hl; have : RL.length = 5 := (by rw [ERL.out]; rfl); omega⟩, Hl, Hm, B5, B8, B10, HB⟩
          · have i1 : (x == f) = false := beq_eq_false_iff_ne.mpr hf
            have i2 : (x != f) = true := bne_iff_ne.mpr hf
            have i3 : (rd RL x != rd TL x) = false := bne_eq_false_iff_eq.mpr (h2 hf)
            clear h1 h2 hf el em hlt
            go_wp2
            go_roundg (gk - 1)
            case measure => have := HX.out.2; have := of_eq_true hl; have : RL.length = 5 := (by rw [ERL.out]; rfl); omega
            case rel => exact ⟨wrap64 (x + 1), rfl, ⟨by rw [HW.out]; have := HX.out; have := of_eq_true hl; have : RL.length = 5 := (by rw [ERL.out]; rfl); omega⟩, Hl, Hm, B5, B8, B10, HB⟩
        · have d1 : decide (x < (RL.length : Int)) = false := decide_eq_false (by omega)
          clear hlt HX el em HRD ERL ETL Hl Hm
          obtain ⟨W1, rfl⟩ : ∃ W1, W1 = wr := ⟨wr, rfl⟩
          obtain ⟨q5_0, q5_1, q5_2, q5_3, q5_4, q5_5⟩ := laws_FnFingers.c6 B5.out
          obtain ⟨q8_0, q8_1, q8_2, q8_3, q8_4, q8_5⟩ := laws_FnFingers.c6 B8.out
          obtain ⟨q10_0, q10_1, q10_2, q10_3, q10_4, q10_5⟩ := laws_FnFingers.c6 B10.out
          cases r6
          · go_wp2_with (first | ((with_reducible refine gate_dst (N := 132) rfl ?_); refine goesL_ (some 132) rfl rfl Try.func16 (by kernel_rfl) rfl #[.agg #[.int .i64 r1, .int .i64 r2, .int .i64 r3, .int .i64 r4, .int .i64 r5, .bool false]] rfl (by (try simp only [List.map_toArray, List.map_cons, List.map_nil]); first | done | rfl) ?_; (with_reducible refine (impl_IsShape.calls r1 r2 r3 r4 r5 false true _ hsh).mono ?_); rintro e w132 ⟨rfl, hb⟩; refine ⟨_, rfl, ?_⟩; have n0 := Aside0.mk (blk_below B5.out hb); have n1 := Aside0.mk (blk_below B8.out hb); have n2 := Aside0.mk (blk_below B10.out hb); have n3 := Aside0.mk (below_step HB.out hb); clear B5; clear B8; clear B10; clear HB; have B5 := n0; have B8 := n1; have B10 := n2; have HB := n3; clear n0; clear n1; clear n2; clear n3; clear hb; clear q5_0 q5_1 q5_2 q5_3 q5_4 q5_5 q8_0 q8_1 q8_2 q8_3 q8_4 q8_5 q10_0 q10_1 q10_2 q10_3 q10_4 q10_5; obtain ⟨q5_0, q5_1, q5_2, q5_3, q5_4, q5_5⟩ := laws_FnFingers.c6 B5.out; obtain ⟨q8_0, q8_1, q8_2, q8_3, q8_4, q8_5⟩ := laws_FnFingers.c6 B8.out; obtain ⟨q10_0, q10_1, q10_2, q10_3, q10_4, q10_5⟩ := laws_FnFingers.c6 B10.out))
            go_meet
            case rel => exact HB
          · have hs6 := HSP.out rfl
            subst hs6
            go_wp2_with (first | ((with_reducible refine gate_dst (N := 132) rfl ?_); refine goesL_ (some 132) rfl rfl Try.func16 (by kernel_rfl) rfl #[.agg #[.int .i64 r1, .int .i64 r2, .int .i64 r3, .int .i64 r4, .int .i64 r5, .bool true]] rfl (by (try simp only [List.map_toArray, List.map_cons, List.map_nil]); first | done | rfl) ?_; (with_reducible refine (impl_IsShape.calls r1 r2 r3 r4 r5 true true _ hsh).mono ?_); rintro e w132 ⟨rfl, hb⟩; refine ⟨_, rfl, ?_⟩; have n0 := Aside0.mk (blk_below B5.out hb); have n1 := Aside0.mk (blk_below B8.out hb); have n2 := Aside0.mk (blk_below B10.out hb); have n3 := Aside0.mk (below_step HB.out hb); clear B5; clear B8; clear B10; clear HB; have B5 := n0; have B8 := n1; have B10 := n2; have HB := n3; clear n0; clear n1; clear n2; clear n3; clear hb; clear q5_0 q5_1 q5_2 q5_3 q5_4 q5_5 q8_0 q8_1 q8_2 q8_3 q8_4 q8_5 q10_0 q10_1 q10_2 q10_3 q10_4 q10_5; obtain ⟨q5_0, q5_1, q5_2, q5_3, q5_4, q5_5⟩ := laws_FnFingers.c6 B5.out; obtain ⟨q8_0, q8_1, q8_2, q8_3, q8_4, q8_5⟩ := laws_FnFingers.c6 B8.out; obtain ⟨q10_0, q10_1, q10_2, q10_3, q10_4, q10_5⟩ := laws_FnFingers.c6 B10.out))
            go_meet
            case rel => exact HB
  case rest =>
    exact laws_FnFingers.R0 k A0 c0 l0 A1 c1 l1 s1 s2 s3 s4 s5 s6 f v r1 r2 r3 r4 r5 r6 ok b1 b2 b3 b4 b5 b6 o1 o2 o3 o4 o5 g n e L x1 x2 x3 x4 x5 x6 i d h w hc1 hd2 hi2 hs2 hi3 hs3 hi4 hs4 hi5 hd3 hi6 hs6 HR0 HR1 HS HO HN g5 g8 g10 U10 HB wc _ _ _ _ _ _ _ _ _ _ _ _ _ _ _ _ _ _ _ _ _ _ _ _ _ _ _ _ _ _ _ _ _ _ _ _ _ _ _ _ _ _ _ _ _ _ _ _ _ _ _ _ _ _ _ _ _ _ _ _ _ _ _ _ _ _ _ _ _ _ _ _ _ _ _ _ _ _ _ _ _ _ _ _ _ _ _ _ _ _ _ _ _ _ _ _ _ _ _ _ _ _ _ _ _ _ _ _ _ _ _ _ _ _ _ _ _ _ _ _ _ _ _ _ _ _ _ _ _ _ _ _ _ _ _ _ _ _ _ _ _ _ _ _ _ _ _ _ _ _ _ _ _ _ _ _ _ _ _ _ _ _ _ _ _ _ _ _ _ _ _ _ _ _ _ _ _ _ _ _ _ _ _ _ _ _ _ _ _ _ _ _ _ _ _ _ _ _ _ _ _ _ _ _ _ _ _ _ _ _ _ _ _ _ _ _ _ _ _ _ _ _ _ _ _ _ _ _ _ _ _ _ _ _ _ _ _ _ _ _ _ _ _ _ _ _ _ _ _ _ _ _ _ _ _ _ _ _ _ _ _ _ _ _ _ _ _ _ _ _ _ _ _ _ _ _ _ _ _ _ _ _ _ _ _ _ _ _ _ _ _ _ _ _ _ hcut _ (by assumption)
/-- The checks, one by one. -/
def laws_FnFingers.st (t a b c d : Int) (s : Bool) (f v r1 r2 r3 r4 r5 : Int) (r6 : Bool) : Bool := decide (impl_IsShape.f r1 r2 r3 r4 r5 r6 = some true) && ((!r6 || s) && ([0, 1, 2, 3, 4] : List Int).all fun i => if i = f then decide (rd [r1, r2, r3, r4, r5] i = v) else decide (rd [r1, r2, r3, r4, r5] i = rd [t, a, b, c, d] i))
def laws_FnFingers.is6 (x : Option (Int × Int × Int × Int × Int × Bool × Bool)) (t a b c d : Int) (s g : Bool) : Bool := match x with
  | some (t', a', b', c', d', s', g') => decide (t' = t) && (decide (a' = a) && (decide (b' = b) && (decide (c' = c) && (decide (d' = d) && (decide (s' = s) && decide (g' = g))))))
  | none => false
theorem laws_FnFingers.is6_eq {x : Option (Int × Int × Int × Int × Int × Bool × Bool)} {t a b c d : Int} {s g : Bool} (h : laws_FnFingers.is6 x t a b c d s g = true) : x = some (t, a, b, c, d, s, g) := by
  unfold laws_FnFingers.is6 at h
  split at h
  · simp only [Bool.and_eq_true, decide_eq_true_eq] at h
    obtain ⟨rfl, rfl, rfl, rfl, rfl, rfl, rfl⟩ := h
    rfl
  · cases h
def laws_FnFingers.op (k : Nat) (u1 u2 u3 u4 u5 o1 o2 o3 o4 o5 n : Int) : Bool := laws_FnFingers.is6 (impl_OppositeShape.f k o1 o2 o3 o4 o5 false) u1 u2 u3 u4 u5 false true && (impl_OpenFingers.f k o1 o2 o3 o4 o5 false).any fun m => m.2 && (decide (spec_OpenFingers.f k o1 o2 o3 o4 o5 false = some m) && !decide (4 < wrap64 (n + m.1)))
def laws_FnFingers.nr (k : Nat) (L : List S25) (i d x1 x2 x3 x4 x5 : Int) (x6 : Bool) : Bool := (List.range L.length).all fun j => (impl_ShapeDistance.f k (rd_T25 L (j : Int)).f0 (rd_T25 L (j : Int)).f1 (rd_T25 L (j : Int)).f2 (rd_T25 L (j : Int)).f3 (rd_T25 L (j : Int)).f4 (rd_T25 L (j : Int)).f5 x1 x2 x3 x4 x5 x6).any fun z => z.2 && (decide (d ≤ z.1) && ((!decide ((j : Int) = i) || decide (z.1 = d)) && (!decide ((j : Int) < i) || !decide (z.1 = d))))
/-- True where every call answers as it should. -/
def laws_FnFingers.f (k : Nat) (l0 : List Int) (l1 : List Int) : Option Bool := (laws_big.f l0 l1).bind fun big => if big = true then some true else (spec_DrawSetFinger.f k l0).bind fun a => (spec_SetFinger.f k a.1 a.2.1 a.2.2.1 a.2.2.2.1 a.2.2.2.2.1 a.2.2.2.2.2.1 a.2.2.2.2.2.2.1 a.2.2.2.2.2.2.2).bind fun r => (spec_DrawOppositeShape.f k l1).bind fun b => (spec_OppositeShape.f k b.1 b.2.1 b.2.2.1 b.2.2.2.1 b.2.2.2.2.1 b.2.2.2.2.2).bind fun o => (spec_OpenFingers.f k b.1 b.2.1 b.2.2.1 b.2.2.2.1 b.2.2.2.2.1 b.2.2.2.2.2).bind fun n => (spec_IsEasyShape.f k b.1 b.2.1 b.2.2.1 b.2.2.2.1 b.2.2.2.2.1 b.2.2.2.2.2).bind fun e => (spec_DrawNearestShape.f k l1).bind fun x => (spec_NearestShape.f k x.1 x.2.1 x.2.2.1 x.2.2.2.1 x.2.2.2.2.1 x.2.2.2.2.2.1 x.2.2.2.2.2.2).bind fun z =>
  if (laws_FnFingers.is6 (impl_SetFinger.f a.1 a.2.1 a.2.2.1 a.2.2.2.1 a.2.2.2.2.1 a.2.2.2.2.2.1 a.2.2.2.2.2.2.1 a.2.2.2.2.2.2.2) r.1 r.2.1 r.2.2.1 r.2.2.2.1 r.2.2.2.2.1 r.2.2.2.2.2.1 r.2.2.2.2.2.2 && ((!r.2.2.2.2.2.2 || laws_FnFingers.st a.1 a.2.1 a.2.2.1 a.2.2.2.1 a.2.2.2.2.1 a.2.2.2.2.2.1 a.2.2.2.2.2.2.1 a.2.2.2.2.2.2.2 r.1 r.2.1 r.2.2.1 r.2.2.2.1 r.2.2.2.2.1 r.2.2.2.2.2.1) && (!o.2.2.2.2.2.1 && (laws_FnFingers.is6 (impl_OppositeShape.f k b.1 b.2.1 b.2.2.1 b.2.2.2.1 b.2.2.2.2.1 b.2.2.2.2.2) o.1 o.2.1 o.2.2.1 o.2.2.2.1 o.2.2.2.2.1 false o.2.2.2.2.2.2 && (decide (n.2 = o.2.2.2.2.2.2) && (decide (e.2 = o.2.2.2.2.2.2) && (decide (impl_OpenFingers.f k b.1 b.2.1 b.2.2.1 b.2.2.2.1 b.2.2.2.2.1 b.2.2.2.2.2 = some n) && (decide (impl_IsEasyShape.f b.1 b.2.1 b.2.2.1 b.2.2.2.1 b.2.2.2.2.1 b.2.2.2.2.2 = some e) && (decide (impl_IsShape.f b.1 b.2.1 b.2.2.1 b.2.2.2.1 b.2.2.2.2.1 b.2.2.2.2.2 = some o.2.2.2.2.2.2) && ((!o.2.2.2.2.2.2 || laws_FnFingers.op k b.1 b.2.1 b.2.2.1 b.2.2.2.1 b.2.2.2.2.1 o.1 o.2.1 o.2.2.1 o.2.2.2.1 o.2.2.2.2.1 n.1) && (decide (impl_NearestShape.f k x.1 x.2.1 x.2.2.1 x.2.2.2.1 x.2.2.2.2.1 x.2.2.2.2.2.1 x.2.2.2.2.2.2 = some z) && (!z.2.2 || laws_FnFingers.nr k x.1 z.1 z.2.1 x.2.1 x.2.2.1 x.2.2.2.1 x.2.2.2.2.1 x.2.2.2.2.2.1 x.2.2.2.2.2.2)))))))))))) = true then some true else none
theorem laws_FnFingers.st_set {t a b c d : Int} {s : Bool} {f v r1 r2 r3 r4 r5 : Int} {r6 : Bool} (h : laws_FnFingers.st t a b c d s f v r1 r2 r3 r4 r5 r6 = true) : laws_FnFingers.Set t a b c d s f v r1 r2 r3 r4 r5 r6 := by
  unfold laws_FnFingers.st at h
  simp only [Bool.and_eq_true, decide_eq_true_eq] at h
  obtain ⟨h1, h2, h3⟩ := h
  refine ⟨h1, fun hr => by subst hr; exact h2, fun i i0 i5 => ?_⟩
  have hm : i ∈ ([0, 1, 2, 3, 4] : List Int) := by
    obtain h | h | h | h | h : i = 0 ∨ i = 1 ∨ i = 2 ∨ i = 3 ∨ i = 4 := by omega
    all_goals (subst h; simp)
  have h4 := List.all_eq_true.1 h3 i hm
  refine ⟨fun hf => ?_, fun hf => ?_⟩
  · rw [if_pos hf] at h4; exact of_decide_eq_true h4
  · rw [if_neg hf] at h4; exact of_decide_eq_true h4
theorem laws_FnFingers.op_opp {k : Nat} {u1 u2 u3 u4 u5 o1 o2 o3 o4 o5 n : Int} (h : laws_FnFingers.op k u1 u2 u3 u4 u5 o1 o2 o3 o4 o5 n = true) : laws_FnFingers.Opp k u1 u2 u3 u4 u5 o1 o2 o3 o4 o5 n := by
  unfold laws_FnFingers.op at h
  simp only [Bool.and_eq_true, Option.any_eq_true, decide_eq_true_eq, Bool.not_eq_true', decide_eq_false_iff_not] at h
  obtain ⟨h1, ⟨m, b⟩, h2, h3, h4, h5⟩ := h
  obtain rfl : b = true := h3
  exact ⟨laws_FnFingers.is6_eq h1, m, h2, h4, h5⟩
theorem laws_FnFingers.nr_near {k : Nat} {L : List S25} {i d x1 x2 x3 x4 x5 : Int} {x6 : Bool} (h : laws_FnFingers.nr k L i d x1 x2 x3 x4 x5 x6 = true) : laws_FnFingers.Near k L i d x1 x2 x3 x4 x5 x6 := by
  intro j j0 j1
  obtain ⟨q, rfl⟩ : ∃ q : Nat, j = (q : Int) := ⟨j.toNat, by omega⟩
  have h1 := List.all_eq_true.1 h q (List.mem_range.2 (by omega))
  simp only [Bool.and_eq_true, Bool.or_eq_true, Option.any_eq_true, decide_eq_true_eq, Bool.not_eq_true', decide_eq_false_iff_not] at h1
  obtain ⟨⟨z, b⟩, h2, h3, h4, h5, h6⟩ := h1
  obtain rfl : b = true := h3
  exact ⟨z, h2, h4, fun e => h5.resolve_left (fun x => x e), fun e => h6.resolve_left (fun x => x e)⟩
set_option maxHeartbeats 2000000 in
set_option maxRecDepth 100000 in
theorem laws_FnFingers.wide (k : Nat) (A0 : Option Addr) (c0 : Nat) (l0 : List Int) (A1 : Option Addr) (c1 : Nat) (l1 : List Int) (w : World) (hr0 : Kd.C (Kd.int .u8) w A0 l0.length l0) (hc0 : l0.length ≤ c0) (hr1 : Kd.C (Kd.int .u8) w A1 l1.length l1) (hc1 : l1.length ≤ c1) (hbig : laws_big.f l0 l1 = some true) :
    Calls Try.prog 12 #[.slice A0 l0.length c0, .slice A1 l1.length c1] w fun e w' => e = .returned (.bool true) ∧ Below w.heap.size w w' := by
  have HR0 := Aside0.mk hr0
  have HR1 := Aside0.mk hr1
  have HB := Aside0.mk (Below.refl w.heap.size w)
  clear hr0 hr1
  go_enter Try.func12, Try.ntmps12
  go_wp2_with ((with_reducible refine gate_dst (N := 50) rfl ?_); refine goesL_ (some 50) rfl rfl Try.func39 (by kernel_rfl) rfl #[.slice A0 l0.length c0, .slice A1 l1.length c1] rfl (by (try simp only [List.map_toArray, List.map_cons, List.map_nil]); first | done | rfl) ?_; (with_reducible refine (laws_big.calls A0 c0 l0 A1 c1 l1 true _ (Kd.C_below HR0.out HB.out) hc0 (Kd.C_below HR1.out HB.out) hc1 hbig).mono ?_); rintro e w50 ⟨rfl, hd⟩; refine ⟨_, rfl, ?_⟩; have hb := hd.below; have n0 := Aside0.mk (below_step HB.out hb); clear HB; have HB := n0; clear n0; clear hb hd)
  go_ret
  exact ⟨rfl, HB.out⟩
theorem laws_FnFingers.calls (k : Nat) (A0 : Option Addr) (c0 : Nat) (l0 : List Int) (A1 : Option Addr) (c1 : Nat) (l1 : List Int) (r : Bool) (w : World) (hr0 : Kd.C (Kd.int .u8) w A0 l0.length l0) (hc0 : l0.length ≤ c0) (hr1 : Kd.C (Kd.int .u8) w A1 l1.length l1) (hc1 : l1.length ≤ c1) (h : laws_FnFingers.f k l0 l1 = some r) :
    Calls Try.prog 12 #[.slice A0 l0.length c0, .slice A1 l1.length c1] w fun e w' => e = .returned (.bool r) ∧ Below w.heap.size w w' := by
  unfold laws_FnFingers.f at h
  obtain ⟨big, hbig, h'⟩ := Option.bind_eq_some_iff.mp h
  clear h
  have h := h'
  clear h'
  cases big
  · rw [if_neg Bool.false_ne_true] at h
    obtain ⟨⟨s1, s2, s3, s4, s5, s6, f, v⟩, hd1, h'⟩ := Option.bind_eq_some_iff.mp h
    clear h
    have h := h'
    clear h'
    obtain ⟨⟨r1, r2, r3, r4, r5, r6, ok⟩, hs1, h'⟩ := Option.bind_eq_some_iff.mp h
    clear h
    have h := h'
    clear h'
    obtain ⟨⟨b1, b2, b3, b4, b5, b6⟩, hd2, h'⟩ := Option.bind_eq_some_iff.mp h
    clear h
    have h := h'
    clear h'
    obtain ⟨⟨o1, o2, o3, o4, o5, o6, g⟩, hs2, h'⟩ := Option.bind_eq_some_iff.mp h
    clear h
    have h := h'
    clear h'
    obtain ⟨⟨n, g2⟩, hs3, h'⟩ := Option.bind_eq_some_iff.mp h
    clear h
    have h := h'
    clear h'
    obtain ⟨⟨e, g3⟩, hs4, h'⟩ := Option.bind_eq_some_iff.mp h
    clear h
    have h := h'
    clear h'
    obtain ⟨⟨L, x1, x2, x3, x4, x5, x6⟩, hd3, h'⟩ := Option.bind_eq_some_iff.mp h
    clear h
    have h := h'
    clear h'
    obtain ⟨⟨i, d, h6⟩, hs6, h'⟩ := Option.bind_eq_some_iff.mp h
    clear h
    have h := h'
    clear h'
    simp only at hs1 hs2 hs3 hs4 hs6 h
    split at h
    · rename_i hc
      obtain rfl := Option.some.inj h
      simp only [Bool.and_eq_true, Bool.or_eq_true, decide_eq_true_eq, Bool.not_eq_true'] at hc
      obtain ⟨hi1, hS, ho6, hi2, eg2, eg3, hi3, hi4, hi5, hO, hi6, hN⟩ := hc
      subst eg2
      subst eg3
      subst ho6
      refine laws_FnFingers.main k A0 c0 l0 A1 c1 l1 s1 s2 s3 s4 s5 s6 f v r1 r2 r3 r4 r5 r6 ok b1 b2 b3 b4 b5 b6 o1 o2 o3 o4 o5 _ n e L x1 x2 x3 x4 x5 x6 i d h6 w hr0 hc0 hr1 hc1 hbig hd1 (laws_FnFingers.is6_eq hi1) hs1 (fun q => ?_) hd2 (laws_FnFingers.is6_eq hi2) hs2 hi3 hs3 hi4 hs4 hi5 (fun q => ?_) hd3 hi6 hs6 (fun q => ?_)
      · exact laws_FnFingers.st_set (hS.resolve_left (fun x => by rw [q] at x; cases x))
      · exact laws_FnFingers.op_opp (hO.resolve_left (fun x => by rw [q] at x; cases x))
      · exact laws_FnFingers.nr_near (hN.resolve_left (fun x => by rw [q] at x; cases x))
    · cases h
  · rw [if_pos rfl] at h
    obtain rfl := Option.some.inj h
    exact laws_FnFingers.wide k A0 c0 l0 A1 c1 l1 w hr0 hc0 hr1 hc1 hbig


end Go.Proofs.Ytaecjbhenknfkaa.FD
