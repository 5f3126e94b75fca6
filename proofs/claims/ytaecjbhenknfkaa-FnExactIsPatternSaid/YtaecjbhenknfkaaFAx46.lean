-- laid by pr.py (wip/tools) over the kit's printer; Lean checks it
import Derived.Test.YtaecjbhenknfkaaFAx0
import Derived.Test.YtaecjbhenknfkaaFAx2
import Derived.Test.YtaecjbhenknfkaaFAx45
namespace Go.Proofs.Ytaecjbhenknfkaa.FA
open Go.RowKit Go.Proofs.YtaecjbhenknfkaaW.PrintWords Go.Proofs.YtaecjbhenknfkaaW.PrintLast Go.Proofs.YtaecjbhenknfkaaW.PrintMore
attribute [local go_sem] max2_int min2_int max_two min_two max_three min_three max_four min_four   -- for this text's walks alone
set_option linter.unusedVariables false
set_option linter.unusedSimpArgs false

/-! ### spec_seWild: function 91 -/
def spec_seWild.l0 : Nat → ByteArray → ByteArray → Int → Option (Bool)
  | 0, _, _, _ => none
  | k + 1, x0, x1, x7 => if x7 < (x0.size : Int) then (if 0 ≤ x7 then (if (bt x0 x7) = 63 then (spec_seWild.l0 k x0 x1 (wrap64 (x7 + 1))) else ((spec_seIn.f k x1 (bt x0 x7)).bind fun t1080 => (if t1080 = true then (spec_seWild.l0 k x0 x1 (wrap64 (x7 + 1))) else (some false)))) else (none)) else (some true)
def spec_seWild.f (k : Nat) (a0 : ByteArray) (a1 : ByteArray) (a2 : Int) : Option (Bool) := if (a0.size : Int) = a2 then (spec_seWild.l0 k a0 a1 0) else (some false)
theorem spec_seWild.mono_l : ∀ k, (∀ y0 y1 y2, LeO (spec_seWild.l0 k y0 y1 y2) (spec_seWild.l0 (k + 1) y0 y1 y2))
  | 0 => fun _ _ _ r h => by simp [spec_seWild.l0] at h
  | k + 1 => by
    have ih0 := spec_seWild.mono_l k
    · intro y0 y1 y2
      unfold spec_seWild.l0
      repeat' first
      | (with_reducible exact ih0 _ _ _)
      | (with_reducible exact spec_seIn.mono _ _ _)
      | (with_reducible exact LeO.refl _)
      | (with_reducible exact LeO.none _)
      | (with_reducible refine LeO.ite ?_ ?_)
      | (with_reducible refine LeO.bind ?_ (fun _ => ?_))
      | exact ih0 _ _ _
      | exact spec_seIn.mono _ _ _
      | exact LeO.none _
      | refine LeO.ite ?_ ?_
      | refine LeO.bind ?_ (fun _ => ?_)
theorem spec_seWild.mono : ∀ a0 a1 a2 k, LeO (spec_seWild.f k a0 a1 a2) (spec_seWild.f (k + 1) a0 a1 a2) := by
  intro a0 a1 a2 k
  have ih0 := spec_seWild.mono_l k
  unfold spec_seWild.f
  repeat' first
      | (with_reducible exact ih0 _ _ _)
      | (with_reducible exact spec_seIn.mono _ _ _)
      | (with_reducible exact LeO.refl _)
      | (with_reducible exact LeO.none _)
      | (with_reducible refine LeO.ite ?_ ?_)
      | (with_reducible refine LeO.bind ?_ (fun _ => ?_))
      | exact ih0 _ _ _
      | exact spec_seIn.mono _ _ _
      | exact LeO.none _
      | refine LeO.ite ?_ ?_
      | refine LeO.bind ?_ (fun _ => ?_)
set_option maxHeartbeats 8000000 in
set_option maxRecDepth 100000 in
theorem spec_seWild.calls (k : Nat) (a0 : ByteArray) (a1 : ByteArray) (a2 : Int) (r : Bool) (w : World) (h : spec_seWild.f k a0 a1 a2 = some r) :
    Calls Try.prog 91 #[.string a0, .string a1, .int .i64 a2] w fun e w' => e = .returned (.bool r) ∧ Drawn0 w w' := by
  have H : (if (a0.size : Int) = a2 then (spec_seWild.l0 k a0 a1 0) else (some false)) = some r := h
  clear h
  by_cases c4 : (a0.size : Int) = a2
  · rw [if_pos c4] at H
    have c4b0 : ((a0.size : Int) == a2) = true := beq_iff_eq.mpr c4
    have c4b1 : ((a0.size : Int) != a2) = false := bne_eq_false_iff_eq.mpr c4
    clear c4
    have H' := Aside0.mk H
    clear H
    go_enter Try.func91, Try.ntmps91
    go_wp2
    go_loopg [7] k (fun kq v7 w' => ∃ (x7_1 : Int), v7 = .int .i64 x7_1 ∧ Aside0 (spec_seWild.l0 kq a0 a1 x7_1 = some r) ∧ Aside0 (kq ≤ k) ∧ Drawn0 w w')
    case atStart => exact ⟨(0), (by first | rfl | (simp; done) | (simp [*]; done)), H', ⟨Nat.le_refl _⟩, by repeat (first | exact Drawn0.refl _ | apply Drawn0.step)⟩
    case round =>
      clear H'
      try clear p2
      try clear c4
      try clear c4b0
      try clear c4b1
      obtain ⟨x7_1, rfl, HA, HK1, ⟨m1, rfl⟩⟩ := hrel
      cases gk with
      | zero => exact absurd HA.out (by simp [spec_seWild.l0])
      | succ k1 =>
        have H := HA.out
        clear HA
        simp only [spec_seWild.l0] at H
        by_cases c5 : x7_1 < (a0.size : Int)
        · rw [if_pos c5] at H
          have c5b0 : decide (x7_1 < (a0.size : Int)) = true := decide_eq_true c5
          clear c5
          by_cases c6 : 0 ≤ x7_1
          · rw [if_pos c6] at H
            have c6b0 : decide (0 ≤ x7_1) = true := decide_eq_true c6
            clear c6
            by_cases c8 : (bt a0 x7_1) = 63
            · rw [if_pos c8] at H
              have c8b0 : ((bt a0 x7_1) == 63) = true := beq_iff_eq.mpr c8
              have c8b1 : ((bt a0 x7_1) != 63) = false := bne_eq_false_iff_eq.mpr c8
              clear c8
              have H' := Aside0.mk H
              clear H
              have p7 : 0 ≤ (x7_1 : Int) := of_decide_eq_true (by first | (with_reducible assumption) | assumption)
              have q7 : x7_1 < (a0.size : Int) := of_decide_eq_true (by first | (with_reducible assumption) | assumption)
              have hx7 := bt_at a0 x7_1
              replace p7 := eq_true p7
              replace q7 := eq_true q7
              go_wp2
              go_roundg k1
              case measure => have := HK1.out; omega
              case rel => exact ⟨(wrap64 (x7_1 + 1)), (by first | rfl | (simp; done) | (simp [*]; done)), H', ⟨by have := HK1.out; omega⟩, by repeat (first | exact Drawn0.refl _ | apply Drawn0.step)⟩
            · rw [if_neg c8] at H
              have c8b0 : ((bt a0 x7_1) == 63) = false := beq_eq_false_iff_ne.mpr c8
              have c8b1 : ((bt a0 x7_1) != 63) = true := bne_iff_ne.mpr c8
              replace H := Option.bind_eq_some_iff.mp H
              obtain ⟨t1080, A100, H⟩ := H
              replace H : (if t1080 = true then (spec_seWild.l0 k1 a0 a1 (wrap64 (x7_1 + 1))) else (some false)) = some r := H
              have A10 := Aside0.mk A100
              clear A100
              by_cases c11 : t1080 = true
              · subst c11
                have H1 : (spec_seWild.l0 k1 a0 a1 (wrap64 (x7_1 + 1))) = some r := by rw [if_pos rfl] at H; exact H
                clear H
                have H := H1
                clear H1
                have H' := Aside0.mk H
                clear H
                have p7 : 0 ≤ (x7_1 : Int) := of_decide_eq_true (by first | (with_reducible assumption) | assumption)
                have q7 : x7_1 < (a0.size : Int) := of_decide_eq_true (by first | (with_reducible assumption) | assumption)
                have hx7 := bt_at a0 x7_1
                replace p7 := eq_true p7
                replace q7 := eq_true q7
                have p9 : 0 ≤ (x7_1 : Int) := of_decide_eq_true (by first | (with_reducible assumption) | assumption)
                have q9 : x7_1 < (a0.size : Int) := of_decide_eq_true (by first | (with_reducible assumption) | assumption)
                have hx9 := bt_at a0 x7_1
                replace p9 := eq_true p9
                replace q9 := eq_true q9
                go_wp2_with (first | (go_at_call 106; (with_reducible refine (spec_seIn.calls k1 a1 (bt a0 x7_1) true _ A10.out).mono ?_); rintro e w' ⟨rfl, ⟨nd, rfl⟩⟩))
                go_roundg k1
                case measure => have := HK1.out; omega
                case rel => exact ⟨(wrap64 (x7_1 + 1)), (by first | rfl | (simp; done) | (simp [*]; done)), H', ⟨by have := HK1.out; omega⟩, by repeat (first | exact Drawn0.refl _ | apply Drawn0.step)⟩
              · replace c11 := Bool.eq_false_iff.mpr c11
                subst c11
                have H1 : (some false) = some r := by rw [if_neg (show ¬ (false = true) by decide)] at H; exact H
                clear H
                have H := H1
                clear H1
                obtain rfl := Option.some.inj H
                have p7 : 0 ≤ (x7_1 : Int) := of_decide_eq_true (by first | (with_reducible assumption) | assumption)
                have q7 : x7_1 < (a0.size : Int) := of_decide_eq_true (by first | (with_reducible assumption) | assumption)
                have hx7 := bt_at a0 x7_1
                replace p7 := eq_true p7
                replace q7 := eq_true q7
                have p9 : 0 ≤ (x7_1 : Int) := of_decide_eq_true (by first | (with_reducible assumption) | assumption)
                have q9 : x7_1 < (a0.size : Int) := of_decide_eq_true (by first | (with_reducible assumption) | assumption)
                have hx9 := bt_at a0 x7_1
                replace p9 := eq_true p9
                replace q9 := eq_true q9
                go_wp2_with (first | (go_at_call 106; (with_reducible refine (spec_seIn.calls k1 a1 (bt a0 x7_1) false _ A10.out).mono ?_); rintro e w' ⟨rfl, ⟨nd, rfl⟩⟩))
                go_ret
                exact ⟨by first | rfl | (simp; done) | (simp [*]; done), by repeat (first | exact Drawn0.refl _ | apply Drawn0.step)⟩
          · rw [if_neg c6] at H
            exact absurd H (by simp)
        · rw [if_neg c5] at H
          have c5b0 : decide (x7_1 < (a0.size : Int)) = false := decide_eq_false c5
          clear c5
          obtain rfl := Option.some.inj H
          go_wp2
          go_ret
          exact ⟨by first | rfl | (simp; done) | (simp [*]; done), by repeat (first | exact Drawn0.refl _ | apply Drawn0.step)⟩
  · rw [if_neg c4] at H
    have c4b0 : ((a0.size : Int) == a2) = false := beq_eq_false_iff_ne.mpr c4
    have c4b1 : ((a0.size : Int) != a2) = true := bne_iff_ne.mpr c4
    obtain rfl := Option.some.inj H
    go_enter Try.func91, Try.ntmps91
    go_wp2
    go_ret
    exact ⟨by first | rfl | (simp; done) | (simp [*]; done), by repeat (first | exact Drawn0.refl _ | apply Drawn0.step)⟩

/-! ### spec_seGood: function 74 -/
def spec_seGood.f (k : Nat) (a0_0 : ByteArray) (a0_1 : ByteArray) (a0_2 : Int) (a0_3 : ByteArray) (a0_4 : Int) : Option (Bool) := (spec_seWild.f k a0_0 (⟨#[48, 49, 50]⟩ : ByteArray) 5).bind fun t1082 => (if t1082 = true then ((spec_seWild.f k a0_1 (⟨#[117, 100, 108, 114, 102, 98]⟩ : ByteArray) 2).bind fun t1083 => (if t1083 = true then ((spec_l1In.f a0_2 (-1) 9).bind fun t1084 => (if t1084 = true then (if (a0_3.size : Int) ≤ 20 then ((spec_seWild.f k a0_3 (⟨#[117, 100, 108, 114, 102, 98, 42]⟩ : ByteArray) (a0_3.size : Int)).bind fun t1085 => (if t1085 = true then ((spec_l1In.f a0_4 0 2).bind fun t1086 => (some t1086)) else (some false))) else (some false)) else (some false))) else (some false))) else (some false))
theorem spec_seGood.mono : ∀ a0 a1 a2 a3 a4 k, LeO (spec_seGood.f k a0 a1 a2 a3 a4) (spec_seGood.f (k + 1) a0 a1 a2 a3 a4) := by
  intro a0 a1 a2 a3 a4 k
  unfold spec_seGood.f
  repeat' first
      | (with_reducible exact spec_seWild.mono _ _ _ _)
      | (with_reducible exact LeO.refl _)
      | (with_reducible exact LeO.none _)
      | (with_reducible refine LeO.ite ?_ ?_)
      | (with_reducible refine LeO.bind ?_ (fun _ => ?_))
      | exact spec_seWild.mono _ _ _ _
      | exact LeO.none _
      | refine LeO.ite ?_ ?_
      | refine LeO.bind ?_ (fun _ => ?_)
set_option maxHeartbeats 8000000 in
set_option maxRecDepth 100000 in
theorem spec_seGood.calls (k : Nat) (a0_0 : ByteArray) (a0_1 : ByteArray) (a0_2 : Int) (a0_3 : ByteArray) (a0_4 : Int) (r : Bool) (w : World) (h : spec_seGood.f k a0_0 a0_1 a0_2 a0_3 a0_4 = some r) :
    Calls Try.prog 74 #[.agg #[.string a0_0, .string a0_1, .int .i64 a0_2, .string a0_3, .int .i64 a0_4]] w fun e w' => e = .returned (.bool r) ∧ Below w.heap.size w w' := by
  have hu63 := Try.underlying63
  have HB := Aside0.mk (Below.refl w.heap.size w)
  have H : ((spec_seWild.f k a0_0 (⟨#[48, 49, 50]⟩ : ByteArray) 5).bind fun t1082 => (if t1082 = true then ((spec_seWild.f k a0_1 (⟨#[117, 100, 108, 114, 102, 98]⟩ : ByteArray) 2).bind fun t1083 => (if t1083 = true then ((spec_l1In.f a0_2 (-1) 9).bind fun t1084 => (if t1084 = true then (if (a0_3.size : Int) ≤ 20 then ((spec_seWild.f k a0_3 (⟨#[117, 100, 108, 114, 102, 98, 42]⟩ : ByteArray) (a0_3.size : Int)).bind fun t1085 => (if t1085 = true then ((spec_l1In.f a0_4 0 2).bind fun t1086 => (some t1086)) else (some false))) else (some false)) else (some false))) else (some false))) else (some false))) = some r := h
  clear h
  replace H := Option.bind_eq_some_iff.mp H
  obtain ⟨t1082, A20, H⟩ := H
  replace H : (if t1082 = true then ((spec_seWild.f k a0_1 (⟨#[117, 100, 108, 114, 102, 98]⟩ : ByteArray) 2).bind fun t1083 => (if t1083 = true then ((spec_l1In.f a0_2 (-1) 9).bind fun t1084 => (if t1084 = true then (if (a0_3.size : Int) ≤ 20 then ((spec_seWild.f k a0_3 (⟨#[117, 100, 108, 114, 102, 98, 42]⟩ : ByteArray) (a0_3.size : Int)).bind fun t1085 => (if t1085 = true then ((spec_l1In.f a0_4 0 2).bind fun t1086 => (some t1086)) else (some false))) else (some false)) else (some false))) else (some false))) else (some false)) = some r := H
  have A2 := Aside0.mk A20
  clear A20
  by_cases c3 : t1082 = true
  · subst c3
    have H1 : ((spec_seWild.f k a0_1 (⟨#[117, 100, 108, 114, 102, 98]⟩ : ByteArray) 2).bind fun t1083 => (if t1083 = true then ((spec_l1In.f a0_2 (-1) 9).bind fun t1084 => (if t1084 = true then (if (a0_3.size : Int) ≤ 20 then ((spec_seWild.f k a0_3 (⟨#[117, 100, 108, 114, 102, 98, 42]⟩ : ByteArray) (a0_3.size : Int)).bind fun t1085 => (if t1085 = true then ((spec_l1In.f a0_4 0 2).bind fun t1086 => (some t1086)) else (some false))) else (some false)) else (some false))) else (some false))) = some r := by rw [if_pos rfl] at H; exact H
    clear H
    have H := H1
    clear H1
    replace H := Option.bind_eq_some_iff.mp H
    obtain ⟨t1083, A40, H⟩ := H
    replace H : (if t1083 = true then ((spec_l1In.f a0_2 (-1) 9).bind fun t1084 => (if t1084 = true then (if (a0_3.size : Int) ≤ 20 then ((spec_seWild.f k a0_3 (⟨#[117, 100, 108, 114, 102, 98, 42]⟩ : ByteArray) (a0_3.size : Int)).bind fun t1085 => (if t1085 = true then ((spec_l1In.f a0_4 0 2).bind fun t1086 => (some t1086)) else (some false))) else (some false)) else (some false))) else (some false)) = some r := H
    have A4 := Aside0.mk A40
    clear A40
    by_cases c5 : t1083 = true
    · subst c5
      have H1 : ((spec_l1In.f a0_2 (-1) 9).bind fun t1084 => (if t1084 = true then (if (a0_3.size : Int) ≤ 20 then ((spec_seWild.f k a0_3 (⟨#[117, 100, 108, 114, 102, 98, 42]⟩ : ByteArray) (a0_3.size : Int)).bind fun t1085 => (if t1085 = true then ((spec_l1In.f a0_4 0 2).bind fun t1086 => (some t1086)) else (some false))) else (some false)) else (some false))) = some r := by rw [if_pos rfl] at H; exact H
      clear H
      have H := H1
      clear H1
      replace H := Option.bind_eq_some_iff.mp H
      obtain ⟨t1084, A60, H⟩ := H
      replace H : (if t1084 = true then (if (a0_3.size : Int) ≤ 20 then ((spec_seWild.f k a0_3 (⟨#[117, 100, 108, 114, 102, 98, 42]⟩ : ByteArray) (a0_3.size : Int)).bind fun t1085 => (if t1085 = true then ((spec_l1In.f a0_4 0 2).bind fun t1086 => (some t1086)) else (some false))) else (some false)) else (some false)) = some r := H
      have A6 := Aside0.mk A60
      clear A60
      by_cases c7 : t1084 = true
      · subst c7
        have H1 : (if (a0_3.size : Int) ≤ 20 then ((spec_seWild.f k a0_3 (⟨#[117, 100, 108, 114, 102, 98, 42]⟩ : ByteArray) (a0_3.size : Int)).bind fun t1085 => (if t1085 = true then ((spec_l1In.f a0_4 0 2).bind fun t1086 => (some t1086)) else (some false))) else (some false)) = some r := by rw [if_pos rfl] at H; exact H
        clear H
        have H := H1
        clear H1
        by_cases c8 : (a0_3.size : Int) ≤ 20
        · rw [if_pos c8] at H
          have c8b0 : decide ((a0_3.size : Int) ≤ 20) = true := decide_eq_true c8
          have c8b1 : decide (a0_3.size ≤ 20) = true := decide_eq_true (by omega)
          clear c8
          replace H := Option.bind_eq_some_iff.mp H
          obtain ⟨t1085, A90, H⟩ := H
          replace H : (if t1085 = true then ((spec_l1In.f a0_4 0 2).bind fun t1086 => (some t1086)) else (some false)) = some r := H
          have A9 := Aside0.mk A90
          clear A90
          by_cases c10 : t1085 = true
          · subst c10
            have H1 : ((spec_l1In.f a0_4 0 2).bind fun t1086 => (some t1086)) = some r := by rw [if_pos rfl] at H; exact H
            clear H
            have H := H1
            clear H1
            replace H := Option.bind_eq_some_iff.mp H
            obtain ⟨t1086, A110, H⟩ := H
            replace H : (some t1086) = some r := H
            have A11 := Aside0.mk A110
            clear A110
            obtain rfl := Option.some.inj H
            go_enter Try.func74, Try.ntmps74
            go_wp2_with (first | ((with_reducible refine gate_dst (N := 1) rfl ?_); (try (refine gate_guard (by rfl) ?_; dsimp only)); refine box_event ?hg (N := 1) ?hd (cs := #[.string a0_0, .string a0_1, .int .i64 a0_2, .string a0_3, .int .i64 a0_4]) (t := 63) ?hr ?_; (case hd => rfl); (case hg => rfl); (case hr => first | (go_simp; done) | (go_simp; rfl)); intro gb1081 hg w12 hbox hb; have n0_ := Aside0.mk (below_step (by repeat (first | (with_reducible first | exact HB.out | apply below_alloc | apply pw_below_drewN | apply below_drew1) | exact HB.out)) hb); have n1_ := Aside0.mk (hbox); have n2_ := Aside0.mk ((by rw [hg]; exact (below_size (by repeat (first | (with_reducible first | exact HB.out | apply below_alloc | apply pw_below_drewN | apply below_drew1) | exact HB.out))) : w.heap.size ≤ gb1081)); have n3_ := Aside0.mk ((by rw [hg]; exact (below_size (by repeat (first | (with_reducible first | exact HB.out | apply below_alloc | apply pw_below_drewN | apply below_drew1) | exact HB.out))) : w.heap.size ≤ gb1081)); clear HB; have HB := n0_; have BK1081 := n1_; have GW1081 := n2_; have GE1081 := n3_; clear n0_ n1_ n2_ n3_; clear hb hbox hg; have hcz13_0 : w12.cell? ⟨gb1081, 0, none⟩ = some (.string a0_0) := (blk_cell BK1081.out 0).trans rfl; have hcz13_1 : w12.cell? ⟨gb1081, 1, none⟩ = some (.string a0_1) := (blk_cell BK1081.out 1).trans rfl; have hcz13_2 : w12.cell? ⟨gb1081, 2, none⟩ = some (.int .i64 a0_2) := (blk_cell BK1081.out 2).trans rfl; have hcz13_3 : w12.cell? ⟨gb1081, 3, none⟩ = some (.string a0_3) := (blk_cell BK1081.out 3).trans rfl; have hcz13_4 : w12.cell? ⟨gb1081, 4, none⟩ = some (.int .i64 a0_4) := (blk_cell BK1081.out 4).trans rfl; have hfz13_0 := blk_frozen BK1081.out 0; have hfz13_1 := blk_frozen BK1081.out 1; have hfz13_2 := blk_frozen BK1081.out 2; have hfz13_3 := blk_frozen BK1081.out 3; have hfz13_4 := blk_frozen BK1081.out 4) | ((with_reducible refine gate_callee (f := 91) rfl ?_); refine goesL_ (some 5) rfl rfl Try.func91 (by kernel_rfl) rfl #[.string a0_0, .string (⟨#[48, 49, 50]⟩ : ByteArray), .int .i64 5] rfl (by (try simp only [List.map_toArray, List.map_cons, List.map_nil]); first | done | rfl | (simp only [List.length_drop, List.length_take]; rfl)) ?_; (with_reducible refine (spec_seWild.calls k a0_0 (⟨#[48, 49, 50]⟩ : ByteArray) 5 true _ A2.out).mono ?_); rintro e w' ⟨rfl, ⟨nd, rfl⟩⟩; refine ⟨_, rfl, ?_⟩) | (go_at_call 91; (with_reducible refine (spec_seWild.calls k a0_1 (⟨#[117, 100, 108, 114, 102, 98]⟩ : ByteArray) 2 true _ A4.out).mono ?_); rintro e w' ⟨rfl, ⟨nd, rfl⟩⟩) | (go_at_call 62; (with_reducible refine (spec_l1In.calls a0_2 (-1) 9 true _ A6.out).mono ?_); rintro e w' ⟨rfl, ⟨nd, rfl⟩⟩) | (go_at_call 91; (with_reducible refine (spec_seWild.calls k a0_3 (⟨#[117, 100, 108, 114, 102, 98, 42]⟩ : ByteArray) (a0_3.size : Int) true _ A9.out).mono ?_); rintro e w' ⟨rfl, ⟨nd, rfl⟩⟩) | (go_at_call 62; (with_reducible refine (spec_l1In.calls a0_4 0 2 t1086 _ A11.out).mono ?_); rintro e w' ⟨rfl, ⟨nd, rfl⟩⟩))
            go_ret
            exact ⟨by first | rfl | (simp [errW_none, errW_some] <;> rfl) | (simp [*, errW_none, errW_some] <;> rfl), by repeat (first | (with_reducible first | exact HB.out | apply below_alloc | apply pw_below_drewN | apply below_drew1 | refine below_set ?_ GE1081.out) | exact HB.out)⟩
          · replace c10 := Bool.eq_false_iff.mpr c10
            subst c10
            have H1 : (some false) = some r := by rw [if_neg (show ¬ (false = true) by decide)] at H; exact H
            clear H
            have H := H1
            clear H1
            obtain rfl := Option.some.inj H
            go_enter Try.func74, Try.ntmps74
            go_wp2_with (first | ((with_reducible refine gate_dst (N := 1) rfl ?_); (try (refine gate_guard (by rfl) ?_; dsimp only)); refine box_event ?hg (N := 1) ?hd (cs := #[.string a0_0, .string a0_1, .int .i64 a0_2, .string a0_3, .int .i64 a0_4]) (t := 63) ?hr ?_; (case hd => rfl); (case hg => rfl); (case hr => first | (go_simp; done) | (go_simp; rfl)); intro gb1081 hg w14 hbox hb; have n0_ := Aside0.mk (below_step (by repeat (first | (with_reducible first | exact HB.out | apply below_alloc | apply pw_below_drewN | apply below_drew1) | exact HB.out)) hb); have n1_ := Aside0.mk (hbox); have n2_ := Aside0.mk ((by rw [hg]; exact (below_size (by repeat (first | (with_reducible first | exact HB.out | apply below_alloc | apply pw_below_drewN | apply below_drew1) | exact HB.out))) : w.heap.size ≤ gb1081)); have n3_ := Aside0.mk ((by rw [hg]; exact (below_size (by repeat (first | (with_reducible first | exact HB.out | apply below_alloc | apply pw_below_drewN | apply below_drew1) | exact HB.out))) : w.heap.size ≤ gb1081)); clear HB; have HB := n0_; have BK1081 := n1_; have GW1081 := n2_; have GE1081 := n3_; clear n0_ n1_ n2_ n3_; clear hb hbox hg; have hcz15_0 : w14.cell? ⟨gb1081, 0, none⟩ = some (.string a0_0) := (blk_cell BK1081.out 0).trans rfl; have hcz15_1 : w14.cell? ⟨gb1081, 1, none⟩ = some (.string a0_1) := (blk_cell BK1081.out 1).trans rfl; have hcz15_2 : w14.cell? ⟨gb1081, 2, none⟩ = some (.int .i64 a0_2) := (blk_cell BK1081.out 2).trans rfl; have hcz15_3 : w14.cell? ⟨gb1081, 3, none⟩ = some (.string a0_3) := (blk_cell BK1081.out 3).trans rfl; have hcz15_4 : w14.cell? ⟨gb1081, 4, none⟩ = some (.int .i64 a0_4) := (blk_cell BK1081.out 4).trans rfl; have hfz15_0 := blk_frozen BK1081.out 0; have hfz15_1 := blk_frozen BK1081.out 1; have hfz15_2 := blk_frozen BK1081.out 2; have hfz15_3 := blk_frozen BK1081.out 3; have hfz15_4 := blk_frozen BK1081.out 4) | ((with_reducible refine gate_callee (f := 91) rfl ?_); refine goesL_ (some 5) rfl rfl Try.func91 (by kernel_rfl) rfl #[.string a0_0, .string (⟨#[48, 49, 50]⟩ : ByteArray), .int .i64 5] rfl (by (try simp only [List.map_toArray, List.map_cons, List.map_nil]); first | done | rfl | (simp only [List.length_drop, List.length_take]; rfl)) ?_; (with_reducible refine (spec_seWild.calls k a0_0 (⟨#[48, 49, 50]⟩ : ByteArray) 5 true _ A2.out).mono ?_); rintro e w' ⟨rfl, ⟨nd, rfl⟩⟩; refine ⟨_, rfl, ?_⟩) | (go_at_call 91; (with_reducible refine (spec_seWild.calls k a0_1 (⟨#[117, 100, 108, 114, 102, 98]⟩ : ByteArray) 2 true _ A4.out).mono ?_); rintro e w' ⟨rfl, ⟨nd, rfl⟩⟩) | (go_at_call 62; (with_reducible refine (spec_l1In.calls a0_2 (-1) 9 true _ A6.out).mono ?_); rintro e w' ⟨rfl, ⟨nd, rfl⟩⟩) | (go_at_call 91; (with_reducible refine (spec_seWild.calls k a0_3 (⟨#[117, 100, 108, 114, 102, 98, 42]⟩ : ByteArray) (a0_3.size : Int) false _ A9.out).mono ?_); rintro e w' ⟨rfl, ⟨nd, rfl⟩⟩))
            go_ret
            exact ⟨by first | rfl | (simp [errW_none, errW_some] <;> rfl) | (simp [*, errW_none, errW_some] <;> rfl), by repeat (first | (with_reducible first | exact HB.out | apply below_alloc | apply pw_below_drewN | apply below_drew1 | refine below_set ?_ GE1081.out) | exact HB.out)⟩
        · rw [if_neg c8] at H
          have c8b0 : decide ((a0_3.size : Int) ≤ 20) = false := decide_eq_false c8
          have c8b1 : decide (a0_3.size ≤ 20) = false := decide_eq_false (by omega)
          clear c8
          obtain rfl := Option.some.inj H
          go_enter Try.func74, Try.ntmps74
          go_wp2_with (first | ((with_reducible refine gate_dst (N := 1) rfl ?_); (try (refine gate_guard (by rfl) ?_; dsimp only)); refine box_event ?hg (N := 1) ?hd (cs := #[.string a0_0, .string a0_1, .int .i64 a0_2, .string a0_3, .int .i64 a0_4]) (t := 63) ?hr ?_; (case hd => rfl); (case hg => rfl); (case hr => first | (go_simp; done) | (go_simp; rfl)); intro gb1081 hg w16 hbox hb; have n0_ := Aside0.mk (below_step (by repeat (first | (with_reducible first | exact HB.out | apply below_alloc | apply pw_below_drewN | apply below_drew1) | exact HB.out)) hb); have n1_ := Aside0.mk (hbox); have n2_ := Aside0.mk ((by rw [hg]; exact (below_size (by repeat (first | (with_reducible first | exact HB.out | apply below_alloc | apply pw_below_drewN | apply below_drew1) | exact HB.out))) : w.heap.size ≤ gb1081)); have n3_ := Aside0.mk ((by rw [hg]; exact (below_size (by repeat (first | (with_reducible first | exact HB.out | apply below_alloc | apply pw_below_drewN | apply below_drew1) | exact HB.out))) : w.heap.size ≤ gb1081)); clear HB; have HB := n0_; have BK1081 := n1_; have GW1081 := n2_; have GE1081 := n3_; clear n0_ n1_ n2_ n3_; clear hb hbox hg; have hcz17_0 : w16.cell? ⟨gb1081, 0, none⟩ = some (.string a0_0) := (blk_cell BK1081.out 0).trans rfl; have hcz17_1 : w16.cell? ⟨gb1081, 1, none⟩ = some (.string a0_1) := (blk_cell BK1081.out 1).trans rfl; have hcz17_2 : w16.cell? ⟨gb1081, 2, none⟩ = some (.int .i64 a0_2) := (blk_cell BK1081.out 2).trans rfl; have hcz17_3 : w16.cell? ⟨gb1081, 3, none⟩ = some (.string a0_3) := (blk_cell BK1081.out 3).trans rfl; have hcz17_4 : w16.cell? ⟨gb1081, 4, none⟩ = some (.int .i64 a0_4) := (blk_cell BK1081.out 4).trans rfl; have hfz17_0 := blk_frozen BK1081.out 0; have hfz17_1 := blk_frozen BK1081.out 1; have hfz17_2 := blk_frozen BK1081.out 2; have hfz17_3 := blk_frozen BK1081.out 3; have hfz17_4 := blk_frozen BK1081.out 4) | ((with_reducible refine gate_callee (f := 91) rfl ?_); refine goesL_ (some 5) rfl rfl Try.func91 (by kernel_rfl) rfl #[.string a0_0, .string (⟨#[48, 49, 50]⟩ : ByteArray), .int .i64 5] rfl (by (try simp only [List.map_toArray, List.map_cons, List.map_nil]); first | done | rfl | (simp only [List.length_drop, List.length_take]; rfl)) ?_; (with_reducible refine (spec_seWild.calls k a0_0 (⟨#[48, 49, 50]⟩ : ByteArray) 5 true _ A2.out).mono ?_); rintro e w' ⟨rfl, ⟨nd, rfl⟩⟩; refine ⟨_, rfl, ?_⟩) | (go_at_call 91; (with_reducible refine (spec_seWild.calls k a0_1 (⟨#[117, 100, 108, 114, 102, 98]⟩ : ByteArray) 2 true _ A4.out).mono ?_); rintro e w' ⟨rfl, ⟨nd, rfl⟩⟩) | (go_at_call 62; (with_reducible refine (spec_l1In.calls a0_2 (-1) 9 true _ A6.out).mono ?_); rintro e w' ⟨rfl, ⟨nd, rfl⟩⟩))
          go_ret
          exact ⟨by first | rfl | (simp [errW_none, errW_some] <;> rfl) | (simp [*, errW_none, errW_some] <;> rfl), by repeat (first | (with_reducible first | exact HB.out | apply below_alloc | apply pw_below_drewN | apply below_drew1 | refine below_set ?_ GE1081.out) | exact HB.out)⟩
      · replace c7 := Bool.eq_false_iff.mpr c7
        subst c7
        have H1 : (some false) = some r := by rw [if_neg (show ¬ (false = true) by decide)] at H; exact H
        clear H
        have H := H1
        clear H1
        obtain rfl := Option.some.inj H
        go_enter Try.func74, Try.ntmps74
        go_wp2_with (first | ((with_reducible refine gate_dst (N := 1) rfl ?_); (try (refine gate_guard (by rfl) ?_; dsimp only)); refine box_event ?hg (N := 1) ?hd (cs := #[.string a0_0, .string a0_1, .int .i64 a0_2, .string a0_3, .int .i64 a0_4]) (t := 63) ?hr ?_; (case hd => rfl); (case hg => rfl); (case hr => first | (go_simp; done) | (go_simp; rfl)); intro gb1081 hg w18 hbox hb; have n0_ := Aside0.mk (below_step (by repeat (first | (with_reducible first | exact HB.out | apply below_alloc | apply pw_below_drewN | apply below_drew1) | exact HB.out)) hb); have n1_ := Aside0.mk (hbox); have n2_ := Aside0.mk ((by rw [hg]; exact (below_size (by repeat (first | (with_reducible first | exact HB.out | apply below_alloc | apply pw_below_drewN | apply below_drew1) | exact HB.out))) : w.heap.size ≤ gb1081)); have n3_ := Aside0.mk ((by rw [hg]; exact (below_size (by repeat (first | (with_reducible first | exact HB.out | apply below_alloc | apply pw_below_drewN | apply below_drew1) | exact HB.out))) : w.heap.size ≤ gb1081)); clear HB; have HB := n0_; have BK1081 := n1_; have GW1081 := n2_; have GE1081 := n3_; clear n0_ n1_ n2_ n3_; clear hb hbox hg; have hcz19_0 : w18.cell? ⟨gb1081, 0, none⟩ = some (.string a0_0) := (blk_cell BK1081.out 0).trans rfl; have hcz19_1 : w18.cell? ⟨gb1081, 1, none⟩ = some (.string a0_1) := (blk_cell BK1081.out 1).trans rfl; have hcz19_2 : w18.cell? ⟨gb1081, 2, none⟩ = some (.int .i64 a0_2) := (blk_cell BK1081.out 2).trans rfl; have hcz19_3 : w18.cell? ⟨gb1081, 3, none⟩ = some (.string a0_3) := (blk_cell BK1081.out 3).trans rfl; have hcz19_4 : w18.cell? ⟨gb1081, 4, none⟩ = some (.int .i64 a0_4) := (blk_cell BK1081.out 4).trans rfl; have hfz19_0 := blk_frozen BK1081.out 0; have hfz19_1 := blk_frozen BK1081.out 1; have hfz19_2 := blk_frozen BK1081.out 2; have hfz19_3 := blk_frozen BK1081.out 3; have hfz19_4 := blk_frozen BK1081.out 4) | ((with_reducible refine gate_callee (f := 91) rfl ?_); refine goesL_ (some 5) rfl rfl Try.func91 (by kernel_rfl) rfl #[.string a0_0, .string (⟨#[48, 49, 50]⟩ : ByteArray), .int .i64 5] rfl (by (try simp only [List.map_toArray, List.map_cons, List.map_nil]); first | done | rfl | (simp only [List.length_drop, List.length_take]; rfl)) ?_; (with_reducible refine (spec_seWild.calls k a0_0 (⟨#[48, 49, 50]⟩ : ByteArray) 5 true _ A2.out).mono ?_); rintro e w' ⟨rfl, ⟨nd, rfl⟩⟩; refine ⟨_, rfl, ?_⟩) | (go_at_call 91; (with_reducible refine (spec_seWild.calls k a0_1 (⟨#[117, 100, 108, 114, 102, 98]⟩ : ByteArray) 2 true _ A4.out).mono ?_); rintro e w' ⟨rfl, ⟨nd, rfl⟩⟩) | (go_at_call 62; (with_reducible refine (spec_l1In.calls a0_2 (-1) 9 false _ A6.out).mono ?_); rintro e w' ⟨rfl, ⟨nd, rfl⟩⟩))
        go_ret
        exact ⟨by first | rfl | (simp [errW_none, errW_some] <;> rfl) | (simp [*, errW_none, errW_some] <;> rfl), by repeat (first | (with_reducible first | exact HB.out | apply below_alloc | apply pw_below_drewN | apply below_drew1 | refine below_set ?_ GE1081.out) | exact HB.out)⟩
    · replace c5 := Bool.eq_false_iff.mpr c5
      subst c5
      have H1 : (some false) = some r := by rw [if_neg (show ¬ (false = true) by decide)] at H; exact H
      clear H
      have H := H1
      clear H1
      obtain rfl := Option.some.inj H
      go_enter Try.func74, Try.ntmps74
      go_wp2_with (first | ((with_reducible refine gate_dst (N := 1) rfl ?_); (try (refine gate_guard (by rfl) ?_; dsimp only)); refine box_event ?hg (N := 1) ?hd (cs := #[.string a0_0, .string a0_1, .int .i64 a0_2, .string a0_3, .int .i64 a0_4]) (t := 63) ?hr ?_; (case hd => rfl); (case hg => rfl); (case hr => first | (go_simp; done) | (go_simp; rfl)); intro gb1081 hg w20 hbox hb; have n0_ := Aside0.mk (below_step (by repeat (first | (with_reducible first | exact HB.out | apply below_alloc | apply pw_below_drewN | apply below_drew1) | exact HB.out)) hb); have n1_ := Aside0.mk (hbox); have n2_ := Aside0.mk ((by rw [hg]; exact (below_size (by repeat (first | (with_reducible first | exact HB.out | apply below_alloc | apply pw_below_drewN | apply below_drew1) | exact HB.out))) : w.heap.size ≤ gb1081)); have n3_ := Aside0.mk ((by rw [hg]; exact (below_size (by repeat (first | (with_reducible first | exact HB.out | apply below_alloc | apply pw_below_drewN | apply below_drew1) | exact HB.out))) : w.heap.size ≤ gb1081)); clear HB; have HB := n0_; have BK1081 := n1_; have GW1081 := n2_; have GE1081 := n3_; clear n0_ n1_ n2_ n3_; clear hb hbox hg; have hcz21_0 : w20.cell? ⟨gb1081, 0, none⟩ = some (.string a0_0) := (blk_cell BK1081.out 0).trans rfl; have hcz21_1 : w20.cell? ⟨gb1081, 1, none⟩ = some (.string a0_1) := (blk_cell BK1081.out 1).trans rfl; have hcz21_2 : w20.cell? ⟨gb1081, 2, none⟩ = some (.int .i64 a0_2) := (blk_cell BK1081.out 2).trans rfl; have hcz21_3 : w20.cell? ⟨gb1081, 3, none⟩ = some (.string a0_3) := (blk_cell BK1081.out 3).trans rfl; have hcz21_4 : w20.cell? ⟨gb1081, 4, none⟩ = some (.int .i64 a0_4) := (blk_cell BK1081.out 4).trans rfl; have hfz21_0 := blk_frozen BK1081.out 0; have hfz21_1 := blk_frozen BK1081.out 1; have hfz21_2 := blk_frozen BK1081.out 2; have hfz21_3 := blk_frozen BK1081.out 3; have hfz21_4 := blk_frozen BK1081.out 4) | ((with_reducible refine gate_callee (f := 91) rfl ?_); refine goesL_ (some 5) rfl rfl Try.func91 (by kernel_rfl) rfl #[.string a0_0, .string (⟨#[48, 49, 50]⟩ : ByteArray), .int .i64 5] rfl (by (try simp only [List.map_toArray, List.map_cons, List.map_nil]); first | done | rfl | (simp only [List.length_drop, List.length_take]; rfl)) ?_; (with_reducible refine (spec_seWild.calls k a0_0 (⟨#[48, 49, 50]⟩ : ByteArray) 5 true _ A2.out).mono ?_); rintro e w' ⟨rfl, ⟨nd, rfl⟩⟩; refine ⟨_, rfl, ?_⟩) | (go_at_call 91; (with_reducible refine (spec_seWild.calls k a0_1 (⟨#[117, 100, 108, 114, 102, 98]⟩ : ByteArray) 2 false _ A4.out).mono ?_); rintro e w' ⟨rfl, ⟨nd, rfl⟩⟩))
      go_ret
      exact ⟨by first | rfl | (simp [errW_none, errW_some] <;> rfl) | (simp [*, errW_none, errW_some] <;> rfl), by repeat (first | (with_reducible first | exact HB.out | apply below_alloc | apply pw_below_drewN | apply below_drew1 | refine below_set ?_ GE1081.out) | exact HB.out)⟩
  · replace c3 := Bool.eq_false_iff.mpr c3
    subst c3
    have H1 : (some false) = some r := by rw [if_neg (show ¬ (false = true) by decide)] at H; exact H
    clear H
    have H := H1
    clear H1
    obtain rfl := Option.some.inj H
    go_enter Try.func74, Try.ntmps74
    go_wp2_with (first | ((with_reducible refine gate_dst (N := 1) rfl ?_); (try (refine gate_guard (by rfl) ?_; dsimp only)); refine box_event ?hg (N := 1) ?hd (cs := #[.string a0_0, .string a0_1, .int .i64 a0_2, .string a0_3, .int .i64 a0_4]) (t := 63) ?hr ?_; (case hd => rfl); (case hg => rfl); (case hr => first | (go_simp; done) | (go_simp; rfl)); intro gb1081 hg w22 hbox hb; have n0_ := Aside0.mk (below_step (by repeat (first | (with_reducible first | exact HB.out | apply below_alloc | apply pw_below_drewN | apply below_drew1) | exact HB.out)) hb); have n1_ := Aside0.mk (hbox); have n2_ := Aside0.mk ((by rw [hg]; exact (below_size (by repeat (first | (with_reducible first | exact HB.out | apply below_alloc | apply pw_below_drewN | apply below_drew1) | exact HB.out))) : w.heap.size ≤ gb1081)); have n3_ := Aside0.mk ((by rw [hg]; exact (below_size (by repeat (first | (with_reducible first | exact HB.out | apply below_alloc | apply pw_below_drewN | apply below_drew1) | exact HB.out))) : w.heap.size ≤ gb1081)); clear HB; have HB := n0_; have BK1081 := n1_; have GW1081 := n2_; have GE1081 := n3_; clear n0_ n1_ n2_ n3_; clear hb hbox hg; have hcz23_0 : w22.cell? ⟨gb1081, 0, none⟩ = some (.string a0_0) := (blk_cell BK1081.out 0).trans rfl; have hcz23_1 : w22.cell? ⟨gb1081, 1, none⟩ = some (.string a0_1) := (blk_cell BK1081.out 1).trans rfl; have hcz23_2 : w22.cell? ⟨gb1081, 2, none⟩ = some (.int .i64 a0_2) := (blk_cell BK1081.out 2).trans rfl; have hcz23_3 : w22.cell? ⟨gb1081, 3, none⟩ = some (.string a0_3) := (blk_cell BK1081.out 3).trans rfl; have hcz23_4 : w22.cell? ⟨gb1081, 4, none⟩ = some (.int .i64 a0_4) := (blk_cell BK1081.out 4).trans rfl; have hfz23_0 := blk_frozen BK1081.out 0; have hfz23_1 := blk_frozen BK1081.out 1; have hfz23_2 := blk_frozen BK1081.out 2; have hfz23_3 := blk_frozen BK1081.out 3; have hfz23_4 := blk_frozen BK1081.out 4) | ((with_reducible refine gate_callee (f := 91) rfl ?_); refine goesL_ (some 5) rfl rfl Try.func91 (by kernel_rfl) rfl #[.string a0_0, .string (⟨#[48, 49, 50]⟩ : ByteArray), .int .i64 5] rfl (by (try simp only [List.map_toArray, List.map_cons, List.map_nil]); first | done | rfl | (simp only [List.length_drop, List.length_take]; rfl)) ?_; (with_reducible refine (spec_seWild.calls k a0_0 (⟨#[48, 49, 50]⟩ : ByteArray) 5 false _ A2.out).mono ?_); rintro e w' ⟨rfl, ⟨nd, rfl⟩⟩; refine ⟨_, rfl, ?_⟩))
    go_ret
    exact ⟨by first | rfl | (simp [errW_none, errW_some] <;> rfl) | (simp [*, errW_none, errW_some] <;> rfl), by repeat (first | (with_reducible first | exact HB.out | apply below_alloc | apply pw_below_drewN | apply below_drew1 | refine below_set ?_ GE1081.out) | exact HB.out)⟩

end Go.Proofs.Ytaecjbhenknfkaa.FA
