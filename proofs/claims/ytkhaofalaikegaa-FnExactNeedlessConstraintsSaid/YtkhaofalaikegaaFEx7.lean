-- laid by pr.py (wip/tools) over the kit's printer; Lean checks it
import Derived.Test.YtkhaofalaikegaaFEx0
namespace Go.Proofs.Ytkhaofalaikegaa.FE
open Go.RowKit Go.Proofs.YtkhaofalaikegaaW.PrintWords Go.Proofs.YtkhaofalaikegaaW.PrintLast Go.Proofs.YtkhaofalaikegaaW.PrintMore
attribute [local go_sem] max2_int min2_int max_two min_two max_three min_three max_four min_four   -- for this text's walks alone
set_option linter.unusedVariables false
set_option linter.unusedSimpArgs false

/-! ### impl_within: function 59 -/
def impl_within.f (a0 : Int) (a1 : Int) (a2 : Int) : Option (Bool) := if a0 ≥ a1 then (some (decide (a0 ≤ a2))) else (some false)
set_option maxHeartbeats 8000000 in
set_option maxRecDepth 100000 in
theorem impl_within.calls (a0 : Int) (a1 : Int) (a2 : Int) (r : Bool) (w : World) (h : impl_within.f a0 a1 a2 = some r) :
    Calls Try.prog 59 #[.int .i64 a0, .int .i64 a1, .int .i64 a2] w fun e w' => e = .returned (.bool r) ∧ Drawn0 w w' := by
  have H : (if a0 ≥ a1 then (some (decide (a0 ≤ a2))) else (some false)) = some r := h
  clear h
  by_cases c4 : a0 ≥ a1
  · rw [if_pos c4] at H
    have c4b0 : decide (a1 ≤ a0) = true := decide_eq_true c4
    clear c4
    obtain rfl := Option.some.inj H
    go_enter Try.func59, Try.ntmps59
    go_wp2
    go_ret
    exact ⟨by first | rfl | (simp; done) | (simp [*]; done), by repeat (first | exact Drawn0.refl _ | apply Drawn0.step)⟩
  · rw [if_neg c4] at H
    have c4b0 : decide (a1 ≤ a0) = false := decide_eq_false c4
    clear c4
    obtain rfl := Option.some.inj H
    go_enter Try.func59, Try.ntmps59
    go_wp2
    go_ret
    exact ⟨by first | rfl | (simp; done) | (simp [*]; done), by repeat (first | exact Drawn0.refl _ | apply Drawn0.step)⟩

/-! ### impl_IsConstraint: function 119 -/
/-- The greatest value of a kind of constraint. -/
def impl_IsConstraint.most (a : Int) : Int := if a = 0 then 18 else if a = 1 then 9 else if a = 2 then 4 else if a = 3 then 3 else 9
/-- Is this a constraint? -/
def impl_IsConstraint.f (a0_0 : Int) (a0_1 : Int) : Option Bool := some (decide (0 ≤ a0_0 ∧ a0_0 ≤ 4) && decide (0 ≤ a0_1 ∧ a0_1 ≤ impl_IsConstraint.most a0_0))
theorem impl_IsConstraint.within (a b c : Int) : impl_within.f a b c = some (decide (b ≤ a ∧ a ≤ c)) := by
  unfold impl_within.f
  by_cases h : b ≤ a <;> simp [h]
theorem impl_IsConstraint.quiet (a b c : Int) (r : Bool) (w : World) (n : Nat) (h : impl_within.f a b c = some r) :
    Calls Try.prog 59 #[.int .i64 a, .int .i64 b, .int .i64 c] (w.drewN n) fun e w'' => e = .returned (.bool r) ∧ ∃ m, w'' = w.drewN m :=
  Calls.quiet_of ((impl_within.calls a b c r _ h).mono fun e w' ⟨he, hd⟩ => ⟨he, hd.out⟩)
set_option maxHeartbeats 4000000 in
set_option maxRecDepth 100000 in
theorem impl_IsConstraint.inr (a b : Int) (r : Bool) (w : World) (h0 : a = 0 ∨ a = 1 ∨ a = 2 ∨ a = 3 ∨ a = 4) (h : decide (0 ≤ b ∧ b ≤ impl_IsConstraint.most a) = r) :
    Calls Try.prog 119 #[.agg #[.int .i64 a, .int .i64 b]] w fun e w' => e = .returned (.bool r) ∧ Below w.heap.size w w' := by
  have Q2 := fun (W : World) (n : Nat) => impl_IsConstraint.quiet b 0 _ r W n ((impl_IsConstraint.within _ _ _).trans (congrArg some h))
  have Q1 := fun (W : World) (n : Nat) => impl_IsConstraint.quiet a 0 4 true W n ((impl_IsConstraint.within _ _ _).trans (congrArg some (decide_eq_true (by omega))))
  clear h
  rcases h0 with rfl | rfl | rfl | rfl | rfl
  all_goals
    simp only [impl_IsConstraint.most, Int.reduceEq, if_true, if_false, reduceCtorEq] at Q2
    have Q1 := Aside0.mk Q1
    have Q2 := Aside0.mk Q2
    go_enter Try.func119, Try.ntmps119
    go_wp2
    go_quiet ((go_at_call 59; first | (with_reducible exact Q2.out _ _) | (with_reducible exact Q1.out _ _) | exact Q1.out _ _))
    go_wp2
    go_ret
    exact ⟨rfl, by repeat (first | exact Below.refl _ _ | apply pw_below_drewN | apply below_alloc | apply below_drew1)⟩
set_option maxHeartbeats 4000000 in
set_option maxRecDepth 100000 in
theorem impl_IsConstraint.outr (a b : Int) (w : World) (h : decide (0 ≤ a ∧ a ≤ 4) = false) :
    Calls Try.prog 119 #[.agg #[.int .i64 a, .int .i64 b]] w fun e w' => e = .returned (.bool false) ∧ Below w.heap.size w w' := by
  have Q1 := Aside0.mk (fun (W : World) (n : Nat) => impl_IsConstraint.quiet a 0 4 false W n ((impl_IsConstraint.within _ _ _).trans (congrArg some h)))
  clear h
  go_enter Try.func119, Try.ntmps119
  go_wp2
  go_quiet ((go_at_call 59; exact Q1.out _ _))
  go_wp2
  go_ret
  exact ⟨rfl, by repeat (first | exact Below.refl _ _ | apply pw_below_drewN | apply below_alloc | apply below_drew1)⟩
theorem impl_IsConstraint.calls (a0_0 : Int) (a0_1 : Int) (r : Bool) (w : World) (h : impl_IsConstraint.f a0_0 a0_1 = some r) :
    Calls Try.prog 119 #[.agg #[.int .i64 a0_0, .int .i64 a0_1]] w fun e w' => e = .returned (.bool r) ∧ Below w.heap.size w w' := by
  obtain rfl := Option.some.inj h
  cases h2 : decide (0 ≤ a0_0 ∧ a0_0 ≤ 4)
  · exact impl_IsConstraint.outr a0_0 a0_1 w h2
  · have h3 := of_decide_eq_true h2
    exact impl_IsConstraint.inr a0_0 a0_1 _ w (by omega) (by rw [Bool.true_and])

-- NOT PRINTED: function 138 (impl_Constraint_1)

/-! ### impl_allOf_Constraint: function 118 -/
/-- Does impl_IsConstraint hold for all elements? -/
def impl_allOf_Constraint.p (x : S116) : Bool := impl_IsConstraint.f x.f0 x.f1 == some true
def impl_allOf_Constraint.f (l0 : List S116) : Option Bool := if (l0.all fun x => (impl_IsConstraint.f x.f0 x.f1).isSome) = true then some (l0.all (impl_allOf_Constraint.p)) else none
set_option maxHeartbeats 2000000 in
set_option maxRecDepth 100000 in
theorem impl_allOf_Constraint.lit (x : S116) (r : Bool) (hx : impl_IsConstraint.f x.f0 x.f1 = some r) (B : Nat) (w : World) (h1 : w.cell? ⟨B, 0, none⟩ = some (.func (.func 119) #[] #[])) :
    Calls Try.prog 138 #[.agg #[.int .i64 x.f0, .int .i64 x.f1], .pointer (some ⟨B, 0, none⟩)] w fun e w' => e = .returned (.bool (!r)) ∧ Below w.heap.size w w' := by
  have h2 := pw_cell_below (below_alloc (Below.refl _ _) (.cells #[.int .i64 x.f0, .int .i64 x.f1] 116)) h1
  have HC := Aside0.mk (impl_IsConstraint.calls x.f0 x.f1 r (w.alloc (.cells #[.int .i64 x.f0, .int .i64 x.f1] 116)) hx)
  clear hx h1
  go_enter Try.func138, Try.ntmps138
  go_wp2_with (go_at_call 119; refine (HC.out).mono ?_; rintro e w' ⟨rfl, hb⟩; have HB := Aside0.mk hb; clear hb)
  go_ret
  exact ⟨rfl, below_then (below_alloc (Below.refl _ _) _) (by simp) (HB.out)⟩
set_option maxHeartbeats 2000000 in
set_option maxRecDepth 100000 in
theorem impl_allOf_Constraint.idx (p : S116 → Bool) (B1 : Value) (A : Option Addr) (c : Nat) (l : List S116) (w : World) (hr0 : Kd.C k116 w A l.length l)
    (hp0 : ∀ x ∈ l, ∀ W, Below w.heap.size w W → Calls Try.prog 138 #[.agg #[.int .i64 x.f0, .int .i64 x.f1], B1] W fun e w' => e = .returned (.bool (p x)) ∧ Below W.heap.size W w') :
    Calls Try.prog 121 #[.slice A l.length c, .func (.func 138) #[] #[B1]] w fun e w' => e = .returned (.int .i64 (fidx p l)) ∧ Below w.heap.size w w' := by
  have HL : Aside0 (l.length ≤ 9223372036854775807) := ⟨hr0.2.1⟩
  have HR := Aside0.mk hr0
  have HP := Aside0.mk hp0
  clear hr0 hp0
  go_enter Try.func121, Try.ntmps121
  go_wp2
  go_loopg [8] l.length (fun kq v8 w' => ∃ x : Int, v8 = .int .i64 x ∧ Aside0 (0 ≤ x ∧ x + kq = l.length ∧ ∀ (j : Nat) (y : S116), (j : Int) < x → l[j]? = some y → p y = false) ∧ Aside0 (Below w.heap.size w w'))
  case atStart => exact ⟨0, rfl, ⟨by omega, by omega, fun j y hj => by omega⟩, ⟨Below.refl _ _⟩⟩
  case round =>
    obtain ⟨x, rfl, HA, HB⟩ := hrel
    by_cases hlt : x < (l.length : Int)
    · have p0 : 0 ≤ x := HA.out.1
      obtain ⟨ad, hA, hx0, hx1⟩ := at_T116 (Kd.C_below HR.out HB.out) x p0 hlt
      have HW : Aside0 (wrap64 (x + 1) = x + 1) := ⟨wrap_up p0 hlt HL.out⟩
      have hd : decide (x < (l.length : Int)) = true := decide_eq_true hlt
      have HG : Aside0 (l[x.toNat]? = some (rd_T116 l x)) := ⟨getD_at p0 hlt _⟩
      have HC := HP.out (rd_T116 l x) (List.mem_of_getElem? HG.out) _ HB.out
      cases hA
      replace p0 := eq_true p0
      replace hlt := eq_true hlt
      cases hb : p (rd_T116 l x)
      · rw [hb] at HC
        have HQ : Aside0 (p (rd_T116 l x) = false) := ⟨hb⟩
        have HC := Aside0.mk HC
        clear hb
        go_wp2_with (go_at_call 138; refine (HC.out).mono ?_; rintro e w' ⟨rfl, hb2⟩; have HB2 := Aside0.mk (below_step HB.out hb2); clear hb2)
        go_roundg (gk - 1)
        case measure => have := HA.out.2.1; have := of_eq_true hlt; omega
        case rel => exact ⟨wrap64 (x + 1), rfl, ⟨by rw [HW.out]; have := HA.out.1; omega, by rw [HW.out]; have := HA.out.2.1; have := of_eq_true hlt; omega, fun j y hj hy => by
          rw [HW.out] at hj
          rcases Int.lt_or_le j x with hji | hji
          · exact HA.out.2.2 j y hji hy
          · obtain rfl : x.toNat = j := by omega
            rw [HG.out] at hy
            obtain rfl := Option.some.inj hy
            exact HQ.out⟩, HB2⟩
      · rw [hb] at HC
        have HF : Aside0 (fidx p l = x) := ⟨by rw [fidx_at p l x.toNat _ HG.out hb (fun j y hj hy => HA.out.2.2 j y (by omega) hy)]; have := HA.out.1; omega⟩
        have HC := Aside0.mk HC
        clear hb HA
        go_wp2_with (go_at_call 138; refine (HC.out).mono ?_; rintro e w' ⟨rfl, hb2⟩; have HB2 := Aside0.mk (below_step HB.out hb2); clear hb2)
        go_ret
        exact ⟨by rw [HF.out]; rfl, HB2.out⟩
    · have HF : Aside0 (fidx p l = -1) := ⟨fidx_none p l (fun y hy => by
        obtain ⟨j, hj, rfl⟩ := List.getElem_of_mem hy
        exact HA.out.2.2 j _ (by omega) (List.getElem?_eq_getElem hj))⟩
      have hd : decide (x < (l.length : Int)) = false := decide_eq_false hlt
      clear HA hlt
      go_wp2
      go_ret
      exact ⟨by rw [HF.out]; rfl, HB.out⟩
set_option maxHeartbeats 2000000 in
set_option maxRecDepth 100000 in
theorem impl_allOf_Constraint.has (p : S116 → Bool) (B1 : Value) (A : Option Addr) (c : Nat) (l : List S116) (w : World) (hr0 : Kd.C k116 w A l.length l)
    (hp0 : ∀ x ∈ l, ∀ W, Below w.heap.size w W → Calls Try.prog 138 #[.agg #[.int .i64 x.f0, .int .i64 x.f1], B1] W fun e w' => e = .returned (.bool (p x)) ∧ Below W.heap.size W w') :
    Calls Try.prog 91 #[.slice A l.length c, .func (.func 138) #[] #[B1]] w fun e w' => e = .returned (.bool (l.any p)) ∧ Below w.heap.size w w' := by
  have HC := Aside0.mk (impl_allOf_Constraint.idx p B1 A c l w hr0 hp0)
  have HA := Aside0.mk (fidx_any p l)
  clear hr0 hp0
  go_enter Try.func91, Try.ntmps91
  go_wp2_with (go_at_call 121; refine (HC.out).mono ?_; rintro e w' ⟨rfl, hb2⟩; have HB2 := Aside0.mk hb2; clear hb2)
  go_ret
  exact ⟨by rw [← HA.out]; rfl, HB2.out⟩
set_option maxHeartbeats 2000000 in
set_option maxRecDepth 100000 in
theorem impl_allOf_Constraint.calls (A0 : Option Addr) (c0 : Nat) (l0 : List S116) (r : Bool) (w : World) (hr0 : Kd.C k116 w A0 l0.length l0) (hc0 : l0.length ≤ c0) (h : impl_allOf_Constraint.f l0 = some r) :
    Calls Try.prog 118 #[.slice A0 l0.length c0, .func (.func 119) #[] #[]] w fun e w' => e = .returned (.bool r) ∧ Below w.heap.size w w' := by
  unfold impl_allOf_Constraint.f at h
  by_cases hs : (l0.all fun x => (impl_IsConstraint.f x.f0 x.f1).isSome) = true
  · rw [if_pos hs] at h
    obtain rfl := Option.some.inj h
    have hb : Below w.heap.size w (w.alloc (.cells #[.func (.func 119) #[] #[]] 122)) := below_alloc (Below.refl _ _) _
    have HC := impl_allOf_Constraint.has (fun x => !impl_allOf_Constraint.p x) (.pointer (some ⟨w.heap.size, 0, none⟩)) A0 c0 l0 _ (Kd.C_below hr0 hb)
      (fun x hx W hW => by
        obtain ⟨b, hb2⟩ := Option.isSome_iff_exists.1 (List.all_eq_true.1 hs x hx)
        have e : impl_allOf_Constraint.p x = b := by unfold impl_allOf_Constraint.p; rw [hb2]; cases b <;> rfl
        rw [e]
        exact impl_allOf_Constraint.lit x b hb2 _ W (pw_cell_below (w := w.alloc (.cells #[.func (.func 119) #[] #[]] 122)) hW ((blk_cell (heap_alloc_new w _) 0).trans rfl)))
    have e2 : l0.all (impl_allOf_Constraint.p) = !(l0.any fun x => !impl_allOf_Constraint.p x) := by rw [List.not_any_eq_all_not]; simp
    rw [e2]
    generalize (l0.any fun x => !impl_allOf_Constraint.p x) = b at HC ⊢
    have HC := Aside0.mk HC
    clear hr0 hc0 h hs e2
    go_enter Try.func118, Try.ntmps118
    go_wp2_with (go_at_call 91; refine (HC.out).mono ?_; rintro e w' ⟨rfl, hb2⟩; have HB2 := Aside0.mk hb2; clear hb2)
    go_ret
    exact ⟨rfl, below_then hb (by simp) HB2.out⟩
  · rw [if_neg hs] at h; cases h

/-! ### impl_areConstraints: function 89 -/
def impl_areConstraints.f (l0 : List (S116)) : Option (Bool) := if (l0.length : Int) ≤ 10 then ((impl_allOf_Constraint.f l0).bind fun t138 => (some t138)) else (some false)
set_option maxHeartbeats 8000000 in
set_option maxRecDepth 100000 in
theorem impl_areConstraints.calls (A0 : Option Addr) (c0 : Nat) (l0 : List (S116)) (r : Bool) (w : World) (hr0 : Kd.C k116 w A0 l0.length l0) (hc0 : l0.length ≤ c0) (h : impl_areConstraints.f l0 = some r) :
    Calls Try.prog 89 #[.slice A0 l0.length c0] w fun e w' => e = .returned (.bool r) ∧ Below w.heap.size w w' := by
  have HR0 := Aside0.mk hr0
  have HC0 := Aside0.mk hc0
  clear hr0 hc0
  have HB := Aside0.mk (Below.refl w.heap.size w)
  have H : (if (l0.length : Int) ≤ 10 then ((impl_allOf_Constraint.f l0).bind fun t138 => (some t138)) else (some false)) = some r := h
  clear h
  by_cases c2 : (l0.length : Int) ≤ 10
  · rw [if_pos c2] at H
    have c2b0 : decide ((l0.length : Int) ≤ 10) = true := decide_eq_true c2
    have c2b1 : decide (l0.length ≤ 10) = true := decide_eq_true (by omega)
    clear c2
    replace H := Option.bind_eq_some_iff.mp H
    obtain ⟨t138, A30, H⟩ := H
    replace H : (some t138) = some r := H
    have A3 := Aside0.mk A30
    clear A30
    obtain rfl := Option.some.inj H
    go_enter Try.func89, Try.ntmps89
    go_wp2_with (first | (go_at_call 118; (with_reducible refine (impl_allOf_Constraint.calls _ _ l0 t138 _ ?side1 ?side2 A3.out).mono ?_); (case side1 => repeat (first | exact HR0.out | (with_reducible refine Kd.C_alloc ?_ _) | (with_reducible refine Kd.C_drewN ?_ _) | (with_reducible refine Kd.C_drew ?_))); (case side2 => exact HC0.out); rintro e w4 ⟨rfl, hb⟩; have n0_ := Aside0.mk (below_step (by repeat (first | (with_reducible first | exact HB.out | apply below_alloc | apply pw_below_drewN | apply below_drew1) | exact HB.out)) hb); clear HB; have HB := n0_; clear n0_; (try clear hb); (try clear hb2); (try clear hk); (try clear hi)))
    go_ret
    exact ⟨by first | rfl | (simp [errW_none, errW_some] <;> rfl) | (simp [*, errW_none, errW_some] <;> rfl), by repeat (first | (with_reducible first | exact HB.out | apply below_alloc | apply pw_below_drewN | apply below_drew1) | exact HB.out)⟩
  · rw [if_neg c2] at H
    have c2b0 : decide ((l0.length : Int) ≤ 10) = false := decide_eq_false c2
    have c2b1 : decide (l0.length ≤ 10) = false := decide_eq_false (by omega)
    clear c2
    obtain rfl := Option.some.inj H
    go_enter Try.func89, Try.ntmps89
    go_wp2
    go_ret
    exact ⟨by first | rfl | (simp [errW_none, errW_some] <;> rfl) | (simp [*, errW_none, errW_some] <;> rfl), by repeat (first | (with_reducible first | exact HB.out | apply below_alloc | apply pw_below_drewN | apply below_drew1) | exact HB.out)⟩

end Go.Proofs.Ytkhaofalaikegaa.FE
