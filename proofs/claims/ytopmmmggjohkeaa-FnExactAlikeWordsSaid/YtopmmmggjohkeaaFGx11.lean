-- laid by pr.py (wip/tools) over the kit's printer; Lean checks it
import Derived.Test.YtopmmmggjohkeaaFGx0
import Derived.Test.YtopmmmggjohkeaaFGx8
import Derived.Test.YtopmmmggjohkeaaFGx10
namespace Go.Proofs.Ytopmmmggjohkeaa.FG
open Go.RowKit Go.Proofs.YtopmmmggjohkeaaW.PrintWords Go.Proofs.YtopmmmggjohkeaaW.PrintLast Go.Proofs.YtopmmmggjohkeaaW.PrintMore
attribute [local go_sem] max2_int min2_int max_two min_two max_three min_three max_four min_four   -- for this text's walks alone
set_option linter.unusedVariables false
set_option linter.unusedSimpArgs false

/-! ### impl_isWordOf: function 52 -/
def impl_isWordOf.f (k : Nat) (a0 : ByteArray) (a1 : ByteArray) : Option (Bool) := (impl_within.f (a0.size : Int) 1 8).bind fun t158 => (if t158 = true then ((impl_hasOnly.f k a0 a1).bind fun t159 => (some t159)) else (some false))
theorem impl_isWordOf.mono : ∀ a0 a1 k, LeO (impl_isWordOf.f k a0 a1) (impl_isWordOf.f (k + 1) a0 a1) := by
  intro a0 a1 k
  unfold impl_isWordOf.f
  repeat' first
      | (with_reducible exact impl_hasOnly.mono _ _ _)
      | (with_reducible exact LeO.refl _)
      | (with_reducible exact LeO.none _)
      | (with_reducible refine LeO.ite ?_ ?_)
      | (with_reducible refine LeO.bind ?_ (fun _ => ?_))
      | exact impl_hasOnly.mono _ _ _
      | exact LeO.none _
      | refine LeO.ite ?_ ?_
      | refine LeO.bind ?_ (fun _ => ?_)
set_option maxHeartbeats 8000000 in
set_option maxRecDepth 100000 in
theorem impl_isWordOf.calls (k : Nat) (a0 : ByteArray) (a1 : ByteArray) (r : Bool) (w : World) (h : impl_isWordOf.f k a0 a1 = some r) :
    Calls Try.prog 52 #[.string a0, .string a1] w fun e w' => e = .returned (.bool r) ∧ Drawn0 w w' := by
  have H : ((impl_within.f (a0.size : Int) 1 8).bind fun t158 => (if t158 = true then ((impl_hasOnly.f k a0 a1).bind fun t159 => (some t159)) else (some false))) = some r := h
  clear h
  replace H := Option.bind_eq_some_iff.mp H
  obtain ⟨t158, A30, H⟩ := H
  replace H : (if t158 = true then ((impl_hasOnly.f k a0 a1).bind fun t159 => (some t159)) else (some false)) = some r := H
  have A3 := Aside0.mk A30
  clear A30
  by_cases c4 : t158 = true
  · subst c4
    have H1 : ((impl_hasOnly.f k a0 a1).bind fun t159 => (some t159)) = some r := by rw [if_pos rfl] at H; exact H
    clear H
    have H := H1
    clear H1
    replace H := Option.bind_eq_some_iff.mp H
    obtain ⟨t159, A50, H⟩ := H
    replace H : (some t159) = some r := H
    have A5 := Aside0.mk A50
    clear A50
    obtain rfl := Option.some.inj H
    go_enter Try.func52, Try.ntmps52
    go_wp2_with (first | ((with_reducible refine gate_callee (f := 56) rfl ?_); refine goesL_ (some 7) rfl rfl Try.func56 (by kernel_rfl) rfl #[.int .i64 (a0.size : Int), .int .i64 1, .int .i64 8] rfl (by (try simp only [List.map_toArray, List.map_cons, List.map_nil]); first | done | rfl | (simp only [List.length_drop, List.length_take]; rfl)) ?_; (with_reducible refine (impl_within.calls (a0.size : Int) 1 8 true _ A3.out).mono ?_); rintro e w' ⟨rfl, ⟨nd, rfl⟩⟩; refine ⟨_, rfl, ?_⟩) | (go_at_call 81; (with_reducible refine (impl_hasOnly.calls k a0 a1 t159 _ A5.out).mono ?_); rintro e w' ⟨rfl, ⟨nd, rfl⟩⟩))
    go_ret
    exact ⟨by first | rfl | (simp; done) | (simp [*]; done), by repeat (first | exact Drawn0.refl _ | apply Drawn0.step)⟩
  · replace c4 := Bool.eq_false_iff.mpr c4
    subst c4
    have H1 : (some false) = some r := by rw [if_neg (show ¬ (false = true) by decide)] at H; exact H
    clear H
    have H := H1
    clear H1
    obtain rfl := Option.some.inj H
    go_enter Try.func52, Try.ntmps52
    go_wp2_with (first | ((with_reducible refine gate_callee (f := 56) rfl ?_); refine goesL_ (some 7) rfl rfl Try.func56 (by kernel_rfl) rfl #[.int .i64 (a0.size : Int), .int .i64 1, .int .i64 8] rfl (by (try simp only [List.map_toArray, List.map_cons, List.map_nil]); first | done | rfl | (simp only [List.length_drop, List.length_take]; rfl)) ?_; (with_reducible refine (impl_within.calls (a0.size : Int) 1 8 false _ A3.out).mono ?_); rintro e w' ⟨rfl, ⟨nd, rfl⟩⟩; refine ⟨_, rfl, ?_⟩))
    go_ret
    exact ⟨by first | rfl | (simp; done) | (simp [*]; done), by repeat (first | exact Drawn0.refl _ | apply Drawn0.step)⟩

/-! ### impl_IsGloss: function 69 -/
def impl_IsGloss.f (k : Nat) (a0 : ByteArray) : Option (Bool) := (impl_isWordOf.f k a0 (⟨#[65, 66, 67, 68, 69, 70, 71, 72, 73, 74, 75, 76, 77, 78, 79, 80, 81, 82, 83, 84, 85, 86, 87, 88, 89, 90]⟩ : ByteArray)).bind fun t160 => (some t160)
theorem impl_IsGloss.mono : ∀ a0 k, LeO (impl_IsGloss.f k a0) (impl_IsGloss.f (k + 1) a0) := by
  intro a0 k
  unfold impl_IsGloss.f
  repeat' first
      | (with_reducible exact impl_isWordOf.mono _ _ _)
      | (with_reducible exact LeO.refl _)
      | (with_reducible exact LeO.none _)
      | (with_reducible refine LeO.ite ?_ ?_)
      | (with_reducible refine LeO.bind ?_ (fun _ => ?_))
      | exact impl_isWordOf.mono _ _ _
      | exact LeO.none _
      | refine LeO.ite ?_ ?_
      | refine LeO.bind ?_ (fun _ => ?_)
set_option maxHeartbeats 8000000 in
set_option maxRecDepth 100000 in
theorem impl_IsGloss.calls (k : Nat) (a0 : ByteArray) (r : Bool) (w : World) (h : impl_IsGloss.f k a0 = some r) :
    Calls Try.prog 69 #[.string a0] w fun e w' => e = .returned (.bool r) ∧ Drawn0 w w' := by
  have H : ((impl_isWordOf.f k a0 (⟨#[65, 66, 67, 68, 69, 70, 71, 72, 73, 74, 75, 76, 77, 78, 79, 80, 81, 82, 83, 84, 85, 86, 87, 88, 89, 90]⟩ : ByteArray)).bind fun t160 => (some t160)) = some r := h
  clear h
  replace H := Option.bind_eq_some_iff.mp H
  obtain ⟨t160, A20, H⟩ := H
  replace H : (some t160) = some r := H
  have A2 := Aside0.mk A20
  clear A20
  obtain rfl := Option.some.inj H
  go_enter Try.func69, Try.ntmps69
  go_wp2_with (first | ((with_reducible refine gate_callee (f := 52) rfl ?_); refine goesL_ (some 4) rfl rfl Try.func52 (by kernel_rfl) rfl #[.string a0, .string (⟨#[65, 66, 67, 68, 69, 70, 71, 72, 73, 74, 75, 76, 77, 78, 79, 80, 81, 82, 83, 84, 85, 86, 87, 88, 89, 90]⟩ : ByteArray)] rfl (by (try simp only [List.map_toArray, List.map_cons, List.map_nil]); first | done | rfl | (simp only [List.length_drop, List.length_take]; rfl)) ?_; (with_reducible refine (impl_isWordOf.calls k a0 (⟨#[65, 66, 67, 68, 69, 70, 71, 72, 73, 74, 75, 76, 77, 78, 79, 80, 81, 82, 83, 84, 85, 86, 87, 88, 89, 90]⟩ : ByteArray) t160 _ A2.out).mono ?_); rintro e w' ⟨rfl, ⟨nd, rfl⟩⟩; refine ⟨_, rfl, ?_⟩))
  go_ret
  exact ⟨by first | rfl | (simp; done) | (simp [*]; done), by repeat (first | exact Drawn0.refl _ | apply Drawn0.step)⟩

-- NOT PRINTED: function 88 (slices_IndexFunc_string_string)

-- NOT PRINTED: function 82 (slices_ContainsFunc_string_string)

-- NOT PRINTED: function 83 (impl_allOf_string_1)

/-! ### impl_allOf_string: function 68 -/
/-- Does impl_IsGloss hold for all elements? -/
def impl_allOf_string.p (k : Nat) (x : ByteArray) : Bool := impl_IsGloss.f k x == some true
def impl_allOf_string.f (k : Nat) (l0 : List ByteArray) : Option Bool := if (l0.all fun x => (impl_IsGloss.f k x).isSome) = true then some (l0.all (impl_allOf_string.p k)) else none
theorem impl_allOf_string.mono : ∀ a0 k, LeO (impl_allOf_string.f k a0) (impl_allOf_string.f (k + 1) a0) := by
  intro l k r h
  unfold impl_allOf_string.f at h ⊢
  by_cases hs : (l.all fun x => (impl_IsGloss.f k x).isSome) = true
  · rw [if_pos hs] at h
    have e : ∀ x ∈ l, impl_IsGloss.f (k + 1) x = impl_IsGloss.f k x := fun x hx => by
      obtain ⟨b, hb⟩ := Option.isSome_iff_exists.1 (List.all_eq_true.1 hs x hx)
      rw [hb]; exact impl_IsGloss.mono x k b hb
    have e1 : (l.all fun x => (impl_IsGloss.f (k + 1) x).isSome) = true := List.all_eq_true.2 fun x hx => by rw [e x hx]; exact List.all_eq_true.1 hs x hx
    rw [if_pos e1, ← h]
    have e2 : l.all (impl_allOf_string.p (k + 1)) = l.all (impl_allOf_string.p k) := by
      rw [Bool.eq_iff_iff, List.all_eq_true, List.all_eq_true]
      exact ⟨fun q x hx => by have := q x hx; unfold impl_allOf_string.p at this ⊢; rwa [e x hx] at this, fun q x hx => by have := q x hx; unfold impl_allOf_string.p at this ⊢; rwa [e x hx]⟩
    rw [e2]
  · rw [if_neg hs] at h; cases h
set_option maxHeartbeats 2000000 in
set_option maxRecDepth 100000 in
theorem impl_allOf_string.lit (k : Nat) (x : ByteArray) (r : Bool) (hx : impl_IsGloss.f k x = some r) (B : Nat) (w : World) (h1 : w.cell? ⟨B, 0, none⟩ = some (.func (.func 69) #[] #[])) :
    Calls Try.prog 83 #[.string x, .pointer (some ⟨B, 0, none⟩)] w fun e w' => e = .returned (.bool (!r)) ∧ Below w.heap.size w w' := by
  have HC := Aside0.mk (impl_IsGloss.calls k x r w hx)
  clear hx
  go_enter Try.func83, Try.ntmps83
  go_wp2_with (go_at_call 69; refine (HC.out).mono ?_; rintro e w' ⟨rfl, ⟨⟨m2, rfl⟩⟩⟩)
  go_ret
  exact ⟨rfl, by repeat (first | exact Below.refl _ _ | apply pw_below_drewN)⟩
set_option maxHeartbeats 2000000 in
set_option maxRecDepth 100000 in
theorem impl_allOf_string.idx (p : ByteArray → Bool) (B1 : Value) (A : Option Addr) (c : Nat) (l : List ByteArray) (w : World) (hr0 : Kd.C Kd.string w A l.length l)
    (hp0 : ∀ x ∈ l, ∀ W, Below w.heap.size w W → Calls Try.prog 83 #[.string x, B1] W fun e w' => e = .returned (.bool (p x)) ∧ Below W.heap.size W w') :
    Calls Try.prog 88 #[.slice A l.length c, .func (.func 83) #[] #[B1]] w fun e w' => e = .returned (.int .i64 (fidx p l)) ∧ Below w.heap.size w w' := by
  have HL : Aside0 (l.length ≤ 9223372036854775807) := ⟨hr0.2.1⟩
  have HR := Aside0.mk hr0
  have HP := Aside0.mk hp0
  clear hr0 hp0
  go_enter Try.func88, Try.ntmps88
  go_wp2
  go_loopg [8] l.length (fun kq v8 w' => ∃ x : Int, v8 = .int .i64 x ∧ Aside0 (0 ≤ x ∧ x + kq = l.length ∧ ∀ (j : Nat) (y : ByteArray), (j : Int) < x → l[j]? = some y → p y = false) ∧ Aside0 (Below w.heap.size w w'))
  case atStart => exact ⟨0, rfl, ⟨by omega, by omega, fun j y hj => by omega⟩, ⟨Below.refl _ _⟩⟩
  case round =>
    obtain ⟨x, rfl, HA, HB⟩ := hrel
    by_cases hlt : x < (l.length : Int)
    · have p0 : 0 ≤ x := HA.out.1
      obtain ⟨ad, hA, hx0⟩ := Kd.at_string (Kd.C_below HR.out HB.out) x p0 hlt
      have HW : Aside0 (wrap64 (x + 1) = x + 1) := ⟨wrap_up p0 hlt HL.out⟩
      have hd : decide (x < (l.length : Int)) = true := decide_eq_true hlt
      have HG : Aside0 (l[x.toNat]? = some (rdOf ByteArray.empty l x)) := ⟨getD_at p0 hlt _⟩
      have HC := HP.out (rdOf ByteArray.empty l x) (List.mem_of_getElem? HG.out) _ HB.out
      cases hA
      replace p0 := eq_true p0
      replace hlt := eq_true hlt
      cases hb : p (rdOf ByteArray.empty l x)
      · rw [hb] at HC
        have HQ : Aside0 (p (rdOf ByteArray.empty l x) = false) := ⟨hb⟩
        have HC := Aside0.mk HC
        clear hb
        go_wp2_with (go_at_call 83; refine (HC.out).mono ?_; rintro e w' ⟨rfl, hb2⟩; have HB2 := Aside0.mk (below_step HB.out hb2); clear hb2)
        go_roundg (gk - 1)
        case measure => have := HA.out.2.1; have := of_eq_true hlt; omega
        case rel => exact ⟨wrap64 (x + 1), rfl, ⟨by rw [HW.out]; have := HA.out.1; omega, by rw [HW.out]; have := HA.out.2.1; have := of_eq_true hlt; omega, fun j y hj hy => by
          rw [HW.out] at hj
          rcases Int.lt_or_le j x with hji | hji
          · exact HA.out.2.2 j y hji hy
          · obtain rfl : x.toNat = j := by omega
            rw [HG.out] at hy
            obtain rfl := Option.some.inj hy
            exact HQ.out⟩, HB2⟩
      · rw [hb] at HC
        have HF : Aside0 (fidx p l = x) := ⟨by rw [fidx_at p l x.toNat _ HG.out hb (fun j y hj hy => HA.out.2.2 j y (by omega) hy)]; have := HA.out.1; omega⟩
        have HC := Aside0.mk HC
        clear hb HA
        go_wp2_with (go_at_call 83; refine (HC.out).mono ?_; rintro e w' ⟨rfl, hb2⟩; have HB2 := Aside0.mk (below_step HB.out hb2); clear hb2)
        go_ret
        exact ⟨by rw [HF.out]; rfl, HB2.out⟩
    · have HF : Aside0 (fidx p l = -1) := ⟨fidx_none p l (fun y hy => by
        obtain ⟨j, hj, rfl⟩ := List.getElem_of_mem hy
        exact HA.out.2.2 j _ (by omega) (List.getElem?_eq_getElem hj))⟩
      have hd : decide (x < (l.length : Int)) = false := decide_eq_false hlt
      clear HA hlt
      go_wp2
      go_ret
      exact ⟨by rw [HF.out]; rfl, HB.out⟩
set_option maxHeartbeats 2000000 in
set_option maxRecDepth 100000 in
theorem impl_allOf_string.has (p : ByteArray → Bool) (B1 : Value) (A : Option Addr) (c : Nat) (l : List ByteArray) (w : World) (hr0 : Kd.C Kd.string w A l.length l)
    (hp0 : ∀ x ∈ l, ∀ W, Below w.heap.size w W → Calls Try.prog 83 #[.string x, B1] W fun e w' => e = .returned (.bool (p x)) ∧ Below W.heap.size W w') :
    Calls Try.prog 82 #[.slice A l.length c, .func (.func 83) #[] #[B1]] w fun e w' => e = .returned (.bool (l.any p)) ∧ Below w.heap.size w w' := by
  have HC := Aside0.mk (impl_allOf_string.idx p B1 A c l w hr0 hp0)
  have HA := Aside0.mk (fidx_any p l)
  clear hr0 hp0
  go_enter Try.func82, Try.ntmps82
  go_wp2_with (go_at_call 88; refine (HC.out).mono ?_; rintro e w' ⟨rfl, hb2⟩; have HB2 := Aside0.mk hb2; clear hb2)
  go_ret
  exact ⟨by rw [← HA.out]; rfl, HB2.out⟩
set_option maxHeartbeats 2000000 in
set_option maxRecDepth 100000 in
theorem impl_allOf_string.calls (k : Nat) (A0 : Option Addr) (c0 : Nat) (l0 : List ByteArray) (r : Bool) (w : World) (hr0 : Kd.C Kd.string w A0 l0.length l0) (hc0 : l0.length ≤ c0) (h : impl_allOf_string.f k l0 = some r) :
    Calls Try.prog 68 #[.slice A0 l0.length c0, .func (.func 69) #[] #[]] w fun e w' => e = .returned (.bool r) ∧ Below w.heap.size w w' := by
  unfold impl_allOf_string.f at h
  by_cases hs : (l0.all fun x => (impl_IsGloss.f k x).isSome) = true
  · rw [if_pos hs] at h
    obtain rfl := Option.some.inj h
    have hb : Below w.heap.size w (w.alloc (.cells #[.func (.func 69) #[] #[]] 66)) := below_alloc (Below.refl _ _) _
    have HC := impl_allOf_string.has (fun x => !impl_allOf_string.p k x) (.pointer (some ⟨w.heap.size, 0, none⟩)) A0 c0 l0 _ (Kd.C_below hr0 hb)
      (fun x hx W hW => by
        obtain ⟨b, hb2⟩ := Option.isSome_iff_exists.1 (List.all_eq_true.1 hs x hx)
        have e : impl_allOf_string.p k x = b := by unfold impl_allOf_string.p; rw [hb2]; cases b <;> rfl
        rw [e]
        exact impl_allOf_string.lit k x b hb2 _ W (pw_cell_below (w := w.alloc (.cells #[.func (.func 69) #[] #[]] 66)) hW ((blk_cell (heap_alloc_new w _) 0).trans rfl)))
    have e2 : l0.all (impl_allOf_string.p k) = !(l0.any fun x => !impl_allOf_string.p k x) := by rw [List.not_any_eq_all_not]; simp
    rw [e2]
    generalize (l0.any fun x => !impl_allOf_string.p k x) = b at HC ⊢
    have HC := Aside0.mk HC
    clear hr0 hc0 h hs e2
    go_enter Try.func68, Try.ntmps68
    go_wp2_with (go_at_call 82; refine (HC.out).mono ?_; rintro e w' ⟨rfl, hb2⟩; have HB2 := Aside0.mk hb2; clear hb2)
    go_ret
    exact ⟨rfl, below_then hb (by simp) HB2.out⟩
  · rw [if_neg hs] at h; cases h

end Go.Proofs.Ytopmmmggjohkeaa.FG
