-- laid by pr.py (wip/tools) over the kit's printer; Lean checks it
import Derived.Test.YtafpehjedkplpaaFBx0
import Derived.MapKept
import Derived.Maps.Own
namespace Go.Proofs.Ytafpehjedkplpaa.FB
open Go.RowKit Go.Proofs.YtafpehjedkplpaaW.PrintWords Go.Proofs.YtafpehjedkplpaaW.PrintLast Go.Proofs.YtafpehjedkplpaaW.PrintMore
attribute [local go_sem] max2_int min2_int max_two min_two max_three min_three max_four min_four   -- for this text's walks alone
set_option linter.unusedVariables false
set_option linter.unusedSimpArgs false

/-! ### impl_turnDir: function 61 -/
/-- Where each direction goes in a quarter turn about each axis. -/
def impl_turnDir.table : List Int := [0, 1, 4, 5, 3, 2, 0, 1, 5, 4, 2, 3, 5, 4, 2, 3, 0, 1, 4, 5, 2, 3, 1, 0, 2, 3, 1, 0, 4, 5, 3, 2, 0, 1, 4, 5]
/-- The direction after a quarter turn, for directions and axes. -/
def impl_turnDir.f (a0 : Int) (a1 : Int) : Option Int := if 0 ≤ a0 then (if a0 ≤ 5 then (if 0 ≤ a1 then (if a1 ≤ 5 then some (rd impl_turnDir.table (6 * a1 + a0)) else none) else none) else none) else none
theorem impl_turnDir.u_map : Try.prog.underlying 78 = some (.map 3 77) := by kernel_rfl
theorem impl_turnDir.u_int : Try.prog.underlying 3 = some (.int .i64) := by kernel_rfl
theorem impl_turnDir.insert (w : World) {ops : Array Oper} {rest : List Oper} {o : Oper} {a : Act} {Q : Exit → Act → World → Prop} (hg : o.guard = none) (m x v : Operand) (hop : o.op = Op.insert 78 m x v)
    (b : Nat) (es : Array MapEntry) (c : Nat) (hm : a.eval m = .map (some b)) (hb : w.heap[b]? = some (.map es c)) (k : Int) (hx : a.eval x = .int .i64 k) (y : Value) (hv : a.eval v = y)
    (hf : Instr.findNow (.int .i64) (.int .i64 k) es.toList 0 = some none)
    (hK : ∀ w' : World, w'.heap[b]? = some (.map (es.push ⟨.int .i64 k, y, c⟩) (c + 1)) → w.grownBy w' (some b) → wpList Try.prog ops Q rest (a.put o.dst undef) w') : wpList Try.prog ops Q (o :: rest) a w := by
  refine wpList_plain hg fun K' hK' => ?_
  have hrun : (Instr.mapUpdate 78 (.map (some b)) (.int .i64 k) y).run Try.prog w = .ok () (Go.ChangeMaps.setBlock w b (.map (es.push ⟨.int .i64 k, y, c⟩) (c + 1))) := by
    simp [Instr.mapUpdate, run_underlying impl_turnDir.u_map, Go.MapKept.run_getObj_map hb, Go.MapKept.run_checkKey impl_turnDir.u_int (k := .int .i64 k) (d := .int .i64) rfl, Go.MapKept.run_findKey impl_turnDir.u_int hf, Go.MapKept.run_setObj_map _ hb, Result.andThen, Go.ChangeMaps.setBlock]
  unfold Oper.wp
  simp [execOp, hop, hm, hx, hv, hrun, Result.andThen]
  exact hK' _ _ (hK _ (Go.ChangeMaps.heap_setBlock_same hb _) ⟨rfl, rfl, rfl, by simp [Go.ChangeMaps.setBlock], fun i _ hi => Go.ChangeMaps.heap_setBlock_other hb _ (fun e => hi (by rw [e]))⟩)
theorem impl_turnDir.lookup (w : World) {b : Nat} {es : Array MapEntry} {c : Nat} (hb : w.heap[b]? = some (.map es c)) (k : Int) {r : Option (Nat × Value)} (hf : Instr.findNow (.int .i64) (.int .i64 k) es.toList 0 = some r) (ok : Bool) :
    (Instr.lookup 78 (.map (some b)) (.int .i64 k) ok).run Try.prog w = .ok (match r with | some (_, v) => if ok then .tuple #[v, .bool true] else v | none => if ok then .tuple #[.agg #[.int .i64 0, .int .i64 0, .int .i64 0, .int .i64 0], .bool false] else .agg #[.int .i64 0, .int .i64 0, .int .i64 0, .int .i64 0]) w := by
  have hz : (zeroValue 77).run Try.prog w = .ok (.agg #[.int .i64 0, .int .i64 0, .int .i64 0, .int .i64 0]) w := by kernel_rfl
  cases r with
  | none => cases ok <;> simp [Instr.lookup, run_underlying impl_turnDir.u_map, Go.MapKept.run_getObj_map hb, Go.MapKept.run_checkKey impl_turnDir.u_int (k := .int .i64 k) (d := .int .i64) rfl, Go.MapKept.run_findKey impl_turnDir.u_int hf, hz, Result.andThen]
  | some p => cases ok <;> simp [Instr.lookup, run_underlying impl_turnDir.u_map, Go.MapKept.run_getObj_map hb, Go.MapKept.run_checkKey impl_turnDir.u_int (k := .int .i64 k) (d := .int .i64) rfl, Go.MapKept.run_findKey impl_turnDir.u_int hf, Result.andThen]
set_option maxHeartbeats 20000000 in
set_option maxRecDepth 100000 in
theorem impl_turnDir.axis0 (d r : Int) (w : World) (hd : d = 0 ∨ d = 1 ∨ d = 2 ∨ d = 3 ∨ d = 4 ∨ d = 5) (hr : rd impl_turnDir.table (6 * 0 + d) = r) :
    Calls Try.prog 61 #[.int .i64 d, .int .i64 0] w fun e w' => e = .returned (.int .i64 r) ∧ Below w.heap.size w w' := by
  subst hr
  have hmm := @run_makeMap Try.prog
  have B1 := (Below.refl w.heap.size w).alloc (Nat.le_refl _) (.map #[] 0)
  go_enter Try.func61, Try.ntmps61
  go_wp2_with (first | (refine impl_turnDir.insert _ rfl _ _ _ rfl w.heap.size _ _ rfl (by first | assumption | exact (Go.MapKept.heap_alloc w _).1) _ rfl _ rfl (by first | rfl | (simp [Instr.findNow, Instr.sameNow])) ?_) | go_in)
  intro w1 h1 g1
  have B2 := B1.grown g1 B1.size (fun j hj => by cases hj; exact Nat.le_refl _)
  clear B1 g1
  go_wp2_with (first | (refine impl_turnDir.insert _ rfl _ _ _ rfl w.heap.size _ _ rfl (by first | assumption | exact (Go.MapKept.heap_alloc w _).1) _ rfl _ rfl (by first | rfl | (simp [Instr.findNow, Instr.sameNow])) ?_) | go_in)
  intro w2 h2 g2
  have B3 := B2.grown g2 B2.size (fun j hj => by cases hj; exact Nat.le_refl _)
  have hlt : w.heap.size < w2.heap.size := by by_cases hq : w.heap.size < w2.heap.size; exact hq; rw [Array.getElem?_eq_none (by omega)] at h2; cases h2
  clear B2 g2 h1
  go_wp2_with (first | (refine impl_turnDir.insert _ rfl _ _ _ rfl w.heap.size _ _ rfl (by first | assumption | exact (Go.MapKept.heap_alloc w _).1) _ rfl _ rfl (by first | rfl | (simp [Instr.findNow, Instr.sameNow])) ?_) | go_in)
  intro w3 h3 g3
  have B4 := B3.grown g3 B3.size (fun j hj => by cases hj; exact Nat.le_refl _)
  have hlt3 : w.heap.size < w3.heap.size := by by_cases hq : w.heap.size < w3.heap.size; exact hq; rw [Array.getElem?_eq_none (by omega)] at h3; cases h3
  clear B3 g3 h2
  have hl := impl_turnDir.lookup w3 h3 0 (r := some (0, .agg #[.int .i64 4, .int .i64 3, .int .i64 5, .int .i64 2])) (by first | rfl | (simp [Instr.findNow, Instr.sameNow])) true
  simp only [if_true] at hl
  go_wp2
  rcases hd with rfl | rfl | rfl | rfl | rfl | rfl
  all_goals
    refine wp_loop_rounds 6 ?_
    repeat (rw [rounds_succ]; go_wp2)
    go_ret
    exact ⟨rfl, by repeat (first | exact B4 | apply pw_below_drewN | apply below_alloc | apply below_drew1)⟩
set_option maxHeartbeats 20000000 in
set_option maxRecDepth 100000 in
theorem impl_turnDir.axis1 (d r : Int) (w : World) (hd : d = 0 ∨ d = 1 ∨ d = 2 ∨ d = 3 ∨ d = 4 ∨ d = 5) (hr : rd impl_turnDir.table (6 * 1 + d) = r) :
    Calls Try.prog 61 #[.int .i64 d, .int .i64 1] w fun e w' => e = .returned (.int .i64 r) ∧ Below w.heap.size w w' := by
  subst hr
  have hmm := @run_makeMap Try.prog
  have B1 := (Below.refl w.heap.size w).alloc (Nat.le_refl _) (.map #[] 0)
  go_enter Try.func61, Try.ntmps61
  go_wp2_with (first | (refine impl_turnDir.insert _ rfl _ _ _ rfl w.heap.size _ _ rfl (by first | assumption | exact (Go.MapKept.heap_alloc w _).1) _ rfl _ rfl (by first | rfl | (simp [Instr.findNow, Instr.sameNow])) ?_) | go_in)
  intro w1 h1 g1
  have B2 := B1.grown g1 B1.size (fun j hj => by cases hj; exact Nat.le_refl _)
  clear B1 g1
  go_wp2_with (first | (refine impl_turnDir.insert _ rfl _ _ _ rfl w.heap.size _ _ rfl (by first | assumption | exact (Go.MapKept.heap_alloc w _).1) _ rfl _ rfl (by first | rfl | (simp [Instr.findNow, Instr.sameNow])) ?_) | go_in)
  intro w2 h2 g2
  have B3 := B2.grown g2 B2.size (fun j hj => by cases hj; exact Nat.le_refl _)
  have hlt : w.heap.size < w2.heap.size := by by_cases hq : w.heap.size < w2.heap.size; exact hq; rw [Array.getElem?_eq_none (by omega)] at h2; cases h2
  clear B2 g2 h1
  go_wp2_with (first | (refine impl_turnDir.insert _ rfl _ _ _ rfl w.heap.size _ _ rfl (by first | assumption | exact (Go.MapKept.heap_alloc w _).1) _ rfl _ rfl (by first | rfl | (simp [Instr.findNow, Instr.sameNow])) ?_) | go_in)
  intro w3 h3 g3
  have B4 := B3.grown g3 B3.size (fun j hj => by cases hj; exact Nat.le_refl _)
  have hlt3 : w.heap.size < w3.heap.size := by by_cases hq : w.heap.size < w3.heap.size; exact hq; rw [Array.getElem?_eq_none (by omega)] at h3; cases h3
  clear B3 g3 h2
  have hl := impl_turnDir.lookup w3 h3 1 (r := none) (by first | rfl | (simp [Instr.findNow, Instr.sameNow])) true
  simp only [if_true] at hl
  have h4 := ((Go.MapKept.heap_alloc w3 (Obj.cells #[Value.int IntKind.i64 0, Value.int IntKind.i64 0, Value.int IntKind.i64 0, Value.int IntKind.i64 0] 77)).2 w.heap.size hlt3).trans h3
  have hl2 := impl_turnDir.lookup _ h4 (bits BinOp.xor IntKind.i64 1 1) (r := some (0, .agg #[.int .i64 4, .int .i64 3, .int .i64 5, .int .i64 2])) (by kernel_rfl) false
  simp only [Bool.false_eq_true, if_false] at hl2
  go_wp2
  rcases hd with rfl | rfl | rfl | rfl | rfl | rfl
  all_goals
    refine wp_loop_rounds 6 ?_
    repeat (rw [rounds_succ]; go_wp2)
    go_ret
    exact ⟨rfl, by repeat (first | exact B4 | apply pw_below_drewN | apply below_alloc | apply below_drew1)⟩
set_option maxHeartbeats 20000000 in
set_option maxRecDepth 100000 in
theorem impl_turnDir.axis2 (d r : Int) (w : World) (hd : d = 0 ∨ d = 1 ∨ d = 2 ∨ d = 3 ∨ d = 4 ∨ d = 5) (hr : rd impl_turnDir.table (6 * 2 + d) = r) :
    Calls Try.prog 61 #[.int .i64 d, .int .i64 2] w fun e w' => e = .returned (.int .i64 r) ∧ Below w.heap.size w w' := by
  subst hr
  have hmm := @run_makeMap Try.prog
  have B1 := (Below.refl w.heap.size w).alloc (Nat.le_refl _) (.map #[] 0)
  go_enter Try.func61, Try.ntmps61
  go_wp2_with (first | (refine impl_turnDir.insert _ rfl _ _ _ rfl w.heap.size _ _ rfl (by first | assumption | exact (Go.MapKept.heap_alloc w _).1) _ rfl _ rfl (by first | rfl | (simp [Instr.findNow, Instr.sameNow])) ?_) | go_in)
  intro w1 h1 g1
  have B2 := B1.grown g1 B1.size (fun j hj => by cases hj; exact Nat.le_refl _)
  clear B1 g1
  go_wp2_with (first | (refine impl_turnDir.insert _ rfl _ _ _ rfl w.heap.size _ _ rfl (by first | assumption | exact (Go.MapKept.heap_alloc w _).1) _ rfl _ rfl (by first | rfl | (simp [Instr.findNow, Instr.sameNow])) ?_) | go_in)
  intro w2 h2 g2
  have B3 := B2.grown g2 B2.size (fun j hj => by cases hj; exact Nat.le_refl _)
  have hlt : w.heap.size < w2.heap.size := by by_cases hq : w.heap.size < w2.heap.size; exact hq; rw [Array.getElem?_eq_none (by omega)] at h2; cases h2
  clear B2 g2 h1
  go_wp2_with (first | (refine impl_turnDir.insert _ rfl _ _ _ rfl w.heap.size _ _ rfl (by first | assumption | exact (Go.MapKept.heap_alloc w _).1) _ rfl _ rfl (by first | rfl | (simp [Instr.findNow, Instr.sameNow])) ?_) | go_in)
  intro w3 h3 g3
  have B4 := B3.grown g3 B3.size (fun j hj => by cases hj; exact Nat.le_refl _)
  have hlt3 : w.heap.size < w3.heap.size := by by_cases hq : w.heap.size < w3.heap.size; exact hq; rw [Array.getElem?_eq_none (by omega)] at h3; cases h3
  clear B3 g3 h2
  have hl := impl_turnDir.lookup w3 h3 2 (r := none) (by first | rfl | (simp [Instr.findNow, Instr.sameNow])) true
  simp only [if_true] at hl
  have h4 := ((Go.MapKept.heap_alloc w3 (Obj.cells #[Value.int IntKind.i64 0, Value.int IntKind.i64 0, Value.int IntKind.i64 0, Value.int IntKind.i64 0] 77)).2 w.heap.size hlt3).trans h3
  have hl2 := impl_turnDir.lookup _ h4 (bits BinOp.xor IntKind.i64 2 1) (r := some (1, .agg #[.int .i64 0, .int .i64 4, .int .i64 1, .int .i64 5])) (by kernel_rfl) false
  simp only [Bool.false_eq_true, if_false] at hl2
  go_wp2
  rcases hd with rfl | rfl | rfl | rfl | rfl | rfl
  all_goals
    refine wp_loop_rounds 6 ?_
    repeat (rw [rounds_succ]; go_wp2)
    go_ret
    exact ⟨rfl, by repeat (first | exact B4 | apply pw_below_drewN | apply below_alloc | apply below_drew1)⟩
set_option maxHeartbeats 20000000 in
set_option maxRecDepth 100000 in
theorem impl_turnDir.axis3 (d r : Int) (w : World) (hd : d = 0 ∨ d = 1 ∨ d = 2 ∨ d = 3 ∨ d = 4 ∨ d = 5) (hr : rd impl_turnDir.table (6 * 3 + d) = r) :
    Calls Try.prog 61 #[.int .i64 d, .int .i64 3] w fun e w' => e = .returned (.int .i64 r) ∧ Below w.heap.size w w' := by
  subst hr
  have hmm := @run_makeMap Try.prog
  have B1 := (Below.refl w.heap.size w).alloc (Nat.le_refl _) (.map #[] 0)
  go_enter Try.func61, Try.ntmps61
  go_wp2_with (first | (refine impl_turnDir.insert _ rfl _ _ _ rfl w.heap.size _ _ rfl (by first | assumption | exact (Go.MapKept.heap_alloc w _).1) _ rfl _ rfl (by first | rfl | (simp [Instr.findNow, Instr.sameNow])) ?_) | go_in)
  intro w1 h1 g1
  have B2 := B1.grown g1 B1.size (fun j hj => by cases hj; exact Nat.le_refl _)
  clear B1 g1
  go_wp2_with (first | (refine impl_turnDir.insert _ rfl _ _ _ rfl w.heap.size _ _ rfl (by first | assumption | exact (Go.MapKept.heap_alloc w _).1) _ rfl _ rfl (by first | rfl | (simp [Instr.findNow, Instr.sameNow])) ?_) | go_in)
  intro w2 h2 g2
  have B3 := B2.grown g2 B2.size (fun j hj => by cases hj; exact Nat.le_refl _)
  have hlt : w.heap.size < w2.heap.size := by by_cases hq : w.heap.size < w2.heap.size; exact hq; rw [Array.getElem?_eq_none (by omega)] at h2; cases h2
  clear B2 g2 h1
  go_wp2_with (first | (refine impl_turnDir.insert _ rfl _ _ _ rfl w.heap.size _ _ rfl (by first | assumption | exact (Go.MapKept.heap_alloc w _).1) _ rfl _ rfl (by first | rfl | (simp [Instr.findNow, Instr.sameNow])) ?_) | go_in)
  intro w3 h3 g3
  have B4 := B3.grown g3 B3.size (fun j hj => by cases hj; exact Nat.le_refl _)
  have hlt3 : w.heap.size < w3.heap.size := by by_cases hq : w.heap.size < w3.heap.size; exact hq; rw [Array.getElem?_eq_none (by omega)] at h3; cases h3
  clear B3 g3 h2
  have hl := impl_turnDir.lookup w3 h3 3 (r := some (1, .agg #[.int .i64 0, .int .i64 4, .int .i64 1, .int .i64 5])) (by first | rfl | (simp [Instr.findNow, Instr.sameNow])) true
  simp only [if_true] at hl
  go_wp2
  rcases hd with rfl | rfl | rfl | rfl | rfl | rfl
  all_goals
    refine wp_loop_rounds 6 ?_
    repeat (rw [rounds_succ]; go_wp2)
    go_ret
    exact ⟨rfl, by repeat (first | exact B4 | apply pw_below_drewN | apply below_alloc | apply below_drew1)⟩
set_option maxHeartbeats 20000000 in
set_option maxRecDepth 100000 in
theorem impl_turnDir.axis4 (d r : Int) (w : World) (hd : d = 0 ∨ d = 1 ∨ d = 2 ∨ d = 3 ∨ d = 4 ∨ d = 5) (hr : rd impl_turnDir.table (6 * 4 + d) = r) :
    Calls Try.prog 61 #[.int .i64 d, .int .i64 4] w fun e w' => e = .returned (.int .i64 r) ∧ Below w.heap.size w w' := by
  subst hr
  have hmm := @run_makeMap Try.prog
  have B1 := (Below.refl w.heap.size w).alloc (Nat.le_refl _) (.map #[] 0)
  go_enter Try.func61, Try.ntmps61
  go_wp2_with (first | (refine impl_turnDir.insert _ rfl _ _ _ rfl w.heap.size _ _ rfl (by first | assumption | exact (Go.MapKept.heap_alloc w _).1) _ rfl _ rfl (by first | rfl | (simp [Instr.findNow, Instr.sameNow])) ?_) | go_in)
  intro w1 h1 g1
  have B2 := B1.grown g1 B1.size (fun j hj => by cases hj; exact Nat.le_refl _)
  clear B1 g1
  go_wp2_with (first | (refine impl_turnDir.insert _ rfl _ _ _ rfl w.heap.size _ _ rfl (by first | assumption | exact (Go.MapKept.heap_alloc w _).1) _ rfl _ rfl (by first | rfl | (simp [Instr.findNow, Instr.sameNow])) ?_) | go_in)
  intro w2 h2 g2
  have B3 := B2.grown g2 B2.size (fun j hj => by cases hj; exact Nat.le_refl _)
  have hlt : w.heap.size < w2.heap.size := by by_cases hq : w.heap.size < w2.heap.size; exact hq; rw [Array.getElem?_eq_none (by omega)] at h2; cases h2
  clear B2 g2 h1
  go_wp2_with (first | (refine impl_turnDir.insert _ rfl _ _ _ rfl w.heap.size _ _ rfl (by first | assumption | exact (Go.MapKept.heap_alloc w _).1) _ rfl _ rfl (by first | rfl | (simp [Instr.findNow, Instr.sameNow])) ?_) | go_in)
  intro w3 h3 g3
  have B4 := B3.grown g3 B3.size (fun j hj => by cases hj; exact Nat.le_refl _)
  have hlt3 : w.heap.size < w3.heap.size := by by_cases hq : w.heap.size < w3.heap.size; exact hq; rw [Array.getElem?_eq_none (by omega)] at h3; cases h3
  clear B3 g3 h2
  have hl := impl_turnDir.lookup w3 h3 4 (r := some (2, .agg #[.int .i64 0, .int .i64 2, .int .i64 1, .int .i64 3])) (by first | rfl | (simp [Instr.findNow, Instr.sameNow])) true
  simp only [if_true] at hl
  go_wp2
  rcases hd with rfl | rfl | rfl | rfl | rfl | rfl
  all_goals
    refine wp_loop_rounds 6 ?_
    repeat (rw [rounds_succ]; go_wp2)
    go_ret
    exact ⟨rfl, by repeat (first | exact B4 | apply pw_below_drewN | apply below_alloc | apply below_drew1)⟩
set_option maxHeartbeats 20000000 in
set_option maxRecDepth 100000 in
theorem impl_turnDir.axis5 (d r : Int) (w : World) (hd : d = 0 ∨ d = 1 ∨ d = 2 ∨ d = 3 ∨ d = 4 ∨ d = 5) (hr : rd impl_turnDir.table (6 * 5 + d) = r) :
    Calls Try.prog 61 #[.int .i64 d, .int .i64 5] w fun e w' => e = .returned (.int .i64 r) ∧ Below w.heap.size w w' := by
  subst hr
  have hmm := @run_makeMap Try.prog
  have B1 := (Below.refl w.heap.size w).alloc (Nat.le_refl _) (.map #[] 0)
  go_enter Try.func61, Try.ntmps61
  go_wp2_with (first | (refine impl_turnDir.insert _ rfl _ _ _ rfl w.heap.size _ _ rfl (by first | assumption | exact (Go.MapKept.heap_alloc w _).1) _ rfl _ rfl (by first | rfl | (simp [Instr.findNow, Instr.sameNow])) ?_) | go_in)
  intro w1 h1 g1
  have B2 := B1.grown g1 B1.size (fun j hj => by cases hj; exact Nat.le_refl _)
  clear B1 g1
  go_wp2_with (first | (refine impl_turnDir.insert _ rfl _ _ _ rfl w.heap.size _ _ rfl (by first | assumption | exact (Go.MapKept.heap_alloc w _).1) _ rfl _ rfl (by first | rfl | (simp [Instr.findNow, Instr.sameNow])) ?_) | go_in)
  intro w2 h2 g2
  have B3 := B2.grown g2 B2.size (fun j hj => by cases hj; exact Nat.le_refl _)
  have hlt : w.heap.size < w2.heap.size := by by_cases hq : w.heap.size < w2.heap.size; exact hq; rw [Array.getElem?_eq_none (by omega)] at h2; cases h2
  clear B2 g2 h1
  go_wp2_with (first | (refine impl_turnDir.insert _ rfl _ _ _ rfl w.heap.size _ _ rfl (by first | assumption | exact (Go.MapKept.heap_alloc w _).1) _ rfl _ rfl (by first | rfl | (simp [Instr.findNow, Instr.sameNow])) ?_) | go_in)
  intro w3 h3 g3
  have B4 := B3.grown g3 B3.size (fun j hj => by cases hj; exact Nat.le_refl _)
  have hlt3 : w.heap.size < w3.heap.size := by by_cases hq : w.heap.size < w3.heap.size; exact hq; rw [Array.getElem?_eq_none (by omega)] at h3; cases h3
  clear B3 g3 h2
  have hl := impl_turnDir.lookup w3 h3 5 (r := none) (by first | rfl | (simp [Instr.findNow, Instr.sameNow])) true
  simp only [if_true] at hl
  have h4 := ((Go.MapKept.heap_alloc w3 (Obj.cells #[Value.int IntKind.i64 0, Value.int IntKind.i64 0, Value.int IntKind.i64 0, Value.int IntKind.i64 0] 77)).2 w.heap.size hlt3).trans h3
  have hl2 := impl_turnDir.lookup _ h4 (bits BinOp.xor IntKind.i64 5 1) (r := some (2, .agg #[.int .i64 0, .int .i64 2, .int .i64 1, .int .i64 3])) (by kernel_rfl) false
  simp only [Bool.false_eq_true, if_false] at hl2
  go_wp2
  rcases hd with rfl | rfl | rfl | rfl | rfl | rfl
  all_goals
    refine wp_loop_rounds 6 ?_
    repeat (rw [rounds_succ]; go_wp2)
    go_ret
    exact ⟨rfl, by repeat (first | exact B4 | apply pw_below_drewN | apply below_alloc | apply below_drew1)⟩
theorem impl_turnDir.calls (a0 : Int) (a1 : Int) (r : Int) (w : World) (h : impl_turnDir.f a0 a1 = some r) :
    Calls Try.prog 61 #[.int .i64 a0, .int .i64 a1] w fun e w' => e = .returned (.int .i64 r) ∧ Below w.heap.size w w' := by
  unfold impl_turnDir.f at h
  by_cases h0 : 0 ≤ a0
  · rw [if_pos h0] at h
    by_cases h1 : a0 ≤ 5
    · rw [if_pos h1] at h
      by_cases h2 : 0 ≤ a1
      · rw [if_pos h2] at h
        by_cases h3 : a1 ≤ 5
        · rw [if_pos h3] at h
          have hr := Option.some.inj h
          have hd : a0 = 0 ∨ a0 = 1 ∨ a0 = 2 ∨ a0 = 3 ∨ a0 = 4 ∨ a0 = 5 := by omega
          have ha : a1 = 0 ∨ a1 = 1 ∨ a1 = 2 ∨ a1 = 3 ∨ a1 = 4 ∨ a1 = 5 := by omega
          rcases ha with rfl | rfl | rfl | rfl | rfl | rfl
          · exact impl_turnDir.axis0 a0 r w hd hr
          · exact impl_turnDir.axis1 a0 r w hd hr
          · exact impl_turnDir.axis2 a0 r w hd hr
          · exact impl_turnDir.axis3 a0 r w hd hr
          · exact impl_turnDir.axis4 a0 r w hd hr
          · exact impl_turnDir.axis5 a0 r w hd hr
        · rw [if_neg h3] at h; cases h
      · rw [if_neg h2] at h; cases h
    · rw [if_neg h1] at h; cases h
  · rw [if_neg h0] at h; cases h

end Go.Proofs.Ytafpehjedkplpaa.FB
