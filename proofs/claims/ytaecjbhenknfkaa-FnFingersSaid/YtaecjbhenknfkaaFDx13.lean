-- laid by pr.py (wip/tools) over the kit's printer; Lean checks it
import Derived.Test.YtaecjbhenknfkaaFDx0
import Derived.Test.YtaecjbhenknfkaaFDx4
namespace Go.Proofs.Ytaecjbhenknfkaa.FD
open Go.RowKit Go.Proofs.YtaecjbhenknfkaaW.PrintWords Go.Proofs.YtaecjbhenknfkaaW.PrintLast Go.Proofs.YtaecjbhenknfkaaW.PrintMore
attribute [local go_sem] max2_int min2_int max_two min_two max_three min_three max_four min_four   -- for this text's walks alone
set_option linter.unusedVariables false
set_option linter.unusedSimpArgs false

/-! ### spec_shMade: function 60 -/
def spec_shMade.f (k : Nat) (a0 : Int) (l1 : List Int) (a2 : Bool) : Option (Int × Int × Int × Int × Int × Bool) := if 0 < (l1.length : Int) then (if 1 < (l1.length : Int) then (if 2 < (l1.length : Int) then (if 3 < (l1.length : Int) then (if a2 = true then ((spec_shWide.f k a0 (rd l1 0) (rd l1 1) (rd l1 2) (rd l1 3) false).bind fun t336 => (some (a0, rd l1 0, rd l1 1, rd l1 2, rd l1 3, t336))) else (some (a0, rd l1 0, rd l1 1, rd l1 2, rd l1 3, false))) else (none)) else (none)) else (none)) else (none)
theorem spec_shMade.mono : ∀ a0 a1 a2 k, LeO (spec_shMade.f k a0 a1 a2) (spec_shMade.f (k + 1) a0 a1 a2) := by
  intro a0 a1 a2 k
  unfold spec_shMade.f
  repeat' first
      | (with_reducible exact spec_shWide.mono _ _ _ _ _ _ _)
      | (with_reducible exact LeO.refl _)
      | (with_reducible exact LeO.none _)
      | (with_reducible refine LeO.ite ?_ ?_)
      | (with_reducible refine LeO.bind ?_ (fun _ => ?_))
      | exact spec_shWide.mono _ _ _ _ _ _ _
      | exact LeO.none _
      | refine LeO.ite ?_ ?_
      | refine LeO.bind ?_ (fun _ => ?_)
def spec_shMade.T1 : Bool × List (List Nat × List Nat) := (true, [([], []), ([], []), ([1], [1]), ([2], [2]), ([], []), ([4], [4]), ([5], [5]), ([], []), ([7], [7]), ([8], [8]), ([], []), ([10], [10]), ([11], [11]), ([0, 3, 6, 9, 12], [0, 3, 6, 9, 12]), ([], []), ([14, 13, 0, 1, 2, 3, 4, 5, 6, 7, 8, 9, 10, 11, 12, 13, 14], [13, 14])])
def spec_shMade.B1 : List Nat := [0, 0, 2, 6, 0, 16, 48, 0, 128, 384, 0, 1024, 3072, 8191, 0, 32767]
theorem spec_shMade.tab1 : rtab .any (opsOf Try.f60 1) = spec_shMade.T1 := by kernel_rfl
theorem spec_shMade.bits1 : waitsOk spec_shMade.T1.2 spec_shMade.B1 = true := by kernel_rfl
theorem spec_shMade.store (w : World) {ops : Array Oper} {rest : List Oper} {o : Oper} {a : Act} {Q : Exit → Act → World → Prop} (hg : o.guard = none) (x y : Operand) (hop : o.op = Op.store 25 x y) (g : Nat) (cells : Array Value)
    (hx : a.eval x = .pointer (some ⟨g, 0, none⟩)) (hy : a.eval y = .agg cells) (t : TypeId) (old : Array Value) (hb : w.heap[g]? = some (.cells old t (0, 0))) (hs : old.size = 6) (hc : cells.size = 6) (h1 : cells.all (·.oneCell') = true)
    (hK : ∀ w' : World, w'.heap[g]? = some (.cells cells t (0, 0)) → w.grownBy w' (some g) → wpList Try.prog ops Q rest (a.put o.dst undef) w') : wpList Try.prog ops Q (o :: rest) a w := by
  refine wpList_plain hg fun K' hK' => ?_
  refine wp_store_row _ x y hop g cells hx hy t old hb (by rw [hc]; kernel_rfl) (hs.trans hc.symm) h1 ?_
  exact hK' _ _ (hK _ (setRow_heap w g old cells t (0, 0) hb) ⟨rfl, rfl, rfl, by simp, fun i _ hi => setRow_other w g i cells (fun e => hi (by rw [e]))⟩)
theorem spec_shMade.step (w : World) {ops : Array Oper} {o : Oper} {a : Act} {K : Act → World → Prop} {Q : Exit → Act → World → Prop} (hw : Region.wanted o (yielded ops a.tmps) = true) (hN : o.dst = none) (x y : Operand) (hop : o.op = Op.store 25 x y) (g : Nat) (cells : Array Value)
    (hx : a.eval x = .pointer (some ⟨g, 0, none⟩)) (hy : a.eval y = .agg cells) (t : TypeId) (old : Array Value) (hb : w.heap[g]? = some (.cells old t (0, 0))) (hs : old.size = 6) (hc : cells.size = 6) (h1 : cells.all (·.oneCell') = true)
    (hK : ∀ w' : World, w'.heap[g]? = some (.cells cells t (0, 0)) → w.grownBy w' (some g) → K a w') : if Region.wanted o (yielded ops a.tmps) = true then Oper.wp Try.prog o a w K Q else K (a.put none undef) w := by
  rw [if_pos hw]
  refine wp_store_row _ x y hop g cells hx hy t old hb (by rw [hc]; kernel_rfl) (hs.trans hc.symm) h1 ?_
  rw [hN]
  exact hK _ (setRow_heap w g old cells t (0, 0) hb) ⟨rfl, rfl, rfl, by simp, fun i _ hi => setRow_other w g i cells (fun e => hi (by rw [e]))⟩
theorem spec_shMade.keep {w w' : World} {g : Nat} (hg : w.grownBy w' (some g)) {ad : Addr} {v : Value} (h : w.cell? ad = some v) (hne : ad.block ≠ g) : w'.cell? ad = some v := by
  have := hg.block ad.block (World.block_lt_of_cell? w ad h) (by intro e; injection e with e; exact hne e)
  simpa [World.cell?, this] using h
set_option maxHeartbeats 4000000 in
set_option maxRecDepth 100000 in
theorem spec_shMade.calls (k : Nat) (a0 : Int) (A1 : Option Addr) (c1 : Nat) (l1 : List Int) (a2 : Bool) (r1 : Int) (r2 : Int) (r3 : Int) (r4 : Int) (r5 : Int) (r6 : Bool) (w : World) (hr1 : Kd.C (Kd.int .i64) w A1 l1.length l1) (hc1 : l1.length ≤ c1) (h : spec_shMade.f k a0 l1 a2 = some (r1, r2, r3, r4, r5, r6)) :
    Calls Try.prog 60 #[.int .i64 a0, .slice A1 l1.length c1, .bool a2] w fun e w' => e = .returned (.agg #[.int .i64 r1, .int .i64 r2, .int .i64 r3, .int .i64 r4, .int .i64 r5, .bool r6]) ∧ Below w.heap.size w w' := by
  have hu_ := Try.underlying25
  have HR1 := Aside0.mk hr1
  have HC1 := Aside0.mk hc1
  clear hr1 hc1
  have HB := Aside0.mk (Below.refl w.heap.size w)
  unfold spec_shMade.f at h
  have c4 : 0 < (l1.length : Int) := by by_cases q : 0 < (l1.length : Int); exact q; rw [if_neg q] at h; cases h
  rw [if_pos c4] at h
  have c5 : 1 < (l1.length : Int) := by by_cases q : 1 < (l1.length : Int); exact q; rw [if_neg q] at h; cases h
  rw [if_pos c5] at h
  have c6 : 2 < (l1.length : Int) := by by_cases q : 2 < (l1.length : Int); exact q; rw [if_neg q] at h; cases h
  rw [if_pos c6] at h
  have c7 : 3 < (l1.length : Int) := by by_cases q : 3 < (l1.length : Int); exact q; rw [if_neg q] at h; cases h
  rw [if_pos c7] at h
  have c4b0 : decide (0 < (l1.length : Int)) = true := decide_eq_true c4
  have c4b1 : decide (0 < l1.length) = true := decide_eq_true (by omega)
  have c5b0 : decide (1 < (l1.length : Int)) = true := decide_eq_true c5
  have c5b1 : decide (1 < l1.length) = true := decide_eq_true (by omega)
  have c6b0 : decide (2 < (l1.length : Int)) = true := decide_eq_true c6
  have c6b1 : decide (2 < l1.length) = true := decide_eq_true (by omega)
  have c7b0 : decide (3 < (l1.length : Int)) = true := decide_eq_true c7
  have c7b1 : decide (3 < l1.length) = true := decide_eq_true (by omega)
  clear c4 c5 c6 c7
  have H := Aside0.mk h
  clear h
  go_enter Try.func60, Try.ntmps60
  try go_wp2_with (first | ((with_reducible refine gate_dst (N := 6) rfl ?_); refine box_event ?hg (N := 6) ?hd (cs := #[.int .i64 0, .int .i64 0, .int .i64 0, .int .i64 0, .int .i64 0, .bool false]) (t := 25) ?hr ?_; (case hd => rfl); (case hg => rfl); (case hr => first | (go_simp; done) | (go_simp; rfl)); intro gb330 hg w10 hbox hb; have n0_ := Aside0.mk (below_step (by repeat (first | (with_reducible first | exact HB.out | apply below_alloc | apply pw_below_drewN | apply below_drew1) | exact HB.out)) hb); have n1_ := Aside0.mk (hbox); have n2_ := Aside0.mk ((by rw [hg]; exact (below_size (by repeat (first | (with_reducible first | exact HB.out | apply below_alloc | apply pw_below_drewN | apply below_drew1) | exact HB.out))) : w.heap.size ≤ gb330)); have n3_ := Aside0.mk ((by rw [hg]; exact (below_size (by repeat (first | (with_reducible first | exact HB.out | apply below_alloc | apply pw_below_drewN | apply below_drew1) | exact HB.out))) : w.heap.size ≤ gb330)); clear HB; have HB := n0_; have BK330 := n1_; have GW330 := n2_; have GE330 := n3_; clear n0_ n1_ n2_ n3_; clear hb hbox hg))
  have n0_ := Aside0.mk (blk_drew BK330.out)
  have n1_ := Aside0.mk (below_drew1 HB.out)
  clear BK330
  clear HB
  have BK330 := n0_
  have HB := n1_
  clear n0_ n1_
  have p331 : 0 ≤ (0 : Int) := (by omega)
  have q331 : 0 < (l1.length : Int) := of_decide_eq_true (by first | (with_reducible assumption) | assumption)
  obtain ⟨ad331, e331, hx331_0⟩ := Kd.at_int HR1.out 0 p331 q331
  have hw331_0 := hx331_0
  (try rw [show ((0 : Int)).toNat = 0 from rfl] at hw331_0)
  (try rw [show 0 * 1 = 0 from rfl] at hw331_0)
  (try rw [Addr.add_zero'] at hw331_0)
  cases e331
  have qi331 : (0 < l1.length) = True := eq_true (by omega)
  (try rw [show ((0 : Int)).toNat = 0 from rfl] at hx331_0)
  (try rw [Addr.add_zero'] at hx331_0)
  replace hx331_0 := (HB.out.cell (World.block_lt_of_cell? w _ hx331_0)).trans hx331_0
  replace p331 := eq_true p331
  replace q331 := eq_true q331
  have p332 : 0 ≤ (1 : Int) := (by omega)
  have q332 : 1 < (l1.length : Int) := of_decide_eq_true (by first | (with_reducible assumption) | assumption)
  obtain ⟨ad332, e332, hx332_0⟩ := Kd.at_int HR1.out 1 p332 q332
  have hw332_0 := hx332_0
  (try rw [show ((1 : Int)).toNat = 1 from rfl] at hw332_0)
  (try rw [show 1 * 1 = 1 from rfl] at hw332_0)
  (try simp only [Nat.reduceMul, Nat.reduceEqDiff, Go.Addr.add, ↓reduceIte] at hw332_0)
  obtain rfl : ad331 = ad332 := (by injection e332)
  (try simp only [show (1 : Int).toNat = 1 from rfl, Nat.reduceMul, Nat.reduceEqDiff, Go.Addr.add, ↓reduceIte] at hx332_0)
  have qi332 : (1 < l1.length) = True := eq_true (by omega)
  (try rw [show ((1 : Int)).toNat = 1 from rfl] at hx332_0)
  replace hx332_0 := (HB.out.cell (World.block_lt_of_cell? w _ hx332_0)).trans hx332_0
  replace p332 := eq_true p332
  replace q332 := eq_true q332
  have p333 : 0 ≤ (2 : Int) := (by omega)
  have q333 : 2 < (l1.length : Int) := of_decide_eq_true (by first | (with_reducible assumption) | assumption)
  obtain ⟨ad333, e333, hx333_0⟩ := Kd.at_int HR1.out 2 p333 q333
  have hw333_0 := hx333_0
  (try rw [show ((2 : Int)).toNat = 2 from rfl] at hw333_0)
  (try rw [show 2 * 1 = 2 from rfl] at hw333_0)
  (try simp only [Nat.reduceMul, Nat.reduceEqDiff, Go.Addr.add, ↓reduceIte] at hw333_0)
  obtain rfl : ad331 = ad333 := (by injection e333)
  (try simp only [show (2 : Int).toNat = 2 from rfl, Nat.reduceMul, Nat.reduceEqDiff, Go.Addr.add, ↓reduceIte] at hx333_0)
  have qi333 : (2 < l1.length) = True := eq_true (by omega)
  (try rw [show ((2 : Int)).toNat = 2 from rfl] at hx333_0)
  replace hx333_0 := (HB.out.cell (World.block_lt_of_cell? w _ hx333_0)).trans hx333_0
  replace p333 := eq_true p333
  replace q333 := eq_true q333
  have p334 : 0 ≤ (3 : Int) := (by omega)
  have q334 : 3 < (l1.length : Int) := of_decide_eq_true (by first | (with_reducible assumption) | assumption)
  obtain ⟨ad334, e334, hx334_0⟩ := Kd.at_int HR1.out 3 p334 q334
  have hw334_0 := hx334_0
  (try rw [show ((3 : Int)).toNat = 3 from rfl] at hw334_0)
  (try rw [show 3 * 1 = 3 from rfl] at hw334_0)
  (try simp only [Nat.reduceMul, Nat.reduceEqDiff, Go.Addr.add, ↓reduceIte] at hw334_0)
  obtain rfl : ad331 = ad334 := (by injection e334)
  (try simp only [show (3 : Int).toNat = 3 from rfl, Nat.reduceMul, Nat.reduceEqDiff, Go.Addr.add, ↓reduceIte] at hx334_0)
  have qi334 : (3 < l1.length) = True := eq_true (by omega)
  (try rw [show ((3 : Int)).toNat = 3 from rfl] at hx334_0)
  replace hx334_0 := (HB.out.cell (World.block_lt_of_cell? w _ hx334_0)).trans hx334_0
  replace p334 := eq_true p334
  replace q334 := eq_true q334
  refine start_ (n := 16) (S := fun w' => w'.cell? ad331 = some (.int .i64 (rd l1 0)) ∧ w'.cell? ⟨ad331.block, ad331.off + 1, none⟩ = some (.int .i64 (rd l1 1)) ∧ w'.cell? ⟨ad331.block, ad331.off + 2, none⟩ = some (.int .i64 (rd l1 2)) ∧ w'.cell? ⟨ad331.block, ad331.off + 3, none⟩ = some (.int .i64 (rd l1 3))) (ds := []) #[false, false, false, false, false, false, false, false, false, false, false, false, false, false, false, false] (by kernel_rfl) rfl rfl ⟨((HB.out.cell (World.block_lt_of_cell? w _ hw331_0)).trans hw331_0), ((HB.out.cell (World.block_lt_of_cell? w _ hw332_0)).trans hw332_0), ((HB.out.cell (World.block_lt_of_cell? w _ hw333_0)).trans hw333_0), ((HB.out.cell (World.block_lt_of_cell? w _ hw334_0)).trans hw334_0)⟩ (fun hHeld => ?_); refine with_tabW spec_shMade.tab1 spec_shMade.bits1 (fun HT_ HW_ => ?_)
  generalize w10.drew = w11 at BK330 HB hx331_0 hx332_0 hx333_0 hx334_0 hHeld ⊢
  refine pure_ (i := 0) (N := some 8) (v := ?_) (a' := ?_) #[true, false, false, false, false, false, false, false, false, false, false, false, false, false, false, false] rfl rfl (any_of HT_.out (by kernel_rfl)) (fun _ _ _ h => h) (Or.inl ⟨by rfl, ?_⟩) ?_ ?_
  rotate_left
  · intro w'
    go_simp
    with_reducible rfl
  rotate_left
  · simp only [Act.put, List.setIfInBounds_toArray, List.set_cons_zero, List.set_cons_succ, i64_w, i32_w]
    rfl
  refine pure_ (i := 1) (N := some 9) (v := ?_) (a' := ?_) #[true, true, false, false, false, false, false, false, false, false, false, false, false, false, false, false] rfl rfl (any_of HT_.out (by kernel_rfl)) (fun _ _ _ h => h) (Or.inl ⟨by rfl, ?_⟩) ?_ ?_
  rotate_left
  · intro w'
    go_simp
    with_reducible rfl
  rotate_left
  · simp only [Act.put, List.setIfInBounds_toArray, List.set_cons_zero, List.set_cons_succ, i64_w, i32_w]
    rfl
  refine pure_ (i := 2) (N := some 10) (v := ?_) (a' := ?_) #[true, true, true, false, false, false, false, false, false, false, false, false, false, false, false, false] rfl rfl (any_of HT_.out (by kernel_rfl)) (fun _ _ _ h => h) (Or.inl ⟨by rfl, ?_⟩) ?_ ?_
  rotate_left
  · intro w'
    go_simp
    with_reducible rfl
  rotate_left
  · simp only [Act.put, List.setIfInBounds_toArray, List.set_cons_zero, List.set_cons_succ, i64_w, i32_w]
    rfl
  refine pure_ (i := 4) (N := some 12) (v := ?_) (a' := ?_) #[true, true, true, false, true, false, false, false, false, false, false, false, false, false, false, false] rfl rfl (any_of HT_.out (by kernel_rfl)) (fun _ _ _ h => h) (Or.inl ⟨by rfl, ?_⟩) ?_ ?_
  rotate_left
  · intro w'
    go_simp
    with_reducible rfl
  rotate_left
  · simp only [Act.put, List.setIfInBounds_toArray, List.set_cons_zero, List.set_cons_succ, i64_w, i32_w]
    rfl
  refine pure_ (i := 5) (N := some 13) (v := ?_) (a' := ?_) #[true, true, true, false, true, true, false, false, false, false, false, false, false, false, false, false] rfl rfl (any_of HT_.out (by kernel_rfl)) (fun _ _ _ h => h) (Or.inl ⟨by rfl, ?_⟩) ?_ ?_
  rotate_left
  · intro w'
    go_simp
    with_reducible rfl
  rotate_left
  · simp only [Act.put, List.setIfInBounds_toArray, List.set_cons_zero, List.set_cons_succ, i64_w, i32_w]
    rfl
  refine pure_ (i := 7) (N := some 15) (v := ?_) (a' := ?_) #[true, true, true, false, true, true, false, true, false, false, false, false, false, false, false, false] rfl rfl (any_of HT_.out (by kernel_rfl)) (fun _ _ _ h => h) (Or.inl ⟨by rfl, ?_⟩) ?_ ?_
  rotate_left
  · intro w'
    go_simp
    with_reducible rfl
  rotate_left
  · simp only [Act.put, List.setIfInBounds_toArray, List.set_cons_zero, List.set_cons_succ, i64_w, i32_w]
    rfl
  refine pure_ (i := 8) (N := some 16) (v := ?_) (a' := ?_) #[true, true, true, false, true, true, false, true, true, false, false, false, false, false, false, false] rfl rfl (any_of HT_.out (by kernel_rfl)) (fun _ _ _ h => h) (Or.inl ⟨by rfl, ?_⟩) ?_ ?_
  rotate_left
  · intro w'
    go_simp
    with_reducible rfl
  rotate_left
  · simp only [Act.put, List.setIfInBounds_toArray, List.set_cons_zero, List.set_cons_succ, i64_w, i32_w]
    rfl
  refine pure_ (i := 10) (N := some 18) (v := ?_) (a' := ?_) #[true, true, true, false, true, true, false, true, true, false, true, false, false, false, false, false] rfl rfl (any_of HT_.out (by kernel_rfl)) (fun _ _ _ h => h) (Or.inl ⟨by rfl, ?_⟩) ?_ ?_
  rotate_left
  · intro w'
    go_simp
    with_reducible rfl
  rotate_left
  · simp only [Act.put, List.setIfInBounds_toArray, List.set_cons_zero, List.set_cons_succ, i64_w, i32_w]
    rfl
  refine pure_ (i := 11) (N := some 19) (v := ?_) (a' := ?_) #[true, true, true, false, true, true, false, true, true, false, true, true, false, false, false, false] rfl rfl (any_of HT_.out (by kernel_rfl)) (fun _ _ _ h => h) (Or.inl ⟨by rfl, ?_⟩) ?_ ?_
  rotate_left
  · intro w'
    go_simp
    with_reducible rfl
  rotate_left
  · simp only [Act.put, List.setIfInBounds_toArray, List.set_cons_zero, List.set_cons_succ, i64_w, i32_w]
    rfl
  refine take_ (i := 3) (N := some 11) (v := ?_) (a' := ?_) #[true, true, true, true, true, true, false, true, true, false, true, true, false, false, false, false] rfl rfl (take_ofW HT_.out HW_.out (by kernel_rfl)) (fun _ _ _ h => h) (Or.inl ⟨by rfl, ?_⟩) hHeld ?_ ?_
  rotate_left
  · rintro w' ⟨s0, s1, s2, s3⟩
    go_simp
    with_reducible rfl
  rotate_left
  · simp only [Act.put, List.setIfInBounds_toArray, List.set_cons_zero, List.set_cons_succ, i64_w, i32_w]
    rfl
  refine take_ (i := 6) (N := some 14) (v := ?_) (a' := ?_) #[true, true, true, true, true, true, true, true, true, false, true, true, false, false, false, false] rfl rfl (take_ofW HT_.out HW_.out (by kernel_rfl)) (fun _ _ _ h => h) (Or.inl ⟨by rfl, ?_⟩) hHeld ?_ ?_
  rotate_left
  · rintro w' ⟨s0, s1, s2, s3⟩
    go_simp
    with_reducible rfl
  rotate_left
  · simp only [Act.put, List.setIfInBounds_toArray, List.set_cons_zero, List.set_cons_succ, i64_w, i32_w]
    rfl
  refine take_ (i := 9) (N := some 17) (v := ?_) (a' := ?_) #[true, true, true, true, true, true, true, true, true, true, true, true, false, false, false, false] rfl rfl (take_ofW HT_.out HW_.out (by kernel_rfl)) (fun _ _ _ h => h) (Or.inl ⟨by rfl, ?_⟩) hHeld ?_ ?_
  rotate_left
  · rintro w' ⟨s0, s1, s2, s3⟩
    go_simp
    with_reducible rfl
  rotate_left
  · simp only [Act.put, List.setIfInBounds_toArray, List.set_cons_zero, List.set_cons_succ, i64_w, i32_w]
    rfl
  refine take_ (i := 12) (N := some 20) (v := ?_) (a' := ?_) #[true, true, true, true, true, true, true, true, true, true, true, true, true, false, false, false] rfl rfl (take_ofW HT_.out HW_.out (by kernel_rfl)) (fun _ _ _ h => h) (Or.inl ⟨by rfl, ?_⟩) hHeld ?_ ?_
  rotate_left
  · rintro w' ⟨s0, s1, s2, s3⟩
    go_simp
    with_reducible rfl
  rotate_left
  · simp only [Act.put, List.setIfInBounds_toArray, List.set_cons_zero, List.set_cons_succ, i64_w, i32_w]
    rfl
  refine pure_ (i := 13) (N := some 21) (v := ?_) (a' := ?_) #[true, true, true, true, true, true, true, true, true, true, true, true, true, true, false, false] rfl rfl (any_of HT_.out (by kernel_rfl)) (fun _ _ _ h => h) (Or.inl ⟨by rfl, ?_⟩) ?_ ?_
  rotate_left
  · intro w'
    go_simp
    with_reducible rfl
  rotate_left
  · simp only [Act.put, List.setIfInBounds_toArray, List.set_cons_zero, List.set_cons_succ, i64_w, i32_w]
    rfl
  refine one_ (i := 14) (N := some 7) #[true, true, true, true, true, true, true, true, true, true, true, true, true, true, true, false] rfl rfl (one_of HT_.out (by kernel_rfl)) (by decide) (fun K hK => ?_)
  refine box_step ?hg (N := 7) ?hd (cs := #[.int .i64 0, .int .i64 0, .int .i64 0, .int .i64 0, .int .i64 0, .bool false]) (t := 25) ?hr ?_; (case hd => rfl); (case hg => rfl); (case hr => first | (go_simp; done) | (go_simp; rfl))
  intro gb335 hg w12 hbox hb
  have n0_ := Aside0.mk (blk_below (g := gb330) (o := .cells #[.int .i64 0, .int .i64 0, .int .i64 0, .int .i64 0, .int .i64 0, .bool false] 25 (0, 0)) (by (with_reducible repeat (first | refine blk_drewN ?_ _ | refine blk_drew ?_ | refine blk_alloc ?_ _)); exact BK330.out) hb)
  have n1_ := Aside0.mk (below_step (by repeat (first | (with_reducible first | exact HB.out | apply below_alloc | apply pw_below_drewN | apply below_drew1 | refine below_set ?_ GE330.out) | exact HB.out)) hb)
  have n2_ := Aside0.mk (hbox)
  have n3_ := Aside0.mk ((by rw [hg]; exact (below_size (by repeat (first | (with_reducible first | exact HB.out | apply below_alloc | apply pw_below_drewN | apply below_drew1 | refine below_set ?_ GE330.out) | exact HB.out))) : w.heap.size ≤ gb335))
  have n4_ := Aside0.mk ((by rw [hg]; exact (below_size (by repeat (first | (with_reducible first | exact HB.out | apply below_alloc | apply pw_below_drewN | apply below_drew1 | refine below_set ?_ GE330.out) | exact HB.out))) : w.heap.size ≤ gb335))
  have n5_ := Aside0.mk ((by rw [hg]; exact Nat.ne_of_lt (blk_lt (g := gb330) (o := .cells #[.int .i64 0, .int .i64 0, .int .i64 0, .int .i64 0, .int .i64 0, .bool false] 25 (0, 0)) (by (with_reducible repeat (first | refine blk_drewN ?_ _ | refine blk_drew ?_ | refine blk_alloc ?_ _)); exact BK330.out)) : gb330 ≠ gb335))
  have n6_ := Aside0.mk ((by rw [hg]; exact Nat.ne_of_gt (blk_lt (g := gb330) (o := .cells #[.int .i64 0, .int .i64 0, .int .i64 0, .int .i64 0, .int .i64 0, .bool false] 25 (0, 0)) (by (with_reducible repeat (first | refine blk_drewN ?_ _ | refine blk_drew ?_ | refine blk_alloc ?_ _)); exact BK330.out)) : gb335 ≠ gb330))
  clear BK330
  clear HB
  have BK330 := n0_
  have HB := n1_
  have BK335 := n2_
  have GW335 := n3_
  have GE335 := n4_
  have NB330_335 := n5_
  have NB335_330 := n6_
  clear n0_ n1_ n2_ n3_ n4_ n5_ n6_
  clear hb hbox hg
  refine hK.out _ _ ⟨((HB.out.cell (World.block_lt_of_cell? w _ hw331_0)).trans hw331_0), ((HB.out.cell (World.block_lt_of_cell? w _ hw332_0)).trans hw332_0), ((HB.out.cell (World.block_lt_of_cell? w _ hw333_0)).trans hw333_0), ((HB.out.cell (World.block_lt_of_cell? w _ hw334_0)).trans hw334_0)⟩ (fun hHeld => ?_)
  clear hK K
  refine norm_ (a' := ?_) ?_ ?_
  rotate_left
  · show Act.put _ (some 7) _ = _
    simp only [Act.put, List.setIfInBounds_toArray, List.set_cons_zero, List.set_cons_succ, i64_w, i32_w]
    rfl
  refine one_ (i := 15) (N := none) #[true, true, true, true, true, true, true, true, true, true, true, true, true, true, true, true] rfl rfl (one_of HT_.out (by kernel_rfl)) (by decide) (fun K hK => ?_)
  refine spec_shMade.step _ (by rfl) rfl (.tmp 7) (.tmp 21) rfl gb335 #[.int .i64 a0, .int .i64 (rd l1 0), .int .i64 (rd l1 1), .int .i64 (rd l1 2), .int .i64 (rd l1 3), .bool false] rfl rfl 25 _ BK335.out rfl rfl (by simp [Value.oneCell']) (fun w13 BX G1 => ?_)
  refine hK.out _ _ ⟨(spec_shMade.keep G1 hHeld.1 (by have z1 := World.block_lt_of_cell? _ _ hw331_0; have z2 := GW335.out; first | omega | (dsimp only at z1 ⊢; omega) | (dsimp only at z1; omega) | (dsimp only; omega))), (spec_shMade.keep G1 hHeld.2.1 (by have z1 := World.block_lt_of_cell? _ _ hw332_0; have z2 := GW335.out; first | omega | (dsimp only at z1 ⊢; omega) | (dsimp only at z1; omega) | (dsimp only; omega))), (spec_shMade.keep G1 hHeld.2.2.1 (by have z1 := World.block_lt_of_cell? _ _ hw333_0; have z2 := GW335.out; first | omega | (dsimp only at z1 ⊢; omega) | (dsimp only at z1; omega) | (dsimp only; omega))), (spec_shMade.keep G1 hHeld.2.2.2 (by have z1 := World.block_lt_of_cell? _ _ hw334_0; have z2 := GW335.out; first | omega | (dsimp only at z1 ⊢; omega) | (dsimp only at z1; omega) | (dsimp only; omega)))⟩ (fun _ => ?_)
  refine done_ (done_of HT_.out (by kernel_rfl)) ?_
  have BZ := blk_grown BK330.out G1 (by intro e; injection e with e; exact NB330_335.out e)
  have B1 := HB.out.grown G1 HB.out.size (fun j hj => by cases hj; exact GE335.out)
  have hle := GE330.out
  have hle5 := GE335.out
  have hne := NB330_335.out
  clear BK330 BK335 HB G1 hK hHeld HT_ HW_ GE330 GE335 GW330 GW335 NB330_335 NB335_330 p331 p332 p333 p334 q331 q332 q333 q334 qi331 qi332 qi333 qi334 hx331_0 hx332_0 hx333_0 hx334_0
  have c0 := blk_cell BX 0
  have c1' := blk_cell BX 1
  have c2 := blk_cell BX 2
  have c3 := blk_cell BX 3
  have c4 := blk_cell BX 4
  have c5 := blk_cell BX 5
  have f5 := blk_frozen BX 5
  have h := H.out
  clear H
  cases a2
  · simp only [Bool.false_eq_true, if_false, Option.some.injEq, Prod.mk.injEq] at h
    obtain ⟨rfl, rfl, rfl, rfl, rfl, rfl⟩ := h
    go_wp2_with (first | ((with_reducible refine gate_dst (N := 28) rfl ?_); refine wpList_load_row rfl 25 (.tmp 7) rfl gb335 rfl 25 #[.int .i64 a0, .int .i64 (rd l1 0), .int .i64 (rd l1 1), .int .i64 (rd l1 2), .int .i64 (rd l1 3), .bool false] (0, 0) _ (blk_put BX 5 _ rfl) hu_ rfl (by kernel_rfl) ?_) | ((with_reducible refine gate_store (t := 25) (p := 6) rfl ?_); refine spec_shMade.store _ rfl _ _ rfl gb330 #[.int .i64 a0, .int .i64 (rd l1 0), .int .i64 (rd l1 1), .int .i64 (rd l1 2), .int .i64 (rd l1 3), .bool false] rfl rfl _ _ (blk_far BZ hne _) rfl rfl (by simp [Value.oneCell']) ?_))
    intro w3 BZ2 G2
    have B3 := (below_set B1 hle5).grown G2 (below_set B1 hle5).size (fun j hj => by cases hj; exact hle)
    go_wp2
    refine bodyPost_ret (results_cell_row rfl _ _ gb330 25 #[.int .i64 a0, .int .i64 (rd l1 0), .int .i64 (rd l1 1), .int .i64 (rd l1 2), .int .i64 (rd l1 3), .bool false] (0, 0) _ rfl BZ2 hu_ rfl (by kernel_rfl)) rfl ?_
    exact ⟨rfl, B3⟩
  · rw [if_pos rfl] at h
    obtain ⟨q, hq, h⟩ := Option.bind_eq_some_iff.mp h
    simp only [Option.some.injEq, Prod.mk.injEq] at h
    obtain ⟨rfl, rfl, rfl, rfl, rfl, rfl⟩ := h
    go_wp2_with (first | (go_at_call 77; (with_reducible refine (spec_shWide.calls k a0 (rd l1 0) (rd l1 1) (rd l1 2) (rd l1 3) false q _ hq).mono ?_); rintro e w2 ⟨rfl, hb⟩; have BX1 := blk_below BX hb; have BZ1 := blk_below BZ hb; have B2 := below_step B1 hb; clear hb BX BZ B1 c0 c1' c2 c3 c4 c5 f5; have c0 := blk_cell BX1 0; have c1' := blk_cell BX1 1; have c2 := blk_cell BX1 2; have c3 := blk_cell BX1 3; have c4 := blk_cell BX1 4; have c5 := blk_cell BX1 5; have f5 := blk_frozen BX1 5) | ((with_reducible refine gate_dst (N := 28) rfl ?_); refine wpList_load_row rfl 25 (.tmp 7) rfl gb335 rfl 25 #[.int .i64 a0, .int .i64 (rd l1 0), .int .i64 (rd l1 1), .int .i64 (rd l1 2), .int .i64 (rd l1 3), .bool q] (0, 0) _ (blk_put BX1 5 _ rfl) hu_ rfl (by kernel_rfl) ?_) | ((with_reducible refine gate_store (t := 25) (p := 6) rfl ?_); refine spec_shMade.store _ rfl _ _ rfl gb330 #[.int .i64 a0, .int .i64 (rd l1 0), .int .i64 (rd l1 1), .int .i64 (rd l1 2), .int .i64 (rd l1 3), .bool q] rfl rfl _ _ (blk_far BZ1 hne _) rfl rfl (by simp [Value.oneCell']) ?_))
    intro w3 BZ2 G2
    have B3 := (below_set B2 hle5).grown G2 (below_set B2 hle5).size (fun j hj => by cases hj; exact hle)
    go_wp2
    refine bodyPost_ret (results_cell_row rfl _ _ gb330 25 #[.int .i64 a0, .int .i64 (rd l1 0), .int .i64 (rd l1 1), .int .i64 (rd l1 2), .int .i64 (rd l1 3), .bool q] (0, 0) _ rfl BZ2 hu_ rfl (by kernel_rfl)) rfl ?_
    exact ⟨rfl, B3⟩

end Go.Proofs.Ytaecjbhenknfkaa.FD
