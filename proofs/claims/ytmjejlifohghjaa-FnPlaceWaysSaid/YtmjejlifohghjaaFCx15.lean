-- laid by pr.py (wip/tools) over the kit's printer; Lean checks it
import Derived.Test.YtmjejlifohghjaaFCx0
import Derived.Test.YtmjejlifohghjaaFCx3
import Derived.Test.YtmjejlifohghjaaFCx11
import Derived.Test.YtmjejlifohghjaaFCx14
import Derived.Lib.Slices
namespace Go.Proofs.Ytmjejlifohghjaa.FC
open Go.RowKit Go.Proofs.YtmjejlifohghjaaW.PrintWords Go.Proofs.YtmjejlifohghjaaW.PrintLast Go.Proofs.YtmjejlifohghjaaW.PrintMore
attribute [local go_sem] max2_int min2_int max_two min_two max_three min_three max_four min_four   -- for this text's walks alone
set_option linter.unusedVariables false
set_option linter.unusedSimpArgs false

/-! ### impl_CommonPlace: function 36 -/
/-- How often each code comes. -/
def impl_CommonPlace.count : List S25 → List Int → Option (List Int)
  | [], cs => some cs
  | x :: xs, cs => (impl_Place_code.f x.f0 x.f1 x.f2).bind fun c => if 0 ≤ c ∧ c < 60 then impl_CommonPlace.count xs (cs.set c.toNat (wrap64 (rd cs c + 1))) else none
/-- The place with the most frequent code, if these are places. -/
def impl_CommonPlace.f (k : Nat) (l0 : List S25) : Option (Int × Int × Bool × Bool) := (impl_within.f (l0.length : Int) 1 40).bind fun t => if t = true then ((impl_allOf_Place.f l0).bind fun u => if u = true then ((impl_CommonPlace.count l0 (List.replicate 60 0)).bind fun cs => (slices_Index_int_int.f k cs (Lib.maxOf cs)).bind fun i => impl_PlaceOfCode.f i) else some (0, 0, false, false)) else some (0, 0, false, false)
theorem impl_CommonPlace.mono : ∀ a0 k, LeO (impl_CommonPlace.f k a0) (impl_CommonPlace.f (k + 1) a0) := by
  intro a0 k
  unfold impl_CommonPlace.f
  refine LeO.bind (LeO.refl _) (fun t => LeO.ite (LeO.bind (LeO.refl _) (fun u => LeO.ite (LeO.bind (LeO.refl _) (fun cs => LeO.bind (slices_Index_int_int.mono _ _ _) (fun _ => LeO.refl _))) (LeO.refl _))) (LeO.refl _))
theorem impl_CommonPlace.count_length : ∀ (l : List S25) (cs r : List Int), impl_CommonPlace.count l cs = some r → r.length = cs.length
  | [], cs, r, h => by cases h; rfl
  | x :: xs, cs, r, h => by
    rw [impl_CommonPlace.count] at h
    obtain ⟨c, -, h⟩ := Option.bind_eq_some_iff.mp h
    split at h
    · rw [impl_CommonPlace.count_length xs _ r h, List.length_set]
    · cases h
theorem impl_CommonPlace.goes1 (l : List S25) (x : Int) (cs r : List Int) (h0 : 0 ≤ x) (h1 : x < (l.length : Int)) (h : impl_CommonPlace.count (l.drop x.toNat) cs = some r) : ∃ c, impl_Place_code.f (rd_T25 l x).f0 (rd_T25 l x).f1 (rd_T25 l x).f2 = some c ∧ 0 ≤ c ∧ c < 60 ∧ impl_CommonPlace.count (l.drop (x + 1).toNat) (cs.set c.toNat (wrap64 (rd cs c + 1))) = some r := by
  have hl : x.toNat < l.length := by omega
  have e : l[x.toNat] = rd_T25 l x := by
    unfold rd_T25
    rw [List.getD_eq_getElem?_getD, List.getElem?_eq_getElem hl]; rfl
  rw [List.drop_eq_getElem_cons hl, e, impl_CommonPlace.count] at h
  obtain ⟨c, hc, h⟩ := Option.bind_eq_some_iff.mp h
  split at h
  · rename_i hq
    exact ⟨c, hc, hq.1, hq.2, by rwa [show (x + 1).toNat = x.toNat + 1 from by omega]⟩
  · cases h
theorem impl_CommonPlace.cell (cs : List Int) (c : Int) (h0 : 0 ≤ c) (h1 : c < (cs.length : Int)) : (cs.map (Value.int .i64)).toArray[c.toNat]? = some (.int .i64 (rd cs c)) := by
  simp [rd_getI h0 h1]
theorem impl_CommonPlace.reads {w : World} {g : Nat} {t : TypeId} {cs : List Int} (h : w.heap[g]? = some (.cells (cs.map (Value.int .i64)).toArray t (0, 0))) (hb : cs.length ≤ 9223372036854775807) : Kd.C (Kd.int .i64) w (some ⟨g, 0, none⟩) cs.length cs := by
  refine Kd.C_of_reads (d := 0) ⟨rfl, hb, fun _ => ⟨_, rfl, fun j hj => ?_⟩⟩
  rw [show (Addr.add ⟨g, 0, none⟩ j : Addr) = ⟨g, j, none⟩ from by by_cases h0 : j = 0 <;> simp [Addr.add, h0]]
  rw [blk_cell h j]
  simp [List.getD_eq_getElem?_getD, List.getElem?_eq_getElem hj]
theorem impl_CommonPlace.store (w : World) {ops : Array Oper} {rest : List Oper} {o : Oper} {a : Act} {Q : Exit → Act → World → Prop} (hg : o.guard = none) (x y : Operand) (hop : o.op = Op.store 25 x y) (g : Nat) (cells : Array Value)
    (hx : a.eval x = .pointer (some ⟨g, 0, none⟩)) (hy : a.eval y = .agg cells) (t : TypeId) (old : Array Value) (hb : w.heap[g]? = some (.cells old t (0, 0))) (hs : old.size = 3) (hc : cells.size = 3) (h1 : cells.all (·.oneCell') = true)
    (hK : ∀ w' : World, w'.heap[g]? = some (.cells cells t (0, 0)) → w.grownBy w' (some g) → wpList Try.prog ops Q rest (a.put o.dst undef) w') : wpList Try.prog ops Q (o :: rest) a w := by
  refine wpList_plain hg fun K' hK' => ?_
  refine wp_store_row _ x y hop g cells hx hy t old hb (by rw [hc]; kernel_rfl) (hs.trans hc.symm) h1 ?_
  exact hK' _ _ (hK _ (setRow_heap w g old cells t (0, 0) hb) ⟨rfl, rfl, rfl, by simp, fun i _ hi => setRow_other w g i cells (fun e => hi (by rw [e]))⟩)
theorem impl_CommonPlace.step (w : World) {ops : Array Oper} {o : Oper} {a : Act} {K : Act → World → Prop} {Q : Exit → Act → World → Prop} (hw : Region.wanted o (yielded ops a.tmps) = true) (hN : o.dst = none) (x y : Operand) (hop : o.op = Op.store 25 x y) (g : Nat) (cells : Array Value)
    (hx : a.eval x = .pointer (some ⟨g, 0, none⟩)) (hy : a.eval y = .agg cells) (t : TypeId) (old : Array Value) (hb : w.heap[g]? = some (.cells old t (0, 0))) (hs : old.size = 3) (hc : cells.size = 3) (h1 : cells.all (·.oneCell') = true)
    (hK : ∀ w' : World, w'.heap[g]? = some (.cells cells t (0, 0)) → w.grownBy w' (some g) → K a w') : if Region.wanted o (yielded ops a.tmps) = true then Oper.wp Try.prog o a w K Q else K (a.put none undef) w := by
  rw [if_pos hw]
  refine wp_store_row _ x y hop g cells hx hy t old hb (by rw [hc]; kernel_rfl) (hs.trans hc.symm) h1 ?_
  rw [hN]
  exact hK _ (setRow_heap w g old cells t (0, 0) hb) ⟨rfl, rfl, rfl, by simp, fun i _ hi => setRow_other w g i cells (fun e => hi (by rw [e]))⟩
def impl_CommonPlace.T9 : Bool × List (List Nat × List Nat) := (true, [([], []), ([], []), ([1], [1]), ([0, 2, 2], [0, 2]), ([3, 3], [3]), ([4], [4]), ([4], [4]), ([5, 4, 0, 1, 2, 3, 4, 5, 6], [5]), ([6, 7, 0, 1, 2, 3, 4, 5, 6, 7], [6])])
def impl_CommonPlace.B9 : List Nat := [0, 0, 2, 7, 15, 31, 31, 127, 255]
theorem impl_CommonPlace.tab9 : rtab .any (opsOf Try.f36 9) = impl_CommonPlace.T9 := by kernel_rfl
theorem impl_CommonPlace.bits9 : waitsOk impl_CommonPlace.T9.2 impl_CommonPlace.B9 = true := by kernel_rfl
set_option maxHeartbeats 2000000 in
set_option maxRecDepth 100000 in
theorem impl_CommonPlace.most (b n c : Nat) (zs : List Int) (w : World) (hn : 0 < n) (hz : n ≤ zs.length) (hbig : n ≤ 9223372036854775807) (hc : ∀ j, j < zs.length → w.cell? ⟨b, j, none⟩ = some (.int .i64 (zs.getD j 0))) :
    Calls Try.prog 58 #[.slice (some ⟨b, 0, none⟩) n c] w fun e w' => e = .returned (.int .i64 (Lib.maxOf (zs.take n))) ∧ w' = w := by
  have h0 : w.cell? ⟨b, 0, none⟩ = some (.int .i64 (zs.getD 0 0)) := hc 0 (by omega)
  go_enter Try.func58, Try.ntmps58
  go_wp2
  go_loop [3, 4] (fun m i => ∃ k : Nat, 0 < k ∧ k ≤ n ∧ i = .int .i64 k ∧ m = .int .i64 (Lib.maxOf (zs.take k))) (fun _ i => match i with | .int _ q => n - q.toNat | _ => 0)
  case atStart => exact ⟨1, Nat.one_pos, hn, rfl, by rw [Lib.maxOf_one]; simp [List.getD]⟩
  case round =>
    obtain ⟨k, hk0, hk, rfl, rfl⟩ := hrel
    have hcell : k < n → w.cell? ⟨b, k, none⟩ = some (.int .i64 (zs.getD k 0)) := fun _ => hc k (by omega)
    go_wp2
    · have hlt : k < n := by assumption
      refine ⟨⟨k + 1, Nat.succ_pos k, by omega, rfl, ?_⟩, ?_⟩
      rotate_left
      · show n - ((k : Int) + 1).toNat < n - (k : Int).toNat
        omega
      rw [Lib.maxOf_step zs k hk0 (by omega)]
      simp only [List.getD_eq_getElem?_getD]
      congr 1
      rw [Int.max_def]
      split <;> split <;> omega
    · have hge : ¬ k < n := by assumption
      have : k = n := by omega
      subst this
      go_ret
      exact ⟨rfl, rfl⟩
set_option maxHeartbeats 4000000 in
set_option maxRecDepth 100000 in
theorem impl_CommonPlace.out (A0 : Option Addr) (c0 : Nat) (l0 : List S25) (w : World) (hr0 : Kd.C k25 w A0 l0.length l0) (hc0 : l0.length ≤ c0) (ht : impl_within.f (l0.length : Int) 1 40 = some false) :
    Calls Try.prog 36 #[.slice A0 l0.length c0] w fun e w' => e = .returned (.tuple #[.agg #[.int .i64 0, .int .i64 0, .bool false], .bool false]) ∧ Below w.heap.size w w' := by
  have hu_ := Try.underlying25
  have HR := Aside0.mk hr0
  have HC := Aside0.mk hc0
  clear hr0 hc0
  go_enter Try.func36, Try.ntmps36
  go_wp2_with (first | ((with_reducible refine gate_dst (N := 2) rfl ?_); refine box_event ?hg (N := 2) ?hd (cs := #[.int .i64 0, .int .i64 0, .bool false]) (t := 25) ?hr ?_; (case hd => rfl); (case hg => rfl); (case hr => first | (go_simp; done) | (go_simp; rfl)); intro g2 hg2 w1 BZ1 hb1; have B1 := below_step (Below.refl w.heap.size w) hb1; have le2 : w.heap.size ≤ g2 := Nat.le_of_eq hg2.symm; clear hb1 hg2) | (go_at_call 45; (with_reducible refine (impl_within.calls (l0.length : Int) 1 40 false _ ht).mono ?_); rintro e w2 ⟨rfl, hd⟩; have hb := hd.below; have BZ2 := blk_below BZ1 hb; have B2 := below_step B1 hb; clear hb hd BZ1 B1) | ((with_reducible refine gate_store (t := 25) (p := 2) rfl ?_); refine impl_CommonPlace.store _ rfl _ _ rfl g2 #[.int .i64 0, .int .i64 0, .bool false] rfl rfl 25 _ BZ2 rfl rfl (by simp [Value.oneCell']) ?_))
  intro w9 BZ9 G9
  have B9 := (B2).grown G9 (B2).size (fun j hj => by cases hj; exact le2)
  go_wp2
  refine bodyPost_ret (results_ct rfl _ _ g2 _ #[.int .i64 0, .int .i64 0, .bool false] (0, 0) _ rfl BZ9 hu_ rfl (by kernel_rfl)) rfl ?_
  exact ⟨rfl, B9⟩
set_option maxHeartbeats 4000000 in
set_option maxRecDepth 100000 in
theorem impl_CommonPlace.never (A0 : Option Addr) (c0 : Nat) (l0 : List S25) (w : World) (hr0 : Kd.C k25 w A0 l0.length l0) (hc0 : l0.length ≤ c0) (ht : impl_within.f (l0.length : Int) 1 40 = some true) (hu : impl_allOf_Place.f l0 = some false) :
    Calls Try.prog 36 #[.slice A0 l0.length c0] w fun e w' => e = .returned (.tuple #[.agg #[.int .i64 0, .int .i64 0, .bool false], .bool false]) ∧ Below w.heap.size w w' := by
  have hu_ := Try.underlying25
  have HR := Aside0.mk hr0
  have HC := Aside0.mk hc0
  clear hr0 hc0
  go_enter Try.func36, Try.ntmps36
  go_wp2_with (first | ((with_reducible refine gate_dst (N := 2) rfl ?_); refine box_event ?hg (N := 2) ?hd (cs := #[.int .i64 0, .int .i64 0, .bool false]) (t := 25) ?hr ?_; (case hd => rfl); (case hg => rfl); (case hr => first | (go_simp; done) | (go_simp; rfl)); intro g2 hg2 w1 BZ1 hb1; have B1 := below_step (Below.refl w.heap.size w) hb1; have le2 : w.heap.size ≤ g2 := Nat.le_of_eq hg2.symm; clear hb1 hg2) | (go_at_call 45; (with_reducible refine (impl_within.calls (l0.length : Int) 1 40 true _ ht).mono ?_); rintro e w2 ⟨rfl, hd⟩; have hb := hd.below; have BZ2 := blk_below BZ1 hb; have B2 := below_step B1 hb; clear hb hd BZ1 B1) | (go_at_call 56; (with_reducible refine (impl_allOf_Place.calls A0 c0 l0 false _ (Kd.C_below HR.out B2) HC.out hu).mono ?_); rintro e w3 ⟨rfl, hb⟩; have BZ3 := blk_below BZ2 hb; have B3 := below_step B2 hb; clear hb BZ2 B2) | ((with_reducible refine gate_store (t := 25) (p := 2) rfl ?_); refine impl_CommonPlace.store _ rfl _ _ rfl g2 #[.int .i64 0, .int .i64 0, .bool false] rfl rfl 25 _ BZ3 rfl rfl (by simp [Value.oneCell']) ?_))
  intro w9 BZ9 G9
  have B9 := (B3).grown G9 (B3).size (fun j hj => by cases hj; exact le2)
  go_wp2
  refine bodyPost_ret (results_ct rfl _ _ g2 _ #[.int .i64 0, .int .i64 0, .bool false] (0, 0) _ rfl BZ9 hu_ rfl (by kernel_rfl)) rfl ?_
  exact ⟨rfl, B9⟩
set_option maxHeartbeats 8000000 in
set_option maxRecDepth 100000 in
theorem impl_CommonPlace.main (k : Nat) (A0 : Option Addr) (c0 : Nat) (l0 : List S25) (cs' : List Int) (i : Int) (r1 r2 : Int) (r3 r4 : Bool) (w : World) (hr0 : Kd.C k25 w A0 l0.length l0) (hc0 : l0.length ≤ c0) (ht : impl_within.f (l0.length : Int) 1 40 = some true) (hu : impl_allOf_Place.f l0 = some true)
    (hcn : impl_CommonPlace.count l0 (List.replicate 60 0) = some cs') (hix : slices_Index_int_int.f k cs' (Lib.maxOf cs') = some i) (hpl : impl_PlaceOfCode.f i = some (r1, r2, r3, r4)) :
    Calls Try.prog 36 #[.slice A0 l0.length c0] w fun e w' => e = .returned (.tuple #[.agg #[.int .i64 r1, .int .i64 r2, .bool r3], .bool r4]) ∧ Below w.heap.size w w' := by
  have hu_ := Try.underlying25
  have HR := Aside0.mk hr0
  have HC := Aside0.mk hc0
  have HL : Aside0 (l0.length ≤ 9223372036854775807) := ⟨hr0.2.1⟩
  have HN := Aside0.mk hcn
  have HI := Aside0.mk hix
  have HP := Aside0.mk hpl
  clear hr0 hc0 hcn hix hpl
  go_enter Try.func36, Try.ntmps36
  go_wp2_with (first | ((with_reducible refine gate_dst (N := 2) rfl ?_); refine box_event ?hg (N := 2) ?hd (cs := #[.int .i64 0, .int .i64 0, .bool false]) (t := 25) ?hr ?_; (case hd => rfl); (case hg => rfl); (case hr => first | (go_simp; done) | (go_simp; rfl)); intro g2 hg2 w1 BZ1 hb1; have B1 := below_step (Below.refl w.heap.size w) hb1; have le2 : w.heap.size ≤ g2 := Nat.le_of_eq hg2.symm; clear hb1 hg2) | (go_at_call 45; (with_reducible refine (impl_within.calls (l0.length : Int) 1 40 true _ ht).mono ?_); rintro e w2 ⟨rfl, hd⟩; have hb := hd.below; have BZ2 := blk_below BZ1 hb; have B2 := below_step B1 hb; clear hb hd BZ1 B1) | (go_at_call 56; (with_reducible refine (impl_allOf_Place.calls A0 c0 l0 true _ (Kd.C_below HR.out B2) HC.out hu).mono ?_); rintro e w3 ⟨rfl, hb⟩; have BZ3 := blk_below BZ2 hb; have B3 := below_step B2 hb; clear hb BZ2 B2) | ((with_reducible refine gate_dst (N := 4) rfl ?_); refine box_event ?hg (N := 4) ?hd (cs := ((List.replicate 60 (0 : Int)).map (Value.int .i64)).toArray) (t := 73) ?hr ?_; (case hd => rfl); (case hg => rfl); (case hr => first | (go_simp; done) | (go_simp; rfl)); intro g4 hg4 w4 BX4 hb4; have B4 := below_step B3 hb4; have BZ4 := blk_below BZ3 hb4; have n24 : g2 ≠ g4 := (by rw [hg4]; exact Nat.ne_of_lt (blk_lt BZ3)); have le4 : w.heap.size ≤ g4 := (by rw [hg4]; exact B3.size); clear hb4 hg4 B3 BZ3))
  clear ht hu
  have HB4 := Aside0.mk B4
  have HX4 := Aside0.mk BX4
  have HZ4 := Aside0.mk BZ4
  clear B4 BX4 BZ4
  go_loopg [19] l0.length (fun kq v19 w' => ∃ (x : Int) (cs : List Int), v19 = .int .i64 x ∧ Aside0 (0 ≤ x ∧ x + kq = l0.length ∧ cs.length = 60 ∧ impl_CommonPlace.count (l0.drop x.toNat) cs = some cs') ∧ Aside0 (w'.heap[g4]? = some (.cells (cs.map (Value.int .i64)).toArray 73 (0, 0))) ∧ Aside0 (w'.heap[g2]? = some (.cells #[.int .i64 0, .int .i64 0, .bool false] 25 (0, 0))) ∧ Aside0 (Below w.heap.size w w'))
  case atStart => exact ⟨0, List.replicate 60 0, rfl, ⟨by omega, by omega, by simp, HN.out⟩, HX4, HZ4, HB4⟩
  case round =>
    clear HX4 HZ4 HB4 HN
    obtain ⟨x, cs, rfl, HA, HX, HZ, HB⟩ := hrel
    by_cases hlt : x < (l0.length : Int)
    · have p0 : 0 ≤ x := HA.out.1
      obtain ⟨ad, hA, hx0, hx1, hx2⟩ := at_T25 (Kd.C_below HR.out HB.out) x p0 hlt
      cases hA
      obtain ⟨c, hc, hc0, hc60, hcnt⟩ := impl_CommonPlace.goes1 l0 x cs cs' p0 hlt HA.out.2.2.2
      have HW : Aside0 (wrap64 (x + 1) = x + 1) := ⟨wrap_up p0 hlt HL.out⟩
      have HQ := Aside0.mk hcnt
      have HCc := Aside0.mk hc
      have HC0 := Aside0.mk hc0
      have HC6 := Aside0.mk hc60
      have hd : decide (x < (l0.length : Int)) = true := decide_eq_true hlt
      have hd1 : (0 ≤ c) = True := eq_true hc0
      have hd2 : (c < 60) = True := eq_true hc60
      replace p0 := eq_true p0
      replace hlt := eq_true hlt
      clear hcnt hc hc0 hc60
      go_wp2_with (first | ((with_reducible refine gate_dst (N := 6) rfl ?_); refine box_event ?hg (N := 6) ?hd (cs := #[.int .i64 0, .int .i64 0, .bool false]) (t := 25) ?hr ?_; (case hd => rfl); (case hg => rfl); (case hr => first | (go_simp; done) | (go_simp; rfl)); intro g6 hg6 w7 BP hb7; have B7 := below_step HB.out hb7; have BX7 := blk_below HX.out hb7; have BZ7 := blk_below HZ.out hb7; have n46 : g4 ≠ g6 := (by rw [hg6]; exact Nat.ne_of_lt (blk_lt HX.out)); have n26 : g2 ≠ g6 := (by rw [hg6]; exact Nat.ne_of_lt (blk_lt HZ.out)); have le6 : w.heap.size ≤ g6 := (by rw [hg6]; exact HB.out.size); clear hb7 hg6) | ((with_reducible refine gate_store (t := 25) (p := 6) rfl ?_); refine impl_CommonPlace.store _ rfl _ _ rfl g6 #[.int .i64 (rd_T25 l0 x).f0, .int .i64 (rd_T25 l0 x).f1, .bool (rd_T25 l0 x).f2] rfl rfl 25 _ BP rfl rfl (by simp [Value.oneCell']) ?_))
      intro w8 BP8 G8
      have BX8 := blk_grown BX7 G8 (by intro e; injection e with e; exact n46 e)
      have BZ8 := blk_grown BZ7 G8 (by intro e; injection e with e; exact n26 e)
      have B8 := B7.grown G8 B7.size (fun j hj => by cases hj; exact le6)
      clear G8 BX7 BZ7 B7 BP hx0 hx1 hx2
      go_wp2_with (first | ((with_reducible refine gate_dst (N := 23) rfl ?_); refine wpList_load_row rfl 25 (.tmp 6) rfl g6 rfl 25 #[.int .i64 (rd_T25 l0 x).f0, .int .i64 (rd_T25 l0 x).f1, .bool (rd_T25 l0 x).f2] (0, 0) _ BP8 hu_ rfl (by kernel_rfl) ?_) | (go_at_call 47; (with_reducible refine (impl_Place_code.calls (rd_T25 l0 x).f0 (rd_T25 l0 x).f1 (rd_T25 l0 x).f2 c _ HCc.out).mono ?_); rintro e w9 ⟨rfl, hb⟩; have BX9 := blk_below BX8 hb; have BZ9 := blk_below BZ8 hb; have B9 := below_step B8 hb; clear hb BX8 BZ8 B8 BP8; have hcl := (blk_cell BX9 c.toNat).trans (impl_CommonPlace.cell cs c HC0.out (by rw [HA.out.2.2.1]; exact HC6.out)); have hfr := blk_frozen BX9 c.toNat))
      go_roundg (gk - 1)
      case measure => have := HA.out.2.1; have := of_eq_true hlt; omega
      case rel => exact ⟨wrap64 (x + 1), cs.set c.toNat (wrap64 (rd cs c + 1)), rfl, ⟨by rw [HW.out]; have := HA.out.1; omega, by rw [HW.out]; have := HA.out.2.1; have := of_eq_true hlt; omega, by rw [List.length_set]; exact HA.out.2.2.1, by rw [HW.out]; exact HQ.out⟩, ⟨blk_put BX9 c.toNat _ (by simp [List.map_set])⟩, ⟨blk_far BZ9 n24 _⟩, ⟨below_set B9 le4⟩⟩
    · have hd : decide (x < (l0.length : Int)) = false := decide_eq_false hlt
      have e : cs = cs' := by
        have h := HA.out.2.2.2
        rw [List.drop_eq_nil_of_le (by omega)] at h
        exact Option.some.inj h
      have h60 := HA.out.2.2.1
      subst e
      clear HA hlt
      go_wp2
      refine start_ (n := 9) (S := fun _ => True) (ds := []) #[false, false, false, false, false, false, false, false, false] (by kernel_rfl) rfl rfl trivial (fun _ => ?_); refine with_tabW impl_CommonPlace.tab9 impl_CommonPlace.bits9 (fun HT_ HW_ => ?_)
      have BX := blk_drew HX.out
      have BZ := blk_drew HZ.out
      have B := below_drew1 HB.out
      clear HX HZ HB
      generalize wr.drew = w11 at BX BZ B ⊢
      have e60 : cs.take 60 = cs := List.take_of_length_le (by omega)
      have hcl : ∀ j, j < cs.length → w11.cell? ⟨g4, j, none⟩ = some (.int .i64 (cs.getD j 0)) := fun j hj => by rw [blk_cell BX j]; simp [List.getD_eq_getElem?_getD, List.getElem?_eq_getElem hj]
      have hIx := fun W (hW : Kd.C (Kd.int .i64) W (some ⟨g4, 0, none⟩) cs.length cs) => slices_Index_int_int.calls k (some ⟨g4, 0, none⟩) 60 cs (Lib.maxOf cs) i W hW (by omega) HI.out
      have hRd := fun (W : World) (hW : W.heap[g4]? = some (.cells (cs.map (Value.int .i64)).toArray 73 (0, 0))) => impl_CommonPlace.reads hW (by omega)
      refine pure_ (i := 0) (N := some 30) (v := ?_) (a' := ?_) #[true, false, false, false, false, false, false, false, false] rfl rfl (any_of HT_.out (by kernel_rfl)) (fun _ _ _ h => h) (Or.inl ⟨by rfl, ?_⟩) ?_ ?_
      rotate_left
      · intro w'
        go_simp
        with_reducible rfl
      rotate_left
      · simp only [Act.put, List.setIfInBounds_toArray, List.set_cons_zero, List.set_cons_succ, i64_w, i32_w]
        rfl
      refine pure_ (i := 1) (N := some 31) (v := ?_) (a' := ?_) #[true, true, false, false, false, false, false, false, false] rfl rfl (any_of HT_.out (by kernel_rfl)) (fun _ _ _ h => h) (Or.inl ⟨by rfl, ?_⟩) ?_ ?_
      rotate_left
      · intro w'
        go_simp
        with_reducible rfl
      rotate_left
      · simp only [Act.put, List.setIfInBounds_toArray, List.set_cons_zero, List.set_cons_succ, i64_w, i32_w]
        rfl
      refine one_ (i := 2) (N := some 32) #[true, true, true, false, false, false, false, false, false] rfl rfl (one_of HT_.out (by kernel_rfl)) (by decide) (fun K hK => ?_)
      refine goes_ Try.func58 (by kernel_rfl) rfl #[.slice (some ⟨g4, 0, none⟩) 60 60] (by rfl) rfl rfl (by (try simp only [List.map_toArray, List.map_cons, List.map_nil]); first | done | rfl) ?_
      refine (impl_CommonPlace.most g4 60 60 cs w11 (by omega) (by omega) (by omega) hcl).mono ?_
      rintro e w12 ⟨rfl, hw⟩
      refine ⟨_, rfl, ?_⟩
      subst hw
      rw [e60]
      clear hcl
      refine hK.out _ _ trivial (fun _ => ?_)
      clear hK K
      refine norm_ (a' := ?_) ?_ ?_
      rotate_left
      · show Act.put _ (some 32) _ = _
        simp only [Act.put, List.setIfInBounds_toArray, List.set_cons_zero, List.set_cons_succ, i64_w, i32_w]
        rfl
      refine one_ (i := 3) (N := some 33) #[true, true, true, true, false, false, false, false, false] rfl rfl (one_of HT_.out (by kernel_rfl)) (by decide) (fun K hK => ?_)
      refine goes_ Try.func57 (by kernel_rfl) rfl #[.slice (some ⟨g4, 0, none⟩) 60 60, .int .i64 (Lib.maxOf cs)] (by rfl) rfl rfl (by (try simp only [List.map_toArray, List.map_cons, List.map_nil]); first | done | rfl) ?_
      refine (show Calls Try.prog 57 #[.slice (some ⟨g4, 0, none⟩) 60 60, .int .i64 (Lib.maxOf cs)] _ _ from by have h := hIx _ (hRd _ BX); rw [h60] at h; exact h).mono ?_
      rintro e w13 ⟨rfl, hd⟩
      refine ⟨_, rfl, ?_⟩
      have hb := hd.below
      have BZ13 := blk_below BZ hb
      have B13 := below_step B hb
      clear hb hd BZ B BX hIx hRd
      refine hK.out _ _ trivial (fun _ => ?_)
      clear hK K
      refine norm_ (a' := ?_) ?_ ?_
      rotate_left
      · show Act.put _ (some 33) _ = _
        simp only [Act.put, List.setIfInBounds_toArray, List.set_cons_zero, List.set_cons_succ, i64_w, i32_w]
        rfl
      refine one_ (i := 4) (N := some 34) #[true, true, true, true, true, false, false, false, false] rfl rfl (one_of HT_.out (by kernel_rfl)) (by decide) (fun K hK => ?_)
      refine goes_ Try.func25 (by kernel_rfl) rfl #[.int .i64 i] (by rfl) rfl rfl (by (try simp only [List.map_toArray, List.map_cons, List.map_nil]); first | done | rfl) ?_
      refine (impl_PlaceOfCode.calls i r1 r2 r3 r4 _ HP.out).mono ?_
      rintro e w14 ⟨rfl, hb⟩
      refine ⟨_, rfl, ?_⟩
      have BZ14 := blk_below BZ13 hb
      have B14 := below_step B13 hb
      clear hb BZ13 B13
      refine hK.out _ _ trivial (fun _ => ?_)
      clear hK K
      refine norm_ (a' := ?_) ?_ ?_
      rotate_left
      · show Act.put _ (some 34) _ = _
        simp only [Act.put, List.setIfInBounds_toArray, List.set_cons_zero, List.set_cons_succ, i64_w, i32_w]
        rfl
      refine pure_ (i := 5) (N := some 35) (v := ?_) (a' := ?_) #[true, true, true, true, true, true, false, false, false] rfl rfl (any_of HT_.out (by kernel_rfl)) (fun _ _ _ h => h) (Or.inl ⟨by rfl, ?_⟩) ?_ ?_
      rotate_left
      · intro w'
        go_simp
        with_reducible rfl
      rotate_left
      · simp only [Act.put, List.setIfInBounds_toArray, List.set_cons_zero, List.set_cons_succ, i64_w, i32_w]
        rfl
      refine pure_ (i := 6) (N := some 36) (v := ?_) (a' := ?_) #[true, true, true, true, true, true, true, false, false] rfl rfl (any_of HT_.out (by kernel_rfl)) (fun _ _ _ h => h) (Or.inl ⟨by rfl, ?_⟩) ?_ ?_
      rotate_left
      · intro w'
        go_simp
        with_reducible rfl
      rotate_left
      · simp only [Act.put, List.setIfInBounds_toArray, List.set_cons_zero, List.set_cons_succ, i64_w, i32_w]
        rfl
      refine one_ (i := 7) (N := none) #[true, true, true, true, true, true, true, true, false] rfl rfl (one_of HT_.out (by kernel_rfl)) (by decide) (fun K hK => ?_)
      refine impl_CommonPlace.step _ (by rfl) rfl (.tmp 2) (.tmp 35) rfl g2 #[.int .i64 r1, .int .i64 r2, .bool r3] rfl rfl 25 _ BZ14 rfl rfl (by simp [Value.oneCell']) (fun w15 BZ15 G15 => ?_)
      refine hK.out _ _ trivial (fun _ => ?_)
      clear hK K
      have B15 := B14.grown G15 B14.size (fun j hj => by cases hj; exact le2)
      refine pure_ (i := 8) (N := some 3) (v := ?_) (a' := ?_) #[true, true, true, true, true, true, true, true, true] rfl rfl (any_of HT_.out (by kernel_rfl)) (fun _ _ _ h => h) (Or.inl ⟨by rfl, ?_⟩) ?_ ?_
      rotate_left
      · intro w'
        go_simp
        with_reducible rfl
      rotate_left
      · simp only [Act.put, List.setIfInBounds_toArray, List.set_cons_zero, List.set_cons_succ, i64_w, i32_w]
        rfl
      refine done_ (done_of HT_.out (by kernel_rfl)) ?_
      go_wp2
      refine bodyPost_ret (results_ct rfl _ _ g2 _ #[.int .i64 r1, .int .i64 r2, .bool r3] (0, 0) _ rfl BZ15 hu_ rfl (by kernel_rfl)) rfl ?_
      exact ⟨rfl, B15⟩
theorem impl_CommonPlace.calls (k : Nat) (A0 : Option Addr) (c0 : Nat) (l0 : List S25) (r1 r2 : Int) (r3 r4 : Bool) (w : World) (hr0 : Kd.C k25 w A0 l0.length l0) (hc0 : l0.length ≤ c0) (h : impl_CommonPlace.f k l0 = some (r1, r2, r3, r4)) :
    Calls Try.prog 36 #[.slice A0 l0.length c0] w fun e w' => e = .returned (.tuple #[.agg #[.int .i64 r1, .int .i64 r2, .bool r3], .bool r4]) ∧ Below w.heap.size w w' := by
  unfold impl_CommonPlace.f at h
  obtain ⟨t, ht, h⟩ := Option.bind_eq_some_iff.mp h
  cases t
  · rw [if_neg (by decide)] at h
    simp only [Option.some.injEq, Prod.mk.injEq] at h
    obtain ⟨rfl, rfl, rfl, rfl⟩ := h
    exact impl_CommonPlace.out A0 c0 l0 w hr0 hc0 ht
  · rw [if_pos rfl] at h
    obtain ⟨u, hu, h⟩ := Option.bind_eq_some_iff.mp h
    cases u
    · rw [if_neg (by decide)] at h
      simp only [Option.some.injEq, Prod.mk.injEq] at h
      obtain ⟨rfl, rfl, rfl, rfl⟩ := h
      exact impl_CommonPlace.never A0 c0 l0 w hr0 hc0 ht hu
    · rw [if_pos rfl] at h
      obtain ⟨cs, hcn, h⟩ := Option.bind_eq_some_iff.mp h
      obtain ⟨i, hi, h⟩ := Option.bind_eq_some_iff.mp h
      exact impl_CommonPlace.main k A0 c0 l0 cs i r1 r2 r3 r4 w hr0 hc0 ht hu hcn hi h

end Go.Proofs.Ytmjejlifohghjaa.FC
