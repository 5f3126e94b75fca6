-- laid by pr.py (wip/tools) over the kit's printer; Lean checks it
import Derived.Test.YtkhaofalaikegaaFFx0
import Derived.Test.YtkhaofalaikegaaFFx3
import Derived.Test.YtkhaofalaikegaaFFx4
import Derived.Test.YtkhaofalaikegaaFFx5
import Derived.Laws.IdiomStrings
import Derived.Lib.ConvBytes
namespace Go.Proofs.Ytkhaofalaikegaa.FF
open Go.RowKit Go.Proofs.YtkhaofalaikegaaW.PrintWords Go.Proofs.YtkhaofalaikegaaW.PrintLast Go.Proofs.YtkhaofalaikegaaW.PrintMore
attribute [local go_sem] max2_int min2_int max_two min_two max_three min_three max_four min_four   -- for this text's walks alone
set_option linter.unusedVariables false
set_option linter.unusedSimpArgs false

/-! ### impl_ReverseMove: function 19 -/
/-- A string's bytes. -/
def impl_ReverseMove.bytes (s : ByteArray) : List Int := s.data.toList.map fun b => (b.toNat : Int)
/-- The string of some bytes. -/
def impl_ReverseMove.text (l : List Int) : ByteArray := ⟨(l.map fun x => x.toNat.toUInt8).toArray⟩
/-- Is this a letter of a direction? -/
def impl_ReverseMove.valid (b : Int) : Bool := b == 117 || (b == 100 || (b == 108 || (b == 114 || (b == 102 || b == 98))))
/-- The letter of the opposite direction. -/
def impl_ReverseMove.flip (b : Int) : Int := if b = 117 then 100 else if b = 100 then 117 else if b = 108 then 114 else if b = 114 then 108 else if b = 102 then 98 else 102
/-- The steps back, if this is a movement. -/
def impl_ReverseMove.f (k : Nat) (a0_0 : ByteArray) (a0_1 : Int) : Option (ByteArray × Int × Bool) := (impl_IsMove.f k a0_0 a0_1).bind fun t => if t = true then ((slices_Reverse_byte_byte.f k (impl_ReverseMove.bytes a0_0)).bind fun r => if r.all impl_ReverseMove.valid = true ∧ r.length = a0_0.size ∧ a0_0.size ≤ 6 then some (impl_ReverseMove.text (r.map impl_ReverseMove.flip), a0_1, true) else none) else some ((⟨#[]⟩ : ByteArray), 0, false)
theorem impl_ReverseMove.mono : ∀ a0 a1 k, LeO (impl_ReverseMove.f k a0 a1) (impl_ReverseMove.f (k + 1) a0 a1) := by
  intro a0 a1 k
  unfold impl_ReverseMove.f
  exact LeO.bind (impl_IsMove.mono _ _ _) (fun t => LeO.ite (LeO.bind (slices_Reverse_byte_byte.mono _ _) (fun _ => LeO.refl _)) (LeO.refl _))
theorem impl_ReverseMove.valid_iff {b : Int} (h : impl_ReverseMove.valid b = true) : b = 117 ∨ b = 100 ∨ b = 108 ∨ b = 114 ∨ b = 102 ∨ b = 98 := by
  unfold impl_ReverseMove.valid at h
  simpa only [Bool.or_eq_true, beq_iff_eq] using h
/-- These bytes stand in this block. -/
def impl_ReverseMove.Hold (g : Nat) (w : World) (L : List Int) : Prop := ∃ (cells : Array Value) (e : TypeId) (fr : Nat × Nat), w.heap[g]? = some (.cells cells e fr) ∧ L.length ≤ fr.1 ∧ ∀ (j : Nat) (x : Int), L[j]? = some x → cells[j]? = some (.int .u8 x)
theorem impl_ReverseMove.cell {g : Nat} {w : World} {L : List Int} (h : impl_ReverseMove.Hold g w L) (x : Int) (h0 : 0 ≤ x) (h1 : x < (L.length : Int)) : w.cell? ⟨g, x.toNat, none⟩ = some (.int .u8 (rd L x)) := by
  obtain ⟨cells, e, fr, hh, -, hc⟩ := h
  rw [cell_of_row w g x.toNat cells e fr hh]
  exact hc _ _ (rd_getI h0 h1)
theorem impl_ReverseMove.free {g : Nat} {w : World} {L : List Int} (h : impl_ReverseMove.Hold g w L) (x : Int) (h0 : 0 ≤ x) (h1 : x < (L.length : Int)) : w.frozen? ⟨g, x.toNat, none⟩ = false := by
  obtain ⟨cells, e, ⟨lo, hi⟩, hh, hl, -⟩ := h
  simp only [World.frozen?, hh]
  have : ¬ lo ≤ x.toNat := by simp only at hl; omega
  simp [this]
theorem impl_ReverseMove.put {g : Nat} {w : World} {L : List Int} (h : impl_ReverseMove.Hold g w L) (i : Nat) (v : Int) : impl_ReverseMove.Hold g (w.setCell ⟨g, i, none⟩ (.int .u8 v)) (L.set i v) := by
  obtain ⟨cells, e, fr, hh, hl, hc⟩ := h
  refine ⟨cells.setIfInBounds i (.int .u8 v), e, fr, ?_, by rw [List.length_set]; exact hl, fun j x hx => ?_⟩
  · simp [World.setCell, Array.getElem?_modify, hh]
  · by_cases e : i = j
    · subst e
      have hlt : i < L.length := by
        have := (List.getElem?_eq_some_iff.1 hx).1
        simpa using this
      rw [List.getElem?_set_self hlt] at hx
      obtain rfl := Option.some.inj hx
      have h2 := hc i L[i] (List.getElem?_eq_getElem hlt)
      have h3 : i < cells.size := (Array.getElem?_eq_some_iff.1 h2).1
      simp [h3]
    · rw [List.getElem?_set_ne e] at hx
      rw [Array.getElem?_setIfInBounds_ne e]
      exact hc j x hx
theorem impl_ReverseMove.same {g : Nat} {w w' : World} {L : List Int} (h : impl_ReverseMove.Hold g w L) (e : w'.heap[g]? = w.heap[g]?) : impl_ReverseMove.Hold g w' L := by
  obtain ⟨cells, e', fr, hh, hl, hc⟩ := h
  exact ⟨cells, e', fr, e.trans hh, hl, hc⟩
theorem impl_ReverseMove.conv (w : World) {ops : Array Oper} {rest : List Oper} {o : Oper} {a : Act} {Q : Exit → Act → World → Prop} (hg : o.guard = none) (x : Operand) (hop : o.op = Op.convert 9 96 x) (s : ByteArray) (hx : a.eval x = .string s)
    (hK : ∀ (g c : Nat) (w' : World), g = w.heap.size → impl_ReverseMove.Hold g w' (impl_ReverseMove.bytes s) → Below w.heap.size w w' → wpList Try.prog ops Q rest (a.put o.dst (.slice (some ⟨g, 0, none⟩) s.size c)) w') : wpList Try.prog ops Q (o :: rest) a w := by
  have hrun := Lib.run_convert_string_bytes (P := Try.prog) w 9 96 5 s (u := .string) (by kernel_rfl) (by kernel_rfl) (by kernel_rfl)
  refine Kd.event_run hg (v := .slice (some ⟨w.heap.size, 0, none⟩) s.size (grownCap w s.size 0 5)) (w1 := Lib.bytesWorld w 5 s) ?_ (hK _ _ _ rfl ?_ ?_)
  · unfold execOp
    simp [hop, hx, hrun, Result.andThen]
  · refine ⟨_, _, _, Lib.bytesWorld_at_new w _ s, ?_, fun j y hy => ?_⟩
    · simp [impl_ReverseMove.bytes, Lib.bytesCells]
    · unfold impl_ReverseMove.bytes at hy
      rw [List.getElem?_map] at hy
      obtain ⟨b, hb, rfl⟩ := Option.map_eq_some_iff.1 hy
      have hlt : j < s.data.size := by
        have := (List.getElem?_eq_some_iff.1 hb).1
        simpa using this
      rw [Lib.bytesCells, Array.getElem?_append, if_pos (by simpa using hlt), Array.getElem?_map]
      have : s.data[j]? = some b := by simpa using hb
      rw [this]; rfl
  · exact ⟨rfl, rfl, rfl, by rw [Lib.bytesWorld_size]; omega, fun j hj => Lib.bytesWorld_at_old w _ s j hj⟩
theorem impl_ReverseMove.back (w : World) {ops : Array Oper} {rest : List Oper} {o : Oper} {a : Act} {Q : Exit → Act → World → Prop} (hg : o.guard = none) (x : Operand) (hop : o.op = Op.convert 96 9 x) (g n c : Nat) (L : List Int) (hx : a.eval x = .slice (some ⟨g, 0, none⟩) n c) (hn : L.length = n) (hh : impl_ReverseMove.Hold g w L) (hb : ∀ v ∈ L, 0 ≤ v ∧ v ≤ 255)
    (hK : wpList Try.prog ops Q rest (a.put o.dst (.string (impl_ReverseMove.text L))) w) : wpList Try.prog ops Q (o :: rest) a w := by
  have hrun := run_convert_bytes_back (P := Try.prog) w 96 9 5 ⟨g, 0, none⟩ c (L.map fun x => x.toNat.toUInt8) (by kernel_rfl) (by kernel_rfl) (by kernel_rfl) (fun j hj => by
    rw [List.length_map] at hj
    have hc := impl_ReverseMove.cell hh (j : Int) (by omega) (by omega)
    rw [show (Addr.add ⟨g, 0, none⟩ j : Addr) = ⟨g, j, none⟩ from by by_cases h0 : j = 0 <;> simp [Addr.add, h0]]
    rw [Int.toNat_natCast] at hc
    rw [hc]
    have hr : rd L (j : Int) = L[j] := by
      have := rd_getI (xs := L) (x := (j : Int)) (by omega) (by omega)
      rw [Int.toNat_natCast, List.getElem?_eq_getElem hj] at this
      exact (Option.some.inj this).symm
    obtain ⟨h1, h2⟩ := hb L[j] (List.getElem_mem _)
    rw [hr, List.getElem_map]
    congr 2
    simp only [Nat.toUInt8, UInt8.toNat_ofNat']
    omega)
  rw [List.length_map, hn] at hrun
  refine Kd.event_run hg (v := .string (impl_ReverseMove.text L)) (w1 := w) ?_ hK
  unfold execOp
  simp [hop, hx, hrun, Result.andThen, impl_ReverseMove.text]
set_option maxHeartbeats 8000000 in
set_option maxRecDepth 100000 in
theorem impl_ReverseMove.rev (k g c2 : Nat) (l0 r : List Int) (w0 w : World) (hB : Below w0.heap.size w0 w) (hg : w0.heap.size ≤ g) (hh : impl_ReverseMove.Hold g w l0) (hlen : l0.length ≤ 6) (h : slices_Reverse_byte_byte.f k l0 = some r) :
    Calls Try.prog 61 #[.slice (some ⟨g, 0, none⟩) l0.length c2] w fun e w' => e = .returned (.tuple #[]) ∧ impl_ReverseMove.Hold g w' r ∧ (∀ q, q ≠ g → w'.heap[q]? = w.heap[q]?) ∧ Below w0.heap.size w0 w' := by
  have HO0 := Aside0.mk hh
  have HGE := Aside0.mk hg
  have HLE := Aside0.mk hlen
  have HK : Aside0 (∀ q, q ≠ g → w.heap[q]? = w.heap[q]?) := ⟨fun _ _ => rfl⟩
  have HB := Aside0.mk hB
  clear hB hh hg hlen
  have H' : Aside0 ((slices_Reverse_byte_byte.l0 k l0 0 (wrap64 ((l0.length : Int) - 1))) = some r) := ⟨h⟩
  clear h
  go_enter Try.func61, Try.ntmps61
  go_wp2
  go_loopg [2, 3] k (fun kq v2 v3 w' => ∃ (x0_1 : List Int) (x2_1 : Int) (x3_1 : Int), v2 = .int .i64 x2_1 ∧ v3 = .int .i64 x3_1 ∧ Aside0 (slices_Reverse_byte_byte.l0 kq x0_1 x2_1 x3_1 = some r) ∧ Aside0 (kq ≤ k) ∧ Aside0 (x0_1.length = l0.length ∧ impl_ReverseMove.Hold g w' x0_1) ∧ Aside0 (∀ q, q ≠ g → w'.heap[q]? = w.heap[q]?) ∧ Aside0 (Below w0.heap.size w0 w'))
  case atStart => exact ⟨(l0), (0), (wrap64 ((l0.length : Int) - 1)), (by first | rfl | (simp; done) | (simp [*]; done)), (by first | rfl | (simp; done) | (simp [*]; done)), H', ⟨Nat.le_refl _⟩, ⟨rfl, HO0.out⟩, ⟨fun _ _ => rfl⟩, HB⟩
  case round =>
    clear H' HK HB
    obtain ⟨x0_1, x2_1, x3_1, rfl, rfl, HA, HK1, HO_0, HK, HB⟩ := hrel
    cases gk with
    | zero => exact absurd HA.out (by simp [slices_Reverse_byte_byte.l0])
    | succ k1 =>
      have H := HA.out
      clear HA
      simp only [slices_Reverse_byte_byte.l0] at H
      by_cases c3 : x2_1 < x3_1
      · rw [if_pos c3] at H
        have c3b0 : decide (x2_1 < x3_1) = true := decide_eq_true c3
        by_cases c4 : 0 ≤ x3_1
        · rw [if_pos c4] at H
          by_cases c5 : x3_1 < (x0_1.length : Int)
          · rw [if_pos c5] at H
            by_cases c6 : 0 ≤ x2_1
            · rw [if_pos c6] at H
              by_cases c7 : x2_1 < (x0_1.length : Int)
              · rw [if_pos c7] at H
                have H' := Aside0.mk H
                clear H
                have hlq := HO_0.out.1
                have HO_0 := Aside0.mk HO_0.out.2
                have p134 : (0 ≤ x3_1) = True := eq_true c4
                have q134 : (x3_1 < (l0.length : Int)) = True := eq_true (by omega)
                have p135 : (0 ≤ x2_1) = True := eq_true c6
                have q135 : (x2_1 < (l0.length : Int)) = True := eq_true (by omega)
                have hx134_0 := impl_ReverseMove.cell (impl_ReverseMove.same (w' := wr.drew) HO_0.out rfl) x3_1 c4 c5
                have hx135_0 := impl_ReverseMove.cell (impl_ReverseMove.same (w' := wr.drew) HO_0.out rfl) x2_1 c6 c7
                have hx8_0 := hx135_0
                have hf8_0 := impl_ReverseMove.free (impl_ReverseMove.same (w' := wr.drew) HO_0.out rfl) x2_1 c6 c7
                have HQ11 := Aside0.mk (impl_ReverseMove.put (impl_ReverseMove.same (w' := wr.drew) HO_0.out rfl) x2_1.toNat (rd x0_1 x3_1))
                have hx9_0 := impl_ReverseMove.cell HQ11.out x3_1 c4 (by rw [List.length_set]; exact c5)
                have hf9_0 := impl_ReverseMove.free HQ11.out x3_1 c4 (by rw [List.length_set]; exact c5)
                have HQ12 := Aside0.mk (impl_ReverseMove.put HQ11.out x3_1.toNat (rd x0_1 x2_1))
                have HK := Aside0.mk (show ∀ q, q ≠ g → wr.drew.heap[q]? = w.heap[q]? from HK.out)
                have HB := Aside0.mk (below_drew1 HB.out)
                have HLQ := Aside0.mk hlq
                clear c3 c4 c5 c6 c7 hlq
                try go_wp2
                refine start_ (n := 16) (S := fun w' => w'.cell? ⟨g, (x3_1).toNat, none⟩ = some (.int .u8 (rd x0_1 x3_1)) ∧ w'.cell? ⟨g, (x2_1).toNat, none⟩ = some (.int .u8 (rd x0_1 x2_1))) (ds := [13, 15]) #[false, false, false, false, false, false, false, false, false, false, false, false, false, false, false, false] (by kernel_rfl) rfl rfl ⟨hx134_0, hx135_0⟩ (fun hHeld => ?_); refine with_tabW slices_Reverse_byte_byte.tab3 slices_Reverse_byte_byte.bits3 (fun HT_ HW_ => ?_)
                generalize wr.drew = w10 at HO_0 HK HB HQ11 HQ12 hf8_0 hf9_0 hx134_0 hx135_0 hx8_0 hx9_0 hHeld ⊢
                refine pure_ (i := 0) (N := some 14) (v := ?_) (a' := ?_) #[true, false, false, false, false, false, false, false, false, false, false, false, false, false, false, false] rfl rfl (any_of HT_.out (by kernel_rfl)) (fun _ _ _ h => h) (Or.inl ⟨by rfl, ?_⟩) ?_ ?_
                rotate_left
                · intro w'
                  go_simp
                  with_reducible rfl
                rotate_left
                · simp only [Act.put, List.setIfInBounds_toArray, List.set_cons_zero, List.set_cons_succ, i64_w, i32_w]
                  rfl
                refine pure_ (i := 1) (N := some 15) (v := ?_) (a' := ?_) #[true, true, false, false, false, false, false, false, false, false, false, false, false, false, false, false] rfl rfl (any_of HT_.out (by kernel_rfl)) (fun _ _ _ h => h) (Or.inl ⟨by rfl, ?_⟩) ?_ ?_
                rotate_left
                · intro w'
                  go_simp
                  with_reducible rfl
                rotate_left
                · simp only [Act.put, List.setIfInBounds_toArray, List.set_cons_zero, List.set_cons_succ, i64_w, i32_w]
                  rfl
                refine pure_ (i := 2) (N := some 16) (v := ?_) (a' := ?_) #[true, true, true, false, false, false, false, false, false, false, false, false, false, false, false, false] rfl rfl (any_of HT_.out (by kernel_rfl)) (fun _ _ _ h => h) (Or.inl ⟨by rfl, ?_⟩) ?_ ?_
                rotate_left
                · intro w'
                  go_simp
                  with_reducible rfl
                rotate_left
                · simp only [Act.put, List.setIfInBounds_toArray, List.set_cons_zero, List.set_cons_succ, i64_w, i32_w]
                  rfl
                refine pure_ (i := 3) (N := some 17) (v := ?_) (a' := ?_) #[true, true, true, true, false, false, false, false, false, false, false, false, false, false, false, false] rfl rfl (any_of HT_.out (by kernel_rfl)) (fun _ _ _ h => h) (Or.inl ⟨by rfl, ?_⟩) ?_ ?_
                rotate_left
                · intro w'
                  go_simp
                  with_reducible rfl
                rotate_left
                · simp only [Act.put, List.setIfInBounds_toArray, List.set_cons_zero, List.set_cons_succ, i64_w, i32_w]
                  rfl
                refine pure_ (i := 4) (N := some 18) (v := ?_) (a' := ?_) #[true, true, true, true, true, false, false, false, false, false, false, false, false, false, false, false] rfl rfl (any_of HT_.out (by kernel_rfl)) (fun _ _ _ h => h) (Or.inl ⟨by rfl, ?_⟩) ?_ ?_
                rotate_left
                · intro w'
                  go_simp
                  with_reducible rfl
                rotate_left
                · simp only [Act.put, List.setIfInBounds_toArray, List.set_cons_zero, List.set_cons_succ, i64_w, i32_w]
                  rfl
                refine pure_ (i := 5) (N := some 19) (v := ?_) (a' := ?_) #[true, true, true, true, true, true, false, false, false, false, false, false, false, false, false, false] rfl rfl (any_of HT_.out (by kernel_rfl)) (fun _ _ _ h => h) (Or.inl ⟨by rfl, ?_⟩) ?_ ?_
                rotate_left
                · intro w'
                  go_simp
                  with_reducible rfl
                rotate_left
                · simp only [Act.put, List.setIfInBounds_toArray, List.set_cons_zero, List.set_cons_succ, i64_w, i32_w]
                  rfl
                refine pure_ (i := 6) (N := some 20) (v := ?_) (a' := ?_) #[true, true, true, true, true, true, true, false, false, false, false, false, false, false, false, false] rfl rfl (any_of HT_.out (by kernel_rfl)) (fun _ _ _ h => h) (Or.inl ⟨by rfl, ?_⟩) ?_ ?_
                rotate_left
                · intro w'
                  go_simp
                  with_reducible rfl
                rotate_left
                · simp only [Act.put, List.setIfInBounds_toArray, List.set_cons_zero, List.set_cons_succ, i64_w, i32_w]
                  rfl
                refine pure_ (i := 8) (N := some 22) (v := ?_) (a' := ?_) #[true, true, true, true, true, true, true, false, true, false, false, false, false, false, false, false] rfl rfl (any_of HT_.out (by kernel_rfl)) (fun _ _ _ h => h) (Or.inl ⟨by rfl, ?_⟩) ?_ ?_
                rotate_left
                · intro w'
                  go_simp
                  with_reducible rfl
                rotate_left
                · simp only [Act.put, List.setIfInBounds_toArray, List.set_cons_zero, List.set_cons_succ, i64_w, i32_w]
                  rfl
                refine pure_ (i := 9) (N := some 23) (v := ?_) (a' := ?_) #[true, true, true, true, true, true, true, false, true, true, false, false, false, false, false, false] rfl rfl (any_of HT_.out (by kernel_rfl)) (fun _ _ _ h => h) (Or.inl ⟨by rfl, ?_⟩) ?_ ?_
                rotate_left
                · intro w'
                  go_simp
                  with_reducible rfl
                rotate_left
                · simp only [Act.put, List.setIfInBounds_toArray, List.set_cons_zero, List.set_cons_succ, i64_w, i32_w]
                  rfl
                refine pure_ (i := 10) (N := some 24) (v := ?_) (a' := ?_) #[true, true, true, true, true, true, true, false, true, true, true, false, false, false, false, false] rfl rfl (any_of HT_.out (by kernel_rfl)) (fun _ _ _ h => h) (Or.inl ⟨by rfl, ?_⟩) ?_ ?_
                rotate_left
                · intro w'
                  go_simp
                  with_reducible rfl
                rotate_left
                · simp only [Act.put, List.setIfInBounds_toArray, List.set_cons_zero, List.set_cons_succ, i64_w, i32_w]
                  rfl
                refine take_ (i := 7) (N := some 21) (v := ?_) (a' := ?_) #[true, true, true, true, true, true, true, true, true, true, true, false, false, false, false, false] rfl rfl (take_ofW HT_.out HW_.out (by kernel_rfl)) (fun _ _ _ h => h) (Or.inl ⟨by rfl, ?_⟩) hHeld ?_ ?_
                rotate_left
                · rintro w' ⟨s0, s1⟩
                  go_simp
                  with_reducible rfl
                rotate_left
                · simp only [Act.put, List.setIfInBounds_toArray, List.set_cons_zero, List.set_cons_succ, i64_w, i32_w]
                  rfl
                refine take_ (i := 11) (N := some 25) (v := ?_) (a' := ?_) #[true, true, true, true, true, true, true, true, true, true, true, true, false, false, false, false] rfl rfl (take_ofW HT_.out HW_.out (by kernel_rfl)) (fun _ _ _ h => h) (Or.inl ⟨by rfl, ?_⟩) hHeld ?_ ?_
                rotate_left
                · rintro w' ⟨s0, s1⟩
                  go_simp
                  with_reducible rfl
                rotate_left
                · simp only [Act.put, List.setIfInBounds_toArray, List.set_cons_zero, List.set_cons_succ, i64_w, i32_w]
                  rfl
                refine pure_ (i := 12) (N := some 26) (v := ?_) (a' := ?_) #[true, true, true, true, true, true, true, true, true, true, true, true, true, false, false, false] rfl rfl (any_of HT_.out (by kernel_rfl)) (fun _ _ _ h => h) (Or.inl ⟨by rfl, ?_⟩) ?_ ?_
                rotate_left
                · intro w'
                  go_simp
                  with_reducible rfl
                rotate_left
                · simp only [Act.put, List.setIfInBounds_toArray, List.set_cons_zero, List.set_cons_succ, i64_w, i32_w]
                  rfl
                refine last_ (i := 13) (N := none) #[true, true, true, true, true, true, true, true, true, true, true, true, true, true, false, false] rfl rfl (one_of HT_.out (by kernel_rfl)) (by decide) (fun K hK => ?_)
                refine skip_ (w1 := ?_) (by rfl) rfl ?_ ?_
                rotate_left
                · go_simp
                  rfl
                refine hK.out _ _ ?_
                clear hK K
                refine pure_ (i := 14) (N := some 27) (v := ?_) (a' := ?_) #[true, true, true, true, true, true, true, true, true, true, true, true, true, true, true, false] rfl rfl (any_of HT_.out (by kernel_rfl)) (fun _ _ _ h => h) (Or.inl ⟨by rfl, ?_⟩) ?_ ?_
                rotate_left
                · intro w'
                  go_simp
                  with_reducible rfl
                rotate_left
                · simp only [Act.put, List.setIfInBounds_toArray, List.set_cons_zero, List.set_cons_succ, i64_w, i32_w]
                  rfl
                refine last_ (i := 15) (N := none) #[true, true, true, true, true, true, true, true, true, true, true, true, true, true, true, true] rfl rfl (one_of HT_.out (by kernel_rfl)) (by decide) (fun K hK => ?_)
                refine skip_ (w1 := ?_) (by rfl) rfl ?_ ?_
                rotate_left
                · go_simp
                  rfl
                refine hK.out _ _ ?_
                clear hK K
                refine done_ (done_of HT_.out (by kernel_rfl)) ?_
                try go_wp2
                go_roundg k1
                case measure => have := HK1.out; omega
                case rel => exact ⟨_, (wrap64 (x2_1 + 1)), (wrap64 (x3_1 - 1)), (by first | rfl | (simp; done) | (simp [*]; done)), (by first | rfl | (simp; done) | (simp [*]; done)), H', ⟨by have := HK1.out; omega⟩, ⟨by rw [List.length_set, List.length_set]; exact HLQ.out, HQ12.out⟩, ⟨fun q hq => (Below.heap_setCell _ _ _ q hq).trans ((Below.heap_setCell _ _ _ q hq).trans (HK.out q hq))⟩, ⟨below_set (below_set HB.out HGE.out) HGE.out⟩⟩
              · rw [if_neg c7] at H
                exact absurd H (by simp)
            · rw [if_neg c6] at H
              exact absurd H (by simp)
          · rw [if_neg c5] at H
            exact absurd H (by simp)
        · rw [if_neg c4] at H
          exact absurd H (by simp)
      · rw [if_neg c3] at H
        have c3b0 : decide (x2_1 < x3_1) = false := decide_eq_false c3
        clear c3
        obtain rfl := Option.some.inj H
        go_wp2
        first | go_end0 | ((try simp only [Exit.inBlock, Exit.then]); refine bodyPost_ret (results_none rfl _ _ _) rfl ?_)
        exact ⟨rfl, HO_0.out.2, HK.out, HB.out⟩
theorem impl_ReverseMove.store (w : World) {ops : Array Oper} {rest : List Oper} {o : Oper} {a : Act} {Q : Exit → Act → World → Prop} (hg : o.guard = none) (x y : Operand) (hop : o.op = Op.store 26 x y) (g : Nat) (cells : Array Value)
    (hx : a.eval x = .pointer (some ⟨g, 0, none⟩)) (hy : a.eval y = .agg cells) (t : TypeId) (old : Array Value) (hb : w.heap[g]? = some (.cells old t (0, 0))) (hs : old.size = 2) (hc : cells.size = 2) (h1 : cells.all (·.oneCell') = true)
    (hK : ∀ w' : World, w'.heap[g]? = some (.cells cells t (0, 0)) → w.grownBy w' (some g) → wpList Try.prog ops Q rest (a.put o.dst undef) w') : wpList Try.prog ops Q (o :: rest) a w := by
  refine wpList_plain hg fun K' hK' => ?_
  refine wp_store_row _ x y hop g cells hx hy t old hb (by rw [hc]; kernel_rfl) (hs.trans hc.symm) h1 ?_
  exact hK' _ _ (hK _ (setRow_heap w g old cells t (0, 0) hb) ⟨rfl, rfl, rfl, by simp, fun i _ hi => setRow_other w g i cells (fun e => hi (by rw [e]))⟩)
set_option maxHeartbeats 4000000 in
set_option maxRecDepth 100000 in
theorem impl_ReverseMove.bad (k : Nat) (s : ByteArray) (m : Int) (w : World) (ht : impl_IsMove.f k s m = some false) :
    Calls Try.prog 19 #[.agg #[.string s, .int .i64 m]] w fun e w' => e = .returned (.tuple #[.agg #[.string (⟨#[]⟩ : ByteArray), .int .i64 0], .bool false]) ∧ Below w.heap.size w w' := by
  have hu_ := Try.underlying26
  go_enter Try.func19, Try.ntmps19
  go_wp2_with (first | ((with_reducible refine gate_dst (N := 1) rfl ?_); refine box_event ?hg (N := 1) ?hd (cs := #[.string s, .int .i64 m]) (t := 26) ?hr ?_; (case hd => rfl); (case hg => rfl); (case hr => first | (go_simp; done) | (go_simp; rfl)); intro g1 hg1 w1 BM1 hb1; have B1 := below_step (Below.refl w.heap.size w) hb1; have le1 : w.heap.size ≤ g1 := Nat.le_of_eq hg1.symm; clear hb1 hg1) | ((with_reducible refine gate_dst (N := 2) rfl ?_); refine box_event ?hg (N := 2) ?hd (cs := #[.string (⟨#[]⟩ : ByteArray), .int .i64 0]) (t := 26) ?hr ?_; (case hd => rfl); (case hg => rfl); (case hr => first | (go_simp; done) | (go_simp; rfl)); intro g2 hg2 w2 BZ2 hb2; have B2 := below_step B1 hb2; have BM2 := blk_below BM1 hb2; have n12 : g1 ≠ g2 := (by rw [hg2]; exact Nat.ne_of_lt (blk_lt BM1)); have le2 : w.heap.size ≤ g2 := (by rw [hg2]; exact B1.size); clear hb2 hg2 B1 BM1; have c0 := blk_cell BM2 0; have c1 := blk_cell BM2 1) | (go_at_call 17; (with_reducible refine (impl_IsMove.calls k s m false _ ht).mono ?_); rintro e w3 ⟨rfl, hbx⟩; have hb := hbx; have BM3 := blk_below BM2 hb; have BZ3 := blk_below BZ2 hb; have B3 := below_step B2 hb; clear hb hbx BM2 BZ2 B2 c0 c1; have c0 := blk_cell BM3 0; have c1 := blk_cell BM3 1) | ((with_reducible refine gate_store (t := 26) (p := 2) rfl ?_); refine impl_ReverseMove.store _ rfl _ _ rfl g2 #[.string (⟨#[]⟩ : ByteArray), .int .i64 0] rfl rfl 26 _ BZ3 rfl rfl (by simp [Value.oneCell']) ?_))
  intro w9 BZ9 G9
  have B9 := B3.grown G9 B3.size (fun j hj => by cases hj; exact le2)
  go_wp2
  refine bodyPost_ret (results_ct rfl _ _ g2 _ #[.string (⟨#[]⟩ : ByteArray), .int .i64 0] (0, 0) _ rfl BZ9 hu_ rfl (by kernel_rfl)) rfl ?_
  exact ⟨rfl, B9⟩
theorem impl_ReverseMove.next (r L : List Int) (x v : Int) (h0 : 0 ≤ x) (h1 : x < (L.length : Int)) (h : ∀ j : Nat, j < L.length → rd L (j : Int) = if (j : Int) < x then impl_ReverseMove.flip (rd r (j : Int)) else rd r (j : Int)) (hv : impl_ReverseMove.flip (rd r x) = v) :
    ∀ j : Nat, j < (L.set x.toNat v).length → rd (L.set x.toNat v) (j : Int) = if (j : Int) < x + 1 then impl_ReverseMove.flip (rd r (j : Int)) else rd r (j : Int) := by
  intro j hj
  rw [List.length_set] at hj
  by_cases e : (j : Int) = x
  · subst e
    rw [if_pos (by omega), hv]
    unfold rd
    rw [List.getD_eq_getElem?_getD, List.getElem?_set_self (by omega)]; rfl
  · have e2 : rd (L.set x.toNat v) (j : Int) = rd L (j : Int) := by
      unfold rd
      rw [List.getD_eq_getElem?_getD, List.getD_eq_getElem?_getD, List.getElem?_set_ne (by omega)]
    rw [e2, h j hj]
    by_cases z : (j : Int) < x
    · rw [if_pos z, if_pos (by omega)]
    · rw [if_neg z, if_neg (by omega)]
theorem impl_ReverseMove.all (r L : List Int) (hl : L.length = r.length) (h : ∀ j : Nat, j < L.length → rd L (j : Int) = impl_ReverseMove.flip (rd r (j : Int))) : L = r.map impl_ReverseMove.flip := by
  refine List.ext_getElem (by rw [List.length_map, hl]) (fun j h1 h2 => ?_)
  have e := h j h1
  have hr : j < r.length := by omega
  unfold rd at e
  rw [Int.toNat_natCast, List.getD_eq_getElem?_getD, List.getD_eq_getElem?_getD, List.getElem?_eq_getElem h1, List.getElem?_eq_getElem hr] at e
  rw [List.getElem_map]
  exact e
theorem impl_ReverseMove.flip_le (b : Int) : 0 ≤ impl_ReverseMove.flip b ∧ impl_ReverseMove.flip b ≤ 255 := by
  unfold impl_ReverseMove.flip
  repeat' split
  all_goals omega
set_option maxHeartbeats 16000000 in
set_option maxRecDepth 100000 in
theorem impl_ReverseMove.main (k : Nat) (s : ByteArray) (m : Int) (r : List Int) (w : World) (ht : impl_IsMove.f k s m = some true) (hr : slices_Reverse_byte_byte.f k (impl_ReverseMove.bytes s) = some r) (hv : r.all impl_ReverseMove.valid = true) (hl : r.length = s.size) (h6 : s.size ≤ 6) :
    Calls Try.prog 19 #[.agg #[.string s, .int .i64 m]] w fun e w' => e = .returned (.tuple #[.agg #[.string (impl_ReverseMove.text (r.map impl_ReverseMove.flip)), .int .i64 m], .bool true]) ∧ Below w.heap.size w w' := by
  have hu_ := Try.underlying26
  have HR := Aside0.mk hr
  have HVA := Aside0.mk hv
  have HLN := Aside0.mk hl
  have H6 := Aside0.mk h6
  have hbl : (impl_ReverseMove.bytes s).length = s.size := by unfold impl_ReverseMove.bytes; rw [List.length_map, Array.length_toList]; rfl
  have HBL := Aside0.mk hbl
  clear hr hv hl h6 hbl
  go_enter Try.func19, Try.ntmps19
  go_wp2_with (first | ((with_reducible refine gate_dst (N := 1) rfl ?_); refine box_event ?hg (N := 1) ?hd (cs := #[.string s, .int .i64 m]) (t := 26) ?hr ?_; (case hd => rfl); (case hg => rfl); (case hr => first | (go_simp; done) | (go_simp; rfl)); intro g1 hg1 w1 BM1 hb1; have B1 := below_step (Below.refl w.heap.size w) hb1; have le1 : w.heap.size ≤ g1 := Nat.le_of_eq hg1.symm; clear hb1 hg1) | ((with_reducible refine gate_dst (N := 2) rfl ?_); refine box_event ?hg (N := 2) ?hd (cs := #[.string (⟨#[]⟩ : ByteArray), .int .i64 0]) (t := 26) ?hr ?_; (case hd => rfl); (case hg => rfl); (case hr => first | (go_simp; done) | (go_simp; rfl)); intro g2 hg2 w2 BZ2 hb2; have B2 := below_step B1 hb2; have BM2 := blk_below BM1 hb2; have n12 : g1 ≠ g2 := (by rw [hg2]; exact Nat.ne_of_lt (blk_lt BM1)); have le2 : w.heap.size ≤ g2 := (by rw [hg2]; exact B1.size); clear hb2 hg2 B1 BM1; have c0 := blk_cell BM2 0; have c1 := blk_cell BM2 1) | (go_at_call 17; (with_reducible refine (impl_IsMove.calls k s m true _ ht).mono ?_); rintro e w3 ⟨rfl, hbx⟩; have hb := hbx; have BM3 := blk_below BM2 hb; have BZ3 := blk_below BZ2 hb; have B3 := below_step B2 hb; clear hb hbx BM2 BZ2 B2 c0 c1; have c0 := blk_cell BM3 0; have c1 := blk_cell BM3 1) | ((with_reducible refine gate_dst (N := 13) rfl ?_); refine impl_ReverseMove.conv _ rfl (.tmp 12) rfl s rfl ?_))
  intro g c w4 hg4 HH4 hb4
  have BM4 := blk_below BM3 hb4
  have BZ4 := blk_below BZ3 hb4
  have B4 := below_step B3 hb4
  have leg : w.heap.size ≤ g := by rw [hg4]; exact B3.size
  have n1g : g1 ≠ g := by rw [hg4]; exact Nat.ne_of_lt (blk_lt BM3)
  have n2g : g2 ≠ g := by rw [hg4]; exact Nat.ne_of_lt (blk_lt BZ3)
  clear hb4 hg4 BM3 BZ3 B3 c0 c1 ht
  go_wp2_with (go_at_call 61; refine (show Calls Try.prog 61 #[.slice (some ⟨g, 0, none⟩) s.size c] _ _ from (by have h := impl_ReverseMove.rev k g c (impl_ReverseMove.bytes s) r w _ B4 leg HH4 (by rw [HBL.out]; exact H6.out) HR.out; rw [HBL.out] at h; exact h)).mono ?_; rintro e w5 ⟨rfl, HH5, hk5, B5⟩; have BM5 := (hk5 g1 n1g).trans BM4; have BZ5 := (hk5 g2 n2g).trans BZ4; clear hk5 BM4 BZ4 B4 HH4)
  have HHH := Aside0.mk HH5
  have HMM := Aside0.mk BM5
  have HZZ := Aside0.mk BZ5
  have HBB := Aside0.mk B5
  clear HH5 BM5 BZ5 B5
  go_loopg [18] s.size (fun kq v18 w' => ∃ (x : Int) (L : List Int), v18 = .int .i64 x ∧ Aside0 (0 ≤ x ∧ x + kq = s.size ∧ L.length = s.size ∧ ∀ j : Nat, j < L.length → rd L (j : Int) = if (j : Int) < x then impl_ReverseMove.flip (rd r (j : Int)) else rd r (j : Int)) ∧ Aside0 (impl_ReverseMove.Hold g w' L) ∧ Aside0 (w'.heap[g1]? = some (.cells #[.string s, .int .i64 m] 26 (0, 0))) ∧ Aside0 (w'.heap[g2]? = some (.cells #[.string (⟨#[]⟩ : ByteArray), .int .i64 0] 26 (0, 0))) ∧ Aside0 (Below w.heap.size w w'))
  case atStart => exact ⟨0, r, rfl, ⟨by omega, by omega, HLN.out, fun j _ => by rw [if_neg (by omega)]⟩, HHH, HMM, HZZ, HBB⟩
  case round =>
    clear HHH HMM HZZ HBB
    obtain ⟨x, L, rfl, HA, HH, BM, BZ, HB⟩ := hrel
    by_cases hlt : x < (s.size : Int)
    · have p0' : 0 ≤ x := HA.out.1
      have p1' : x < (L.length : Int) := by rw [HA.out.2.2.1]; exact hlt
      have HN1 := Aside0.mk hlt
      have hx0 := impl_ReverseMove.cell HH.out x p0' p1'
      have HW : Aside0 (wrap64 (x + 1) = x + 1) := ⟨by unfold wrap64; have := H6.out; omega⟩
      have hb : rd L x = rd r x := by
        have := HA.out.2.2.2 x.toNat (by omega)
        rw [Int.toNat_of_nonneg p0', if_neg (by omega)] at this
        exact this
      rw [hb] at hx0
      have hvv : impl_ReverseMove.valid (rd r x) = true := List.all_eq_true.1 HVA.out _ (List.mem_of_getElem? (rd_getI (xs := r) p0' (by rw [HLN.out]; exact hlt)))
      have hd : decide (x < (s.size : Int)) = true := decide_eq_true hlt
      have p0 : (0 ≤ x) = True := eq_true p0'
      have p1 : (x < (s.size : Int)) = True := eq_true hlt
      clear hb hlt
      rcases impl_ReverseMove.valid_iff hvv with hv | hv | hv | hv | hv | hv
      all_goals
        have HV := Aside0.mk hv
        clear hvv
      · have hx0' := hx0.trans (congrArg (fun z => some (Value.int .u8 z)) hv)
        clear hx0
        go_wp2_with (first | (go_at_call 62; (with_reducible refine (strings_IndexByte.calls (⟨#[117, 100, 108, 114, 102, 98]⟩ : ByteArray) 117 0 _ (by decide)).mono ?_); rintro e w9 ⟨rfl, hd⟩; have hb := hd.below; have HH9 := Aside0.mk (impl_ReverseMove.same HH.out (hb.block g (by obtain ⟨_, _, _, hz, _, _⟩ := HH.out; exact blk_lt hz))); have BM9 := blk_below BM.out hb; have BZ9 := blk_below BZ.out hb; have B9 := below_step HB.out hb; clear hb hd; have hcl := impl_ReverseMove.cell HH9.out x p0' p1'; have hfr := impl_ReverseMove.free HH9.out x p0' p1'))
        go_roundg (gk - 1)
        case measure => have := HA.out.2.1; have := of_eq_true p1; omega
        case rel => exact ⟨wrap64 (x + 1), L.set x.toNat 100, rfl, ⟨by rw [HW.out]; have := HA.out.1; omega, by rw [HW.out]; have := HA.out.2.1; have := of_eq_true p1; omega, by rw [List.length_set]; exact HA.out.2.2.1, by rw [HW.out]; exact impl_ReverseMove.next r L x 100 HA.out.1 (by rw [HA.out.2.2.1]; exact HN1.out) HA.out.2.2.2 (by rw [HV.out]; rfl)⟩, ⟨impl_ReverseMove.put HH9.out x.toNat 100⟩, ⟨blk_far BM9 n1g _⟩, ⟨blk_far BZ9 n2g _⟩, ⟨below_set B9 leg⟩⟩
      · have hx0' := hx0.trans (congrArg (fun z => some (Value.int .u8 z)) hv)
        clear hx0
        go_wp2_with (first | (go_at_call 62; (with_reducible refine (strings_IndexByte.calls (⟨#[117, 100, 108, 114, 102, 98]⟩ : ByteArray) 100 1 _ (by decide)).mono ?_); rintro e w9 ⟨rfl, hd⟩; have hb := hd.below; have HH9 := Aside0.mk (impl_ReverseMove.same HH.out (hb.block g (by obtain ⟨_, _, _, hz, _, _⟩ := HH.out; exact blk_lt hz))); have BM9 := blk_below BM.out hb; have BZ9 := blk_below BZ.out hb; have B9 := below_step HB.out hb; clear hb hd; have hcl := impl_ReverseMove.cell HH9.out x p0' p1'; have hfr := impl_ReverseMove.free HH9.out x p0' p1'))
        go_roundg (gk - 1)
        case measure => have := HA.out.2.1; have := of_eq_true p1; omega
        case rel => exact ⟨wrap64 (x + 1), L.set x.toNat 117, rfl, ⟨by rw [HW.out]; have := HA.out.1; omega, by rw [HW.out]; have := HA.out.2.1; have := of_eq_true p1; omega, by rw [List.length_set]; exact HA.out.2.2.1, by rw [HW.out]; exact impl_ReverseMove.next r L x 117 HA.out.1 (by rw [HA.out.2.2.1]; exact HN1.out) HA.out.2.2.2 (by rw [HV.out]; rfl)⟩, ⟨impl_ReverseMove.put HH9.out x.toNat 117⟩, ⟨blk_far BM9 n1g _⟩, ⟨blk_far BZ9 n2g _⟩, ⟨below_set B9 leg⟩⟩
      · have hx0' := hx0.trans (congrArg (fun z => some (Value.int .u8 z)) hv)
        clear hx0
        go_wp2_with (first | (go_at_call 62; (with_reducible refine (strings_IndexByte.calls (⟨#[117, 100, 108, 114, 102, 98]⟩ : ByteArray) 108 2 _ (by decide)).mono ?_); rintro e w9 ⟨rfl, hd⟩; have hb := hd.below; have HH9 := Aside0.mk (impl_ReverseMove.same HH.out (hb.block g (by obtain ⟨_, _, _, hz, _, _⟩ := HH.out; exact blk_lt hz))); have BM9 := blk_below BM.out hb; have BZ9 := blk_below BZ.out hb; have B9 := below_step HB.out hb; clear hb hd; have hcl := impl_ReverseMove.cell HH9.out x p0' p1'; have hfr := impl_ReverseMove.free HH9.out x p0' p1'))
        go_roundg (gk - 1)
        case measure => have := HA.out.2.1; have := of_eq_true p1; omega
        case rel => exact ⟨wrap64 (x + 1), L.set x.toNat 114, rfl, ⟨by rw [HW.out]; have := HA.out.1; omega, by rw [HW.out]; have := HA.out.2.1; have := of_eq_true p1; omega, by rw [List.length_set]; exact HA.out.2.2.1, by rw [HW.out]; exact impl_ReverseMove.next r L x 114 HA.out.1 (by rw [HA.out.2.2.1]; exact HN1.out) HA.out.2.2.2 (by rw [HV.out]; rfl)⟩, ⟨impl_ReverseMove.put HH9.out x.toNat 114⟩, ⟨blk_far BM9 n1g _⟩, ⟨blk_far BZ9 n2g _⟩, ⟨below_set B9 leg⟩⟩
      · have hx0' := hx0.trans (congrArg (fun z => some (Value.int .u8 z)) hv)
        clear hx0
        go_wp2_with (first | (go_at_call 62; (with_reducible refine (strings_IndexByte.calls (⟨#[117, 100, 108, 114, 102, 98]⟩ : ByteArray) 114 3 _ (by decide)).mono ?_); rintro e w9 ⟨rfl, hd⟩; have hb := hd.below; have HH9 := Aside0.mk (impl_ReverseMove.same HH.out (hb.block g (by obtain ⟨_, _, _, hz, _, _⟩ := HH.out; exact blk_lt hz))); have BM9 := blk_below BM.out hb; have BZ9 := blk_below BZ.out hb; have B9 := below_step HB.out hb; clear hb hd; have hcl := impl_ReverseMove.cell HH9.out x p0' p1'; have hfr := impl_ReverseMove.free HH9.out x p0' p1'))
        go_roundg (gk - 1)
        case measure => have := HA.out.2.1; have := of_eq_true p1; omega
        case rel => exact ⟨wrap64 (x + 1), L.set x.toNat 108, rfl, ⟨by rw [HW.out]; have := HA.out.1; omega, by rw [HW.out]; have := HA.out.2.1; have := of_eq_true p1; omega, by rw [List.length_set]; exact HA.out.2.2.1, by rw [HW.out]; exact impl_ReverseMove.next r L x 108 HA.out.1 (by rw [HA.out.2.2.1]; exact HN1.out) HA.out.2.2.2 (by rw [HV.out]; rfl)⟩, ⟨impl_ReverseMove.put HH9.out x.toNat 108⟩, ⟨blk_far BM9 n1g _⟩, ⟨blk_far BZ9 n2g _⟩, ⟨below_set B9 leg⟩⟩
      · have hx0' := hx0.trans (congrArg (fun z => some (Value.int .u8 z)) hv)
        clear hx0
        go_wp2_with (first | (go_at_call 62; (with_reducible refine (strings_IndexByte.calls (⟨#[117, 100, 108, 114, 102, 98]⟩ : ByteArray) 102 4 _ (by decide)).mono ?_); rintro e w9 ⟨rfl, hd⟩; have hb := hd.below; have HH9 := Aside0.mk (impl_ReverseMove.same HH.out (hb.block g (by obtain ⟨_, _, _, hz, _, _⟩ := HH.out; exact blk_lt hz))); have BM9 := blk_below BM.out hb; have BZ9 := blk_below BZ.out hb; have B9 := below_step HB.out hb; clear hb hd; have hcl := impl_ReverseMove.cell HH9.out x p0' p1'; have hfr := impl_ReverseMove.free HH9.out x p0' p1'))
        go_roundg (gk - 1)
        case measure => have := HA.out.2.1; have := of_eq_true p1; omega
        case rel => exact ⟨wrap64 (x + 1), L.set x.toNat 98, rfl, ⟨by rw [HW.out]; have := HA.out.1; omega, by rw [HW.out]; have := HA.out.2.1; have := of_eq_true p1; omega, by rw [List.length_set]; exact HA.out.2.2.1, by rw [HW.out]; exact impl_ReverseMove.next r L x 98 HA.out.1 (by rw [HA.out.2.2.1]; exact HN1.out) HA.out.2.2.2 (by rw [HV.out]; rfl)⟩, ⟨impl_ReverseMove.put HH9.out x.toNat 98⟩, ⟨blk_far BM9 n1g _⟩, ⟨blk_far BZ9 n2g _⟩, ⟨below_set B9 leg⟩⟩
      · have hx0' := hx0.trans (congrArg (fun z => some (Value.int .u8 z)) hv)
        clear hx0
        go_wp2_with (first | (go_at_call 62; (with_reducible refine (strings_IndexByte.calls (⟨#[117, 100, 108, 114, 102, 98]⟩ : ByteArray) 98 5 _ (by decide)).mono ?_); rintro e w9 ⟨rfl, hd⟩; have hb := hd.below; have HH9 := Aside0.mk (impl_ReverseMove.same HH.out (hb.block g (by obtain ⟨_, _, _, hz, _, _⟩ := HH.out; exact blk_lt hz))); have BM9 := blk_below BM.out hb; have BZ9 := blk_below BZ.out hb; have B9 := below_step HB.out hb; clear hb hd; have hcl := impl_ReverseMove.cell HH9.out x p0' p1'; have hfr := impl_ReverseMove.free HH9.out x p0' p1'))
        go_roundg (gk - 1)
        case measure => have := HA.out.2.1; have := of_eq_true p1; omega
        case rel => exact ⟨wrap64 (x + 1), L.set x.toNat 102, rfl, ⟨by rw [HW.out]; have := HA.out.1; omega, by rw [HW.out]; have := HA.out.2.1; have := of_eq_true p1; omega, by rw [List.length_set]; exact HA.out.2.2.1, by rw [HW.out]; exact impl_ReverseMove.next r L x 102 HA.out.1 (by rw [HA.out.2.2.1]; exact HN1.out) HA.out.2.2.2 (by rw [HV.out]; rfl)⟩, ⟨impl_ReverseMove.put HH9.out x.toNat 102⟩, ⟨blk_far BM9 n1g _⟩, ⟨blk_far BZ9 n2g _⟩, ⟨below_set B9 leg⟩⟩
    · have hd : decide (x < (s.size : Int)) = false := decide_eq_false hlt
      have hL : L = r.map impl_ReverseMove.flip := impl_ReverseMove.all r L (by rw [HA.out.2.2.1, HLN.out]) (fun j hj => by rw [HA.out.2.2.2 j hj, if_pos (by have := HA.out.2.2.1; omega)])
      have hLn := HA.out.2.2.1
      have hL255 : ∀ v ∈ L, 0 ≤ v ∧ v ≤ 255 := by
        rw [hL]; intro v hv
        obtain ⟨b, -, rfl⟩ := List.mem_map.1 hv
        exact impl_ReverseMove.flip_le b
      have HL := Aside0.mk hL
      have HLn := Aside0.mk hLn
      have HL2 := Aside0.mk hL255
      have BMo := BM.out
      have c1 := blk_cell BMo 1
      clear HA hlt hL hLn hL255
      go_wp2_with (first | ((with_reducible refine gate_dst (N := 32) rfl ?_); refine impl_ReverseMove.back _ rfl (.tmp 31) rfl g s.size c L rfl HLn.out HH.out HL2.out ?_) | ((with_reducible refine gate_store (t := 26) (p := 2) rfl ?_); refine impl_ReverseMove.store _ rfl _ _ rfl g2 #[.string (impl_ReverseMove.text L), .int .i64 m] rfl rfl 26 _ BZ.out rfl rfl (by simp [Value.oneCell']) ?_))
      intro w9 BZ9 G9
      have B9 := HB.out.grown G9 HB.out.size (fun j hj => by cases hj; exact le2)
      go_wp2
      refine bodyPost_ret (results_ct rfl _ _ g2 _ #[.string (impl_ReverseMove.text L), .int .i64 m] (0, 0) _ rfl BZ9 hu_ rfl (by kernel_rfl)) rfl ?_
      exact ⟨by rw [HL.out]; rfl, B9⟩
theorem impl_ReverseMove.calls (k : Nat) (s : ByteArray) (m : Int) (r1 : ByteArray) (r2 : Int) (r3 : Bool) (w : World) (h : impl_ReverseMove.f k s m = some (r1, r2, r3)) :
    Calls Try.prog 19 #[.agg #[.string s, .int .i64 m]] w fun e w' => e = .returned (.tuple #[.agg #[.string r1, .int .i64 r2], .bool r3]) ∧ Below w.heap.size w w' := by
  unfold impl_ReverseMove.f at h
  obtain ⟨t, ht, h⟩ := Option.bind_eq_some_iff.mp h
  cases t
  · rw [if_neg (by decide)] at h
    simp only [Option.some.injEq, Prod.mk.injEq] at h
    obtain ⟨rfl, rfl, rfl⟩ := h
    exact impl_ReverseMove.bad k s m w ht
  · rw [if_pos rfl] at h
    obtain ⟨r, hr, h⟩ := Option.bind_eq_some_iff.mp h
    split at h
    · rename_i hq
      simp only [Option.some.injEq, Prod.mk.injEq] at h
      obtain ⟨rfl, rfl, rfl⟩ := h
      exact impl_ReverseMove.main k s _ r w ht hr hq.1 hq.2.1 hq.2.2
    · cases h

end Go.Proofs.Ytkhaofalaikegaa.FF
