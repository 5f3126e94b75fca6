-- laid by pr.py (wip/tools) over the kit's printer; Lean checks it
import Derived.Test.YtkhaofalaikegaaFGx0
import Derived.Test.YtkhaofalaikegaaFGx1
import Derived.Defers
import Derived.Laws.Cover3
import Derived.Laws.IdiomStrings
import Derived.Laws.LoneSync
import Derived.Laws.Pointers
import Derived.Lib.ConvBytes
import Derived.RegionCalls
namespace Go.Proofs.Ytkhaofalaikegaa.FG
open Go.RowKit Go.Proofs.YtkhaofalaikegaaW.PrintWords Go.Proofs.YtkhaofalaikegaaW.PrintLast Go.Proofs.YtkhaofalaikegaaW.PrintMore
attribute [local go_sem] max2_int min2_int max_two min_two max_three min_three max_four min_four   -- for this text's walks alone
set_option linter.unusedVariables false
set_option linter.unusedSimpArgs false

/-! ### impl_IsMove: function 17 -/
def impl_IsMove.f (k : Nat) (a0_0 : ByteArray) (a0_1 : Int) : Option (Bool) := if (a0_0.size : Int) ≤ 6 then ((impl_hasOnly.f k a0_0 (⟨#[117, 100, 108, 114, 102, 98]⟩ : ByteArray)).bind fun t122 => (if t122 = true then ((impl_within.f a0_1 1 3).bind fun t123 => (if t123 = true then (if a0_0.toList = ([] : List UInt8) then (some (a0_1 == 1)) else (some true)) else (some false))) else (some false))) else (some false)
theorem impl_IsMove.mono : ∀ a0 a1 k, LeO (impl_IsMove.f k a0 a1) (impl_IsMove.f (k + 1) a0 a1) := by
  intro a0 a1 k
  unfold impl_IsMove.f
  repeat' first
      | (with_reducible exact impl_hasOnly.mono _ _ _)
      | (with_reducible exact LeO.refl _)
      | (with_reducible exact LeO.none _)
      | (with_reducible refine LeO.ite ?_ ?_)
      | (with_reducible refine LeO.bind ?_ (fun _ => ?_))
      | exact impl_hasOnly.mono _ _ _
      | exact LeO.none _
      | refine LeO.ite ?_ ?_
      | refine LeO.bind ?_ (fun _ => ?_)
set_option maxHeartbeats 8000000 in
set_option maxRecDepth 100000 in
theorem impl_IsMove.calls (k : Nat) (a0_0 : ByteArray) (a0_1 : Int) (r : Bool) (w : World) (h : impl_IsMove.f k a0_0 a0_1 = some r) :
    Calls Try.prog 17 #[.agg #[.string a0_0, .int .i64 a0_1]] w fun e w' => e = .returned (.bool r) ∧ Below w.heap.size w w' := by
  have hu26 := Try.underlying26
  have HB := Aside0.mk (Below.refl w.heap.size w)
  have H : (if (a0_0.size : Int) ≤ 6 then ((impl_hasOnly.f k a0_0 (⟨#[117, 100, 108, 114, 102, 98]⟩ : ByteArray)).bind fun t122 => (if t122 = true then ((impl_within.f a0_1 1 3).bind fun t123 => (if t123 = true then (if a0_0.toList = ([] : List UInt8) then (some (a0_1 == 1)) else (some true)) else (some false))) else (some false))) else (some false)) = some r := h
  clear h
  by_cases c2 : (a0_0.size : Int) ≤ 6
  · rw [if_pos c2] at H
    have c2b0 : decide ((a0_0.size : Int) ≤ 6) = true := decide_eq_true c2
    have c2b1 : decide (a0_0.size ≤ 6) = true := decide_eq_true (by omega)
    clear c2
    replace H := Option.bind_eq_some_iff.mp H
    obtain ⟨t122, A30, H⟩ := H
    replace H : (if t122 = true then ((impl_within.f a0_1 1 3).bind fun t123 => (if t123 = true then (if a0_0.toList = ([] : List UInt8) then (some (a0_1 == 1)) else (some true)) else (some false))) else (some false)) = some r := H
    have A3 := Aside0.mk A30
    clear A30
    by_cases c4 : t122 = true
    · subst c4
      have H1 : ((impl_within.f a0_1 1 3).bind fun t123 => (if t123 = true then (if a0_0.toList = ([] : List UInt8) then (some (a0_1 == 1)) else (some true)) else (some false))) = some r := by rw [if_pos rfl] at H; exact H
      clear H
      have H := H1
      clear H1
      replace H := Option.bind_eq_some_iff.mp H
      obtain ⟨t123, A50, H⟩ := H
      replace H : (if t123 = true then (if a0_0.toList = ([] : List UInt8) then (some (a0_1 == 1)) else (some true)) else (some false)) = some r := H
      have A5 := Aside0.mk A50
      clear A50
      by_cases c6 : t123 = true
      · subst c6
        have H1 : (if a0_0.toList = ([] : List UInt8) then (some (a0_1 == 1)) else (some true)) = some r := by rw [if_pos rfl] at H; exact H
        clear H
        have H := H1
        clear H1
        by_cases c7 : a0_0.toList = ([] : List UInt8)
        · rw [if_pos c7] at H
          have c7b0 : (a0_0.toList == ([] : List UInt8)) = true := beq_iff_eq.mpr c7
          have c7b1 : (a0_0.toList != ([] : List UInt8)) = false := bne_eq_false_iff_eq.mpr c7
          clear c7
          obtain rfl := Option.some.inj H
          go_enter Try.func17, Try.ntmps17
          go_wp2_with (first | ((with_reducible refine gate_dst (N := 1) rfl ?_); refine box_event ?hg (N := 1) ?hd (cs := #[.string a0_0, .int .i64 a0_1]) (t := 26) ?hr ?_; (case hd => rfl); (case hg => rfl); (case hr => first | (go_simp; done) | (go_simp; rfl)); intro gb121 hg w8 hbox hb; have n0_ := Aside0.mk (below_step (by repeat (first | (with_reducible first | exact HB.out | apply below_alloc | apply pw_below_drewN | apply below_drew1) | exact HB.out)) hb); have n1_ := Aside0.mk (hbox); have n2_ := Aside0.mk ((by rw [hg]; exact (below_size (by repeat (first | (with_reducible first | exact HB.out | apply below_alloc | apply pw_below_drewN | apply below_drew1) | exact HB.out))) : w.heap.size ≤ gb121)); have n3_ := Aside0.mk ((by rw [hg]; exact (below_size (by repeat (first | (with_reducible first | exact HB.out | apply below_alloc | apply pw_below_drewN | apply below_drew1) | exact HB.out))) : w.heap.size ≤ gb121)); clear HB; have HB := n0_; have BK121 := n1_; have GW121 := n2_; have GE121 := n3_; clear n0_ n1_ n2_ n3_; clear hb hbox hg; have hcz9_0 : w8.cell? ⟨gb121, 0, none⟩ = some (.string a0_0) := (blk_cell BK121.out 0).trans rfl; have hcz9_1 : w8.cell? ⟨gb121, 1, none⟩ = some (.int .i64 a0_1) := (blk_cell BK121.out 1).trans rfl; have hfz9_0 := blk_frozen BK121.out 0; have hfz9_1 := blk_frozen BK121.out 1) | (go_at_call 58; (with_reducible refine (impl_hasOnly.calls k a0_0 (⟨#[117, 100, 108, 114, 102, 98]⟩ : ByteArray) true _ A3.out).mono ?_); rintro e w' ⟨rfl, ⟨nd, rfl⟩⟩) | (go_at_call 59; (with_reducible refine (impl_within.calls a0_1 1 3 true _ A5.out).mono ?_); rintro e w' ⟨rfl, ⟨nd, rfl⟩⟩))
          go_ret
          exact ⟨by first | rfl | (simp [errW_none, errW_some] <;> rfl) | (simp [*, errW_none, errW_some] <;> rfl), by repeat (first | (with_reducible first | exact HB.out | apply below_alloc | apply pw_below_drewN | apply below_drew1 | refine below_set ?_ GE121.out) | exact HB.out)⟩
        · rw [if_neg c7] at H
          have c7b0 : (a0_0.toList == ([] : List UInt8)) = false := beq_eq_false_iff_ne.mpr c7
          have c7b1 : (a0_0.toList != ([] : List UInt8)) = true := bne_iff_ne.mpr c7
          obtain rfl := Option.some.inj H
          go_enter Try.func17, Try.ntmps17
          go_wp2_with (first | ((with_reducible refine gate_dst (N := 1) rfl ?_); refine box_event ?hg (N := 1) ?hd (cs := #[.string a0_0, .int .i64 a0_1]) (t := 26) ?hr ?_; (case hd => rfl); (case hg => rfl); (case hr => first | (go_simp; done) | (go_simp; rfl)); intro gb121 hg w10 hbox hb; have n0_ := Aside0.mk (below_step (by repeat (first | (with_reducible first | exact HB.out | apply below_alloc | apply pw_below_drewN | apply below_drew1) | exact HB.out)) hb); have n1_ := Aside0.mk (hbox); have n2_ := Aside0.mk ((by rw [hg]; exact (below_size (by repeat (first | (with_reducible first | exact HB.out | apply below_alloc | apply pw_below_drewN | apply below_drew1) | exact HB.out))) : w.heap.size ≤ gb121)); have n3_ := Aside0.mk ((by rw [hg]; exact (below_size (by repeat (first | (with_reducible first | exact HB.out | apply below_alloc | apply pw_below_drewN | apply below_drew1) | exact HB.out))) : w.heap.size ≤ gb121)); clear HB; have HB := n0_; have BK121 := n1_; have GW121 := n2_; have GE121 := n3_; clear n0_ n1_ n2_ n3_; clear hb hbox hg; have hcz11_0 : w10.cell? ⟨gb121, 0, none⟩ = some (.string a0_0) := (blk_cell BK121.out 0).trans rfl; have hcz11_1 : w10.cell? ⟨gb121, 1, none⟩ = some (.int .i64 a0_1) := (blk_cell BK121.out 1).trans rfl; have hfz11_0 := blk_frozen BK121.out 0; have hfz11_1 := blk_frozen BK121.out 1) | (go_at_call 58; (with_reducible refine (impl_hasOnly.calls k a0_0 (⟨#[117, 100, 108, 114, 102, 98]⟩ : ByteArray) true _ A3.out).mono ?_); rintro e w' ⟨rfl, ⟨nd, rfl⟩⟩) | (go_at_call 59; (with_reducible refine (impl_within.calls a0_1 1 3 true _ A5.out).mono ?_); rintro e w' ⟨rfl, ⟨nd, rfl⟩⟩))
          go_ret
          exact ⟨by first | rfl | (simp [errW_none, errW_some] <;> rfl) | (simp [*, errW_none, errW_some] <;> rfl), by repeat (first | (with_reducible first | exact HB.out | apply below_alloc | apply pw_below_drewN | apply below_drew1 | refine below_set ?_ GE121.out) | exact HB.out)⟩
      · replace c6 := Bool.eq_false_iff.mpr c6
        subst c6
        have H1 : (some false) = some r := by rw [if_neg (show ¬ (false = true) by decide)] at H; exact H
        clear H
        have H := H1
        clear H1
        obtain rfl := Option.some.inj H
        go_enter Try.func17, Try.ntmps17
        go_wp2_with (first | ((with_reducible refine gate_dst (N := 1) rfl ?_); refine box_event ?hg (N := 1) ?hd (cs := #[.string a0_0, .int .i64 a0_1]) (t := 26) ?hr ?_; (case hd => rfl); (case hg => rfl); (case hr => first | (go_simp; done) | (go_simp; rfl)); intro gb121 hg w12 hbox hb; have n0_ := Aside0.mk (below_step (by repeat (first | (with_reducible first | exact HB.out | apply below_alloc | apply pw_below_drewN | apply below_drew1) | exact HB.out)) hb); have n1_ := Aside0.mk (hbox); have n2_ := Aside0.mk ((by rw [hg]; exact (below_size (by repeat (first | (with_reducible first | exact HB.out | apply below_alloc | apply pw_below_drewN | apply below_drew1) | exact HB.out))) : w.heap.size ≤ gb121)); have n3_ := Aside0.mk ((by rw [hg]; exact (below_size (by repeat (first | (with_reducible first | exact HB.out | apply below_alloc | apply pw_below_drewN | apply below_drew1) | exact HB.out))) : w.heap.size ≤ gb121)); clear HB; have HB := n0_; have BK121 := n1_; have GW121 := n2_; have GE121 := n3_; clear n0_ n1_ n2_ n3_; clear hb hbox hg; have hcz13_0 : w12.cell? ⟨gb121, 0, none⟩ = some (.string a0_0) := (blk_cell BK121.out 0).trans rfl; have hcz13_1 : w12.cell? ⟨gb121, 1, none⟩ = some (.int .i64 a0_1) := (blk_cell BK121.out 1).trans rfl; have hfz13_0 := blk_frozen BK121.out 0; have hfz13_1 := blk_frozen BK121.out 1) | (go_at_call 58; (with_reducible refine (impl_hasOnly.calls k a0_0 (⟨#[117, 100, 108, 114, 102, 98]⟩ : ByteArray) true _ A3.out).mono ?_); rintro e w' ⟨rfl, ⟨nd, rfl⟩⟩) | (go_at_call 59; (with_reducible refine (impl_within.calls a0_1 1 3 false _ A5.out).mono ?_); rintro e w' ⟨rfl, ⟨nd, rfl⟩⟩))
        go_ret
        exact ⟨by first | rfl | (simp [errW_none, errW_some] <;> rfl) | (simp [*, errW_none, errW_some] <;> rfl), by repeat (first | (with_reducible first | exact HB.out | apply below_alloc | apply pw_below_drewN | apply below_drew1 | refine below_set ?_ GE121.out) | exact HB.out)⟩
    · replace c4 := Bool.eq_false_iff.mpr c4
      subst c4
      have H1 : (some false) = some r := by rw [if_neg (show ¬ (false = true) by decide)] at H; exact H
      clear H
      have H := H1
      clear H1
      obtain rfl := Option.some.inj H
      go_enter Try.func17, Try.ntmps17
      go_wp2_with (first | ((with_reducible refine gate_dst (N := 1) rfl ?_); refine box_event ?hg (N := 1) ?hd (cs := #[.string a0_0, .int .i64 a0_1]) (t := 26) ?hr ?_; (case hd => rfl); (case hg => rfl); (case hr => first | (go_simp; done) | (go_simp; rfl)); intro gb121 hg w14 hbox hb; have n0_ := Aside0.mk (below_step (by repeat (first | (with_reducible first | exact HB.out | apply below_alloc | apply pw_below_drewN | apply below_drew1) | exact HB.out)) hb); have n1_ := Aside0.mk (hbox); have n2_ := Aside0.mk ((by rw [hg]; exact (below_size (by repeat (first | (with_reducible first | exact HB.out | apply below_alloc | apply pw_below_drewN | apply below_drew1) | exact HB.out))) : w.heap.size ≤ gb121)); have n3_ := Aside0.mk ((by rw [hg]; exact (below_size (by repeat (first | (with_reducible first | exact HB.out | apply below_alloc | apply pw_below_drewN | apply below_drew1) | exact HB.out))) : w.heap.size ≤ gb121)); clear HB; have HB := n0_; have BK121 := n1_; have GW121 := n2_; have GE121 := n3_; clear n0_ n1_ n2_ n3_; clear hb hbox hg; have hcz15_0 : w14.cell? ⟨gb121, 0, none⟩ = some (.string a0_0) := (blk_cell BK121.out 0).trans rfl; have hcz15_1 : w14.cell? ⟨gb121, 1, none⟩ = some (.int .i64 a0_1) := (blk_cell BK121.out 1).trans rfl; have hfz15_0 := blk_frozen BK121.out 0; have hfz15_1 := blk_frozen BK121.out 1) | (go_at_call 58; (with_reducible refine (impl_hasOnly.calls k a0_0 (⟨#[117, 100, 108, 114, 102, 98]⟩ : ByteArray) false _ A3.out).mono ?_); rintro e w' ⟨rfl, ⟨nd, rfl⟩⟩))
      go_ret
      exact ⟨by first | rfl | (simp [errW_none, errW_some] <;> rfl) | (simp [*, errW_none, errW_some] <;> rfl), by repeat (first | (with_reducible first | exact HB.out | apply below_alloc | apply pw_below_drewN | apply below_drew1 | refine below_set ?_ GE121.out) | exact HB.out)⟩
  · rw [if_neg c2] at H
    have c2b0 : decide ((a0_0.size : Int) ≤ 6) = false := decide_eq_false c2
    have c2b1 : decide (a0_0.size ≤ 6) = false := decide_eq_false (by omega)
    clear c2
    obtain rfl := Option.some.inj H
    go_enter Try.func17, Try.ntmps17
    go_wp2_with (first | ((with_reducible refine gate_dst (N := 1) rfl ?_); refine box_event ?hg (N := 1) ?hd (cs := #[.string a0_0, .int .i64 a0_1]) (t := 26) ?hr ?_; (case hd => rfl); (case hg => rfl); (case hr => first | (go_simp; done) | (go_simp; rfl)); intro gb121 hg w16 hbox hb; have n0_ := Aside0.mk (below_step (by repeat (first | (with_reducible first | exact HB.out | apply below_alloc | apply pw_below_drewN | apply below_drew1) | exact HB.out)) hb); have n1_ := Aside0.mk (hbox); have n2_ := Aside0.mk ((by rw [hg]; exact (below_size (by repeat (first | (with_reducible first | exact HB.out | apply below_alloc | apply pw_below_drewN | apply below_drew1) | exact HB.out))) : w.heap.size ≤ gb121)); have n3_ := Aside0.mk ((by rw [hg]; exact (below_size (by repeat (first | (with_reducible first | exact HB.out | apply below_alloc | apply pw_below_drewN | apply below_drew1) | exact HB.out))) : w.heap.size ≤ gb121)); clear HB; have HB := n0_; have BK121 := n1_; have GW121 := n2_; have GE121 := n3_; clear n0_ n1_ n2_ n3_; clear hb hbox hg; have hcz17_0 : w16.cell? ⟨gb121, 0, none⟩ = some (.string a0_0) := (blk_cell BK121.out 0).trans rfl; have hcz17_1 : w16.cell? ⟨gb121, 1, none⟩ = some (.int .i64 a0_1) := (blk_cell BK121.out 1).trans rfl; have hfz17_0 := blk_frozen BK121.out 0; have hfz17_1 := blk_frozen BK121.out 1))
    go_ret
    exact ⟨by first | rfl | (simp [errW_none, errW_some] <;> rfl) | (simp [*, errW_none, errW_some] <;> rfl), by repeat (first | (with_reducible first | exact HB.out | apply below_alloc | apply pw_below_drewN | apply below_drew1 | refine below_set ?_ GE121.out) | exact HB.out)⟩

-- NOT PRINTED: function 103 (strings_NewReplacer)

-- NOT PRINTED: function 143 (atomic_LoadUint32)

-- NOT PRINTED: function 139 (atomic_Bool_Load)

-- NOT PRINTED: function 155 (race_Disable)

-- NOT PRINTED: function 156 (atomic_CompareAndSwapInt32)

-- NOT PRINTED: function 157 (race_Enable)

-- NOT PRINTED: function 158 (race_Acquire)

-- NOT PRINTED: function 161 (atomic_AddInt32)

-- NOT PRINTED: function 165 (sync_runtime_canSpin)

-- NOT PRINTED: function 166 (sync_runtime_doSpin)

-- NOT PRINTED: function 167 (sync_throw)

-- NOT PRINTED: function 168 (sync_runtime_nanotime)

-- NOT PRINTED: function 169 (sync_runtime_SemacquireMutex)

-- NOT PRINTED: function 159 (sync_Mutex_lockSlow)

-- NOT PRINTED: function 149 (sync_Mutex_Lock_149)

-- NOT PRINTED: function 144 (sync_Mutex_Lock_144)

-- NOT PRINTED: function 160 (race_ReleaseMerge)

-- NOT PRINTED: function 170 (sync_fatal)

-- NOT PRINTED: function 171 (sync_runtime_Semrelease)

-- NOT PRINTED: function 162 (sync_Mutex_unlockSlow)

-- NOT PRINTED: function 150 (sync_Mutex_Unlock_150)

-- NOT PRINTED: function 145 (sync_Mutex_Unlock_145)

-- NOT PRINTED: function 151 (atomic_StoreUint32)

-- NOT PRINTED: function 152 (atomic_b32)

-- NOT PRINTED: function 146 (atomic_Bool_Store)

-- NOT PRINTED: function 140 (sync_Once_doSlow)

-- NOT PRINTED: function 127 (sync_Once_Do)

-- NOT PRINTED: function 172 (stringslite_HasPrefix)

-- NOT PRINTED: function 163 (strings_HasPrefix)

-- NOT PRINTED: function 164 (strings_longestCommonSuffix)

-- NOT PRINTED: function 153 (strings_makeStringFinder)

-- NOT PRINTED: function 147 (strings_makeSingleStringReplacer)

-- NOT PRINTED: function 154 (strings_trieNode_add)

-- NOT PRINTED: function 148 (strings_makeGenericReplacer)

-- NOT PRINTED: function 141 (strings_Replacer_build)

-- NOT PRINTED: function 128 (strings_Replacer_buildOnce)

-- NOT PRINTED: function 104 (strings_Replacer_Replace)

/-! ### impl_Move_mirrored: function 64 -/
/-- A string's bytes. -/
def impl_Move_mirrored.bytes (s : ByteArray) : List Int := s.data.toList.map fun b => (b.toNat : Int)
/-- The string of some bytes. -/
def impl_Move_mirrored.text (l : List Int) : ByteArray := ⟨(l.map fun x => x.toNat.toUInt8).toArray⟩
/-- These bytes stand in this block. -/
def impl_Move_mirrored.Hold (g : Nat) (w : World) (L : List Int) : Prop := ∃ (cells : Array Value) (e : TypeId) (fr : Nat × Nat), w.heap[g]? = some (.cells cells e fr) ∧ L.length ≤ fr.1 ∧ ∀ (j : Nat) (x : Int), L[j]? = some x → cells[j]? = some (.int .u8 x)
theorem impl_Move_mirrored.cell {g : Nat} {w : World} {L : List Int} (h : impl_Move_mirrored.Hold g w L) (x : Int) (h0 : 0 ≤ x) (h1 : x < (L.length : Int)) : w.cell? ⟨g, x.toNat, none⟩ = some (.int .u8 (rd L x)) := by
  obtain ⟨cells, e, fr, hh, -, hc⟩ := h
  rw [cell_of_row w g x.toNat cells e fr hh]
  exact hc _ _ (rd_getI h0 h1)
theorem impl_Move_mirrored.free {g : Nat} {w : World} {L : List Int} (h : impl_Move_mirrored.Hold g w L) (x : Int) (h0 : 0 ≤ x) (h1 : x < (L.length : Int)) : w.frozen? ⟨g, x.toNat, none⟩ = false := by
  obtain ⟨cells, e, ⟨lo, hi⟩, hh, hl, -⟩ := h
  simp only [World.frozen?, hh]
  have : ¬ lo ≤ x.toNat := by simp only at hl; omega
  simp [this]
theorem impl_Move_mirrored.put {g : Nat} {w : World} {L : List Int} (h : impl_Move_mirrored.Hold g w L) (i : Nat) (v : Int) : impl_Move_mirrored.Hold g (w.setCell ⟨g, i, none⟩ (.int .u8 v)) (L.set i v) := by
  obtain ⟨cells, e, fr, hh, hl, hc⟩ := h
  refine ⟨cells.setIfInBounds i (.int .u8 v), e, fr, ?_, by rw [List.length_set]; exact hl, fun j x hx => ?_⟩
  · simp [World.setCell, Array.getElem?_modify, hh]
  · by_cases e : i = j
    · subst e
      have hlt : i < L.length := by
        have := (List.getElem?_eq_some_iff.1 hx).1
        simpa using this
      rw [List.getElem?_set_self hlt] at hx
      obtain rfl := Option.some.inj hx
      have h2 := hc i L[i] (List.getElem?_eq_getElem hlt)
      have h3 : i < cells.size := (Array.getElem?_eq_some_iff.1 h2).1
      simp [h3]
    · rw [List.getElem?_set_ne e] at hx
      rw [Array.getElem?_setIfInBounds_ne e]
      exact hc j x hx
theorem impl_Move_mirrored.same {g : Nat} {w w' : World} {L : List Int} (h : impl_Move_mirrored.Hold g w L) (e : w'.heap[g]? = w.heap[g]?) : impl_Move_mirrored.Hold g w' L := by
  obtain ⟨cells, e', fr, hh, hl, hc⟩ := h
  exact ⟨cells, e', fr, e.trans hh, hl, hc⟩
theorem impl_Move_mirrored.conv (w : World) {ops : Array Oper} {rest : List Oper} {o : Oper} {a : Act} {Q : Exit → Act → World → Prop} (hg : o.guard = none) (x : Operand) (hop : o.op = Op.convert 9 96 x) (s : ByteArray) (hx : a.eval x = .string s)
    (hK : ∀ (g c : Nat) (w' : World), g = w.heap.size → impl_Move_mirrored.Hold g w' (impl_Move_mirrored.bytes s) → Below w.heap.size w w' → wpList Try.prog ops Q rest (a.put o.dst (.slice (some ⟨g, 0, none⟩) s.size c)) w') : wpList Try.prog ops Q (o :: rest) a w := by
  have hrun := Lib.run_convert_string_bytes (P := Try.prog) w 9 96 5 s (u := .string) (by kernel_rfl) (by kernel_rfl) (by kernel_rfl)
  refine Kd.event_run hg (v := .slice (some ⟨w.heap.size, 0, none⟩) s.size (grownCap w s.size 0 5)) (w1 := Lib.bytesWorld w 5 s) ?_ (hK _ _ _ rfl ?_ ?_)
  · unfold execOp
    simp [hop, hx, hrun, Result.andThen]
  · refine ⟨_, _, _, Lib.bytesWorld_at_new w _ s, ?_, fun j y hy => ?_⟩
    · simp [impl_Move_mirrored.bytes, Lib.bytesCells]
    · unfold impl_Move_mirrored.bytes at hy
      rw [List.getElem?_map] at hy
      obtain ⟨b, hb, rfl⟩ := Option.map_eq_some_iff.1 hy
      have hlt : j < s.data.size := by
        have := (List.getElem?_eq_some_iff.1 hb).1
        simpa using this
      rw [Lib.bytesCells, Array.getElem?_append, if_pos (by simpa using hlt), Array.getElem?_map]
      have : s.data[j]? = some b := by simpa using hb
      rw [this]; rfl
  · exact ⟨rfl, rfl, rfl, by rw [Lib.bytesWorld_size]; omega, fun j hj => Lib.bytesWorld_at_old w _ s j hj⟩
theorem impl_Move_mirrored.back (w : World) {ops : Array Oper} {rest : List Oper} {o : Oper} {a : Act} {Q : Exit → Act → World → Prop} (hg : o.guard = none) (x : Operand) (hop : o.op = Op.convert 96 9 x) (g n c : Nat) (L : List Int) (hx : a.eval x = .slice (some ⟨g, 0, none⟩) n c) (hn : L.length = n) (hh : impl_Move_mirrored.Hold g w L) (hb : ∀ v ∈ L, 0 ≤ v ∧ v ≤ 255)
    (hK : wpList Try.prog ops Q rest (a.put o.dst (.string (impl_Move_mirrored.text L))) w) : wpList Try.prog ops Q (o :: rest) a w := by
  have hrun := run_convert_bytes_back (P := Try.prog) w 96 9 5 ⟨g, 0, none⟩ c (L.map fun x => x.toNat.toUInt8) (by kernel_rfl) (by kernel_rfl) (by kernel_rfl) (fun j hj => by
    rw [List.length_map] at hj
    have hc := impl_Move_mirrored.cell hh (j : Int) (by omega) (by omega)
    rw [show (Addr.add ⟨g, 0, none⟩ j : Addr) = ⟨g, j, none⟩ from by by_cases h0 : j = 0 <;> simp [Addr.add, h0]]
    rw [Int.toNat_natCast] at hc
    rw [hc]
    have hr : rd L (j : Int) = L[j] := by
      have := rd_getI (xs := L) (x := (j : Int)) (by omega) (by omega)
      rw [Int.toNat_natCast, List.getElem?_eq_getElem hj] at this
      exact (Option.some.inj this).symm
    obtain ⟨h1, h2⟩ := hb L[j] (List.getElem_mem _)
    rw [hr, List.getElem_map]
    congr 2
    simp only [Nat.toUInt8, UInt8.toNat_ofNat']
    omega)
  rw [List.length_map, hn] at hrun
  refine Kd.event_run hg (v := .string (impl_Move_mirrored.text L)) (w1 := w) ?_ hK
  unfold execOp
  simp [hop, hx, hrun, Result.andThen, impl_Move_mirrored.text]
theorem impl_Move_mirrored.disable (w : World) : (callFunc 155 #[]).run Try.prog w = .ok (.value (.tuple #[])) w := run_call_mark0 Try.func155 (by kernel_rfl) (by kernel_rfl) (by kernel_rfl) .disable (by kernel_rfl) w
theorem impl_Move_mirrored.enable (w : World) : (callFunc 157 #[]).run Try.prog w = .ok (.value (.tuple #[])) w := run_call_mark0 Try.func157 (by kernel_rfl) (by kernel_rfl) (by kernel_rfl) .enable (by kernel_rfl) w
theorem impl_Move_mirrored.acquire (a : Addr) (w : World) : (callFunc 158 #[.pointer (some a)]).run Try.prog w = .ok (.value (.tuple #[])) w := run_call_marked Try.func158 (by kernel_rfl) (by kernel_rfl) (by kernel_rfl) .acquire (by kernel_rfl) a w
theorem impl_Move_mirrored.releaseMerge (a : Addr) (w : World) : (callFunc 160 #[.pointer (some a)]).run Try.prog w = .ok (.value (.tuple #[])) w := run_call_marked Try.func160 (by kernel_rfl) (by kernel_rfl) (by kernel_rfl) .releaseMerge (by kernel_rfl) a w
set_option maxRecDepth 100000 in
set_option maxHeartbeats 4000000 in
/-- '(*sync/atomic.Bool).Store(true)', entered as a deferred call: the cell holds 1. -/
theorem impl_Move_mirrored.store (a : Addr) (x : Value) (u : FrameMode) (w : World) (hc : w.cell? a = some x) (hz : w.frozen? a = false) :
    CallsD Try.prog 146 #[.pointer (some a), .bool true] u w fun e u' w' => u' = u ∧ (e = .returned (.tuple #[]) ∧ w' = w.drew.setCell a (.int .u32 1)) := by
  have hc' : w.drew.cell? a = some x := by go_simp
  have hz' : w.drew.frozen? a = false := by go_simp
  have hst := run_call_store (P := Try.prog) Try.func151 (by kernel_rfl) (by kernel_rfl) (by kernel_rfl) (by kernel_rfl) (k := .u32) (y := 1) hc' hz'
  go_enter_d Try.func146, Try.ntmps146
  go_wp2
  go_region_calls
  all_goals (go_end0; exact ⟨rfl, rfl⟩)
set_option maxRecDepth 100000 in
set_option maxHeartbeats 4000000 in
/-- '(*sync.Mutex).Unlock', entered as a deferred call, the lock held and nobody waiting: state 0. -/
theorem impl_Move_mirrored.unlock (a : Addr) (u : FrameMode) (w : World) (hc : w.cell? a = some (.int .i32 1)) (hz : w.frozen? a = false) :
    CallsD Try.prog 145 #[.pointer (some a)] u w fun e u' w' => u' = u ∧ (e = .returned (.tuple #[]) ∧ w' = w.setCell a (.int .i32 0)) := by
  have hd := impl_Move_mirrored.disable
  have he := impl_Move_mirrored.enable
  have hr := impl_Move_mirrored.releaseMerge
  have hadd := run_call_add (P := Try.prog) Try.func161 (by kernel_rfl) (by kernel_rfl) (by kernel_rfl) .i32 (by kernel_rfl) (y := -1) (s := 0) hc hz (by simp [go_sem]; rfl)
  have hcv := run_convert_to_unsafe (P := Try.prog) (src := 194) (dst := 198) Try.underlying194 Try.underlying198 (by kernel_rfl) hc
  go_enter_d Try.func145, Try.ntmps145
  go_wp2
  go_end0
  go_wp2
  go_end0
  exact ⟨rfl, rfl⟩
set_option maxRecDepth 100000 in
set_option maxHeartbeats 4000000 in
/-- '(*sync.Mutex).Lock', the lock free: state 1. -/
theorem impl_Move_mirrored.lock (a : Addr) (w : World) (hc : w.cell? a = some (.int .i32 0)) (hz : w.frozen? a = false) :
    Calls Try.prog 144 #[.pointer (some a)] w fun e w' => e = .returned (.tuple #[]) ∧ w' = w.setCell a (.int .i32 1) := by
  have hd := impl_Move_mirrored.disable
  have he := impl_Move_mirrored.enable
  have ha := impl_Move_mirrored.acquire
  have hcas := run_call_cas_hit (P := Try.prog) Try.func156 (by kernel_rfl) (by kernel_rfl) (by kernel_rfl) .i32 (by kernel_rfl) (y := 1) hc hz
  have hc' : (w.setCell a (.int .i32 1)).cell? a = some (.int .i32 1) := World.cell?_setCell_same w a _ hc
  have hcv := run_convert_to_unsafe (P := Try.prog) (src := 194) (dst := 198) Try.underlying194 Try.underlying198 (by kernel_rfl) hc'
  go_enter Try.func144, Try.ntmps144
  go_wp2
  first | go_end0 | (simp only [Exit.inBlock, Exit.then]; refine bodyPost_ret (results_none rfl _ _ _) rfl ?_) | refine bodyPost_ret (results_none rfl _ _ _) rfl ?_
  go_wp2
  go_end0
  exact ⟨rfl, rfl⟩
/-- Left and right exchanged. -/
def impl_Move_mirrored.flip (b : Int) : Int := if b = 108 then 114 else if b = 114 then 108 else b
theorem impl_Move_mirrored.flip_le {b : Int} (h : 0 ≤ b ∧ b ≤ 255) : 0 ≤ impl_Move_mirrored.flip b ∧ impl_Move_mirrored.flip b ≤ 255 := by
  unfold impl_Move_mirrored.flip
  repeat' split
  all_goals omega
/-- A table of 256 bytes. -/
def impl_Move_mirrored.tab (f : Nat → Int) : Array Value := ((List.range 256).map fun j => Value.int .u8 (f j)).toArray
theorem impl_Move_mirrored.tab_at (f : Nat → Int) {j : Nat} (h : j < 256) : (impl_Move_mirrored.tab f)[j]? = some (.int .u8 (f j)) := by
  simp [impl_Move_mirrored.tab, h]
theorem impl_Move_mirrored.tab_set (f : Nat → Int) (i : Nat) (v : Int) : (impl_Move_mirrored.tab f).setIfInBounds i (.int .u8 v) = impl_Move_mirrored.tab (fun j => if j = i then v else f j) := by
  apply Array.ext_getElem?
  intro j
  by_cases h : j < 256
  · rw [impl_Move_mirrored.tab_at _ h, Array.getElem?_setIfInBounds]
    by_cases e : i = j
    · subst e
      have hs : i < (impl_Move_mirrored.tab f).size := by simp [impl_Move_mirrored.tab]; exact h
      simp [hs]
    · rw [if_neg e, impl_Move_mirrored.tab_at _ h, if_neg (Ne.symm e)]
  · have hs : ∀ g, (impl_Move_mirrored.tab g).size ≤ j := fun g => by simp [impl_Move_mirrored.tab]; omega
    rw [Array.getElem?_eq_none (by simp; exact hs f), Array.getElem?_eq_none (hs _)]
/-- The bytes up to i exchanged. -/
def impl_Move_mirrored.upto (l : List Int) (i : Nat) : List Int := (l.take i).map impl_Move_mirrored.flip ++ l.drop i
theorem impl_Move_mirrored.upto_len (l : List Int) (i : Nat) : (impl_Move_mirrored.upto l i).length = l.length := by simp [impl_Move_mirrored.upto]; omega
theorem impl_Move_mirrored.upto_zero (l : List Int) : impl_Move_mirrored.upto l 0 = l := by simp [impl_Move_mirrored.upto]
theorem impl_Move_mirrored.upto_all (l : List Int) : impl_Move_mirrored.upto l l.length = l.map impl_Move_mirrored.flip := by simp [impl_Move_mirrored.upto]
theorem impl_Move_mirrored.upto_get (l : List Int) (i j : Nat) : (impl_Move_mirrored.upto l i)[j]? = if j < i then (l[j]?).map impl_Move_mirrored.flip else l[j]? := by
  unfold impl_Move_mirrored.upto
  by_cases h : j < i
  · rw [if_pos h]
    by_cases hl : j < l.length
    · rw [List.getElem?_append_left (by rw [List.length_map, List.length_take]; omega), List.getElem?_map, List.getElem?_take, if_pos h]
    · rw [List.getElem?_eq_none (by rw [List.length_append, List.length_map, List.length_take, List.length_drop]; omega), List.getElem?_eq_none (by omega)]; rfl
  · rw [if_neg h]
    by_cases hl : i ≤ l.length
    · rw [List.getElem?_append_right (by rw [List.length_map, List.length_take]; omega), List.length_map, List.length_take, List.getElem?_drop]
      congr 1
      omega
    · rw [List.getElem?_eq_none (by rw [List.length_append, List.length_map, List.length_take, List.length_drop]; omega), List.getElem?_eq_none (by omega)]
theorem impl_Move_mirrored.upto_next (l : List Int) (i : Nat) (x : Int) (hx : l[i]? = some x) : (impl_Move_mirrored.upto l i).set i (impl_Move_mirrored.flip x) = impl_Move_mirrored.upto l (i + 1) := by
  apply List.ext_getElem?
  intro j
  by_cases e : i = j
  · subst e
    have hlt := (List.getElem?_eq_some_iff.1 hx).1
    rw [List.getElem?_set_self (by rw [impl_Move_mirrored.upto_len]; exact hlt), impl_Move_mirrored.upto_get, if_pos (by omega), hx]; rfl
  · rw [List.getElem?_set_ne e, impl_Move_mirrored.upto_get, impl_Move_mirrored.upto_get]
    by_cases h : j < i
    · rw [if_pos h, if_pos (by omega)]
    · rw [if_neg h, if_neg (by omega)]
theorem impl_Move_mirrored.upto_same (l : List Int) (i : Nat) (x : Int) (hx : l[i]? = some x) (h : impl_Move_mirrored.flip x = x) : impl_Move_mirrored.upto l (i + 1) = impl_Move_mirrored.upto l i := by
  apply List.ext_getElem?
  intro j
  rw [impl_Move_mirrored.upto_get, impl_Move_mirrored.upto_get]
  by_cases e : i = j
  · subst e
    rw [if_pos (by omega), if_neg (by omega), hx, Option.map_some, h]
  · by_cases h2 : j < i
    · rw [if_pos (by omega), if_pos h2]
    · rw [if_neg (by omega), if_neg h2]
theorem impl_Move_mirrored.bytes_at (s : ByteArray) (x : Int) (h0 : 0 ≤ x) (h1 : x < (s.size : Int)) : (impl_Move_mirrored.bytes s)[x.toNat]? = some (bt s x) := by
  unfold impl_Move_mirrored.bytes bt
  have h2 : x.toNat < s.size := by omega
  rw [dif_pos h2, List.getElem?_map]
  have h3 : s.data.toList[x.toNat]? = some (s[x.toNat]'h2) := by
    rw [Array.getElem?_toList]
    exact Array.getElem?_eq_getElem h2
  rw [h3]; rfl
theorem impl_Move_mirrored.bytes_len (s : ByteArray) : (impl_Move_mirrored.bytes s).length = s.size := by unfold impl_Move_mirrored.bytes; rw [List.length_map, Array.length_toList]; rfl
theorem impl_Move_mirrored.text_bytes (s : ByteArray) : impl_Move_mirrored.text (impl_Move_mirrored.bytes s) = s := by
  apply ByteArray.ext
  unfold impl_Move_mirrored.text impl_Move_mirrored.bytes
  apply Array.toList_inj.1
  simp only [List.map_map]
  have : ((fun x : Int => x.toNat.toUInt8) ∘ fun b : UInt8 => (b.toNat : Int)) = id := by
    funext b
    simp [Function.comp]
  rw [this, List.map_id]
theorem impl_Move_mirrored.eqlnil (a : Option Addr) (l c : Nat) (w : World) : (binOp BinOp.eql 96 (.slice a l c) (.slice none 0 0)).run Try.prog w = .ok (.bool a.isNone) w := by
  simp only [binOp]
  simp [run_equal_slice_nil w 96 5 a l c Try.underlying96]
set_option maxHeartbeats 8000000 in
set_option maxRecDepth 100000 in
/-- '(*strings.byteReplacer).Replace' over the table. -/
theorem impl_Move_mirrored.replace (T : Nat) (s : ByteArray) (w : World) (hT : w.heap[T]? = some (.cells (impl_Move_mirrored.tab fun j => impl_Move_mirrored.flip (j : Int)) 174 (0, 0))) (hs : s.size ≤ 1048576) :
    Calls Try.prog 210 #[.pointer (some ⟨T, 0, none⟩), .string s] w fun e w' => e = .returned (.string (impl_Move_mirrored.text ((impl_Move_mirrored.bytes s).map impl_Move_mirrored.flip))) ∧ Below w.heap.size w w' := by
  have HT := Aside0.mk hT
  have HS := Aside0.mk hs
  have HB := Aside0.mk (Below.refl w.heap.size w)
  clear hT hs
  have hq0 := impl_Move_mirrored.eqlnil none 0 0
  have hq1 := fun g l c => impl_Move_mirrored.eqlnil (some ⟨g, 0, none⟩) l c
  go_enter Try.func210, Try.ntmps210
  go_wp2
  go_loopg [5, 6] s.size (fun kq v5 v6 w' => ∃ x : Int, v6 = .int .i64 x ∧ Aside0 (0 ≤ x ∧ x + kq = s.size) ∧ ((v5 = .slice none 0 0 ∧ Aside0 (impl_Move_mirrored.upto (impl_Move_mirrored.bytes s) x.toNat = impl_Move_mirrored.bytes s)) ∨ ∃ g c, v5 = .slice (some ⟨g, 0, none⟩) s.size c ∧ Aside0 (w.heap.size ≤ g) ∧ Aside0 (impl_Move_mirrored.Hold g w' (impl_Move_mirrored.upto (impl_Move_mirrored.bytes s) x.toNat))) ∧ Aside0 (Below w.heap.size w w'))
  case atStart => exact ⟨0, rfl, ⟨by omega⟩, .inl ⟨rfl, ⟨by rw [Int.toNat_zero, impl_Move_mirrored.upto_zero]⟩⟩, HB⟩
  case round =>
    clear HB
    obtain ⟨x, rfl, HX, HV, HB⟩ := hrel
    by_cases hlt : x < (s.size : Int)
    · have p0' : 0 ≤ x := HX.out.1
      have HLT := Aside0.mk hlt
      have HW : Aside0 (wrap64 (x + 1) = x + 1) := ⟨by unfold wrap64; have := HS.out; omega⟩
      obtain ⟨b, hb⟩ : ∃ b, b = bt s x := ⟨_, rfl⟩
      have hb2 := bt_range s x
      have hx := impl_Move_mirrored.bytes_at s x p0' hlt
      rw [← hb] at hb2 hx
      have HX2 := Aside0.mk hx
      have hr := bt_at s x
      rw [← hb] at hr
      have hcT : wr.cell? ⟨T, b.toNat, none⟩ = some (.int .u8 (impl_Move_mirrored.flip b)) := by
        have h1 := (HB.out.block T (blk_lt HT.out)).trans HT.out
        rw [blk_cell h1, impl_Move_mirrored.tab_at _ (by omega : b.toNat < 256), Int.toNat_of_nonneg hb2.1]
      have d0 : decide (x < (s.size : Int)) = true := decide_eq_true hlt
      have d1 : (0 ≤ x) = True := eq_true p0'
      have d2 : (x < (s.size : Int)) = True := eq_true hlt
      have d3 : (0 ≤ b) = True := eq_true hb2.1
      have d4 : (b < 256) = True := eq_true (by omega)
      have HB2 := Aside0.mk hb2
      by_cases hf : impl_Move_mirrored.flip b = b
      · have k1 : (impl_Move_mirrored.flip b != b) = false := bne_eq_false_iff_eq.mpr hf
        have HN : Aside0 (impl_Move_mirrored.upto (impl_Move_mirrored.bytes s) (wrap64 (x + 1)).toNat = impl_Move_mirrored.upto (impl_Move_mirrored.bytes s) x.toNat) := ⟨by rw [HW.out, show (x + 1).toNat = x.toNat + 1 from by omega]; exact impl_Move_mirrored.upto_same _ _ _ hx hf⟩
        clear hx hb hb2 hf hlt p0'
        go_wp2
        go_roundg (gk - 1)
        case measure => have := HX.out.2; have := HLT.out; omega
        case rel => exact ⟨wrap64 (x + 1), rfl, ⟨by rw [HW.out]; have := HX.out; have := HLT.out; omega⟩, by rw [HN.out]; exact HV, HB⟩
      · have k1 : (impl_Move_mirrored.flip b != b) = true := bne_iff_ne.mpr hf
        have HN : Aside0 ((impl_Move_mirrored.upto (impl_Move_mirrored.bytes s) x.toNat).set x.toNat (impl_Move_mirrored.flip b) = impl_Move_mirrored.upto (impl_Move_mirrored.bytes s) (wrap64 (x + 1)).toNat) := ⟨by rw [HW.out, show (x + 1).toNat = x.toNat + 1 from by omega]; exact impl_Move_mirrored.upto_next _ _ _ hx⟩
        have hul := impl_Move_mirrored.upto_len (impl_Move_mirrored.bytes s) x.toNat
        rw [impl_Move_mirrored.bytes_len] at hul
        have HUL := Aside0.mk hul
        clear hx hb hb2 hf hul
        rcases HV with ⟨rfl, HE⟩ | ⟨g, c, rfl, HG, HH⟩
        · go_wp2_with ((with_reducible refine gate_dst (N := 27) rfl ?_); refine impl_Move_mirrored.conv _ rfl (.tmp 26) rfl s rfl ?_)
          intro g c w4 hg4 HH4 hb4
          rw [← HE.out] at HH4
          have B4 := below_step HB.out hb4
          have leg : w.heap.size ≤ g := by rw [hg4]; exact HB.out.size
          have hcT4 := (hb4.cell (World.block_lt_of_cell? wr _ hcT)).trans hcT
          have hfg := impl_Move_mirrored.free HH4 x p0' (by rw [HUL.out]; exact hlt)
          have hcg := impl_Move_mirrored.cell HH4 x p0' (by rw [HUL.out]; exact hlt)
          have HHN := Aside0.mk (impl_Move_mirrored.put HH4 x.toNat (impl_Move_mirrored.flip b))
          have HB4 := Aside0.mk B4
          have HLG := Aside0.mk leg
          clear hcT hb4 hg4 HH4 B4 leg hlt p0'
          go_wp2
          go_roundg (gk - 1)
          case measure => have := HX.out.2; have := HLT.out; omega
          case rel => exact ⟨wrap64 (x + 1), rfl, ⟨by rw [HW.out]; have := HX.out; have := HLT.out; omega⟩, .inr ⟨g, c, rfl, HLG, ⟨by rw [← HN.out]; exact HHN.out⟩⟩, ⟨below_set HB4.out HLG.out⟩⟩
        · have hfg := impl_Move_mirrored.free HH.out x p0' (by rw [HUL.out]; exact hlt)
          have hcg := impl_Move_mirrored.cell HH.out x p0' (by rw [HUL.out]; exact hlt)
          have HHN := Aside0.mk (impl_Move_mirrored.put HH.out x.toNat (impl_Move_mirrored.flip b))
          clear hlt p0'
          go_wp2
          go_roundg (gk - 1)
          case measure => have := HX.out.2; have := HLT.out; omega
          case rel => exact ⟨wrap64 (x + 1), rfl, ⟨by rw [HW.out]; have := HX.out; have := HLT.out; omega⟩, .inr ⟨g, c, rfl, HG, ⟨by rw [← HN.out]; exact HHN.out⟩⟩, ⟨below_set HB.out HG.out⟩⟩
    · have hd : decide (x < (s.size : Int)) = false := decide_eq_false hlt
      have hxs : x.toNat = (impl_Move_mirrored.bytes s).length := by rw [impl_Move_mirrored.bytes_len]; have := HX.out; omega
      rw [hxs, impl_Move_mirrored.upto_all] at HV
      clear hxs hlt
      rcases HV with ⟨rfl, HE⟩ | ⟨g, c, rfl, HG, HH⟩
      · have et : impl_Move_mirrored.text ((impl_Move_mirrored.bytes s).map impl_Move_mirrored.flip) = s := by rw [HE.out, impl_Move_mirrored.text_bytes]
        go_wp2
        go_ret
        exact ⟨by rw [et]; rfl, HB.out⟩
      · have h255 : ∀ v ∈ (impl_Move_mirrored.bytes s).map impl_Move_mirrored.flip, 0 ≤ v ∧ v ≤ 255 := by
          intro v hv
          obtain ⟨u, hu, rfl⟩ := List.mem_map.1 hv
          unfold impl_Move_mirrored.bytes at hu
          obtain ⟨y, -, rfl⟩ := List.mem_map.1 hu
          exact impl_Move_mirrored.flip_le ⟨by omega, by have := y.toNat_lt; omega⟩
        have HL2 := Aside0.mk h255
        have HLN := Aside0.mk (show ((impl_Move_mirrored.bytes s).map impl_Move_mirrored.flip).length = s.size by rw [List.length_map, impl_Move_mirrored.bytes_len])
        clear h255
        go_wp2_with ((with_reducible refine gate_dst (N := 40) rfl ?_); refine impl_Move_mirrored.back _ rfl (.tmp 39) rfl g s.size c ((impl_Move_mirrored.bytes s).map impl_Move_mirrored.flip) rfl HLN.out HH.out HL2.out ?_)
        go_ret
        exact ⟨rfl, HB.out⟩
theorem impl_Move_mirrored.build0 (w : World) : (Instr.build 174 #[]).run Try.prog w = .ok (.agg (impl_Move_mirrored.tab fun _ => 0)) w := run_build w 174 #[] _ (by kernel_rfl)
theorem impl_Move_mirrored.zero0 : Try.zeroCells174 = impl_Move_mirrored.tab fun _ => 0 := by kernel_rfl
theorem impl_Move_mirrored.tab_size (f : Nat → Int) : (impl_Move_mirrored.tab f).size = 256 := by simp [impl_Move_mirrored.tab]
theorem impl_Move_mirrored.tab_one (f : Nat → Int) : (impl_Move_mirrored.tab f).all (·.oneCell') = true := by simp [impl_Move_mirrored.tab, Value.oneCell']
theorem impl_Move_mirrored.storeT (w : World) {ops : Array Oper} {rest : List Oper} {o : Oper} {a : Act} {Q : Exit → Act → World → Prop} (hg : o.guard = none) (x y : Operand) (hop : o.op = Op.store 174 x y) (g : Nat) (cells : Array Value)
    (hx : a.eval x = .pointer (some ⟨g, 0, none⟩)) (hy : a.eval y = .agg cells) (t : TypeId) (old : Array Value) (hb : w.heap[g]? = some (.cells old t (0, 0))) (hs : old.size = 256) (hc : cells.size = 256) (h1 : cells.all (·.oneCell') = true)
    (hK : ∀ w' : World, w'.heap[g]? = some (.cells cells t (0, 0)) → w.grownBy w' (some g) → wpList Try.prog ops Q rest (a.put o.dst undef) w') : wpList Try.prog ops Q (o :: rest) a w := by
  refine wpList_plain hg fun K' hK' => ?_
  refine wp_store_row _ x y hop g cells hx hy t old hb (by rw [hc]; kernel_rfl) (hs.trans hc.symm) h1 ?_
  exact hK' _ _ (hK _ (setRow_heap w g old cells t (0, 0) hb) ⟨rfl, rfl, rfl, by simp, fun i _ hi => setRow_other w g i cells (fun e => hi (by rw [e]))⟩)
theorem impl_Move_mirrored.tab_same (f g : Nat → Int) (h : ∀ j, j < 256 → f j = g j) : impl_Move_mirrored.tab f = impl_Move_mirrored.tab g := by
  apply Array.ext_getElem?
  intro j
  by_cases hj : j < 256
  · rw [impl_Move_mirrored.tab_at _ hj, impl_Move_mirrored.tab_at _ hj, h j hj]
  · rw [Array.getElem?_eq_none (by rw [impl_Move_mirrored.tab_size]; omega), Array.getElem?_eq_none (by rw [impl_Move_mirrored.tab_size]; omega)]
/-- The four texts of the replacer. -/
def impl_Move_mirrored.Four (w : World) (O : Nat) : Prop := w.cell? ⟨O, 0, none⟩ = some (.string ⟨#[108]⟩) ∧ w.cell? ⟨O, 1, none⟩ = some (.string ⟨#[114]⟩) ∧ w.cell? ⟨O, 2, none⟩ = some (.string ⟨#[114]⟩) ∧ w.cell? ⟨O, 3, none⟩ = some (.string ⟨#[108]⟩)
theorem impl_Move_mirrored.Four.below {w w' : World} {O : Nat} (h : impl_Move_mirrored.Four w O) (hb : Below w.heap.size w w') : impl_Move_mirrored.Four w' O :=
  ⟨(hb.cell (World.block_lt_of_cell? w _ h.1)).trans h.1, (hb.cell (World.block_lt_of_cell? w _ h.2.1)).trans h.2.1, (hb.cell (World.block_lt_of_cell? w _ h.2.2.1)).trans h.2.2.1, (hb.cell (World.block_lt_of_cell? w _ h.2.2.2)).trans h.2.2.2⟩
theorem impl_Move_mirrored.Four.far {w : World} {O T j : Nat} {v : Value} (h : impl_Move_mirrored.Four w O) (hne : O ≠ T) : impl_Move_mirrored.Four (w.setCell ⟨T, j, none⟩ v) O := by
  have e : ∀ i : Nat, (w.setCell ⟨T, j, none⟩ v).cell? ⟨O, i, none⟩ = w.cell? ⟨O, i, none⟩ := fun i => World.cell?_setCell_other _ ⟨T, j, none⟩ ⟨O, i, none⟩ _ (fun h => hne (congrArg Addr.block h).symm)
  unfold impl_Move_mirrored.Four at *
  rw [e, e, e, e]
  exact h
set_option maxHeartbeats 8000000 in
set_option maxRecDepth 100000 in
/-- '(*strings.Replacer).build': the table. -/
theorem impl_Move_mirrored.build (R O c : Nat) (v0 v1 v2 v3 : Value) (w : World) (hR : w.heap[R]? = some (.cells #[v0, v1, v2, v3, .slice (some ⟨O, 0, none⟩) 4 c] 155 (0, 0))) (hO : impl_Move_mirrored.Four w O) :
    Calls Try.prog 141 #[.pointer (some ⟨R, 0, none⟩)] w fun e w' => ∃ T, e = .returned (.iface 175 (.pointer (some ⟨T, 0, none⟩))) ∧ w.heap.size ≤ T ∧ w'.heap[T]? = some (.cells (impl_Move_mirrored.tab fun j => impl_Move_mirrored.flip (j : Int)) 174 (0, 0)) ∧ Below w.heap.size w w' := by
  have HO := Aside0.mk hO
  obtain ⟨o0, o1, o2, o3⟩ := hO
  have r4 := blk_cell hR 4
  have b0 := impl_Move_mirrored.build0
  have zc := impl_Move_mirrored.zero0
  obtain ⟨WO, HWO⟩ : ∃ W : World, Aside0 (W = w) := ⟨w, ⟨rfl⟩⟩
  go_enter Try.func141, Try.ntmps141
  go_wp2
  go_loopg [4, 5] 2 (fun kq v4 v5 w' => ∃ i : Int, v5 = .int .i64 i ∧ v4 = .bool true ∧ w' = w ∧ Aside0 ((i = 0 ∧ kq = 2) ∨ (i = 2 ∧ kq = 1) ∨ (i = 4 ∧ kq = 0)))
  case atStart => exact ⟨0, rfl, rfl, rfl, ⟨.inl ⟨rfl, rfl⟩⟩⟩
  case round =>
    obtain ⟨i, rfl, rfl, rfl, HI⟩ := hrel
    rcases HI.out with ⟨rfl, rfl⟩ | ⟨rfl, rfl⟩ | ⟨rfl, rfl⟩
    · go_wp2
      go_roundg 1
      case measure => omega
      case rel => exact ⟨2, rfl, rfl, rfl, ⟨.inr (.inl ⟨rfl, rfl⟩)⟩⟩
    · go_wp2
      go_roundg 0
      case measure => omega
      case rel => exact ⟨4, rfl, rfl, rfl, ⟨.inr (.inr ⟨rfl, rfl⟩)⟩⟩
    · go_wp2_with (first | ((with_reducible refine gate_dst (N := 6) rfl ?_); refine box_event ?hg (N := 6) ?hd (cs := impl_Move_mirrored.tab fun _ => 0) (t := 174) ?hr ?_; (case hd => rfl); (case hg => rfl); (case hr => first | (go_simp; done) | (go_simp; rfl)); intro T hT w1 BT hb; have B1 := below_step (Below.refl wr.heap.size wr) hb; have le1 : wr.heap.size ≤ T := Nat.le_of_eq hT.symm; clear hb hT) | ((with_reducible refine gate_store (t := 174) (p := 6) rfl ?_); refine impl_Move_mirrored.storeT _ rfl _ _ rfl T (impl_Move_mirrored.tab fun _ => 0) rfl rfl 174 _ BT (impl_Move_mirrored.tab_size _) (impl_Move_mirrored.tab_size _) (impl_Move_mirrored.tab_one _) ?_; intro w2 BT2 G2; have B2 := B1.grown G2 B1.size (fun j hj => by cases hj; exact le1); clear BT B1 G2))
      have HBT : Aside0 (w2.heap[T]? = some (.cells (impl_Move_mirrored.tab fun j => if (j : Int) < 0 then (j : Int) else 0) 174 (0, 0))) := ⟨by rw [BT2, impl_Move_mirrored.tab_same (fun j => if (j : Int) < 0 then (j : Int) else 0) (fun _ => 0) (fun j _ => if_neg (by omega))]⟩
      have HB := Aside0.mk B2
      have HLE := Aside0.mk le1
      clear BT2 B2 le1
      go_loopg [61] 256 (fun kq v61 w' => ∃ x : Int, v61 = .int .i64 x ∧ Aside0 (0 ≤ x ∧ x + kq = 256) ∧ Aside0 (w'.heap[T]? = some (.cells (impl_Move_mirrored.tab fun j => if (j : Int) < x then (j : Int) else 0) 174 (0, 0))) ∧ Aside0 (Below wr.heap.size wr w'))
      case atStart => exact ⟨0, rfl, ⟨by omega⟩, HBT, HB⟩
      case round =>
        clear HBT HB
        obtain ⟨x, rfl, HX, HBT, HB⟩ := hrel
        by_cases hlt : x < 256
        · have p0' : 0 ≤ x := HX.out.1
          have HLT := Aside0.mk hlt
          have hm : x % 256 = x := Int.emod_eq_of_lt p0' hlt
          have d0 : decide (x < 256) = true := decide_eq_true hlt
          have d1 : (0 ≤ x) = True := eq_true p0'
          have d2 : (x < 256) = True := eq_true hlt
          have hc := (blk_cell HBT.out x.toNat).trans (impl_Move_mirrored.tab_at _ (by omega : x.toNat < 256))
          have hf := blk_frozen HBT.out x.toNat
          have HN := Aside0.mk (blk_put HBT.out x.toNat (.int .u8 x) (impl_Move_mirrored.tab_set _ x.toNat x))
          have HW : Aside0 (wrap64 (x + 1) = x + 1) := ⟨by unfold wrap64; omega⟩
          clear p0' hlt
          go_wp2
          go_roundg (gk - 1)
          case measure => have := HX.out.2; have := HLT.out; omega
          case rel => exact ⟨x + 1, by first | rfl | rw [HW.out], ⟨by have := HX.out; have := HLT.out; omega⟩, ⟨by rw [HN.out, impl_Move_mirrored.tab_same _ (fun j => if (j : Int) < x + 1 then (j : Int) else 0) (fun j _ => by have := HX.out; split <;> split <;> (try split) <;> omega)]⟩, ⟨below_set HB.out HLE.out⟩⟩
        · have d0 : decide (x < 256) = false := decide_eq_false hlt
          have hxe : x = 256 := by have := HX.out; omega
          have HT0 : Aside0 (wr.heap[T]? = some (.cells (impl_Move_mirrored.tab fun j => (j : Int)) 174 (0, 0))) := ⟨by rw [HBT.out, impl_Move_mirrored.tab_same _ (fun j => (j : Int)) (fun j _ => by rw [if_pos (by omega)])]⟩
          clear hlt hxe HBT HX
          have HNE : Aside0 (O ≠ T) := ⟨fun e => by have := World.block_lt_of_cell? _ _ HO.out.1; have h2 := HLE.out; simp only at this; omega⟩
          have HLE2 : Aside0 (WO.heap.size ≤ T) := ⟨by rw [HWO.out]; exact HLE.out⟩
          have HO4 := Aside0.mk (HO.out.below HB.out)
          have HB4 : Aside0 (Below WO.heap.size WO wr) := ⟨by rw [HWO.out]; exact HB.out⟩
          clear HB HO o0 o1 o2 o3 r4 hR
          go_wp2
          go_loopg [8] 2 (fun kq v8 w' => ∃ i : Int, v8 = .int .i64 i ∧ Aside0 ((i = 2 ∧ kq = 2 ∧ w'.heap[T]? = some (.cells (impl_Move_mirrored.tab fun j => (j : Int)) 174 (0, 0))) ∨ (i = 0 ∧ kq = 1 ∧ w'.heap[T]? = some (.cells (impl_Move_mirrored.tab fun j => if j = 114 then 108 else (j : Int)) 174 (0, 0))) ∨ (i = -2 ∧ kq = 0 ∧ w'.heap[T]? = some (.cells (impl_Move_mirrored.tab fun j => impl_Move_mirrored.flip (j : Int)) 174 (0, 0)))) ∧ Aside0 (impl_Move_mirrored.Four w' O) ∧ Aside0 (Below WO.heap.size WO w'))
          case atStart => exact ⟨2, rfl, ⟨.inl ⟨rfl, rfl, HT0.out⟩⟩, HO4, HB4⟩
          case round =>
            clear HT0 HO4 HB4
            obtain ⟨i, rfl, HI, HO, HB⟩ := hrel
            obtain ⟨o0, o1, o2, o3⟩ := HO.out
            have q1 : ∀ h : 0 < (⟨#[114]⟩ : ByteArray).size, ((⟨#[114]⟩ : ByteArray)[0]'h).toNat = 114 := fun _ => rfl
            have q2 : ∀ h : 0 < (⟨#[108]⟩ : ByteArray).size, ((⟨#[108]⟩ : ByteArray)[0]'h).toNat = 108 := fun _ => rfl
            rcases HI.out with ⟨rfl, rfl, ht⟩ | ⟨rfl, rfl, ht⟩ | ⟨rfl, rfl, ht⟩
            · have hf := blk_frozen ht 114
              have hc := (blk_cell ht 114).trans (impl_Move_mirrored.tab_at _ (by decide : 114 < 256))
              have HN := Aside0.mk (blk_put ht 114 (.int .u8 108) (impl_Move_mirrored.tab_set _ 114 108))
              have HO2 := Aside0.mk HO.out
              have hne : O ≠ T := HNE.out
              clear ht HI
              go_wp2
              go_roundg 1
              case measure => omega
              case rel => exact ⟨0, rfl, ⟨.inr (.inl ⟨rfl, rfl, HN.out⟩)⟩, ⟨impl_Move_mirrored.Four.far HO.out hne⟩, ⟨below_set HB.out HLE2.out⟩⟩
            · have hf := blk_frozen ht 108
              have hc := (blk_cell ht 108).trans (impl_Move_mirrored.tab_at _ (by decide : 108 < 256))
              have HN := Aside0.mk (blk_put ht 108 (.int .u8 114) (impl_Move_mirrored.tab_set _ 108 114))
              have hne : O ≠ T := HNE.out
              clear ht HI
              go_wp2
              go_roundg 0
              case measure => omega
              case rel => exact ⟨-2, rfl, ⟨.inr (.inr ⟨rfl, rfl, by rw [HN.out, impl_Move_mirrored.tab_same _ (fun j => impl_Move_mirrored.flip (j : Int)) (fun j _ => by unfold impl_Move_mirrored.flip; repeat' split; all_goals omega)]⟩)⟩, ⟨impl_Move_mirrored.Four.far HO.out hne⟩, ⟨below_set HB.out HLE2.out⟩⟩
            · clear o0 o1 o2 o3
              have HT5 := Aside0.mk ht
              clear ht HI
              go_wp2
              go_ret
              exact ⟨T, rfl, HLE.out, HT5.out, by have := HB.out; rw [HWO.out] at this; exact this⟩
set_option maxHeartbeats 8000000 in
set_option maxRecDepth 100000 in
/-- '(*strings.Replacer).buildOnce'. -/
theorem impl_Move_mirrored.once (R O c : Nat) (d m sm : Value) (w : World) (hR : w.heap[R]? = some (.cells #[d, m, sm, .nilIface, .slice (some ⟨O, 0, none⟩) 4 c] 155 (0, 0))) (hO : impl_Move_mirrored.Four w O) :
    Calls Try.prog 128 #[.pointer (some ⟨R, 0, none⟩)] w fun e w' => e = .returned (.tuple #[]) ∧ ∃ T, T ≠ R ∧ w'.heap[R]? = some (.cells #[d, m, sm, .iface 175 (.pointer (some ⟨T, 0, none⟩)), .slice none 0 0] 155 (0, 0)) ∧ w'.heap[T]? = some (.cells (impl_Move_mirrored.tab fun j => impl_Move_mirrored.flip (j : Int)) 174 (0, 0)) ∧ Below R w w' := by
  go_enter Try.func128, Try.ntmps128
  go_wp2_with (go_at_call 141; refine (impl_Move_mirrored.build R O c d m sm .nilIface _ hR hO).mono ?_; rintro e w4 ⟨T, rfl, hT, hTT, hB⟩; have BR := blk_below hR hB; have hf3 := blk_frozen BR 3; have hc3 := blk_cell BR 3; have BR2 := blk_put BR 3 (.iface 175 (.pointer (some ⟨T, 0, none⟩))) rfl; have hf4 := blk_frozen BR2 4; have hc4 := blk_cell BR2 4)
  go_end0
  have hne : T ≠ R := by have := blk_lt hR; omega
  refine ⟨rfl, T, hne, blk_put BR2 4 (.slice none 0 0) rfl, blk_far (blk_far hTT hne _) hne _, ?_⟩
  exact ((hB.mono (Nat.le_of_lt (blk_lt hR))).setCell (Nat.le_refl _) _).setCell (Nat.le_refl _) _
set_option maxHeartbeats 8000000 in
set_option maxRecDepth 100000 in
/-- '(*sync.Once).doSlow' with it. -/
theorem impl_Move_mirrored.slow (R O c : Nat) (w : World) (hR : w.heap[R]? = some (.cells #[.int .u32 0, .int .i32 0, .int .u32 0, .nilIface, .slice (some ⟨O, 0, none⟩) 4 c] 155 (0, 0))) (hO : impl_Move_mirrored.Four w O) (hne : O ≠ R) :
    Calls Try.prog 140 #[.pointer (some ⟨R, 0, none⟩), .func (.func 128) #[.pointer (some ⟨R, 0, none⟩)] #[]] w fun e w' => e = .returned (.tuple #[]) ∧ ∃ T, T ≠ R ∧ w'.heap[R]? = some (.cells #[.int .u32 1, .int .i32 0, .int .u32 0, .iface 175 (.pointer (some ⟨T, 0, none⟩)), .slice none 0 0] 155 (0, 0)) ∧ w'.heap[T]? = some (.cells (impl_Move_mirrored.tab fun j => impl_Move_mirrored.flip (j : Int)) 174 (0, 0)) ∧ Below R w w' := by
  have c1 := blk_cell hR 1
  have f1 := blk_frozen hR 1
  have R1 : (w.setCell ⟨R, 1, none⟩ (.int .i32 1)).heap[R]? = some (.cells #[.int .u32 0, .int .i32 1, .int .u32 0, .nilIface, .slice (some ⟨O, 0, none⟩) 4 c] 155 (0, 0)) := blk_put hR 1 (.int .i32 1) rfl
  have l0 := run_call_load (P := Try.prog) Try.func143 (by kernel_rfl) (by kernel_rfl) (by kernel_rfl) .u32 (by kernel_rfl) (w := w.setCell ⟨R, 1, none⟩ (.int .i32 1)) (a := ⟨R, 0, none⟩) (x := 0) (blk_cell R1 0)
  have hnot : ∀ (x : Bool) (w : World), (Op.unary .not (.bool x)).run Try.prog w = .ok (.bool (!x)) w := fun _ _ => rfl
  have hO1 := impl_Move_mirrored.Four.far (j := 1) (v := .int .i32 1) hO hne
  go_enter_defers Try.func140, Try.ntmps140
  go_wp2_with (first | (go_at_call 144; refine (impl_Move_mirrored.lock ⟨R, 1, none⟩ _ (by go_simp) (by go_simp)).mono ?_; rintro e w' ⟨rfl, rfl⟩) | (go_at_call 128; refine (impl_Move_mirrored.once R O c _ _ _ _ R1 hO1).mono ?_; rintro e w5 ⟨rfl, T, hT, BR, BT, HB⟩) | (go_at_call 139; go_in))
  have S1 : (w5.drew.setCell ⟨R, 0, none⟩ (.int .u32 1)).heap[R]? = some (.cells #[.int .u32 1, .int .i32 1, .int .u32 0, .iface 175 (.pointer (some ⟨T, 0, none⟩)), .slice none 0 0] 155 (0, 0)) := blk_put (blk_drew BR) 0 (.int .u32 1) rfl
  have S2 : ((w5.drew.setCell ⟨R, 0, none⟩ (.int .u32 1)).setCell ⟨R, 1, none⟩ (.int .i32 0)).heap[R]? = some (.cells #[.int .u32 1, .int .i32 0, .int .u32 0, .iface 175 (.pointer (some ⟨T, 0, none⟩)), .slice none 0 0] 155 (0, 0)) := blk_put S1 1 (.int .i32 0) rfl
  refine leaves_cons (f := 146) (args := #[.pointer (some ⟨R, 0, none⟩), .bool true]) (by simp) (by simp [go_sem]) ?_
  refine (impl_Move_mirrored.store ⟨R, 0, none⟩ (.int .u32 0) .returning _ (blk_cell BR 0) (blk_frozen BR 0)).mono ?_
  rintro e u' w'' ⟨rfl, rfl, rfl⟩
  refine leaves_cons (f := 145) (args := #[.pointer (some ⟨R, 1, none⟩)]) (by simp [settle]) (by simp [go_sem]) ?_
  refine (impl_Move_mirrored.unlock ⟨R, 1, none⟩ _ _ (blk_cell S1 1) (blk_frozen S1 1)).mono ?_
  rintro e u' w'' ⟨rfl, rfl, rfl⟩
  have BTn := blk_far (blk_far (blk_drew BT) (p := ⟨R, 0, none⟩) hT (.int .u32 1)) (p := ⟨R, 1, none⟩) hT (.int .i32 0)
  have HBn : Below R w ((w5.drew.setCell ⟨R, 0, none⟩ (.int .u32 1)).setCell ⟨R, 1, none⟩ (.int .i32 0)) := (((((Below.refl R w).setCell (p := ⟨R, 1, none⟩) (Nat.le_refl _) (.int .i32 1)).trans HB).drew).setCell (p := ⟨R, 0, none⟩) (Nat.le_refl _) _).setCell (p := ⟨R, 1, none⟩) (Nat.le_refl _) _
  simp only [Leaves, settle]
  exact ⟨_, results_none rfl _ _ _, rfl, T, hT, S2, BTn, HBn⟩
set_option maxHeartbeats 8000000 in
set_option maxRecDepth 100000 in
/-- '(*sync.Once).Do' with it. -/
theorem impl_Move_mirrored.do_ (R O c : Nat) (w : World) (hR : w.heap[R]? = some (.cells #[.int .u32 0, .int .i32 0, .int .u32 0, .nilIface, .slice (some ⟨O, 0, none⟩) 4 c] 155 (0, 0))) (hO : impl_Move_mirrored.Four w O) (hne : O ≠ R) :
    Calls Try.prog 127 #[.pointer (some ⟨R, 0, none⟩), .func (.func 128) #[.pointer (some ⟨R, 0, none⟩)] #[]] w fun e w' => e = .returned (.tuple #[]) ∧ ∃ T, T ≠ R ∧ w'.heap[R]? = some (.cells #[.int .u32 1, .int .i32 0, .int .u32 0, .iface 175 (.pointer (some ⟨T, 0, none⟩)), .slice none 0 0] 155 (0, 0)) ∧ w'.heap[T]? = some (.cells (impl_Move_mirrored.tab fun j => impl_Move_mirrored.flip (j : Int)) 174 (0, 0)) ∧ Below R w w' := by
  have l0 := run_call_load (P := Try.prog) Try.func143 (by kernel_rfl) (by kernel_rfl) (by kernel_rfl) .u32 (by kernel_rfl) (w := w) (a := ⟨R, 0, none⟩) (x := 0) (blk_cell hR 0)
  have hnot : ∀ (x : Bool) (w : World), (Op.unary .not (.bool x)).run Try.prog w = .ok (.bool (!x)) w := fun _ _ => rfl
  go_enter Try.func127, Try.ntmps127
  go_wp2_with (first | (go_at_call 140; refine (impl_Move_mirrored.slow R O c w hR hO hne).mono ?_; rintro e w' ⟨rfl, HH⟩) | (go_at_call 139; go_in))
  go_end0
  exact ⟨rfl, HH⟩
set_option maxHeartbeats 8000000 in
set_option maxRecDepth 100000 in
/-- '(*strings.Replacer).Replace' of a new replacer of left and right. -/
theorem impl_Move_mirrored.whole (R O c : Nat) (s : ByteArray) (w : World) (hR : w.heap[R]? = some (.cells #[.int .u32 0, .int .i32 0, .int .u32 0, .nilIface, .slice (some ⟨O, 0, none⟩) 4 c] 155 (0, 0))) (hO : impl_Move_mirrored.Four w O) (hne : O ≠ R) (hs : s.size ≤ 1048576) :
    Calls Try.prog 104 #[.pointer (some ⟨R, 0, none⟩), .string s] w fun e w' => e = .returned (.string (impl_Move_mirrored.text ((impl_Move_mirrored.bytes s).map impl_Move_mirrored.flip))) ∧ Below R w w' := by
  have hmf : ∀ (fn : Fn) (first cap : Array Value) (w : World), (Instr.makeFunc fn first cap).run Try.prog w = .ok (.func fn first cap) w := fun _ _ _ _ => rfl
  have hm : ∀ (a : Addr) (w : World), (method 349 175 (.pointer (some a)) "Replace").run Try.prog w = .ok (210, .pointer (some a)) w := fun a w => by kernel_rfl
  go_enter Try.func104, Try.ntmps104
  go_wp2_with (first | (go_at_call 127; refine (impl_Move_mirrored.do_ R O c w hR hO hne).mono ?_; rintro e w4 ⟨rfl, T, hT, BR, BT, HB⟩; have c3 := blk_cell BR 3) | (go_at_call 210; refine (impl_Move_mirrored.replace T s _ BT hs).mono ?_; rintro e w5 ⟨rfl, HB5⟩))
  go_ret
  exact ⟨rfl, HB.trans (HB5.mono (Nat.le_of_lt (blk_lt BR)))⟩
def impl_Move_mirrored.four : List ByteArray := [⟨#[108]⟩, ⟨#[114]⟩, ⟨#[114]⟩, ⟨#[108]⟩]
theorem impl_Move_mirrored.inf : (Try.prog.info? 9).map (fun i => (i.zero, i.size, i.bytes)) = some (some (.string ⟨#[]⟩), 1, 16) := by kernel_rfl
theorem impl_Move_mirrored.four_C {w : World} {B : Nat} (h : impl_Move_mirrored.Four w B) : (Kd.scalar Value.string (fun _ => rfl)).C w (some ⟨B, 0, none⟩) 4 impl_Move_mirrored.four := by
  refine ⟨rfl, by decide, fun _ => ⟨_, rfl, fun j p hj => ⟨[.string p], rfl, rfl, fun i u hu => ?_⟩⟩⟩
  have hj4 : j < 4 := (List.getElem?_eq_some_iff.1 hj).1
  have hi : i = 0 := by have := (List.getElem?_eq_some_iff.1 hu).1; simpa using this
  subst hi
  obtain rfl : u = .string p := by simpa using hu.symm
  obtain ⟨h0, h1, h2, h3⟩ := h
  have e : ∀ k : Nat, (⟨B, 0, none⟩ : Addr).add (k * (Kd.scalar Value.string (fun _ => rfl)).sz + 0) = ⟨B, k, none⟩ := fun k => by
    have : k * (Kd.scalar Value.string (fun _ => rfl)).sz + 0 = k := by show k * 1 + 0 = k; omega
    rw [this]
    by_cases h : k = 0 <;> simp [Addr.add, h]
  rw [e]
  rcases (by omega : j = 0 ∨ j = 1 ∨ j = 2 ∨ j = 3) with rfl | rfl | rfl | rfl
  · obtain rfl := Option.some.inj hj; exact h0
  · obtain rfl := Option.some.inj hj; exact h1
  · obtain rfl := Option.some.inj hj; exact h2
  · obtain rfl := Option.some.inj hj; exact h3
theorem impl_Move_mirrored.four_R {w : World} {base : Nat} {v : Value} (h : (Kd.scalar Value.string (fun _ => rfl)).R 9 w base (fun _ => True) v impl_Move_mirrored.four) : ∃ O c, v = .slice (some ⟨O, 0, none⟩) 4 c ∧ base ≤ O ∧ O < w.heap.size ∧ impl_Move_mirrored.Four w O := by
  obtain ⟨A, c, he, hl, hr⟩ := Kd.R_reads h
  obtain ⟨inner, ho⟩ := Kd.R_own h
  rcases ho.2 with ⟨he2, _⟩ | ⟨g, cap, cur, he2, hb, hh, _⟩
  · rw [he] at he2
    injection he2 with _ h2 _
    exact absurd h2 (by decide)
  · rw [he] at he2
    injection he2 with h1 _ h3
    subst h1
    refine ⟨g, c, he, hb, (Array.getElem?_eq_some_iff.1 hh).1, ?_⟩
    have key : ∀ (j : Nat) x, impl_Move_mirrored.four[j]? = some x → w.cell? ⟨g, j, none⟩ = some (.string x) := fun j x hj => by
      have hlt := (List.getElem?_eq_some_iff.1 hj).1
      obtain ⟨ad, e1, y⟩ := Kd.at_string hr (j : Int) (by omega) (by exact Int.ofNat_lt.2 hlt)
      cases e1
      have e3 : rdOf ByteArray.empty impl_Move_mirrored.four (j : Int) = x := by simp [rdOf, List.getD_eq_getElem?_getD, hj]
      rw [e3] at y
      have e4 : (⟨g, 0, none⟩ : Addr).add (j : Int).toNat = ⟨g, j, none⟩ := by by_cases h : j = 0 <;> simp [Addr.add, h]
      rwa [e4] at y
    exact ⟨key 0 _ rfl, key 1 _ rfl, key 2 _ rfl, key 3 _ rfl⟩
set_option maxHeartbeats 8000000 in
set_option maxRecDepth 100000 in
/-- 'strings.NewReplacer("l", "r", "r", "l")'. -/
theorem impl_Move_mirrored.new (B : Nat) (w : World) (hB : impl_Move_mirrored.Four w B) :
    Calls Try.prog 103 #[.slice (some ⟨B, 0, none⟩) 4 4] w fun e w' => ∃ R O c, e = .returned (.pointer (some ⟨R, 0, none⟩)) ∧ w.heap.size ≤ R ∧ O ≠ R ∧ w'.heap[R]? = some (.cells #[.int .u32 0, .int .i32 0, .int .u32 0, .nilIface, .slice (some ⟨O, 0, none⟩) 4 c] 155 (0, 0)) ∧ impl_Move_mirrored.Four w' O ∧ Below w.heap.size w w' := by
  go_enter Try.func103, Try.ntmps103
  go_wp2_with (first | ((with_reducible refine gate_builtin (b := .append) (xs := #[.const (.slice none 0 0), .tmp 8]) rfl ?_); at_builtin; refine Kd.R_append_row Value.string ByteArray.empty (h1 := fun _ => rfl) (w0 := w) w.heap.size rfl (.const (.slice none 0 0)) (.tmp 8) 139 9 (.string ⟨#[]⟩) 16 rfl Try.underlying139 impl_Move_mirrored.inf rfl (by decide) (.slice none 0 0) [] impl_Move_mirrored.four (some ⟨B, 0, none⟩) 4 4 (fun _ => True) rfl rfl (fun _ _ => trivial) (Kd.R_nil _ _ _ _ _) (impl_Move_mirrored.four_C hB) (Below.refl _ _) (Nat.le_refl _) (by decide) ?_; intro v1 w1 ho hb hg hat; obtain ⟨O, c, rfl, hO1, hO2, hO4⟩ := impl_Move_mirrored.four_R ho; clear ho hg hat) | ((with_reducible refine gate_dst (N := 11) rfl ?_); refine box_event ?hg (N := 11) ?hd (cs := #[.int .u32 0, .int .i32 0, .int .u32 0, .nilIface, .slice (some ⟨O, 0, none⟩) 4 c]) (t := 155) ?hr ?_; (case hd => rfl); (case hg => rfl); (case hr => first | (go_simp; done) | (go_simp; rfl)); intro R hR w2 BR hb2))
  go_ret
  exact ⟨R, O, c, by rw [hR]; rfl, by rw [hR]; exact hb.size, by rw [hR]; exact Nat.ne_of_lt hO2, BR, hO4.below hb2, below_step hb hb2⟩
def impl_Move_mirrored.T1 : Bool × List (List Nat × List Nat) := (true, [([], []), ([0], [0]), ([], []), ([2], [2]), ([1, 3, 1], [1, 3]), ([], []), ([5], [5]), ([4, 6], [4, 6]), ([7, 4, 0, 1, 2, 3, 4, 5, 6, 7], [7])])
def impl_Move_mirrored.B1 : List Nat := [0, 1, 0, 4, 15, 0, 32, 127, 255]
theorem impl_Move_mirrored.tab1 : rtab .any (opsOf Try.f64 1) = impl_Move_mirrored.T1 := by kernel_rfl
theorem impl_Move_mirrored.bits1 : waitsOk impl_Move_mirrored.T1.2 impl_Move_mirrored.B1 = true := by kernel_rfl
/-- The movement with left and right exchanged. -/
def impl_Move_mirrored.f (a0_0 : ByteArray) (a0_1 : Int) : Option (ByteArray × Int) := if a0_0.size ≤ 1048576 then some (impl_Move_mirrored.text ((impl_Move_mirrored.bytes a0_0).map impl_Move_mirrored.flip), a0_1) else none
set_option maxHeartbeats 16000000 in
set_option maxRecDepth 100000 in
theorem impl_Move_mirrored.main (s : ByteArray) (m : Int) (w : World) (hs : s.size ≤ 1048576) :
    Calls Try.prog 64 #[.agg #[.string s, .int .i64 m]] w fun e w' => e = .returned (.agg #[.string (impl_Move_mirrored.text ((impl_Move_mirrored.bytes s).map impl_Move_mirrored.flip)), .int .i64 m]) ∧ Below w.heap.size w w' := by
  have hu_ := Try.underlying26
  go_enter Try.func64, Try.ntmps64
  go_wp2_with (first | ((with_reducible refine gate_dst (N := 1) rfl ?_); refine box_event ?hg (N := 1) ?hd (cs := #[.string s, .int .i64 m]) (t := 26) ?hr ?_; (case hd => rfl); (case hg => rfl); (case hr => first | (go_simp; done) | (go_simp; rfl)); intro g1 hg1 w1 BM1 hb1; have B1 := below_step (Below.refl w.heap.size w) hb1; have le1 : w.heap.size ≤ g1 := Nat.le_of_eq hg1.symm; clear hb1 hg1) | ((with_reducible refine gate_dst (N := 2) rfl ?_); refine box_event ?hg (N := 2) ?hd (cs := #[.string (⟨#[]⟩ : ByteArray), .int .i64 0]) (t := 26) ?hr ?_; (case hd => rfl); (case hg => rfl); (case hr => first | (go_simp; done) | (go_simp; rfl)); intro g2 hg2 w2 BZ2 hb2; have B2 := below_step B1 hb2; have BM2 := blk_below BM1 hb2; have n12 : g1 ≠ g2 := (by rw [hg2]; exact Nat.ne_of_lt (blk_lt BM1)); have le2 : w.heap.size ≤ g2 := (by rw [hg2]; exact B1.size); clear hb2 hg2 B1 BM1))
  have BM := blk_drew BM2
  have BZ := blk_drew BZ2
  have B := below_drew1 B2
  have x0 := blk_cell BM 0
  have x1 := blk_cell BM 1
  refine start_ (n := 9) (S := fun w' => w'.cell? ⟨g1, 0, none⟩ = some (.string s) ∧ w'.cell? ⟨g1, 1, none⟩ = some (.int .i64 m)) (ds := [8]) #[false, false, false, false, false, false, false, false, false] (by kernel_rfl) rfl rfl ⟨x0, x1⟩ (fun hHeld => ?_); refine with_tabW impl_Move_mirrored.tab1 impl_Move_mirrored.bits1 (fun HT_ HW_ => ?_)
  clear BM2 BZ2 B2
  generalize w2.drew = w3 at BM BZ B x0 x1 hHeld ⊢
  refine pure_ (i := 2) (N := some 5) (v := ?_) (a' := ?_) #[false, false, true, false, false, false, false, false, false] rfl rfl (any_of HT_.out (by kernel_rfl)) (fun _ _ _ h => h) (Or.inl ⟨by rfl, ?_⟩) ?_ ?_
  rotate_left
  · intro w'
    go_simp
    with_reducible rfl
  rotate_left
  · simp only [Act.put, List.setIfInBounds_toArray, List.set_cons_zero, List.set_cons_succ, i64_w, i32_w]
    rfl
  refine pure_ (i := 5) (N := some 8) (v := ?_) (a' := ?_) #[false, false, true, false, false, true, false, false, false] rfl rfl (any_of HT_.out (by kernel_rfl)) (fun _ _ _ h => h) (Or.inl ⟨by rfl, ?_⟩) ?_ ?_
  rotate_left
  · intro w'
    go_simp
    with_reducible rfl
  rotate_left
  · simp only [Act.put, List.setIfInBounds_toArray, List.set_cons_zero, List.set_cons_succ, i64_w, i32_w]
    rfl
  refine take_ (i := 3) (N := some 6) (v := ?_) (a' := ?_) #[false, false, true, true, false, true, false, false, false] rfl rfl (take_ofW HT_.out HW_.out (by kernel_rfl)) (fun _ _ _ h => h) (Or.inl ⟨by rfl, ?_⟩) hHeld ?_ ?_
  rotate_left
  · rintro w' ⟨s0, s1⟩
    go_simp
    with_reducible rfl
  rotate_left
  · simp only [Act.put, List.setIfInBounds_toArray, List.set_cons_zero, List.set_cons_succ, i64_w, i32_w]
    rfl
  refine take_ (i := 6) (N := some 9) (v := ?_) (a' := ?_) #[false, false, true, true, false, true, true, false, false] rfl rfl (take_ofW HT_.out HW_.out (by kernel_rfl)) (fun _ _ _ h => h) (Or.inl ⟨by rfl, ?_⟩) hHeld ?_ ?_
  rotate_left
  · rintro w' ⟨s0, s1⟩
    go_simp
    with_reducible rfl
  rotate_left
  · simp only [Act.put, List.setIfInBounds_toArray, List.set_cons_zero, List.set_cons_succ, i64_w, i32_w]
    rfl
  refine one_ (i := 0) (N := some 3) #[true, false, true, true, false, true, true, false, false] rfl rfl (one_of HT_.out (by kernel_rfl)) (by decide) (fun K hK => ?_)
  refine event_step ?hg (v := .slice (some ⟨w3.heap.size, 0, none⟩) 4 4) (w1 := w3.alloc (.cells #[.string ⟨#[108]⟩, .string ⟨#[114]⟩, .string ⟨#[114]⟩, .string ⟨#[108]⟩] 9 (0, 0))) ?hr ?_
  case hg => rfl
  case hr => first | (go_simp; done) | (go_simp; rfl)
  have hn := blk_new w3 (.cells #[.string ⟨#[108]⟩, .string ⟨#[114]⟩, .string ⟨#[114]⟩, .string ⟨#[108]⟩] 9 (0, 0))
  have hbn := below_alloc (Below.refl w3.heap.size w3) (.cells #[.string ⟨#[108]⟩, .string ⟨#[114]⟩, .string ⟨#[114]⟩, .string ⟨#[108]⟩] 9 (0, 0))
  obtain ⟨g3, hg3⟩ : ∃ g, g = w3.heap.size := ⟨_, rfl⟩
  rw [← hg3] at hn ⊢
  have l3 : g1 < g3 := by rw [hg3]; exact blk_lt BM
  have l4 : g2 < g3 := by rw [hg3]; exact blk_lt BZ
  generalize w3.alloc (.cells #[.string ⟨#[108]⟩, .string ⟨#[114]⟩, .string ⟨#[114]⟩, .string ⟨#[108]⟩] 9 (0, 0)) = w4 at hn hbn ⊢
  have F4 : impl_Move_mirrored.Four w4 g3 := ⟨blk_cell hn 0, blk_cell hn 1, blk_cell hn 2, blk_cell hn 3⟩
  have BM4 := blk_below BM hbn
  have BZ4 := blk_below BZ hbn
  have B4 := below_step B hbn
  have l5 : g3 < w4.heap.size := blk_lt hn
  refine hK.out _ _ ⟨blk_cell BM4 0, blk_cell BM4 1⟩ (fun hHeld => ?_)
  clear hK K
  refine norm_ (a' := ?_) ?_ ?_
  rotate_left
  · show Act.put _ (some 3) _ = _
    simp only [Act.put, List.setIfInBounds_toArray, List.set_cons_zero, List.set_cons_succ, i64_w, i32_w]
    rfl
  refine one_ (i := 1) (N := some 4) #[true, true, true, true, false, true, true, false, false] rfl rfl (one_of HT_.out (by kernel_rfl)) (by decide) (fun K hK => ?_)
  refine goes_ Try.func103 (by kernel_rfl) rfl #[.slice (some ⟨g3, 0, none⟩) 4 4] (by rfl) rfl rfl (by (try simp only [List.map_toArray, List.map_cons, List.map_nil]); first | done | rfl) ?_
  refine (impl_Move_mirrored.new g3 w4 F4).mono ?_
  rintro e w5 ⟨R, O, c, rfl, lR, hne, BR, F5, hb5⟩
  refine ⟨_, rfl, ?_⟩
  have BM5 := blk_below BM4 hb5
  have BZ5 := blk_below BZ4 hb5
  have B5 := below_step B4 hb5
  refine hK.out _ _ ⟨blk_cell BM5 0, blk_cell BM5 1⟩ (fun hHeld => ?_)
  clear hK K
  refine norm_ (a' := ?_) ?_ ?_
  rotate_left
  · show Act.put _ (some 4) _ = _
    simp only [Act.put, List.setIfInBounds_toArray, List.set_cons_zero, List.set_cons_succ, i64_w, i32_w]
    rfl
  refine one_ (i := 4) (N := some 7) #[true, true, true, true, true, true, true, false, false] rfl rfl (one_of HT_.out (by kernel_rfl)) (by decide) (fun K hK => ?_)
  refine goes_ Try.func104 (by kernel_rfl) rfl #[.pointer (some ⟨R, 0, none⟩), .string s] (by rfl) rfl rfl (by (try simp only [List.map_toArray, List.map_cons, List.map_nil]); first | done | rfl) ?_
  refine (impl_Move_mirrored.whole R O c s w5 BR F5 hne hs).mono ?_
  rintro e w6 ⟨rfl, hb6⟩
  refine ⟨_, rfl, ?_⟩
  have BM6 := (hb6.block g1 (by omega)).trans BM5
  have BZ6 := (hb6.block g2 (by omega)).trans BZ5
  have B6 : Below w.heap.size w w6 := B5.trans (hb6.mono (by omega))
  refine hK.out _ _ ⟨blk_cell BM6 0, blk_cell BM6 1⟩ (fun hHeld => ?_)
  clear hK K
  refine norm_ (a' := ?_) ?_ ?_
  rotate_left
  · show Act.put _ (some 7) _ = _
    simp only [Act.put, List.setIfInBounds_toArray, List.set_cons_zero, List.set_cons_succ, i64_w, i32_w]
    rfl
  refine pure_ (i := 7) (N := some 10) (v := ?_) (a' := ?_) #[true, true, true, true, true, true, true, true, false] rfl rfl (any_of HT_.out (by kernel_rfl)) (fun _ _ _ h => h) (Or.inl ⟨by rfl, ?_⟩) ?_ ?_
  rotate_left
  · intro w'
    go_simp
    with_reducible rfl
  rotate_left
  · simp only [Act.put, List.setIfInBounds_toArray, List.set_cons_zero, List.set_cons_succ, i64_w, i32_w]
    rfl
  refine last_ (i := 8) (N := none) #[true, true, true, true, true, true, true, true, true] rfl rfl (one_of HT_.out (by kernel_rfl)) (by decide) (fun K hK => ?_)
  rw [if_pos (by rfl)]
  refine wp_store_row 26 (.tmp 2) (.tmp 10) rfl g2 #[.string (impl_Move_mirrored.text ((impl_Move_mirrored.bytes s).map impl_Move_mirrored.flip)), .int .i64 m] rfl rfl 26 _ BZ6 (by kernel_rfl) rfl (by simp [Value.oneCell']) ?_
  have BZ7 := setRow_heap w6 g2 _ #[.string (impl_Move_mirrored.text ((impl_Move_mirrored.bytes s).map impl_Move_mirrored.flip)), .int .i64 m] 26 (0, 0) BZ6
  have B7 := B6.grown (w' := w6.setRow g2 #[.string (impl_Move_mirrored.text ((impl_Move_mirrored.bytes s).map impl_Move_mirrored.flip)), .int .i64 m]) (row := some g2) ⟨rfl, rfl, rfl, by simp, fun i _ hi => setRow_other w6 g2 i _ (fun e => hi (by rw [e]))⟩ B6.size (fun j hj => by cases hj; exact le2)
  refine hK.out _ _ ?_
  clear hK K
  refine done_ (done_of HT_.out (by kernel_rfl)) ?_
  try go_wp2
  refine bodyPost_ret (results_cell_row rfl _ _ g2 26 #[.string (impl_Move_mirrored.text ((impl_Move_mirrored.bytes s).map impl_Move_mirrored.flip)), .int .i64 m] (0, 0) _ rfl BZ7 Try.underlying26 rfl (by kernel_rfl)) rfl ?_
  exact ⟨rfl, B7⟩
theorem impl_Move_mirrored.calls (a0_0 : ByteArray) (a0_1 : Int) (r1 : ByteArray) (r2 : Int) (w : World) (h : impl_Move_mirrored.f a0_0 a0_1 = some (r1, r2)) :
    Calls Try.prog 64 #[.agg #[.string a0_0, .int .i64 a0_1]] w fun e w' => e = .returned (.agg #[.string r1, .int .i64 r2]) ∧ Below w.heap.size w w' := by
  unfold impl_Move_mirrored.f at h
  split at h
  · simp only [Option.some.injEq, Prod.mk.injEq] at h
    obtain ⟨rfl, rfl⟩ := h
    exact impl_Move_mirrored.main a0_0 a0_1 w (by assumption)
  · cases h

/-! ### impl_MirrorMove: function 22 -/
def impl_MirrorMove.f (k : Nat) (a0_0 : ByteArray) (a0_1 : Int) : Option (ByteArray × Int × Bool) := (impl_IsMove.f k a0_0 a0_1).bind fun t126 => (if t126 = true then ((impl_Move_mirrored.f a0_0 a0_1).bind fun bt127 => (some (bt127.1, bt127.2, true))) else (some ((⟨#[]⟩ : ByteArray), 0, false)))
theorem impl_MirrorMove.mono : ∀ a0 a1 k, LeO (impl_MirrorMove.f k a0 a1) (impl_MirrorMove.f (k + 1) a0 a1) := by
  intro a0 a1 k
  unfold impl_MirrorMove.f
  repeat' first
      | (with_reducible exact impl_IsMove.mono _ _ _)
      | (with_reducible exact LeO.refl _)
      | (with_reducible exact LeO.none _)
      | (with_reducible refine LeO.ite ?_ ?_)
      | (with_reducible refine LeO.bind ?_ (fun _ => ?_))
      | exact impl_IsMove.mono _ _ _
      | exact LeO.none _
      | refine LeO.ite ?_ ?_
      | refine LeO.bind ?_ (fun _ => ?_)
set_option maxHeartbeats 8000000 in
set_option maxRecDepth 100000 in
theorem impl_MirrorMove.calls (k : Nat) (a0_0 : ByteArray) (a0_1 : Int) (r1 : ByteArray) (r2 : Int) (r3 : Bool) (w : World) (h : impl_MirrorMove.f k a0_0 a0_1 = some (r1, r2, r3)) :
    Calls Try.prog 22 #[.agg #[.string a0_0, .int .i64 a0_1]] w fun e w' => e = .returned (.tuple #[.agg #[.string r1, .int .i64 r2], .bool r3]) ∧ Below w.heap.size w w' := by
  have hu26 := Try.underlying26
  have HB := Aside0.mk (Below.refl w.heap.size w)
  have H : ((impl_IsMove.f k a0_0 a0_1).bind fun t126 => (if t126 = true then ((impl_Move_mirrored.f a0_0 a0_1).bind fun bt127 => (some (bt127.1, bt127.2, true))) else (some ((⟨#[]⟩ : ByteArray), 0, false)))) = some (r1, r2, r3) := h
  clear h
  replace H := Option.bind_eq_some_iff.mp H
  obtain ⟨t126, A20, H⟩ := H
  replace H : (if t126 = true then ((impl_Move_mirrored.f a0_0 a0_1).bind fun bt127 => (some (bt127.1, bt127.2, true))) else (some ((⟨#[]⟩ : ByteArray), 0, false))) = some (r1, r2, r3) := H
  have A2 := Aside0.mk A20
  clear A20
  by_cases c3 : t126 = true
  · subst c3
    have H1 : ((impl_Move_mirrored.f a0_0 a0_1).bind fun bt127 => (some (bt127.1, bt127.2, true))) = some (r1, r2, r3) := by rw [if_pos rfl] at H; exact H
    clear H
    have H := H1
    clear H1
    replace H := Option.bind_eq_some_iff.mp H
    obtain ⟨⟨t127, t128⟩, A40, H⟩ := H
    replace H : (some (t127, t128, true)) = some (r1, r2, r3) := H
    have A4 := Aside0.mk A40
    clear A40
    simp only [Option.some.injEq, Prod.mk.injEq] at H
    obtain ⟨rfl, rfl, rfl⟩ := H
    go_enter Try.func22, Try.ntmps22
    go_wp2_with (first | ((with_reducible refine gate_dst (N := 1) rfl ?_); refine box_event ?hg (N := 1) ?hd (cs := #[.string a0_0, .int .i64 a0_1]) (t := 26) ?hr ?_; (case hd => rfl); (case hg => rfl); (case hr => first | (go_simp; done) | (go_simp; rfl)); intro gb124 hg w5 hbox hb; have n0_ := Aside0.mk (below_step (by repeat (first | (with_reducible first | exact HB.out | apply below_alloc | apply pw_below_drewN | apply below_drew1) | exact HB.out)) hb); have n1_ := Aside0.mk (hbox); have n2_ := Aside0.mk ((by rw [hg]; exact (below_size (by repeat (first | (with_reducible first | exact HB.out | apply below_alloc | apply pw_below_drewN | apply below_drew1) | exact HB.out))) : w.heap.size ≤ gb124)); have n3_ := Aside0.mk ((by rw [hg]; exact (below_size (by repeat (first | (with_reducible first | exact HB.out | apply below_alloc | apply pw_below_drewN | apply below_drew1) | exact HB.out))) : w.heap.size ≤ gb124)); clear HB; have HB := n0_; have BK124 := n1_; have GW124 := n2_; have GE124 := n3_; clear n0_ n1_ n2_ n3_; clear hb hbox hg) | ((with_reducible refine gate_dst (N := 2) rfl ?_); refine box_event ?hg (N := 2) ?hd (cs := #[.string (⟨#[]⟩ : ByteArray), .int .i64 0]) (t := 26) ?hr ?_; (case hd => rfl); (case hg => rfl); (case hr => first | (go_simp; done) | (go_simp; rfl)); intro gb125 hg w6 hbox hb; have n0_ := Aside0.mk (blk_below (g := gb124) (o := .cells #[.string a0_0, .int .i64 a0_1] 26 (0, 0)) (by (with_reducible repeat (first | refine blk_drewN ?_ _ | refine blk_drew ?_ | refine blk_alloc ?_ _)); exact BK124.out) hb); have n1_ := Aside0.mk (below_step (by repeat (first | (with_reducible first | exact HB.out | apply below_alloc | apply pw_below_drewN | apply below_drew1 | refine below_set ?_ GE124.out) | exact HB.out)) hb); have n2_ := Aside0.mk (hbox); have n3_ := Aside0.mk ((by rw [hg]; exact (below_size (by repeat (first | (with_reducible first | exact HB.out | apply below_alloc | apply pw_below_drewN | apply below_drew1 | refine below_set ?_ GE124.out) | exact HB.out))) : w.heap.size ≤ gb125)); have n4_ := Aside0.mk ((by rw [hg]; exact (below_size (by repeat (first | (with_reducible first | exact HB.out | apply below_alloc | apply pw_below_drewN | apply below_drew1 | refine below_set ?_ GE124.out) | exact HB.out))) : w.heap.size ≤ gb125)); have n5_ := Aside0.mk ((by rw [hg]; exact Nat.ne_of_lt (blk_lt (g := gb124) (o := .cells #[.string a0_0, .int .i64 a0_1] 26 (0, 0)) (by (with_reducible repeat (first | refine blk_drewN ?_ _ | refine blk_drew ?_ | refine blk_alloc ?_ _)); exact BK124.out)) : gb124 ≠ gb125)); have n6_ := Aside0.mk ((by rw [hg]; exact Nat.ne_of_gt (blk_lt (g := gb124) (o := .cells #[.string a0_0, .int .i64 a0_1] 26 (0, 0)) (by (with_reducible repeat (first | refine blk_drewN ?_ _ | refine blk_drew ?_ | refine blk_alloc ?_ _)); exact BK124.out)) : gb125 ≠ gb124)); clear BK124; clear HB; have BK124 := n0_; have HB := n1_; have BK125 := n2_; have GW125 := n3_; have GE125 := n4_; have NB124_125 := n5_; have NB125_124 := n6_; clear n0_ n1_ n2_ n3_ n4_ n5_ n6_; clear hb hbox hg; have hnb7 := NB124_125.out; have hnc7 := NB125_124.out; have hcz8_0 : w6.cell? ⟨gb124, 0, none⟩ = some (.string a0_0) := (blk_cell BK124.out 0).trans rfl; have hcz8_1 : w6.cell? ⟨gb124, 1, none⟩ = some (.int .i64 a0_1) := (blk_cell BK124.out 1).trans rfl; have hfz8_0 := blk_frozen BK124.out 0; have hfz8_1 := blk_frozen BK124.out 1) | ((with_reducible refine gate_callee (f := 17) rfl ?_); refine goesL_ (some 5) rfl rfl Try.func17 (by kernel_rfl) rfl #[.agg #[.string a0_0, .int .i64 a0_1]] rfl (by (try simp only [List.map_toArray, List.map_cons, List.map_nil]); first | done | rfl | (simp only [List.length_drop, List.length_take]; rfl)) ?_; (with_reducible refine (impl_IsMove.calls k a0_0 a0_1 true _ A2.out).mono ?_); rintro e w9 ⟨rfl, hb⟩; refine ⟨_, rfl, ?_⟩; have n0_ := Aside0.mk (blk_below (g := gb124) (o := .cells #[.string a0_0, .int .i64 a0_1] 26 (0, 0)) (by (with_reducible repeat (first | refine blk_drewN ?_ _ | refine blk_drew ?_ | refine blk_alloc ?_ _)); exact BK124.out) hb); have n1_ := Aside0.mk (blk_below (g := gb125) (o := .cells #[.string (⟨#[]⟩ : ByteArray), .int .i64 0] 26 (0, 0)) (by (with_reducible repeat (first | refine blk_drewN ?_ _ | refine blk_drew ?_ | refine blk_alloc ?_ _)); exact BK125.out) hb); have n2_ := Aside0.mk (below_step (by repeat (first | (with_reducible first | exact HB.out | apply below_alloc | apply pw_below_drewN | apply below_drew1 | refine below_set ?_ GE124.out | refine below_set ?_ GE125.out) | exact HB.out)) hb); clear BK124; clear BK125; clear HB; have BK124 := n0_; have BK125 := n1_; have HB := n2_; clear n0_ n1_ n2_; (try clear hb); (try clear hb2); (try clear hk); (try clear hi); have hcz10_0 : w9.cell? ⟨gb124, 0, none⟩ = some (.string a0_0) := (blk_cell BK124.out 0).trans rfl; have hcz10_1 : w9.cell? ⟨gb124, 1, none⟩ = some (.int .i64 a0_1) := (blk_cell BK124.out 1).trans rfl; have hfz10_0 := blk_frozen BK124.out 0; have hfz10_1 := blk_frozen BK124.out 1) | ((with_reducible refine gate_callee (f := 64) rfl ?_); refine goesL_ (some 9) rfl rfl Try.func64 (by kernel_rfl) rfl #[.agg #[.string a0_0, .int .i64 a0_1]] rfl (by (try simp only [List.map_toArray, List.map_cons, List.map_nil]); first | done | rfl | (simp only [List.length_drop, List.length_take]; rfl)) ?_; (with_reducible refine (impl_Move_mirrored.calls a0_0 a0_1 t127 t128 _ A4.out).mono ?_); rintro e w11 ⟨rfl, hb⟩; refine ⟨_, rfl, ?_⟩; have n0_ := Aside0.mk (blk_below (g := gb124) (o := .cells #[.string a0_0, .int .i64 a0_1] 26 (0, 0)) (by (with_reducible repeat (first | refine blk_drewN ?_ _ | refine blk_drew ?_ | refine blk_alloc ?_ _)); exact BK124.out) hb); have n1_ := Aside0.mk (blk_below (g := gb125) (o := .cells #[.string (⟨#[]⟩ : ByteArray), .int .i64 0] 26 (0, 0)) (by (with_reducible repeat (first | refine blk_drewN ?_ _ | refine blk_drew ?_ | refine blk_alloc ?_ _)); exact BK125.out) hb); have n2_ := Aside0.mk (below_step (by repeat (first | (with_reducible first | exact HB.out | apply below_alloc | apply pw_below_drewN | apply below_drew1 | refine below_set ?_ GE124.out | refine below_set ?_ GE125.out) | exact HB.out)) hb); clear BK124; clear BK125; clear HB; have BK124 := n0_; have BK125 := n1_; have HB := n2_; clear n0_ n1_ n2_; (try clear hb); (try clear hb2); (try clear hk); (try clear hi); have hcz12_0 : w11.cell? ⟨gb125, 0, none⟩ = some (.string (⟨#[]⟩ : ByteArray)) := (blk_cell BK125.out 0).trans rfl; have hcz12_1 : w11.cell? ⟨gb125, 1, none⟩ = some (.int .i64 0) := (blk_cell BK125.out 1).trans rfl; have hfz12_0 := blk_frozen BK125.out 0; have hfz12_1 := blk_frozen BK125.out 1))
    refine bodyPost_ret (results_ct rfl _ _ gb125 26 #[.string t127, .int .i64 t128] (0, 0) _ rfl (by (with_reducible repeat (first | refine blk_drewN ?_ _ | refine blk_drew ?_ | refine blk_alloc ?_ _)); refine blk_put (cs := #[.string t127, .int .i64 0]) ?_ 1 _ rfl; (with_reducible repeat (first | refine blk_drewN ?_ _ | refine blk_drew ?_ | refine blk_alloc ?_ _)); refine blk_put (cs := #[.string (⟨#[]⟩ : ByteArray), .int .i64 0]) ?_ 0 _ rfl; (with_reducible repeat (first | refine blk_drewN ?_ _ | refine blk_drew ?_ | refine blk_alloc ?_ _)); exact BK125.out) Try.underlying26 rfl (by kernel_rfl)) rfl ?_
    exact ⟨by first | rfl | (simp [errW_none, errW_some] <;> rfl) | (simp [*, errW_none, errW_some] <;> rfl), by repeat (first | (with_reducible first | exact HB.out | apply below_alloc | apply pw_below_drewN | apply below_drew1 | refine below_set ?_ GE124.out | refine below_set ?_ GE125.out) | exact HB.out)⟩
  · replace c3 := Bool.eq_false_iff.mpr c3
    subst c3
    have H1 : (some ((⟨#[]⟩ : ByteArray), 0, false)) = some (r1, r2, r3) := by rw [if_neg (show ¬ (false = true) by decide)] at H; exact H
    clear H
    have H := H1
    clear H1
    simp only [Option.some.injEq, Prod.mk.injEq] at H
    obtain ⟨rfl, rfl, rfl⟩ := H
    go_enter Try.func22, Try.ntmps22
    go_wp2_with (first | ((with_reducible refine gate_dst (N := 1) rfl ?_); refine box_event ?hg (N := 1) ?hd (cs := #[.string a0_0, .int .i64 a0_1]) (t := 26) ?hr ?_; (case hd => rfl); (case hg => rfl); (case hr => first | (go_simp; done) | (go_simp; rfl)); intro gb124 hg w13 hbox hb; have n0_ := Aside0.mk (below_step (by repeat (first | (with_reducible first | exact HB.out | apply below_alloc | apply pw_below_drewN | apply below_drew1) | exact HB.out)) hb); have n1_ := Aside0.mk (hbox); have n2_ := Aside0.mk ((by rw [hg]; exact (below_size (by repeat (first | (with_reducible first | exact HB.out | apply below_alloc | apply pw_below_drewN | apply below_drew1) | exact HB.out))) : w.heap.size ≤ gb124)); have n3_ := Aside0.mk ((by rw [hg]; exact (below_size (by repeat (first | (with_reducible first | exact HB.out | apply below_alloc | apply pw_below_drewN | apply below_drew1) | exact HB.out))) : w.heap.size ≤ gb124)); clear HB; have HB := n0_; have BK124 := n1_; have GW124 := n2_; have GE124 := n3_; clear n0_ n1_ n2_ n3_; clear hb hbox hg) | ((with_reducible refine gate_dst (N := 2) rfl ?_); refine box_event ?hg (N := 2) ?hd (cs := #[.string (⟨#[]⟩ : ByteArray), .int .i64 0]) (t := 26) ?hr ?_; (case hd => rfl); (case hg => rfl); (case hr => first | (go_simp; done) | (go_simp; rfl)); intro gb125 hg w14 hbox hb; have n0_ := Aside0.mk (blk_below (g := gb124) (o := .cells #[.string a0_0, .int .i64 a0_1] 26 (0, 0)) (by (with_reducible repeat (first | refine blk_drewN ?_ _ | refine blk_drew ?_ | refine blk_alloc ?_ _)); exact BK124.out) hb); have n1_ := Aside0.mk (below_step (by repeat (first | (with_reducible first | exact HB.out | apply below_alloc | apply pw_below_drewN | apply below_drew1 | refine below_set ?_ GE124.out) | exact HB.out)) hb); have n2_ := Aside0.mk (hbox); have n3_ := Aside0.mk ((by rw [hg]; exact (below_size (by repeat (first | (with_reducible first | exact HB.out | apply below_alloc | apply pw_below_drewN | apply below_drew1 | refine below_set ?_ GE124.out) | exact HB.out))) : w.heap.size ≤ gb125)); have n4_ := Aside0.mk ((by rw [hg]; exact (below_size (by repeat (first | (with_reducible first | exact HB.out | apply below_alloc | apply pw_below_drewN | apply below_drew1 | refine below_set ?_ GE124.out) | exact HB.out))) : w.heap.size ≤ gb125)); have n5_ := Aside0.mk ((by rw [hg]; exact Nat.ne_of_lt (blk_lt (g := gb124) (o := .cells #[.string a0_0, .int .i64 a0_1] 26 (0, 0)) (by (with_reducible repeat (first | refine blk_drewN ?_ _ | refine blk_drew ?_ | refine blk_alloc ?_ _)); exact BK124.out)) : gb124 ≠ gb125)); have n6_ := Aside0.mk ((by rw [hg]; exact Nat.ne_of_gt (blk_lt (g := gb124) (o := .cells #[.string a0_0, .int .i64 a0_1] 26 (0, 0)) (by (with_reducible repeat (first | refine blk_drewN ?_ _ | refine blk_drew ?_ | refine blk_alloc ?_ _)); exact BK124.out)) : gb125 ≠ gb124)); clear BK124; clear HB; have BK124 := n0_; have HB := n1_; have BK125 := n2_; have GW125 := n3_; have GE125 := n4_; have NB124_125 := n5_; have NB125_124 := n6_; clear n0_ n1_ n2_ n3_ n4_ n5_ n6_; clear hb hbox hg; have hnb15 := NB124_125.out; have hnc15 := NB125_124.out; have hcz16_0 : w14.cell? ⟨gb124, 0, none⟩ = some (.string a0_0) := (blk_cell BK124.out 0).trans rfl; have hcz16_1 : w14.cell? ⟨gb124, 1, none⟩ = some (.int .i64 a0_1) := (blk_cell BK124.out 1).trans rfl; have hfz16_0 := blk_frozen BK124.out 0; have hfz16_1 := blk_frozen BK124.out 1) | ((with_reducible refine gate_callee (f := 17) rfl ?_); refine goesL_ (some 5) rfl rfl Try.func17 (by kernel_rfl) rfl #[.agg #[.string a0_0, .int .i64 a0_1]] rfl (by (try simp only [List.map_toArray, List.map_cons, List.map_nil]); first | done | rfl | (simp only [List.length_drop, List.length_take]; rfl)) ?_; (with_reducible refine (impl_IsMove.calls k a0_0 a0_1 false _ A2.out).mono ?_); rintro e w17 ⟨rfl, hb⟩; refine ⟨_, rfl, ?_⟩; have n0_ := Aside0.mk (blk_below (g := gb124) (o := .cells #[.string a0_0, .int .i64 a0_1] 26 (0, 0)) (by (with_reducible repeat (first | refine blk_drewN ?_ _ | refine blk_drew ?_ | refine blk_alloc ?_ _)); exact BK124.out) hb); have n1_ := Aside0.mk (blk_below (g := gb125) (o := .cells #[.string (⟨#[]⟩ : ByteArray), .int .i64 0] 26 (0, 0)) (by (with_reducible repeat (first | refine blk_drewN ?_ _ | refine blk_drew ?_ | refine blk_alloc ?_ _)); exact BK125.out) hb); have n2_ := Aside0.mk (below_step (by repeat (first | (with_reducible first | exact HB.out | apply below_alloc | apply pw_below_drewN | apply below_drew1 | refine below_set ?_ GE124.out | refine below_set ?_ GE125.out) | exact HB.out)) hb); clear BK124; clear BK125; clear HB; have BK124 := n0_; have BK125 := n1_; have HB := n2_; clear n0_ n1_ n2_; (try clear hb); (try clear hb2); (try clear hk); (try clear hi); have hcz18_0 : w17.cell? ⟨gb125, 0, none⟩ = some (.string (⟨#[]⟩ : ByteArray)) := (blk_cell BK125.out 0).trans rfl; have hcz18_1 : w17.cell? ⟨gb125, 1, none⟩ = some (.int .i64 0) := (blk_cell BK125.out 1).trans rfl; have hfz18_0 := blk_frozen BK125.out 0; have hfz18_1 := blk_frozen BK125.out 1))
    refine bodyPost_ret (results_ct rfl _ _ gb125 26 #[.string (⟨#[]⟩ : ByteArray), .int .i64 0] (0, 0) _ rfl (by (with_reducible repeat (first | refine blk_drewN ?_ _ | refine blk_drew ?_ | refine blk_alloc ?_ _)); refine blk_put (cs := #[.string (⟨#[]⟩ : ByteArray), .int .i64 0]) ?_ 1 _ rfl; (with_reducible repeat (first | refine blk_drewN ?_ _ | refine blk_drew ?_ | refine blk_alloc ?_ _)); refine blk_put (cs := #[.string (⟨#[]⟩ : ByteArray), .int .i64 0]) ?_ 0 _ rfl; (with_reducible repeat (first | refine blk_drewN ?_ _ | refine blk_drew ?_ | refine blk_alloc ?_ _)); exact BK125.out) Try.underlying26 rfl (by kernel_rfl)) rfl ?_
    exact ⟨by first | rfl | (simp [errW_none, errW_some] <;> rfl) | (simp [*, errW_none, errW_some] <;> rfl), by repeat (first | (with_reducible first | exact HB.out | apply below_alloc | apply pw_below_drewN | apply below_drew1 | refine below_set ?_ GE124.out | refine below_set ?_ GE125.out) | exact HB.out)⟩

end Go.Proofs.Ytkhaofalaikegaa.FG
