-- laid by pr.py (wip/tools) over the kit's printer; Lean checks it
import Derived.Test.YtopmmmggjohkeaaDoorFAx0
import Derived.Test.YtopmmmggjohkeaaDoorFAx1
import Derived.Test.YtopmmmggjohkeaaDoorFAx2
import Derived.Test.YtopmmmggjohkeaaDoorFAx3
import Derived.Test.YtopmmmggjohkeaaDoorFAx8
import Derived.Test.YtopmmmggjohkeaaDoorFAx10
import Derived.Laws.Cover4
import Derived.Lib.OthersKept
namespace Go.Proofs.YtopmmmggjohkeaaDoor.FA
open Go.RowKit Go.Proofs.YtopmmmggjohkeaaDoorW.PrintWords Go.Proofs.YtopmmmggjohkeaaDoorW.PrintLast Go.Proofs.YtopmmmggjohkeaaDoorW.PrintMore
attribute [local go_sem] max2_int min2_int max_two min_two max_three min_three max_four min_four   -- for this text's walks alone
set_option linter.unusedVariables false
set_option linter.unusedSimpArgs false

/-! ### impl_FirstReadings: function 19 -/
/-- What a shape's letters, the first pos of them, lay ahead of the readings behind. -/
def impl_FirstReadings.more (s : ByteArray) (out : List ByteArray) (pos : Nat) : List ByteArray := (List.range pos).flatMap fun (i : Nat) => out.map fun r => Utf8.encode (bt s (i : Int)) ++ r
/-- Bounds under which nothing overflows; the letters are ASCII. -/
def impl_FirstReadings.fits (s : ByteArray) (out : List ByteArray) : Bool := (s.data.toList.all fun b => decide (b.toNat < 128)) && (decide (s.size ≤ 1000) && (decide (out.length ≤ 1000) && out.all fun r => decide (r.size ≤ 1000000)))
def impl_FirstReadings.round (k : Nat) (l0 : List Int) (x : Int) (out : List ByteArray) : Option (List ByteArray) := (impl_lettersFor.f k l0 x).bind fun s => if impl_FirstReadings.fits s out = true then some ((impl_FirstReadings.more s out s.size).take 20) else none
def impl_FirstReadings.back (k : Nat) (l0 : List Int) : List Int → List ByteArray → Option (List ByteArray)
  | [], out => some out
  | x :: xs, out => (impl_FirstReadings.round k l0 x out).bind fun o => impl_FirstReadings.back k l0 xs o
def impl_FirstReadings.f (k : Nat) (l0 l1 : List Int) : Option (List ByteArray × Bool) := (impl_IsAlphabet.f l0).bind fun t => if t = true then ((impl_areShapes.f l1).bind fun u => if u = true then ((impl_CountReadings.f k l0 l1).bind fun c => if c.1 = 0 then some (([] : List ByteArray), true) else ((impl_FirstReadings.back k l0 l1.reverse [(⟨#[]⟩ : ByteArray)]).bind fun out => some (out, true))) else some (([] : List ByteArray), false)) else some (([] : List ByteArray), false)
theorem impl_FirstReadings.mono_back (k : Nat) (l0 : List Int) : ∀ (l : List Int) (out : List ByteArray), LeO (impl_FirstReadings.back k l0 l out) (impl_FirstReadings.back (k + 1) l0 l out)
  | [], _ => LeO.refl _
  | x :: xs, out => LeO.bind (LeO.bind (impl_lettersFor.mono _ _ _) (fun _ => LeO.refl _)) (fun o => impl_FirstReadings.mono_back k l0 xs o)
theorem impl_FirstReadings.mono : ∀ a0 a1 k, LeO (impl_FirstReadings.f k a0 a1) (impl_FirstReadings.f (k + 1) a0 a1) := by
  intro a0 a1 k
  unfold impl_FirstReadings.f
  exact LeO.bind (LeO.refl _) (fun t => LeO.ite (LeO.bind (LeO.refl _) (fun u => LeO.ite (LeO.bind (impl_CountReadings.mono _ _ _) (fun c => LeO.ite (LeO.refl _) (LeO.bind (impl_FirstReadings.mono_back k a0 _ _) (fun _ => LeO.refl _)))) (LeO.refl _))) (LeO.refl _))
theorem impl_FirstReadings.more_succ (s : ByteArray) (out : List ByteArray) (pos : Nat) : impl_FirstReadings.more s out (pos + 1) = impl_FirstReadings.more s out pos ++ out.map fun r => Utf8.encode (bt s (pos : Int)) ++ r := by
  unfold impl_FirstReadings.more
  rw [List.range_succ, List.flatMap_append]; simp
theorem impl_FirstReadings.more_length (s : ByteArray) (out : List ByteArray) : ∀ pos, (impl_FirstReadings.more s out pos).length = pos * out.length
  | 0 => by simp [impl_FirstReadings.more]
  | pos + 1 => by rw [impl_FirstReadings.more_succ, List.length_append, impl_FirstReadings.more_length s out pos, List.length_map, Nat.succ_mul]
theorem impl_FirstReadings.take_next (f : ByteArray → ByteArray) (out : List ByteArray) (j : Nat) (h : j < out.length) : (out.take j).map f ++ [f (rdOf ByteArray.empty out (j : Int))] = (out.take (j + 1)).map f := by
  rw [List.take_add_one, List.map_append]
  congr 1
  unfold rdOf
  rw [Int.toNat_natCast, List.getD_eq_getElem?_getD, List.getElem?_eq_getElem h]; rfl
theorem impl_FirstReadings.fits_iff {s : ByteArray} {out : List ByteArray} (h : impl_FirstReadings.fits s out = true) : (∀ i (hi : i < s.size), (s[i]'hi).toNat < 128) ∧ s.size ≤ 1000 ∧ out.length ≤ 1000 ∧ ∀ r ∈ out, r.size ≤ 1000000 := by
  unfold impl_FirstReadings.fits at h
  simp only [Bool.and_eq_true, List.all_eq_true, decide_eq_true_eq] at h
  obtain ⟨h1, h2, h3, h4⟩ := h
  exact ⟨fun i hi => h1 _ (by show s.data[i]'hi ∈ _; exact Array.mem_toList_iff.2 (Array.getElem_mem hi)), h2, h3, h4⟩
theorem impl_FirstReadings.R_iter {α : Type} {d : Kd α} {e : Nat} {w : World} {base : Nat} {ok : Nat → Prop} {v : Value} {xs : List α} (h : d.R e w base ok v xs) {k : Nat} {s : ByteArray} {pos : Nat} (hk : w.heap[k]? = some (.stringIter s pos)) (pos' : Nat) : d.R e (w.iterAt k s pos') base ok v xs :=
  Kd.R_mono (Kd.R_move (Kd.R_bound h) (fun j hj => Lib.iterAt_other w k j s pos' (fun e1 => by
    obtain ⟨_, _, _, q, _, cells, hc⟩ := hj
    rw [e1, hk] at hc; cases hc))) (fun _ hj => hj.1)
theorem impl_FirstReadings.ne_iter {α : Type} {d : Kd α} {e : Nat} {w : World} {base : Nat} {ok : Nat → Prop} {v : Value} {xs : List α} (h : d.R e w base ok v xs) {k : Nat} {s : ByteArray} {pos : Nat} (hk : w.heap[k]? = some (.stringIter s pos)) : some k ≠ v.ownBlock := fun e1 => by
  obtain ⟨cells, hc⟩ := Kd.R_typed h k e1.symm
  rw [hk] at hc; cases hc
theorem impl_FirstReadings.one (w : World) (base : Nat) (hb : base ≤ w.heap.size) (ok : Nat → Prop) (hok : ∀ k, ok k) : Kd.R Kd.string 9 (w.alloc (.cells #[.string ⟨#[]⟩] 9)) base ok (.slice (some ⟨w.heap.size, 0, none⟩) 1 1) [(⟨#[]⟩ : ByteArray)] :=
  Kd.R_of_own (enc := Value.string) (xs := [(⟨#[]⟩ : ByteArray)]) (World.ownsRow_lit (base := base) (e := 9) (size := 1) w #[.string ⟨#[]⟩] 1 hb (by unfold maxLen; decide) rfl) (fun k _ => hok k)
theorem impl_FirstReadings.addr0 (A : Option Addr) : A.map (fun a => a.add 0) = A := by
  cases A with
  | none => rfl
  | some a => simp [Addr.add]
theorem impl_FirstReadings.cut (t e : TypeId) (i : TypeInfo) (hi : Tryd.prog.info? e = some i) (ht : Tryd.prog.underlying t = some (.slice e)) (A : Option Addr) (n c : Nat) (k : IntKind) (m : Int) (h0 : 0 ≤ m) (hm : m ≤ c) (W : World) : (Instr.slice t (.slice A n c) none (some (.int k m)) none).run Tryd.prog W = .ok (.slice A m.toNat c) W := by
  have hel : Tryd.prog.elem t = e := by simp [Program.elem, ht]
  rw [run_slice_h W t A n c (by rw [hel]; exact ht) k m h0 hm, hel]
  simp [sizeOf, typeInfo, hi, sliced, Result.andThen, impl_FirstReadings.addr0]
theorem impl_FirstReadings.clip (t e : TypeId) (i : TypeInfo) (hi : Tryd.prog.info? e = some i) (ht : Tryd.prog.underlying t = some (.slice e)) (A : Option Addr) (n c : Nat) (k k' : IntKind) (hc : n ≤ c) (W : World) : (Instr.slice t (.slice A n c) none (some (.int k (n : Int))) (some (.int k' (n : Int)))).run Tryd.prog W = .ok (.slice A n n) W := by
  have hel : Tryd.prog.elem t = e := by simp [Program.elem, ht]
  rw [run_slice_hm W t A n c (by rw [hel]; exact ht) k k' n n (by omega) (by omega) (by omega), hel]
  simp [sizeOf, typeInfo, hi, sliced, Result.andThen, impl_FirstReadings.addr0]
set_option maxHeartbeats 1000000 in
set_option maxRecDepth 100000 in
theorem impl_FirstReadings.clipped (A : Option Addr) (n c : Nat) (hc : n ≤ c) (w : World) : Calls Tryd.prog 57 #[.slice A n c] w fun e w' => e = .returned (.slice A n n) ∧ w' = w := by
  obtain ⟨i, hi, _⟩ := info_parts info9
  have hs := impl_FirstReadings.clip 25 9 i hi Tryd.underlying25 A n c .i64 .i64 hc
  go_enter Tryd.func57, Tryd.ntmps57
  go_wp2
  go_ret
  exact ⟨rfl, rfl⟩
set_option maxHeartbeats 4000000 in
set_option maxRecDepth 100000 in
theorem impl_FirstReadings.bad1 (A0 : Option Addr) (c0 : Nat) (l0 : List Int) (A1 : Option Addr) (c1 : Nat) (l1 : List Int) (w : World) (hr0 : Kd.C (Kd.int .i64) w A0 l0.length l0) (hc0 : l0.length ≤ c0) (ht : impl_IsAlphabet.f l0 = some false) :
    Calls Tryd.prog 19 #[.slice A0 l0.length c0, .slice A1 l1.length c1] w fun e w' => e = .returned (.tuple #[.slice none 0 0, .bool false]) ∧ Below w.heap.size w w' := by
  have HR0 := Aside0.mk hr0
  clear hr0
  go_enter Tryd.func19, Tryd.ntmps19
  go_wp2_with (go_at_call 23; (with_reducible refine (impl_IsAlphabet.calls _ _ l0 false _ HR0.out hc0 ht).mono ?_); rintro e w1 ⟨rfl, hb1⟩)
  go_ret2
  exact ⟨rfl, hb1⟩
set_option maxHeartbeats 4000000 in
set_option maxRecDepth 100000 in
theorem impl_FirstReadings.bad2 (A0 : Option Addr) (c0 : Nat) (l0 : List Int) (A1 : Option Addr) (c1 : Nat) (l1 : List Int) (w : World) (hr0 : Kd.C (Kd.int .i64) w A0 l0.length l0) (hc0 : l0.length ≤ c0) (hr1 : Kd.C (Kd.int .i64) w A1 l1.length l1) (hc1 : l1.length ≤ c1) (ht : impl_IsAlphabet.f l0 = some true) (hu : impl_areShapes.f l1 = some false) :
    Calls Tryd.prog 19 #[.slice A0 l0.length c0, .slice A1 l1.length c1] w fun e w' => e = .returned (.tuple #[.slice none 0 0, .bool false]) ∧ Below w.heap.size w w' := by
  have HR0 := Aside0.mk hr0
  have HR1 := Aside0.mk hr1
  clear hr0 hr1
  go_enter Tryd.func19, Tryd.ntmps19
  go_wp2_with (first | (go_at_call 23; (with_reducible refine (impl_IsAlphabet.calls _ _ l0 true _ HR0.out hc0 ht).mono ?_); rintro e w1 ⟨rfl, hb1⟩) | (go_at_call 42; (with_reducible refine (impl_areShapes.calls _ _ l1 false _ (Kd.C_below HR1.out hb1) hc1 hu).mono ?_); rintro e w2 ⟨rfl, hb2⟩))
  go_ret2
  exact ⟨rfl, below_step hb1 hb2⟩
set_option maxHeartbeats 4000000 in
set_option maxRecDepth 100000 in
theorem impl_FirstReadings.zero (k : Nat) (A0 : Option Addr) (c0 : Nat) (l0 : List Int) (A1 : Option Addr) (c1 : Nat) (l1 : List Int) (b : Bool) (w : World) (hr0 : Kd.C (Kd.int .i64) w A0 l0.length l0) (hc0 : l0.length ≤ c0) (hr1 : Kd.C (Kd.int .i64) w A1 l1.length l1) (hc1 : l1.length ≤ c1) (ht : impl_IsAlphabet.f l0 = some true) (hu : impl_areShapes.f l1 = some true) (hc : impl_CountReadings.f k l0 l1 = some (0, b)) :
    Calls Tryd.prog 19 #[.slice A0 l0.length c0, .slice A1 l1.length c1] w fun e w' => e = .returned (.tuple #[.slice none 0 0, .bool true]) ∧ Below w.heap.size w w' := by
  have HR0 := Aside0.mk hr0
  have HR1 := Aside0.mk hr1
  clear hr0 hr1
  go_enter Tryd.func19, Tryd.ntmps19
  go_wp2_with (first | (go_at_call 23; (with_reducible refine (impl_IsAlphabet.calls _ _ l0 true _ HR0.out hc0 ht).mono ?_); rintro e w1 ⟨rfl, hb1⟩) | (go_at_call 42; (with_reducible refine (impl_areShapes.calls _ _ l1 true _ (Kd.C_below HR1.out hb1) hc1 hu).mono ?_); rintro e w2 ⟨rfl, hb2⟩; have HB2 := Aside0.mk (below_step hb1 hb2); clear hb1 hb2) | (go_at_call 17; (with_reducible refine (impl_CountReadings.calls k _ _ l0 _ _ l1 0 b _ (Kd.C_below HR0.out HB2.out) hc0 (Kd.C_below HR1.out HB2.out) hc1 hc).mono ?_); rintro e w3 ⟨rfl, hb3⟩))
  go_ret2
  exact ⟨rfl, below_step HB2.out hb3⟩
set_option maxHeartbeats 16000000 in
set_option maxRecDepth 100000 in
theorem impl_FirstReadings.main (k : Nat) (A0 : Option Addr) (c0 : Nat) (l0 : List Int) (A1 : Option Addr) (c1 : Nat) (l1 : List Int) (c : Int) (b : Bool) (r : List ByteArray) (w : World) (hr0 : Kd.C (Kd.int .i64) w A0 l0.length l0) (hc0 : l0.length ≤ c0) (hr1 : Kd.C (Kd.int .i64) w A1 l1.length l1) (hc1 : l1.length ≤ c1) (ht : impl_IsAlphabet.f l0 = some true) (hu : impl_areShapes.f l1 = some true) (hc : impl_CountReadings.f k l0 l1 = some (c, b)) (hcz : c ≠ 0) (hb : impl_FirstReadings.back k l0 l1.reverse [(⟨#[]⟩ : ByteArray)] = some r) :
    Calls Tryd.prog 19 #[.slice A0 l0.length c0, .slice A1 l1.length c1] w fun e w' => ∃ (A : Option Addr) (q : Nat), e = .returned (.tuple #[.slice A r.length r.length, .bool true]) ∧ Kd.R Kd.string 9 w' w.heap.size (fun _ => True) (.slice A r.length q) r ∧ Below w.heap.size w w' := by
  have HR0 := Aside0.mk hr0
  have HR1 := Aside0.mk hr1
  have HBK := Aside0.mk hb
  have hcz : (c == 0) = false := beq_eq_false_iff_ne.mpr hcz
  have HW : Aside0 (wrap64 ((l1.length : Int) - 1) = (l1.length : Int) - 1) := ⟨by have := hr1.2.1; unfold wrap64; omega⟩
  clear hr0 hr1 hb
  go_enter Tryd.func19, Tryd.ntmps19
  go_wp2_with (first | (go_at_call 23; (with_reducible refine (impl_IsAlphabet.calls _ _ l0 true _ HR0.out hc0 ht).mono ?_); rintro e w1 ⟨rfl, hb1⟩) | (go_at_call 42; (with_reducible refine (impl_areShapes.calls _ _ l1 true _ (Kd.C_below HR1.out hb1) hc1 hu).mono ?_); rintro e w2 ⟨rfl, hb2⟩; have HB2 := Aside0.mk (below_step hb1 hb2); clear hb1 hb2) | (go_at_call 17; (with_reducible refine (impl_CountReadings.calls k _ _ l0 _ _ l1 c b _ (Kd.C_below HR0.out HB2.out) hc0 (Kd.C_below HR1.out HB2.out) hc1 hc).mono ?_); rintro e w3 ⟨rfl, hb3⟩; have HB3 := Aside0.mk (below_step HB2.out hb3); clear hb3 HB2))
  go_loopg [8, 9] l1.length (fun kq v8 v9 w' => ∃ (x8 : List ByteArray) (x9 : Int), v9 = .int .i64 x9 ∧ Aside0 (x9 = (kq : Int) - 1 ∧ kq ≤ l1.length) ∧ Aside0 (impl_FirstReadings.back k l0 ((l1.take kq).reverse) x8 = some r) ∧ Aside0 (Kd.R Kd.string 9 w' w.heap.size (fun _ => True) v8 x8) ∧ Aside0 (Below w.heap.size w w'))
  case atStart => exact ⟨_, _, rfl, ⟨by rw [HW.out], Nat.le_refl _⟩, ⟨by rw [List.take_length]; exact HBK.out⟩, ⟨impl_FirstReadings.one w3 w.heap.size HB3.out.size _ (fun _ => trivial)⟩, ⟨below_alloc HB3.out _⟩⟩
  case round =>
    obtain ⟨x8, x9, rfl, HA, HK, HO8, HB⟩ := hrel
    obtain ⟨W1, rfl⟩ : ∃ W1, W1 = wr := ⟨wr, rfl⟩
    clear HB3 HBK
    obtain ⟨A8, c8, e8⟩ := Kd.R_slice HO8.out
    subst e8
    by_cases h0 : 0 ≤ x9
    · obtain ⟨g, rfl⟩ : ∃ g, gk = g + 1 := ⟨gk - 1, by have := HA.out; omega⟩
      have hg : g < l1.length := by have := HA.out; omega
      obtain rfl : x9 = (g : Int) := by have := HA.out; omega
      have H := HK.out
      rw [List.take_add_one, List.getElem?_eq_getElem hg, Option.toList_some, List.reverse_append, List.reverse_singleton, List.singleton_append, impl_FirstReadings.back] at H
      have erd : l1[g] = rd l1 (g : Int) := by unfold rd; rw [Int.toNat_natCast, List.getD_eq_getElem?_getD, List.getElem?_eq_getElem hg]; rfl
      rw [erd] at H
      clear HK erd
      obtain ⟨o, ho, H⟩ := Option.bind_eq_some_iff.mp H
      have HK := Aside0.mk H
      clear H
      unfold impl_FirstReadings.round at ho
      obtain ⟨s, hs, ho⟩ := Option.bind_eq_some_iff.mp ho
      have hf : impl_FirstReadings.fits s x8 = true := by
        cases hf : impl_FirstReadings.fits s x8
        · rw [hf, if_neg (by decide)] at ho; cases ho
        · rfl
      rw [if_pos hf] at ho
      have HO := Aside0.mk (Option.some.inj ho)
      have HF := Aside0.mk (impl_FirstReadings.fits_iff hf)
      clear ho hf
      have hge : decide ((g : Int) ≥ 0) = true := decide_eq_true (by omega)
      have hge2 : decide (0 ≤ (g : Int)) = true := decide_eq_true (by omega)
      have p0 : 0 ≤ (g : Int) := by omega
      have q0 : (g : Int) < (l1.length : Int) := by omega
      obtain ⟨ad, eA, hx0⟩ := Kd.at_int (Kd.C_below HR1.out HB.out) (g : Int) p0 q0
      cases eA
      rw [Int.toNat_natCast] at hx0
      replace p0 := eq_true p0
      replace q0 := eq_true q0
      have HG := Aside0.mk hg
      have HLE := Aside0.mk (HB.out.size)
      clear hg h0
      go_wp2_with (go_at_call 26; (with_reducible refine (impl_lettersFor.calls k _ _ l0 (rd l1 (g : Int)) s _ (Kd.C_below HR0.out HB.out) hc0 hs).mono ?_); rintro e w' ⟨rfl, ⟨nd, rfl⟩⟩)
      go_loopg [10] s.size (fun gq v10 w2 => ∃ (pos : Nat) (xs : List ByteArray), Aside0 (pos + gq = s.size) ∧ Aside0 (w2.heap[W1.heap.size]? = some (.stringIter s pos)) ∧ Aside0 (xs = impl_FirstReadings.more s x8 pos) ∧ Aside0 (Kd.R Kd.string 9 w2 w.heap.size (fun k_ => some k_ ≠ (Value.slice A8 x8.length c8).ownBlock) v10 xs) ∧ Aside0 (Kd.R Kd.string 9 w2 w.heap.size (fun k_ => some k_ ≠ v10.ownBlock) (.slice A8 x8.length c8) x8) ∧ Aside0 (Below w.heap.size w w2))
      case atStart => exact ⟨0, [], ⟨by omega⟩, ⟨World.iter_heap (W1.drewN nd) s 0⟩, ⟨by simp [impl_FirstReadings.more]⟩, ⟨Kd.R_nil _ _ _ _ _⟩, ⟨Kd.R_mono (Kd.R_alloc (Kd.R_drewN HO8.out nd) _) (fun k_ _ => by simp [Value.ownBlock])⟩, ⟨below_alloc (pw_below_drewN HB.out nd) _⟩⟩
      case round =>
        obtain ⟨pos, xs, HP, HI, HX, HO10, HO8', HB2⟩ := hrel
        obtain ⟨W2, rfl⟩ : ∃ W2, W2 = wr := ⟨wr, rfl⟩
        clear HO8 HB
        by_cases hlt : pos < s.size
        · have hasc := HF.out.1 pos hlt
          have hnx : ∀ ty, (Instr.next (.pointer (some ⟨W1.heap.size, 0, none⟩)) true ty).run Tryd.prog W2 = .ok (.tuple #[.bool true, .int .i64 pos, .int .i32 (bt s (pos : Int))]) (W2.iterAt W1.heap.size s (pos + 1)) := fun ty => by rw [Lib.run_next_ascii_at W2 W1.heap.size s pos ty HI.out hlt hasc, ← bt_at s (pos : Int) hlt]; rfl
          obtain ⟨q, rfl⟩ : ∃ q, gk = q + 1 := ⟨gk - 1, by have := HP.out; omega⟩
          have HI2 := Aside0.mk (Lib.iterAt_heap W2 W1.heap.size s pos (pos + 1) HI.out)
          have n1 := Aside0.mk (impl_FirstReadings.R_iter HO10.out HI.out (pos + 1))
          have n2 := Aside0.mk (impl_FirstReadings.R_iter HO8'.out HI.out (pos + 1))
          have n3 := Aside0.mk (Lib.below_iterAt HB2.out (k := W1.heap.size) HLE.out s (pos + 1))
          obtain ⟨W3, hW3⟩ : ∃ W3, W2.iterAt W1.heap.size s (pos + 1) = W3 := ⟨_, rfl⟩
          rw [hW3] at hnx HI2 n1 n2 n3
          clear HI HO10 HO8' HB2 hW3
          go_wp2
          go_loopg [10, 51] x8.length (fun hq v10 v51 w4 => ∃ (j : Nat) (ys : List ByteArray), v51 = .int .i64 (j : Int) ∧ Aside0 (j + hq = x8.length) ∧ Aside0 (w4.heap[W1.heap.size]? = some (.stringIter s (pos + 1))) ∧ Aside0 (ys = impl_FirstReadings.more s x8 pos ++ (x8.take j).map fun r => Utf8.encode (bt s (pos : Int)) ++ r) ∧ Aside0 (Kd.R Kd.string 9 w4 w.heap.size (fun k_ => some k_ ≠ (Value.slice A8 x8.length c8).ownBlock) v10 ys) ∧ Aside0 (Kd.R Kd.string 9 w4 w.heap.size (fun k_ => some k_ ≠ v10.ownBlock) (.slice A8 x8.length c8) x8) ∧ Aside0 (Below w.heap.size w w4))
          case atStart => exact ⟨0, xs, rfl, ⟨by omega⟩, HI2, ⟨by rw [HX.out]; simp⟩, n1, n2, n3⟩
          case round =>
            obtain ⟨j, ys, rfl, HJ, HI4, HY, HO4, HO84, HB4⟩ := hrel
            obtain ⟨W4, rfl⟩ : ∃ W4, W4 = wr := ⟨wr, rfl⟩
            clear n1 n2 n3 HI2
            by_cases hj : j < x8.length
            · obtain ⟨q2, rfl⟩ : ∃ q, gk = q + 1 := ⟨gk - 1, by have := HJ.out; omega⟩
              have p2 : 0 ≤ (j : Int) := by omega
              have p3 : (j : Int) < (x8.length : Int) := by omega
              obtain ⟨ad2, eA2, hx2⟩ := Kd.at_string (Kd.R_reads' HO84.out).2.2 (j : Int) p2 p3
              cases eA2
              rw [Int.toNat_natCast] at hx2
              have hmem : (rdOf ByteArray.empty x8 (j : Int)).size ≤ 1000000 := HF.out.2.2.2 _ (by unfold rdOf; rw [Int.toNat_natCast, List.getD_eq_getElem?_getD, List.getElem?_eq_getElem hj]; exact List.getElem_mem hj)
              have henc := encode_size_le (bt s (pos : Int))
              have hsz : ¬ (9223372036854775807 < (Utf8.encode (bt s (pos : Int))).size + (rdOf ByteArray.empty x8 (j : Int)).size) := by omega
              have HN : Aside0 (impl_FirstReadings.more s x8 pos ++ ((x8.take (j + 1)).map fun r => Utf8.encode (bt s (pos : Int)) ++ r) = ys ++ [Utf8.encode (bt s (pos : Int)) ++ rdOf ByteArray.empty x8 (j : Int)]) := ⟨by rw [HY.out, List.append_assoc, impl_FirstReadings.take_next _ _ _ hj]⟩
              have HLY : Aside0 (ys.length ≤ 2000000) := ⟨by
                rw [HY.out, List.length_append, impl_FirstReadings.more_length, List.length_map, List.length_take]
                have h1 := HF.out.2.1
                have h2 := HF.out.2.2.1
                have : pos * x8.length ≤ 1000 * 1000 := Nat.mul_le_mul (by omega) h2
                omega⟩
              have HJ2 := Aside0.mk hj
              clear hmem henc hj
              replace p2 := eq_true p2
              replace p3 := eq_true p3
              replace hsz := eq_false hsz
              go_wp2_with ((with_reducible refine gate_builtin (b := .append) (xs := #[.tmp 55, .tmp 60]) rfl ?_); at_builtin; refine Kd.R_append Kd.string (w0 := w) w.heap.size rfl (.tmp 55) (.tmp 60) 25 9 (.string ⟨#[]⟩) 16 rfl Tryd.underlying25 info9 rfl (by decide) (by omega) u10 ys (Utf8.encode (bt s (pos : Int)) ++ rdOf ByteArray.empty x8 (j : Int)) [.string (Utf8.encode (bt s (pos : Int)) ++ rdOf ByteArray.empty x8 (j : Int))] (fun k_ => some k_ ≠ (Value.slice (some ad2) x8.length c8).ownBlock) (fun _ => False) rfl rfl rfl (fun _ hk => hk.elim) (fun k_ hk => Kd.fresh' (Kd.R_lt HO84.out) k_ hk) HO4.out HB4.out (below_size HB4.out) (by have := HLY.out; omega) ?_; intro v5 w5 ho hb hg hat; rw [← HN.out] at ho; have n5 := Aside0.mk ho; have n6 := Aside0.mk (Kd.R_after (ok := fun _ => True) (Kd.R_mono HO84.out (fun _ hk => ⟨trivial, hk⟩)) hg hat); have n7 := Aside0.mk hb; have n8 := Aside0.mk ((hg.block _ (Array.getElem?_eq_some_iff.1 HI4.out).1 (impl_FirstReadings.ne_iter HO4.out HI4.out)).trans HI4.out); clear ho hb hg hat)
              go_roundg q2
              case measure => omega
              case rel => exact ⟨j + 1, _, by rw [show wrap64 ((j : Int) + 1) = ((j + 1 : Nat) : Int) from by have := HJ2.out; have := HF.out.2.2.1; unfold wrap64; omega], ⟨by have := HJ.out; omega⟩, n8, ⟨rfl⟩, n5, ⟨Kd.R_mono n6.out (fun _ hk => hk.2)⟩, n7⟩
            · go_wp2
              go_roundg q
              case measure => omega
              case rel =>
                have hjj : j = x8.length := by have := HJ.out; omega
                subst hjj
                exact ⟨pos + 1, ys, ⟨by have := HP.out; omega⟩, HI4, ⟨by rw [HY.out, List.take_length, impl_FirstReadings.more_succ]⟩, HO4, HO84, HB4⟩
        · have hnx : ∀ ty, (Instr.next (.pointer (some ⟨W1.heap.size, 0, none⟩)) true ty).run Tryd.prog W2 = _ := fun ty => Lib.run_next_end_at W2 W1.heap.size s pos ty HI.out hlt
          obtain ⟨A10, c10, e10⟩ := Kd.R_slice HO10.out
          subst e10
          have HR10 := Aside0.mk (Kd.R_reads' HO10.out)
          have hpos : pos = s.size := by have := HP.out; omega
          have hxo : xs.take 20 = o := by rw [HX.out, hpos]; exact HO.out
          have hw9 : wrap64 ((g : Int) - 1) = (g : Int) - 1 := by have := HG.out; have := HR1.out.2.1; unfold wrap64; omega
          have hc10 := HR10.out.2.1
          have HW9 := Aside0.mk hw9
          clear hpos hw9
          by_cases h20 : (20 : Int) < (xs.length : Int)
          · have h21 : (20 : Int) ≤ (c10 : Int) := by omega
            have h22 : ¬ ((c10 : Int) < 20) := by omega
            have HT : Aside0 (Kd.R Kd.string 9 W2 w.heap.size (fun k_ => some k_ ≠ (Value.slice A8 x8.length c8).ownBlock) (.slice A10 20 c10) o) := ⟨by rw [← hxo]; exact Kd.R_take (m := 20) HO10.out (by omega)⟩
            replace h20 := eq_true h20
            replace h21 := eq_true h21
            replace h22 := eq_false h22
            clear hc10 hxo
            go_wp2
            go_roundg g
            case measure => omega
            case rel => exact ⟨o, _, rfl, ⟨by rw [HW9.out], by have := HG.out; omega⟩, HK, ⟨Kd.R_mono HT.out (fun _ _ => trivial)⟩, HB2⟩
          · have HT : Aside0 (Kd.R Kd.string 9 W2 w.heap.size (fun k_ => some k_ ≠ (Value.slice A8 x8.length c8).ownBlock) (.slice A10 xs.length c10) o) := ⟨by rw [← hxo, List.take_of_length_le (by omega)]; exact HO10.out⟩
            replace h20 := eq_false h20
            replace hc10 := eq_true hc10
            clear hxo
            go_wp2
            go_roundg g
            case measure => omega
            case rel => exact ⟨o, _, rfl, ⟨by rw [HW9.out], by have := HG.out; omega⟩, HK, ⟨Kd.R_mono HT.out (fun _ _ => trivial)⟩, HB2⟩
    · have hge : decide (x9 ≥ 0) = false := decide_eq_false h0
      have hge2 : decide (0 ≤ x9) = false := decide_eq_false h0
      have e0 : gk = 0 := by have := HA.out; omega
      subst e0
      have H : impl_FirstReadings.back k l0 ((l1.take 0).reverse) x8 = some r := HK.out
      rw [List.take_zero, List.reverse_nil, impl_FirstReadings.back] at H
      obtain rfl := Option.some.inj H
      have HL := Aside0.mk (Kd.R_reads' HO8.out)
      clear H HA HK
      go_wp2_with (go_at_call 57; (with_reducible refine (impl_FirstReadings.clipped A8 x8.length c8 HL.out.2.1 _).mono ?_); rintro e w' ⟨rfl, rfl⟩)
      go_ret2
      exact ⟨_, _, rfl, HO8.out, HB.out⟩
/-- A value that is a row's, its capacity cut to its length. -/
def impl_FirstReadings.Cut (u v : Value) (n : Nat) : Prop := ∃ (A : Option Addr) (q : Nat), v = .slice A n q ∧ u = .slice A n n
theorem impl_FirstReadings.cut_nil : impl_FirstReadings.Cut (.slice none 0 0) (.slice none 0 0) 0 := ⟨none, 0, rfl, rfl⟩
theorem impl_FirstReadings.calls (k : Nat) (A0 : Option Addr) (c0 : Nat) (l0 : List Int) (A1 : Option Addr) (c1 : Nat) (l1 : List Int) (r1 : List ByteArray) (r2 : Bool) (w : World) (hr0 : Kd.C (Kd.int .i64) w A0 l0.length l0) (hc0 : l0.length ≤ c0) (hr1 : Kd.C (Kd.int .i64) w A1 l1.length l1) (hc1 : l1.length ≤ c1) (h : impl_FirstReadings.f k l0 l1 = some (r1, r2)) :
    Calls Tryd.prog 19 #[.slice A0 l0.length c0, .slice A1 l1.length c1] w fun e w' => ∃ v0_ v1_ : Value, e = .returned (.tuple #[v0_, .bool r2]) ∧ impl_FirstReadings.Cut v0_ v1_ r1.length ∧ Kd.R Kd.string 9 w' w.heap.size (fun _ => True) v1_ r1 ∧ Below w.heap.size w w' := by
  unfold impl_FirstReadings.f at h
  obtain ⟨t, ht, h⟩ := Option.bind_eq_some_iff.mp h
  cases t
  · rw [if_neg (by decide)] at h
    cases h
    exact (impl_FirstReadings.bad1 A0 c0 l0 A1 c1 l1 w hr0 hc0 ht).mono fun e w' ⟨he, hb⟩ => ⟨_, _, he, impl_FirstReadings.cut_nil, Kd.R_nil _ _ _ _ _, hb⟩
  rw [if_pos rfl] at h
  obtain ⟨u, hu, h⟩ := Option.bind_eq_some_iff.mp h
  cases u
  · rw [if_neg (by decide)] at h
    cases h
    exact (impl_FirstReadings.bad2 A0 c0 l0 A1 c1 l1 w hr0 hc0 hr1 hc1 ht hu).mono fun e w' ⟨he, hb⟩ => ⟨_, _, he, impl_FirstReadings.cut_nil, Kd.R_nil _ _ _ _ _, hb⟩
  rw [if_pos rfl] at h
  obtain ⟨⟨c, b⟩, hc, h⟩ := Option.bind_eq_some_iff.mp h
  by_cases hz : c = 0
  · subst hz
    rw [if_pos rfl] at h
    cases h
    exact (impl_FirstReadings.zero k A0 c0 l0 A1 c1 l1 b w hr0 hc0 hr1 hc1 ht hu hc).mono fun e w' ⟨he, hb⟩ => ⟨_, _, he, impl_FirstReadings.cut_nil, Kd.R_nil _ _ _ _ _, hb⟩
  · rw [if_neg hz] at h
    obtain ⟨out, ho, h⟩ := Option.bind_eq_some_iff.mp h
    cases h
    exact (impl_FirstReadings.main k A0 c0 l0 A1 c1 l1 c b r1 w hr0 hc0 hr1 hc1 ht hu hc hz ho).mono fun e w' ⟨A, q, he, hr, hb⟩ => ⟨_, _, he, ⟨A, q, rfl, rfl⟩, hr, hb⟩

/-! ### spec_FirstReadings: function 20 -/
def spec_FirstReadings.f (k : Nat) (l0 : List Int) (l1 : List Int) : Option (List ByteArray × Bool) := (spec_fsGiven.f k l0 l1).bind fun t443 => (if t443 = true then ((spec_CountReadings.f k l0 l1).bind fun bt444 => (if bt444.1 = 0 then (some (([] : List ByteArray), true)) else ((spec_fsReadings.f k l0 l1 20).bind fun t446 => (some (t446, true))))) else (some (([] : List ByteArray), false)))
theorem spec_FirstReadings.mono : ∀ a0 a1 k, LeO (spec_FirstReadings.f k a0 a1) (spec_FirstReadings.f (k + 1) a0 a1) := by
  intro a0 a1 k
  unfold spec_FirstReadings.f
  repeat' first
      | (with_reducible exact spec_CountReadings.mono _ _ _)
      | (with_reducible exact spec_fsGiven.mono _ _ _)
      | (with_reducible exact spec_fsReadings.mono _ _ _ _)
      | (with_reducible exact LeO.refl _)
      | (with_reducible exact LeO.none _)
      | (with_reducible refine LeO.ite ?_ ?_)
      | (with_reducible refine LeO.bind ?_ (fun _ => ?_))
      | exact spec_CountReadings.mono _ _ _
      | exact spec_fsGiven.mono _ _ _
      | exact spec_fsReadings.mono _ _ _ _
      | exact LeO.none _
      | refine LeO.ite ?_ ?_
      | refine LeO.bind ?_ (fun _ => ?_)
set_option maxHeartbeats 8000000 in
set_option maxRecDepth 100000 in
theorem spec_FirstReadings.calls (k : Nat) (A0 : Option Addr) (c0 : Nat) (l0 : List Int) (A1 : Option Addr) (c1 : Nat) (l1 : List Int) (r1 : List ByteArray) (r2 : Bool) (w : World) (hr0 : Kd.C (Kd.int .i64) w A0 l0.length l0) (hc0 : l0.length ≤ c0) (hr1 : Kd.C (Kd.int .i64) w A1 l1.length l1) (hc1 : l1.length ≤ c1) (h : spec_FirstReadings.f k l0 l1 = some (r1, r2)) :
    Calls Tryd.prog 20 #[.slice A0 l0.length c0, .slice A1 l1.length c1] w fun e w' => ∃ v0_ : Value, e = .returned (.tuple #[v0_, .bool r2]) ∧ Kd.R Kd.string 9 w' w.heap.size (fun _ => True) v0_ r1 ∧ Below w.heap.size w w' := by
  have HR0 := Aside0.mk hr0
  have HC0 := Aside0.mk hc0
  clear hr0 hc0
  have HR1 := Aside0.mk hr1
  have HC1 := Aside0.mk hc1
  clear hr1 hc1
  have HB := Aside0.mk (Below.refl w.heap.size w)
  have H : ((spec_fsGiven.f k l0 l1).bind fun t443 => (if t443 = true then ((spec_CountReadings.f k l0 l1).bind fun bt444 => (if bt444.1 = 0 then (some (([] : List ByteArray), true)) else ((spec_fsReadings.f k l0 l1 20).bind fun t446 => (some (t446, true))))) else (some (([] : List ByteArray), false)))) = some (r1, r2) := h
  clear h
  replace H := Option.bind_eq_some_iff.mp H
  obtain ⟨t443, A30, H⟩ := H
  replace H : (if t443 = true then ((spec_CountReadings.f k l0 l1).bind fun bt444 => (if bt444.1 = 0 then (some (([] : List ByteArray), true)) else ((spec_fsReadings.f k l0 l1 20).bind fun t446 => (some (t446, true))))) else (some (([] : List ByteArray), false))) = some (r1, r2) := H
  have A3 := Aside0.mk A30
  clear A30
  by_cases c4 : t443 = true
  · subst c4
    have H1 : ((spec_CountReadings.f k l0 l1).bind fun bt444 => (if bt444.1 = 0 then (some (([] : List ByteArray), true)) else ((spec_fsReadings.f k l0 l1 20).bind fun t446 => (some (t446, true))))) = some (r1, r2) := by rw [if_pos rfl] at H; exact H
    clear H
    have H := H1
    clear H1
    replace H := Option.bind_eq_some_iff.mp H
    obtain ⟨⟨t444, t445⟩, A50, H⟩ := H
    replace H : (if t444 = 0 then (some (([] : List ByteArray), true)) else ((spec_fsReadings.f k l0 l1 20).bind fun t446 => (some (t446, true)))) = some (r1, r2) := H
    have A5 := Aside0.mk A50
    clear A50
    by_cases c6 : t444 = 0
    · rw [if_pos c6] at H
      have c6b0 : (t444 == 0) = true := beq_iff_eq.mpr c6
      have c6b1 : (t444 != 0) = false := bne_eq_false_iff_eq.mpr c6
      clear c6
      simp only [Option.some.injEq, Prod.mk.injEq] at H
      obtain ⟨rfl, rfl⟩ := H
      go_enter Tryd.func20, Tryd.ntmps20
      go_wp2_with (first | ((with_reducible refine gate_callee (f := 56) rfl ?_); refine goesL_ (some 10) rfl rfl Tryd.func56 (by kernel_rfl) rfl #[.slice A0 l0.length c0, .slice A1 l1.length c1] rfl (by (try simp only [List.map_toArray, List.map_cons, List.map_nil]); first | done | rfl | (simp only [List.length_drop, List.length_take]; rfl)) ?_; (with_reducible refine (spec_fsGiven.calls k _ _ l0 _ _ l1 true _ ?side1 ?side2 ?side3 ?side4 A3.out).mono ?_); (case side1 => repeat (first | exact HR0.out | (with_reducible refine Kd.C_alloc ?_ _) | (with_reducible refine Kd.C_drewN ?_ _) | (with_reducible refine Kd.C_drew ?_))); (case side2 => exact HC0.out); (case side3 => repeat (first | exact HR1.out | (with_reducible refine Kd.C_alloc ?_ _) | (with_reducible refine Kd.C_drewN ?_ _) | (with_reducible refine Kd.C_drew ?_))); (case side4 => exact HC1.out); rintro e w' ⟨rfl, ⟨nd, rfl⟩⟩; refine ⟨_, rfl, ?_⟩) | ((with_reducible refine gate_callee (f := 18) rfl ?_); refine goesL_ (some 15) rfl rfl Tryd.func18 (by kernel_rfl) rfl #[.slice A0 l0.length c0, .slice A1 l1.length c1] rfl (by (try simp only [List.map_toArray, List.map_cons, List.map_nil]); first | done | rfl | (simp only [List.length_drop, List.length_take]; rfl)) ?_; (with_reducible refine (spec_CountReadings.calls k _ _ l0 _ _ l1 t444 t445 _ ?side1 ?side2 ?side3 ?side4 A5.out).mono ?_); (case side1 => repeat (first | exact HR0.out | (with_reducible refine Kd.C_alloc ?_ _) | (with_reducible refine Kd.C_drewN ?_ _) | (with_reducible refine Kd.C_drew ?_))); (case side2 => exact HC0.out); (case side3 => repeat (first | exact HR1.out | (with_reducible refine Kd.C_alloc ?_ _) | (with_reducible refine Kd.C_drewN ?_ _) | (with_reducible refine Kd.C_drew ?_))); (case side4 => exact HC1.out); rintro e w7 ⟨rfl, hb⟩; refine ⟨_, rfl, ?_⟩; have n0_ := Aside0.mk (below_step (by repeat (first | (with_reducible first | exact HB.out | apply below_alloc | apply pw_below_drewN | apply below_drew1) | exact HB.out)) hb); clear HB; have HB := n0_; clear n0_; (try clear hb); (try clear hb2); (try clear hk); (try clear hi)))
      go_ret2
      exact ⟨_, by first | rfl | (simp [errW_none, errW_some] <;> rfl) | (simp [*, errW_none, errW_some] <;> rfl), by first | exact Kd.R_nil _ _ _ _ _ | exact Kd.N_nil _ _ _ _ _ | exact Kd.V_nil _ _ _ _ _ | exact Kd.Q_nil _ _ _ _ _ | exact Kd.S_nil _ _ _ _ _, by repeat (first | (with_reducible first | exact HB.out | apply below_alloc | apply pw_below_drewN | apply below_drew1) | exact HB.out)⟩
    · rw [if_neg c6] at H
      have c6b0 : (t444 == 0) = false := beq_eq_false_iff_ne.mpr c6
      have c6b1 : (t444 != 0) = true := bne_iff_ne.mpr c6
      replace H := Option.bind_eq_some_iff.mp H
      obtain ⟨t446, A80, H⟩ := H
      replace H : (some (t446, true)) = some (r1, r2) := H
      have A8 := Aside0.mk A80
      clear A80
      simp only [Option.some.injEq, Prod.mk.injEq] at H
      obtain ⟨rfl, rfl⟩ := H
      go_enter Tryd.func20, Tryd.ntmps20
      go_wp2_with (first | ((with_reducible refine gate_callee (f := 56) rfl ?_); refine goesL_ (some 10) rfl rfl Tryd.func56 (by kernel_rfl) rfl #[.slice A0 l0.length c0, .slice A1 l1.length c1] rfl (by (try simp only [List.map_toArray, List.map_cons, List.map_nil]); first | done | rfl | (simp only [List.length_drop, List.length_take]; rfl)) ?_; (with_reducible refine (spec_fsGiven.calls k _ _ l0 _ _ l1 true _ ?side1 ?side2 ?side3 ?side4 A3.out).mono ?_); (case side1 => repeat (first | exact HR0.out | (with_reducible refine Kd.C_alloc ?_ _) | (with_reducible refine Kd.C_drewN ?_ _) | (with_reducible refine Kd.C_drew ?_))); (case side2 => exact HC0.out); (case side3 => repeat (first | exact HR1.out | (with_reducible refine Kd.C_alloc ?_ _) | (with_reducible refine Kd.C_drewN ?_ _) | (with_reducible refine Kd.C_drew ?_))); (case side4 => exact HC1.out); rintro e w' ⟨rfl, ⟨nd, rfl⟩⟩; refine ⟨_, rfl, ?_⟩) | ((with_reducible refine gate_callee (f := 18) rfl ?_); refine goesL_ (some 15) rfl rfl Tryd.func18 (by kernel_rfl) rfl #[.slice A0 l0.length c0, .slice A1 l1.length c1] rfl (by (try simp only [List.map_toArray, List.map_cons, List.map_nil]); first | done | rfl | (simp only [List.length_drop, List.length_take]; rfl)) ?_; (with_reducible refine (spec_CountReadings.calls k _ _ l0 _ _ l1 t444 t445 _ ?side1 ?side2 ?side3 ?side4 A5.out).mono ?_); (case side1 => repeat (first | exact HR0.out | (with_reducible refine Kd.C_alloc ?_ _) | (with_reducible refine Kd.C_drewN ?_ _) | (with_reducible refine Kd.C_drew ?_))); (case side2 => exact HC0.out); (case side3 => repeat (first | exact HR1.out | (with_reducible refine Kd.C_alloc ?_ _) | (with_reducible refine Kd.C_drewN ?_ _) | (with_reducible refine Kd.C_drew ?_))); (case side4 => exact HC1.out); rintro e w9 ⟨rfl, hb⟩; refine ⟨_, rfl, ?_⟩; have n0_ := Aside0.mk (below_step (by repeat (first | (with_reducible first | exact HB.out | apply below_alloc | apply pw_below_drewN | apply below_drew1) | exact HB.out)) hb); clear HB; have HB := n0_; clear n0_; (try clear hb); (try clear hb2); (try clear hk); (try clear hi)) | ((with_reducible refine gate_callee (f := 34) rfl ?_); refine goesL_ (some 22) rfl rfl Tryd.func34 (by kernel_rfl) rfl #[.slice A0 l0.length c0, .slice A1 l1.length c1, .int .i64 20] rfl (by (try simp only [List.map_toArray, List.map_cons, List.map_nil]); first | done | rfl | (simp only [List.length_drop, List.length_take]; rfl)) ?_; (with_reducible refine (spec_fsReadings.calls k _ _ l0 _ _ l1 20 t446 _ ?side1 ?side2 ?side3 ?side4 A8.out).mono ?_); (case side1 => repeat (first | exact (Kd.C_below HR0.out HB.out) | (with_reducible refine Kd.C_alloc ?_ _) | (with_reducible refine Kd.C_drewN ?_ _) | (with_reducible refine Kd.C_drew ?_))); (case side2 => exact HC0.out); (case side3 => repeat (first | exact (Kd.C_below HR1.out HB.out) | (with_reducible refine Kd.C_alloc ?_ _) | (with_reducible refine Kd.C_drewN ?_ _) | (with_reducible refine Kd.C_drew ?_))); (case side4 => exact HC1.out); rintro e w10 ⟨v447, rfl, ho0, hb⟩; refine ⟨_, rfl, ?_⟩; have n0_ := Aside0.mk (Kd.R_lower ho0 (below_size (by repeat (first | (with_reducible first | exact HB.out | apply below_alloc | apply pw_below_drewN | apply below_drew1) | exact HB.out)))); have n1_ := Aside0.mk (below_step (by repeat (first | (with_reducible first | exact HB.out | apply below_alloc | apply pw_below_drewN | apply below_drew1) | exact HB.out)) hb); clear HB; have HO448 := n0_; have HB := n1_; clear n0_ n1_; (try clear hb); (try clear hb2); (try clear hk); (try clear hi); (try clear ho0)))
      go_ret2
      exact ⟨_, by first | rfl | (simp [errW_none, errW_some] <;> rfl) | (simp [*, errW_none, errW_some] <;> rfl), by (with_reducible repeat (first | apply Kd.R_alloc | apply Kd.R_drewN | apply Kd.R_drew)); exact HO448.out, by repeat (first | (with_reducible first | exact HB.out | apply below_alloc | apply pw_below_drewN | apply below_drew1) | exact HB.out)⟩
  · replace c4 := Bool.eq_false_iff.mpr c4
    subst c4
    have H1 : (some (([] : List ByteArray), false)) = some (r1, r2) := by rw [if_neg (show ¬ (false = true) by decide)] at H; exact H
    clear H
    have H := H1
    clear H1
    simp only [Option.some.injEq, Prod.mk.injEq] at H
    obtain ⟨rfl, rfl⟩ := H
    go_enter Tryd.func20, Tryd.ntmps20
    go_wp2_with (first | ((with_reducible refine gate_callee (f := 56) rfl ?_); refine goesL_ (some 10) rfl rfl Tryd.func56 (by kernel_rfl) rfl #[.slice A0 l0.length c0, .slice A1 l1.length c1] rfl (by (try simp only [List.map_toArray, List.map_cons, List.map_nil]); first | done | rfl | (simp only [List.length_drop, List.length_take]; rfl)) ?_; (with_reducible refine (spec_fsGiven.calls k _ _ l0 _ _ l1 false _ ?side1 ?side2 ?side3 ?side4 A3.out).mono ?_); (case side1 => repeat (first | exact HR0.out | (with_reducible refine Kd.C_alloc ?_ _) | (with_reducible refine Kd.C_drewN ?_ _) | (with_reducible refine Kd.C_drew ?_))); (case side2 => exact HC0.out); (case side3 => repeat (first | exact HR1.out | (with_reducible refine Kd.C_alloc ?_ _) | (with_reducible refine Kd.C_drewN ?_ _) | (with_reducible refine Kd.C_drew ?_))); (case side4 => exact HC1.out); rintro e w' ⟨rfl, ⟨nd, rfl⟩⟩; refine ⟨_, rfl, ?_⟩))
    go_ret2
    exact ⟨_, by first | rfl | (simp [errW_none, errW_some] <;> rfl) | (simp [*, errW_none, errW_some] <;> rfl), by first | exact Kd.R_nil _ _ _ _ _ | exact Kd.N_nil _ _ _ _ _ | exact Kd.V_nil _ _ _ _ _ | exact Kd.Q_nil _ _ _ _ _ | exact Kd.S_nil _ _ _ _ _, by repeat (first | (with_reducible first | exact HB.out | apply below_alloc | apply pw_below_drewN | apply below_drew1) | exact HB.out)⟩

/-! ### laws_qTexts: function 21 -/
def laws_qTexts.l0 : Nat → List ByteArray → List ByteArray → Int → Int → Option (Bool)
  | 0, _, _, _, _ => none
  | k + 1, x0, x1, x12, x13 => if x13 < x12 then (if 0 ≤ x13 then (if x13 < (x0.length : Int) then (if x13 < (x1.length : Int) then (if (rdOf ByteArray.empty x0 x13).toList = (rdOf ByteArray.empty x1 x13).toList then (laws_qTexts.l0 k x0 x1 x12 (wrap64 (x13 + 1))) else (some false)) else (none)) else (none)) else (none)) else (some true)
def laws_qTexts.f (k : Nat) (l0 : List ByteArray) (l1 : List ByteArray) : Option (Bool) := if (l0.length : Int) = (l1.length : Int) then (laws_qTexts.l0 k l0 l1 (l0.length : Int) 0) else (some false)
theorem laws_qTexts.mono_l : ∀ k, (∀ y0 y1 y2 y3, LeO (laws_qTexts.l0 k y0 y1 y2 y3) (laws_qTexts.l0 (k + 1) y0 y1 y2 y3))
  | 0 => fun _ _ _ _ r h => by simp [laws_qTexts.l0] at h
  | k + 1 => by
    have ih0 := laws_qTexts.mono_l k
    · intro y0 y1 y2 y3
      unfold laws_qTexts.l0
      repeat' first
      | (with_reducible exact ih0 _ _ _ _)
      | (with_reducible exact LeO.refl _)
      | (with_reducible exact LeO.none _)
      | (with_reducible refine LeO.ite ?_ ?_)
      | (with_reducible refine LeO.bind ?_ (fun _ => ?_))
      | exact ih0 _ _ _ _
      | exact LeO.none _
      | refine LeO.ite ?_ ?_
      | refine LeO.bind ?_ (fun _ => ?_)
theorem laws_qTexts.mono : ∀ a0 a1 k, LeO (laws_qTexts.f k a0 a1) (laws_qTexts.f (k + 1) a0 a1) := by
  intro a0 a1 k
  have ih0 := laws_qTexts.mono_l k
  unfold laws_qTexts.f
  repeat' first
      | (with_reducible exact ih0 _ _ _ _)
      | (with_reducible exact LeO.refl _)
      | (with_reducible exact LeO.none _)
      | (with_reducible refine LeO.ite ?_ ?_)
      | (with_reducible refine LeO.bind ?_ (fun _ => ?_))
      | exact ih0 _ _ _ _
      | exact LeO.none _
      | refine LeO.ite ?_ ?_
      | refine LeO.bind ?_ (fun _ => ?_)
set_option maxHeartbeats 8000000 in
set_option maxRecDepth 100000 in
theorem laws_qTexts.calls (k : Nat) (A0 : Option Addr) (c0 : Nat) (l0 : List ByteArray) (A1 : Option Addr) (c1 : Nat) (l1 : List ByteArray) (r : Bool) (w : World) (hr0 : Kd.C Kd.string w A0 l0.length l0) (hc0 : l0.length ≤ c0) (hr1 : Kd.C Kd.string w A1 l1.length l1) (hc1 : l1.length ≤ c1) (h : laws_qTexts.f k l0 l1 = some r) :
    Calls Tryd.prog 21 #[.slice A0 l0.length c0, .slice A1 l1.length c1] w fun e w' => e = .returned (.bool r) ∧ Drawn0 w w' := by
  have HR0 := Aside0.mk hr0
  have HC0 := Aside0.mk hc0
  clear hr0 hc0
  have HR1 := Aside0.mk hr1
  have HC1 := Aside0.mk hc1
  clear hr1 hc1
  have H : (if (l0.length : Int) = (l1.length : Int) then (laws_qTexts.l0 k l0 l1 (l0.length : Int) 0) else (some false)) = some r := h
  clear h
  by_cases c3 : (l0.length : Int) = (l1.length : Int)
  · rw [if_pos c3] at H
    have c3b0 : ((l0.length : Int) == (l1.length : Int)) = true := beq_iff_eq.mpr c3
    have c3b1 : ((l0.length : Int) != (l1.length : Int)) = false := bne_eq_false_iff_eq.mpr c3
    have c3b2 : (l0.length == l1.length) = true := by first | simpa using c3 | (simp at c3 ⊢; omega)
    clear c3
    have H' := Aside0.mk H
    clear H
    go_enter Tryd.func21, Tryd.ntmps21
    go_wp2
    repeat (go_quiet (fail); try go_wp2)
    go_loopg [13] k (fun kq v13 w' => ∃ (x13_1 : Int), v13 = .int .i64 x13_1 ∧ Aside0 (laws_qTexts.l0 kq l0 l1 (l0.length : Int) x13_1 = some r) ∧ Aside0 (kq ≤ k) ∧ Drawn0 w w')
    case atStart => exact ⟨(0), (by first | rfl | (simp; done) | (simp [*]; done)), H', ⟨Nat.le_refl _⟩, by repeat (first | exact Drawn0.refl _ | apply Drawn0.step)⟩
    case round =>
      clear H'
      try clear c1
      try clear c2
      try clear p2
      try clear c3
      try clear c3b0
      try clear c3b1
      try clear c3b2
      obtain ⟨x13_1, rfl, HA, HK1, ⟨m1, rfl⟩⟩ := hrel
      cases gk with
      | zero => exact absurd HA.out (by simp [laws_qTexts.l0])
      | succ k1 =>
        have H := HA.out
        clear HA
        simp only [laws_qTexts.l0] at H
        by_cases c4 : x13_1 < (l0.length : Int)
        · rw [if_pos c4] at H
          have c4b0 : decide (x13_1 < (l0.length : Int)) = true := decide_eq_true c4
          clear c4
          by_cases c5 : 0 ≤ x13_1
          · rw [if_pos c5] at H
            have c5b0 : decide (0 ≤ x13_1) = true := decide_eq_true c5
            clear c5
            by_cases c6 : x13_1 < (l0.length : Int)
            · rw [if_pos c6] at H
              have c6b0 : decide (x13_1 < (l0.length : Int)) = true := decide_eq_true c6
              clear c6
              by_cases c7 : x13_1 < (l1.length : Int)
              · rw [if_pos c7] at H
                have c7b0 : decide (x13_1 < (l1.length : Int)) = true := decide_eq_true c7
                clear c7
                by_cases c8 : (rdOf ByteArray.empty l0 x13_1).toList = (rdOf ByteArray.empty l1 x13_1).toList
                · rw [if_pos c8] at H
                  have c8b0 : ((rdOf ByteArray.empty l0 x13_1).toList == (rdOf ByteArray.empty l1 x13_1).toList) = true := beq_iff_eq.mpr c8
                  have c8b1 : ((rdOf ByteArray.empty l0 x13_1).toList != (rdOf ByteArray.empty l1 x13_1).toList) = false := bne_eq_false_iff_eq.mpr c8
                  clear c8
                  have H' := Aside0.mk H
                  clear H
                  have p449 : 0 ≤ (x13_1 : Int) := of_decide_eq_true (by first | (with_reducible assumption) | assumption)
                  have q449 : x13_1 < (l0.length : Int) := of_decide_eq_true (by first | (with_reducible assumption) | assumption)
                  obtain ⟨ad449, e449, hx449_0⟩ := Kd.at_string HR0.out x13_1 p449 q449
                  cases e449
                  replace p449 := eq_true p449
                  replace q449 := eq_true q449
                  have p450 : 0 ≤ (x13_1 : Int) := of_decide_eq_true (by first | (with_reducible assumption) | assumption)
                  have q450 : x13_1 < (l1.length : Int) := of_decide_eq_true (by first | (with_reducible assumption) | assumption)
                  obtain ⟨ad450, e450, hx450_0⟩ := Kd.at_string HR1.out x13_1 p450 q450
                  cases e450
                  replace p450 := eq_true p450
                  replace q450 := eq_true q450
                  go_wp2
                  repeat (go_quiet (fail); try go_wp2)
                  go_roundg k1
                  case measure => have := HK1.out; omega
                  case rel => exact ⟨(wrap64 (x13_1 + 1)), (by first | rfl | (simp; done) | (simp [*]; done)), H', ⟨by have := HK1.out; omega⟩, by repeat (first | exact Drawn0.refl _ | apply Drawn0.step)⟩
                · rw [if_neg c8] at H
                  have c8b0 : ((rdOf ByteArray.empty l0 x13_1).toList == (rdOf ByteArray.empty l1 x13_1).toList) = false := beq_eq_false_iff_ne.mpr c8
                  have c8b1 : ((rdOf ByteArray.empty l0 x13_1).toList != (rdOf ByteArray.empty l1 x13_1).toList) = true := bne_iff_ne.mpr c8
                  obtain rfl := Option.some.inj H
                  have p449 : 0 ≤ (x13_1 : Int) := of_decide_eq_true (by first | (with_reducible assumption) | assumption)
                  have q449 : x13_1 < (l0.length : Int) := of_decide_eq_true (by first | (with_reducible assumption) | assumption)
                  obtain ⟨ad449, e449, hx449_0⟩ := Kd.at_string HR0.out x13_1 p449 q449
                  cases e449
                  replace p449 := eq_true p449
                  replace q449 := eq_true q449
                  have p450 : 0 ≤ (x13_1 : Int) := of_decide_eq_true (by first | (with_reducible assumption) | assumption)
                  have q450 : x13_1 < (l1.length : Int) := of_decide_eq_true (by first | (with_reducible assumption) | assumption)
                  obtain ⟨ad450, e450, hx450_0⟩ := Kd.at_string HR1.out x13_1 p450 q450
                  cases e450
                  replace p450 := eq_true p450
                  replace q450 := eq_true q450
                  go_wp2
                  repeat (go_quiet (fail); try go_wp2)
                  go_ret
                  exact ⟨by first | rfl | (simp; done) | (simp [*]; done), by repeat (first | exact Drawn0.refl _ | apply Drawn0.step)⟩
              · rw [if_neg c7] at H
                exact absurd H (by simp)
            · rw [if_neg c6] at H
              exact absurd H (by simp)
          · rw [if_neg c5] at H
            exact absurd H (by simp)
        · rw [if_neg c4] at H
          have c4b0 : decide (x13_1 < (l0.length : Int)) = false := decide_eq_false c4
          clear c4
          obtain rfl := Option.some.inj H
          go_wp2
          repeat (go_quiet (fail); try go_wp2)
          go_ret
          exact ⟨by first | rfl | (simp; done) | (simp [*]; done), by repeat (first | exact Drawn0.refl _ | apply Drawn0.step)⟩
  · rw [if_neg c3] at H
    have c3b0 : ((l0.length : Int) == (l1.length : Int)) = false := beq_eq_false_iff_ne.mpr c3
    have c3b1 : ((l0.length : Int) != (l1.length : Int)) = true := bne_iff_ne.mpr c3
    have c3b2 : (l0.length == l1.length) = false := by first | simpa using c3 | (simp at c3 ⊢; omega)
    obtain rfl := Option.some.inj H
    go_enter Tryd.func21, Tryd.ntmps21
    go_wp2
    repeat (go_quiet (fail); try go_wp2)
    go_ret
    exact ⟨by first | rfl | (simp; done) | (simp [*]; done), by repeat (first | exact Drawn0.refl _ | apply Drawn0.step)⟩

/-! ### laws_qInts: function 58 -/
def laws_qInts.l0 : Nat → List Int → List Int → Int → Int → Option (Bool)
  | 0, _, _, _, _ => none
  | k + 1, x0, x1, x12, x13 => if x13 < x12 then (if 0 ≤ x13 then (if x13 < (x0.length : Int) then (if x13 < (x1.length : Int) then (if (rd x0 x13) = (rd x1 x13) then (laws_qInts.l0 k x0 x1 x12 (wrap64 (x13 + 1))) else (some false)) else (none)) else (none)) else (none)) else (some true)
def laws_qInts.f (k : Nat) (l0 : List Int) (l1 : List Int) : Option (Bool) := if (l0.length : Int) = (l1.length : Int) then (laws_qInts.l0 k l0 l1 (l0.length : Int) 0) else (some false)
theorem laws_qInts.mono_l : ∀ k, (∀ y0 y1 y2 y3, LeO (laws_qInts.l0 k y0 y1 y2 y3) (laws_qInts.l0 (k + 1) y0 y1 y2 y3))
  | 0 => fun _ _ _ _ r h => by simp [laws_qInts.l0] at h
  | k + 1 => by
    have ih0 := laws_qInts.mono_l k
    · intro y0 y1 y2 y3
      unfold laws_qInts.l0
      repeat' first
      | (with_reducible exact ih0 _ _ _ _)
      | (with_reducible exact LeO.refl _)
      | (with_reducible exact LeO.none _)
      | (with_reducible refine LeO.ite ?_ ?_)
      | (with_reducible refine LeO.bind ?_ (fun _ => ?_))
      | exact ih0 _ _ _ _
      | exact LeO.none _
      | refine LeO.ite ?_ ?_
      | refine LeO.bind ?_ (fun _ => ?_)
theorem laws_qInts.mono : ∀ a0 a1 k, LeO (laws_qInts.f k a0 a1) (laws_qInts.f (k + 1) a0 a1) := by
  intro a0 a1 k
  have ih0 := laws_qInts.mono_l k
  unfold laws_qInts.f
  repeat' first
      | (with_reducible exact ih0 _ _ _ _)
      | (with_reducible exact LeO.refl _)
      | (with_reducible exact LeO.none _)
      | (with_reducible refine LeO.ite ?_ ?_)
      | (with_reducible refine LeO.bind ?_ (fun _ => ?_))
      | exact ih0 _ _ _ _
      | exact LeO.none _
      | refine LeO.ite ?_ ?_
      | refine LeO.bind ?_ (fun _ => ?_)
set_option maxHeartbeats 8000000 in
set_option maxRecDepth 100000 in
theorem laws_qInts.calls (k : Nat) (A0 : Option Addr) (c0 : Nat) (l0 : List Int) (A1 : Option Addr) (c1 : Nat) (l1 : List Int) (r : Bool) (w : World) (hr0 : Kd.C (Kd.int .i64) w A0 l0.length l0) (hc0 : l0.length ≤ c0) (hr1 : Kd.C (Kd.int .i64) w A1 l1.length l1) (hc1 : l1.length ≤ c1) (h : laws_qInts.f k l0 l1 = some r) :
    Calls Tryd.prog 58 #[.slice A0 l0.length c0, .slice A1 l1.length c1] w fun e w' => e = .returned (.bool r) ∧ Drawn0 w w' := by
  have HR0 := Aside0.mk hr0
  have HC0 := Aside0.mk hc0
  clear hr0 hc0
  have HR1 := Aside0.mk hr1
  have HC1 := Aside0.mk hc1
  clear hr1 hc1
  have H : (if (l0.length : Int) = (l1.length : Int) then (laws_qInts.l0 k l0 l1 (l0.length : Int) 0) else (some false)) = some r := h
  clear h
  by_cases c3 : (l0.length : Int) = (l1.length : Int)
  · rw [if_pos c3] at H
    have c3b0 : ((l0.length : Int) == (l1.length : Int)) = true := beq_iff_eq.mpr c3
    have c3b1 : ((l0.length : Int) != (l1.length : Int)) = false := bne_eq_false_iff_eq.mpr c3
    have c3b2 : (l0.length == l1.length) = true := by first | simpa using c3 | (simp at c3 ⊢; omega)
    clear c3
    have H' := Aside0.mk H
    clear H
    go_enter Tryd.func58, Tryd.ntmps58
    go_wp2
    repeat (go_quiet (fail); try go_wp2)
    go_loopg [13] k (fun kq v13 w' => ∃ (x13_1 : Int), v13 = .int .i64 x13_1 ∧ Aside0 (laws_qInts.l0 kq l0 l1 (l0.length : Int) x13_1 = some r) ∧ Aside0 (kq ≤ k) ∧ Drawn0 w w')
    case atStart => exact ⟨(0), (by first | rfl | (simp; done) | (simp [*]; done)), H', ⟨Nat.le_refl _⟩, by repeat (first | exact Drawn0.refl _ | apply Drawn0.step)⟩
    case round =>
      clear H'
      try clear c1
      try clear p2
      try clear c3
      try clear c3b0
      try clear c3b1
      try clear c3b2
      obtain ⟨x13_1, rfl, HA, HK1, ⟨m1, rfl⟩⟩ := hrel
      cases gk with
      | zero => exact absurd HA.out (by simp [laws_qInts.l0])
      | succ k1 =>
        have H := HA.out
        clear HA
        simp only [laws_qInts.l0] at H
        by_cases c4 : x13_1 < (l0.length : Int)
        · rw [if_pos c4] at H
          have c4b0 : decide (x13_1 < (l0.length : Int)) = true := decide_eq_true c4
          clear c4
          by_cases c5 : 0 ≤ x13_1
          · rw [if_pos c5] at H
            have c5b0 : decide (0 ≤ x13_1) = true := decide_eq_true c5
            clear c5
            by_cases c6 : x13_1 < (l0.length : Int)
            · rw [if_pos c6] at H
              have c6b0 : decide (x13_1 < (l0.length : Int)) = true := decide_eq_true c6
              clear c6
              by_cases c7 : x13_1 < (l1.length : Int)
              · rw [if_pos c7] at H
                have c7b0 : decide (x13_1 < (l1.length : Int)) = true := decide_eq_true c7
                clear c7
                by_cases c8 : (rd l0 x13_1) = (rd l1 x13_1)
                · rw [if_pos c8] at H
                  have c8b0 : ((rd l0 x13_1) == (rd l1 x13_1)) = true := beq_iff_eq.mpr c8
                  have c8b1 : ((rd l0 x13_1) != (rd l1 x13_1)) = false := bne_eq_false_iff_eq.mpr c8
                  clear c8
                  have H' := Aside0.mk H
                  clear H
                  have p451 : 0 ≤ (x13_1 : Int) := of_decide_eq_true (by first | (with_reducible assumption) | assumption)
                  have q451 : x13_1 < (l0.length : Int) := of_decide_eq_true (by first | (with_reducible assumption) | assumption)
                  obtain ⟨ad451, e451, hx451_0⟩ := Kd.at_int HR0.out x13_1 p451 q451
                  cases e451
                  replace p451 := eq_true p451
                  replace q451 := eq_true q451
                  have p452 : 0 ≤ (x13_1 : Int) := of_decide_eq_true (by first | (with_reducible assumption) | assumption)
                  have q452 : x13_1 < (l1.length : Int) := of_decide_eq_true (by first | (with_reducible assumption) | assumption)
                  obtain ⟨ad452, e452, hx452_0⟩ := Kd.at_int HR1.out x13_1 p452 q452
                  cases e452
                  replace p452 := eq_true p452
                  replace q452 := eq_true q452
                  go_wp2
                  repeat (go_quiet (fail); try go_wp2)
                  go_roundg k1
                  case measure => have := HK1.out; omega
                  case rel => exact ⟨(wrap64 (x13_1 + 1)), (by first | rfl | (simp; done) | (simp [*]; done)), H', ⟨by have := HK1.out; omega⟩, by repeat (first | exact Drawn0.refl _ | apply Drawn0.step)⟩
                · rw [if_neg c8] at H
                  have c8b0 : ((rd l0 x13_1) == (rd l1 x13_1)) = false := beq_eq_false_iff_ne.mpr c8
                  have c8b1 : ((rd l0 x13_1) != (rd l1 x13_1)) = true := bne_iff_ne.mpr c8
                  obtain rfl := Option.some.inj H
                  have p451 : 0 ≤ (x13_1 : Int) := of_decide_eq_true (by first | (with_reducible assumption) | assumption)
                  have q451 : x13_1 < (l0.length : Int) := of_decide_eq_true (by first | (with_reducible assumption) | assumption)
                  obtain ⟨ad451, e451, hx451_0⟩ := Kd.at_int HR0.out x13_1 p451 q451
                  cases e451
                  replace p451 := eq_true p451
                  replace q451 := eq_true q451
                  have p452 : 0 ≤ (x13_1 : Int) := of_decide_eq_true (by first | (with_reducible assumption) | assumption)
                  have q452 : x13_1 < (l1.length : Int) := of_decide_eq_true (by first | (with_reducible assumption) | assumption)
                  obtain ⟨ad452, e452, hx452_0⟩ := Kd.at_int HR1.out x13_1 p452 q452
                  cases e452
                  replace p452 := eq_true p452
                  replace q452 := eq_true q452
                  go_wp2
                  repeat (go_quiet (fail); try go_wp2)
                  go_ret
                  exact ⟨by first | rfl | (simp; done) | (simp [*]; done), by repeat (first | exact Drawn0.refl _ | apply Drawn0.step)⟩
              · rw [if_neg c7] at H
                exact absurd H (by simp)
            · rw [if_neg c6] at H
              exact absurd H (by simp)
          · rw [if_neg c5] at H
            exact absurd H (by simp)
        · rw [if_neg c4] at H
          have c4b0 : decide (x13_1 < (l0.length : Int)) = false := decide_eq_false c4
          clear c4
          obtain rfl := Option.some.inj H
          go_wp2
          repeat (go_quiet (fail); try go_wp2)
          go_ret
          exact ⟨by first | rfl | (simp; done) | (simp [*]; done), by repeat (first | exact Drawn0.refl _ | apply Drawn0.step)⟩
  · rw [if_neg c3] at H
    have c3b0 : ((l0.length : Int) == (l1.length : Int)) = false := beq_eq_false_iff_ne.mpr c3
    have c3b1 : ((l0.length : Int) != (l1.length : Int)) = true := bne_iff_ne.mpr c3
    have c3b2 : (l0.length == l1.length) = false := by first | simpa using c3 | (simp at c3 ⊢; omega)
    obtain rfl := Option.some.inj H
    go_enter Tryd.func58, Tryd.ntmps58
    go_wp2
    repeat (go_quiet (fail); try go_wp2)
    go_ret
    exact ⟨by first | rfl | (simp; done) | (simp [*]; done), by repeat (first | exact Drawn0.refl _ | apply Drawn0.step)⟩

/-! ### laws_qLists: function 22 -/
def laws_qLists.l0 : Nat → List (List Int) → List (List Int) → Int → Int → Option (Bool)
  | 0, _, _, _, _ => none
  | k + 1, x0, x1, x12, x13 => if x13 < x12 then (if 0 ≤ x13 then (if x13 < (x0.length : Int) then (if x13 < (x1.length : Int) then ((laws_qInts.f k (rd_L2 x0 x13) (rd_L2 x1 x13)).bind fun t455 => (if t455 = true then (laws_qLists.l0 k x0 x1 x12 (wrap64 (x13 + 1))) else (some false))) else (none)) else (none)) else (none)) else (some true)
def laws_qLists.f (k : Nat) (l0 : List (List Int)) (l1 : List (List Int)) : Option (Bool) := if (l0.length : Int) = (l1.length : Int) then (laws_qLists.l0 k l0 l1 (l0.length : Int) 0) else (some false)
theorem laws_qLists.mono_l : ∀ k, (∀ y0 y1 y2 y3, LeO (laws_qLists.l0 k y0 y1 y2 y3) (laws_qLists.l0 (k + 1) y0 y1 y2 y3))
  | 0 => fun _ _ _ _ r h => by simp [laws_qLists.l0] at h
  | k + 1 => by
    have ih0 := laws_qLists.mono_l k
    · intro y0 y1 y2 y3
      unfold laws_qLists.l0
      repeat' first
      | (with_reducible exact ih0 _ _ _ _)
      | (with_reducible exact laws_qInts.mono _ _ _)
      | (with_reducible exact LeO.refl _)
      | (with_reducible exact LeO.none _)
      | (with_reducible refine LeO.ite ?_ ?_)
      | (with_reducible refine LeO.bind ?_ (fun _ => ?_))
      | exact ih0 _ _ _ _
      | exact laws_qInts.mono _ _ _
      | exact LeO.none _
      | refine LeO.ite ?_ ?_
      | refine LeO.bind ?_ (fun _ => ?_)
theorem laws_qLists.mono : ∀ a0 a1 k, LeO (laws_qLists.f k a0 a1) (laws_qLists.f (k + 1) a0 a1) := by
  intro a0 a1 k
  have ih0 := laws_qLists.mono_l k
  unfold laws_qLists.f
  repeat' first
      | (with_reducible exact ih0 _ _ _ _)
      | (with_reducible exact laws_qInts.mono _ _ _)
      | (with_reducible exact LeO.refl _)
      | (with_reducible exact LeO.none _)
      | (with_reducible refine LeO.ite ?_ ?_)
      | (with_reducible refine LeO.bind ?_ (fun _ => ?_))
      | exact ih0 _ _ _ _
      | exact laws_qInts.mono _ _ _
      | exact LeO.none _
      | refine LeO.ite ?_ ?_
      | refine LeO.bind ?_ (fun _ => ?_)
set_option maxHeartbeats 8000000 in
set_option maxRecDepth 100000 in
theorem laws_qLists.calls (k : Nat) (A0 : Option Addr) (c0 : Nat) (l0 : List (List Int)) (A1 : Option Addr) (c1 : Nat) (l1 : List (List Int)) (r : Bool) (w : World) (hr0 : Kd.C (Kd.slice 3 (Kd.int .i64)) w A0 l0.length l0) (hc0 : l0.length ≤ c0) (hr1 : Kd.C (Kd.slice 3 (Kd.int .i64)) w A1 l1.length l1) (hc1 : l1.length ≤ c1) (h : laws_qLists.f k l0 l1 = some r) :
    Calls Tryd.prog 22 #[.slice A0 l0.length c0, .slice A1 l1.length c1] w fun e w' => e = .returned (.bool r) ∧ Drawn0 w w' := by
  have HR0 := Aside0.mk hr0
  have HC0 := Aside0.mk hc0
  clear hr0 hc0
  have HR1 := Aside0.mk hr1
  have HC1 := Aside0.mk hc1
  clear hr1 hc1
  have H : (if (l0.length : Int) = (l1.length : Int) then (laws_qLists.l0 k l0 l1 (l0.length : Int) 0) else (some false)) = some r := h
  clear h
  by_cases c3 : (l0.length : Int) = (l1.length : Int)
  · rw [if_pos c3] at H
    have c3b0 : ((l0.length : Int) == (l1.length : Int)) = true := beq_iff_eq.mpr c3
    have c3b1 : ((l0.length : Int) != (l1.length : Int)) = false := bne_eq_false_iff_eq.mpr c3
    have c3b2 : (l0.length == l1.length) = true := by first | simpa using c3 | (simp at c3 ⊢; omega)
    clear c3
    have H' := Aside0.mk H
    clear H
    go_enter Tryd.func22, Tryd.ntmps22
    go_wp2
    repeat (go_quiet (fail); try go_wp2)
    go_loopg [13] k (fun kq v13 w' => ∃ (x13_1 : Int), v13 = .int .i64 x13_1 ∧ Aside0 (laws_qLists.l0 kq l0 l1 (l0.length : Int) x13_1 = some r) ∧ Aside0 (kq ≤ k) ∧ Drawn0 w w')
    case atStart => exact ⟨(0), (by first | rfl | (simp; done) | (simp [*]; done)), H', ⟨Nat.le_refl _⟩, by repeat (first | exact Drawn0.refl _ | apply Drawn0.step)⟩
    case round =>
      clear H'
      try clear c1
      try clear c2
      try clear p2
      try clear c3
      try clear c3b0
      try clear c3b1
      try clear c3b2
      obtain ⟨x13_1, rfl, HA, HK1, ⟨m1, rfl⟩⟩ := hrel
      cases gk with
      | zero => exact absurd HA.out (by simp [laws_qLists.l0])
      | succ k1 =>
        have H := HA.out
        clear HA
        simp only [laws_qLists.l0] at H
        by_cases c4 : x13_1 < (l0.length : Int)
        · rw [if_pos c4] at H
          have c4b0 : decide (x13_1 < (l0.length : Int)) = true := decide_eq_true c4
          clear c4
          by_cases c5 : 0 ≤ x13_1
          · rw [if_pos c5] at H
            have c5b0 : decide (0 ≤ x13_1) = true := decide_eq_true c5
            clear c5
            by_cases c6 : x13_1 < (l0.length : Int)
            · rw [if_pos c6] at H
              have c6b0 : decide (x13_1 < (l0.length : Int)) = true := decide_eq_true c6
              clear c6
              by_cases c7 : x13_1 < (l1.length : Int)
              · rw [if_pos c7] at H
                have c7b0 : decide (x13_1 < (l1.length : Int)) = true := decide_eq_true c7
                clear c7
                replace H := Option.bind_eq_some_iff.mp H
                obtain ⟨t455, A80, H⟩ := H
                replace H : (if t455 = true then (laws_qLists.l0 k1 l0 l1 (l0.length : Int) (wrap64 (x13_1 + 1))) else (some false)) = some r := H
                have A8 := Aside0.mk A80
                clear A80
                by_cases c9 : t455 = true
                · subst c9
                  have H1 : (laws_qLists.l0 k1 l0 l1 (l0.length : Int) (wrap64 (x13_1 + 1))) = some r := by rw [if_pos rfl] at H; exact H
                  clear H
                  have H := H1
                  clear H1
                  have H' := Aside0.mk H
                  clear H
                  have p453 : 0 ≤ (x13_1 : Int) := of_decide_eq_true (by first | (with_reducible assumption) | assumption)
                  have q453 : x13_1 < (l0.length : Int) := of_decide_eq_true (by first | (with_reducible assumption) | assumption)
                  obtain ⟨ad453, A453_0, c453_0, e453, hx453_0, hl453_0, hi453_0⟩ := at_L2 HR0.out x13_1 p453 q453
                  cases e453
                  have HR453_0 := Aside0.mk hi453_0
                  have HC453_0 := Aside0.mk hl453_0
                  clear hi453_0 hl453_0
                  replace p453 := eq_true p453
                  replace q453 := eq_true q453
                  have p454 : 0 ≤ (x13_1 : Int) := of_decide_eq_true (by first | (with_reducible assumption) | assumption)
                  have q454 : x13_1 < (l1.length : Int) := of_decide_eq_true (by first | (with_reducible assumption) | assumption)
                  obtain ⟨ad454, A454_0, c454_0, e454, hx454_0, hl454_0, hi454_0⟩ := at_L2 HR1.out x13_1 p454 q454
                  cases e454
                  have HR454_0 := Aside0.mk hi454_0
                  have HC454_0 := Aside0.mk hl454_0
                  clear hi454_0 hl454_0
                  replace p454 := eq_true p454
                  replace q454 := eq_true q454
                  go_wp2_with (first | (go_at_call 58; (with_reducible refine (laws_qInts.calls k1 _ _ (rd_L2 l0 x13_1) _ _ (rd_L2 l1 x13_1) true _ ?side1 ?side2 ?side3 ?side4 A8.out).mono ?_); (case side1 => repeat (first | exact HR453_0.out | (with_reducible refine Kd.C_alloc ?_ _) | (with_reducible refine Kd.C_drewN ?_ _) | (with_reducible refine Kd.C_drew ?_))); (case side2 => exact HC453_0.out); (case side3 => repeat (first | exact HR454_0.out | (with_reducible refine Kd.C_alloc ?_ _) | (with_reducible refine Kd.C_drewN ?_ _) | (with_reducible refine Kd.C_drew ?_))); (case side4 => exact HC454_0.out); rintro e w' ⟨rfl, ⟨nd, rfl⟩⟩; (try first | exact ⟨rfl, _, World.drewN_drewN _ _ _⟩ | exact ⟨rfl, _, Eq.trans (World.drewN_drewN _ _ _) (congrArg (World.drewN _) (Nat.add_assoc _ _ _))⟩)))
                  repeat (go_quiet (first | (go_at_call 58; (with_reducible refine (laws_qInts.calls k1 _ _ (rd_L2 l0 x13_1) _ _ (rd_L2 l1 x13_1) true _ ?side1 ?side2 ?side3 ?side4 A8.out).mono ?_); (case side1 => repeat (first | exact HR453_0.out | (with_reducible refine Kd.C_alloc ?_ _) | (with_reducible refine Kd.C_drewN ?_ _) | (with_reducible refine Kd.C_drew ?_))); (case side2 => exact HC453_0.out); (case side3 => repeat (first | exact HR454_0.out | (with_reducible refine Kd.C_alloc ?_ _) | (with_reducible refine Kd.C_drewN ?_ _) | (with_reducible refine Kd.C_drew ?_))); (case side4 => exact HC454_0.out); rintro e w' ⟨rfl, ⟨nd, rfl⟩⟩; (try first | exact ⟨rfl, _, World.drewN_drewN _ _ _⟩ | exact ⟨rfl, _, Eq.trans (World.drewN_drewN _ _ _) (congrArg (World.drewN _) (Nat.add_assoc _ _ _))⟩))); try go_wp2_with (first | (go_at_call 58; (with_reducible refine (laws_qInts.calls k1 _ _ (rd_L2 l0 x13_1) _ _ (rd_L2 l1 x13_1) true _ ?side1 ?side2 ?side3 ?side4 A8.out).mono ?_); (case side1 => repeat (first | exact HR453_0.out | (with_reducible refine Kd.C_alloc ?_ _) | (with_reducible refine Kd.C_drewN ?_ _) | (with_reducible refine Kd.C_drew ?_))); (case side2 => exact HC453_0.out); (case side3 => repeat (first | exact HR454_0.out | (with_reducible refine Kd.C_alloc ?_ _) | (with_reducible refine Kd.C_drewN ?_ _) | (with_reducible refine Kd.C_drew ?_))); (case side4 => exact HC454_0.out); rintro e w' ⟨rfl, ⟨nd, rfl⟩⟩; (try first | exact ⟨rfl, _, World.drewN_drewN _ _ _⟩ | exact ⟨rfl, _, Eq.trans (World.drewN_drewN _ _ _) (congrArg (World.drewN _) (Nat.add_assoc _ _ _))⟩))))
                  go_roundg k1
                  case measure => have := HK1.out; omega
                  case rel => exact ⟨(wrap64 (x13_1 + 1)), (by first | rfl | (simp; done) | (simp [*]; done)), H', ⟨by have := HK1.out; omega⟩, by repeat (first | exact Drawn0.refl _ | apply Drawn0.step)⟩
                · replace c9 := Bool.eq_false_iff.mpr c9
                  subst c9
                  have H1 : (some false) = some r := by rw [if_neg (show ¬ (false = true) by decide)] at H; exact H
                  clear H
                  have H := H1
                  clear H1
                  obtain rfl := Option.some.inj H
                  have p453 : 0 ≤ (x13_1 : Int) := of_decide_eq_true (by first | (with_reducible assumption) | assumption)
                  have q453 : x13_1 < (l0.length : Int) := of_decide_eq_true (by first | (with_reducible assumption) | assumption)
                  obtain ⟨ad453, A453_0, c453_0, e453, hx453_0, hl453_0, hi453_0⟩ := at_L2 HR0.out x13_1 p453 q453
                  cases e453
                  have HR453_0 := Aside0.mk hi453_0
                  have HC453_0 := Aside0.mk hl453_0
                  clear hi453_0 hl453_0
                  replace p453 := eq_true p453
                  replace q453 := eq_true q453
                  have p454 : 0 ≤ (x13_1 : Int) := of_decide_eq_true (by first | (with_reducible assumption) | assumption)
                  have q454 : x13_1 < (l1.length : Int) := of_decide_eq_true (by first | (with_reducible assumption) | assumption)
                  obtain ⟨ad454, A454_0, c454_0, e454, hx454_0, hl454_0, hi454_0⟩ := at_L2 HR1.out x13_1 p454 q454
                  cases e454
                  have HR454_0 := Aside0.mk hi454_0
                  have HC454_0 := Aside0.mk hl454_0
                  clear hi454_0 hl454_0
                  replace p454 := eq_true p454
                  replace q454 := eq_true q454
                  go_wp2_with (first | (go_at_call 58; (with_reducible refine (laws_qInts.calls k1 _ _ (rd_L2 l0 x13_1) _ _ (rd_L2 l1 x13_1) false _ ?side1 ?side2 ?side3 ?side4 A8.out).mono ?_); (case side1 => repeat (first | exact HR453_0.out | (with_reducible refine Kd.C_alloc ?_ _) | (with_reducible refine Kd.C_drewN ?_ _) | (with_reducible refine Kd.C_drew ?_))); (case side2 => exact HC453_0.out); (case side3 => repeat (first | exact HR454_0.out | (with_reducible refine Kd.C_alloc ?_ _) | (with_reducible refine Kd.C_drewN ?_ _) | (with_reducible refine Kd.C_drew ?_))); (case side4 => exact HC454_0.out); rintro e w' ⟨rfl, ⟨nd, rfl⟩⟩; (try first | exact ⟨rfl, _, World.drewN_drewN _ _ _⟩ | exact ⟨rfl, _, Eq.trans (World.drewN_drewN _ _ _) (congrArg (World.drewN _) (Nat.add_assoc _ _ _))⟩)))
                  repeat (go_quiet (first | (go_at_call 58; (with_reducible refine (laws_qInts.calls k1 _ _ (rd_L2 l0 x13_1) _ _ (rd_L2 l1 x13_1) false _ ?side1 ?side2 ?side3 ?side4 A8.out).mono ?_); (case side1 => repeat (first | exact HR453_0.out | (with_reducible refine Kd.C_alloc ?_ _) | (with_reducible refine Kd.C_drewN ?_ _) | (with_reducible refine Kd.C_drew ?_))); (case side2 => exact HC453_0.out); (case side3 => repeat (first | exact HR454_0.out | (with_reducible refine Kd.C_alloc ?_ _) | (with_reducible refine Kd.C_drewN ?_ _) | (with_reducible refine Kd.C_drew ?_))); (case side4 => exact HC454_0.out); rintro e w' ⟨rfl, ⟨nd, rfl⟩⟩; (try first | exact ⟨rfl, _, World.drewN_drewN _ _ _⟩ | exact ⟨rfl, _, Eq.trans (World.drewN_drewN _ _ _) (congrArg (World.drewN _) (Nat.add_assoc _ _ _))⟩))); try go_wp2_with (first | (go_at_call 58; (with_reducible refine (laws_qInts.calls k1 _ _ (rd_L2 l0 x13_1) _ _ (rd_L2 l1 x13_1) false _ ?side1 ?side2 ?side3 ?side4 A8.out).mono ?_); (case side1 => repeat (first | exact HR453_0.out | (with_reducible refine Kd.C_alloc ?_ _) | (with_reducible refine Kd.C_drewN ?_ _) | (with_reducible refine Kd.C_drew ?_))); (case side2 => exact HC453_0.out); (case side3 => repeat (first | exact HR454_0.out | (with_reducible refine Kd.C_alloc ?_ _) | (with_reducible refine Kd.C_drewN ?_ _) | (with_reducible refine Kd.C_drew ?_))); (case side4 => exact HC454_0.out); rintro e w' ⟨rfl, ⟨nd, rfl⟩⟩; (try first | exact ⟨rfl, _, World.drewN_drewN _ _ _⟩ | exact ⟨rfl, _, Eq.trans (World.drewN_drewN _ _ _) (congrArg (World.drewN _) (Nat.add_assoc _ _ _))⟩))))
                  go_ret
                  exact ⟨by first | rfl | (simp; done) | (simp [*]; done), by repeat (first | exact Drawn0.refl _ | apply Drawn0.step)⟩
              · rw [if_neg c7] at H
                exact absurd H (by simp)
            · rw [if_neg c6] at H
              exact absurd H (by simp)
          · rw [if_neg c5] at H
            exact absurd H (by simp)
        · rw [if_neg c4] at H
          have c4b0 : decide (x13_1 < (l0.length : Int)) = false := decide_eq_false c4
          clear c4
          obtain rfl := Option.some.inj H
          go_wp2
          repeat (go_quiet (fail); try go_wp2)
          go_ret
          exact ⟨by first | rfl | (simp; done) | (simp [*]; done), by repeat (first | exact Drawn0.refl _ | apply Drawn0.step)⟩
  · rw [if_neg c3] at H
    have c3b0 : ((l0.length : Int) == (l1.length : Int)) = false := beq_eq_false_iff_ne.mpr c3
    have c3b1 : ((l0.length : Int) != (l1.length : Int)) = true := bne_iff_ne.mpr c3
    have c3b2 : (l0.length == l1.length) = false := by first | simpa using c3 | (simp at c3 ⊢; omega)
    obtain rfl := Option.some.inj H
    go_enter Tryd.func22, Tryd.ntmps22
    go_wp2
    repeat (go_quiet (fail); try go_wp2)
    go_ret
    exact ⟨by first | rfl | (simp; done) | (simp [*]; done), by repeat (first | exact Drawn0.refl _ | apply Drawn0.step)⟩

end Go.Proofs.YtopmmmggjohkeaaDoor.FA
