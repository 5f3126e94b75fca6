-- laid by pr.py (wip/tools) over the kit's printer; Lean checks it
import Derived.Test.YtopmmmggjohkeaaFFx0
import Derived.Test.YtopmmmggjohkeaaFFx1
import Derived.Test.YtopmmmggjohkeaaFFx14
import Derived.Test.YtopmmmggjohkeaaFFx15
import Derived.Laws.Cover4
import Derived.Lib.OthersKept
namespace Go.Proofs.Ytopmmmggjohkeaa.FF
open Go.RowKit Go.Proofs.YtopmmmggjohkeaaW.PrintWords Go.Proofs.YtopmmmggjohkeaaW.PrintLast Go.Proofs.YtopmmmggjohkeaaW.PrintMore
attribute [local go_sem] max2_int min2_int max_two min_two max_three min_three max_four min_four   -- for this text's walks alone
set_option linter.unusedVariables false
set_option linter.unusedSimpArgs false

/-! ### impl_FirstReadings: function 32 -/
/-- What a shape's letters, the first pos of them, lay ahead of the readings behind. -/
def impl_FirstReadings.more (s : ByteArray) (out : List ByteArray) (pos : Nat) : List ByteArray := (List.range pos).flatMap fun (i : Nat) => out.map fun r => Utf8.encode (bt s (i : Int)) ++ r
/-- Bounds under which nothing overflows; the letters are ASCII. -/
def impl_FirstReadings.fits (s : ByteArray) (out : List ByteArray) : Bool := (s.data.toList.all fun b => decide (b.toNat < 128)) && (decide (s.size ≤ 1000) && (decide (out.length ≤ 1000) && out.all fun r => decide (r.size ≤ 1000000)))
def impl_FirstReadings.round (k : Nat) (l0 : List Int) (x : Int) (out : List ByteArray) : Option (List ByteArray) := (impl_lettersFor.f k l0 x).bind fun s => if impl_FirstReadings.fits s out = true then some ((impl_FirstReadings.more s out s.size).take 20) else none
def impl_FirstReadings.back (k : Nat) (l0 : List Int) : List Int → List ByteArray → Option (List ByteArray)
  | [], out => some out
  | x :: xs, out => (impl_FirstReadings.round k l0 x out).bind fun o => impl_FirstReadings.back k l0 xs o
def impl_FirstReadings.f (k : Nat) (l0 l1 : List Int) : Option (List ByteArray × Bool) := (impl_IsAlphabet.f l0).bind fun t => if t = true then ((impl_areShapes.f l1).bind fun u => if u = true then ((impl_CountReadings.f k l0 l1).bind fun c => if c.1 = 0 then some (([] : List ByteArray), true) else ((impl_FirstReadings.back k l0 l1.reverse [(⟨#[]⟩ : ByteArray)]).bind fun out => some (out, true))) else some (([] : List ByteArray), false)) else some (([] : List ByteArray), false)
theorem impl_FirstReadings.mono_back (k : Nat) (l0 : List Int) : ∀ (l : List Int) (out : List ByteArray), LeO (impl_FirstReadings.back k l0 l out) (impl_FirstReadings.back (k + 1) l0 l out)
  | [], _ => LeO.refl _
  | x :: xs, out => LeO.bind (LeO.bind (impl_lettersFor.mono _ _ _) (fun _ => LeO.refl _)) (fun o => impl_FirstReadings.mono_back k l0 xs o)
theorem impl_FirstReadings.mono : ∀ a0 a1 k, LeO (impl_FirstReadings.f k a0 a1) (impl_FirstReadings.f (k + 1) a0 a1) := by
  intro a0 a1 k
  unfold impl_FirstReadings.f
  exact LeO.bind (LeO.refl _) (fun t => LeO.ite (LeO.bind (LeO.refl _) (fun u => LeO.ite (LeO.bind (impl_CountReadings.mono _ _ _) (fun c => LeO.ite (LeO.refl _) (LeO.bind (impl_FirstReadings.mono_back k a0 _ _) (fun _ => LeO.refl _)))) (LeO.refl _))) (LeO.refl _))
theorem impl_FirstReadings.more_succ (s : ByteArray) (out : List ByteArray) (pos : Nat) : impl_FirstReadings.more s out (pos + 1) = impl_FirstReadings.more s out pos ++ out.map fun r => Utf8.encode (bt s (pos : Int)) ++ r := by
  unfold impl_FirstReadings.more
  rw [List.range_succ, List.flatMap_append]; simp
theorem impl_FirstReadings.more_length (s : ByteArray) (out : List ByteArray) : ∀ pos, (impl_FirstReadings.more s out pos).length = pos * out.length
  | 0 => by simp [impl_FirstReadings.more]
  | pos + 1 => by rw [impl_FirstReadings.more_succ, List.length_append, impl_FirstReadings.more_length s out pos, List.length_map, Nat.succ_mul]
theorem impl_FirstReadings.take_next (f : ByteArray → ByteArray) (out : List ByteArray) (j : Nat) (h : j < out.length) : (out.take j).map f ++ [f (rdOf ByteArray.empty out (j : Int))] = (out.take (j + 1)).map f := by
  rw [List.take_add_one, List.map_append]
  congr 1
  unfold rdOf
  rw [Int.toNat_natCast, List.getD_eq_getElem?_getD, List.getElem?_eq_getElem h]; rfl
theorem impl_FirstReadings.fits_iff {s : ByteArray} {out : List ByteArray} (h : impl_FirstReadings.fits s out = true) : (∀ i (hi : i < s.size), (s[i]'hi).toNat < 128) ∧ s.size ≤ 1000 ∧ out.length ≤ 1000 ∧ ∀ r ∈ out, r.size ≤ 1000000 := by
  unfold impl_FirstReadings.fits at h
  simp only [Bool.and_eq_true, List.all_eq_true, decide_eq_true_eq] at h
  obtain ⟨h1, h2, h3, h4⟩ := h
  exact ⟨fun i hi => h1 _ (by show s.data[i]'hi ∈ _; exact Array.mem_toList_iff.2 (Array.getElem_mem hi)), h2, h3, h4⟩
theorem impl_FirstReadings.R_iter {α : Type} {d : Kd α} {e : Nat} {w : World} {base : Nat} {ok : Nat → Prop} {v : Value} {xs : List α} (h : d.R e w base ok v xs) {k : Nat} {s : ByteArray} {pos : Nat} (hk : w.heap[k]? = some (.stringIter s pos)) (pos' : Nat) : d.R e (w.iterAt k s pos') base ok v xs :=
  Kd.R_mono (Kd.R_move (Kd.R_bound h) (fun j hj => Lib.iterAt_other w k j s pos' (fun e1 => by
    obtain ⟨_, _, _, q, _, cells, hc⟩ := hj
    rw [e1, hk] at hc; cases hc))) (fun _ hj => hj.1)
theorem impl_FirstReadings.ne_iter {α : Type} {d : Kd α} {e : Nat} {w : World} {base : Nat} {ok : Nat → Prop} {v : Value} {xs : List α} (h : d.R e w base ok v xs) {k : Nat} {s : ByteArray} {pos : Nat} (hk : w.heap[k]? = some (.stringIter s pos)) : some k ≠ v.ownBlock := fun e1 => by
  obtain ⟨cells, hc⟩ := Kd.R_typed h k e1.symm
  rw [hk] at hc; cases hc
theorem impl_FirstReadings.one (w : World) (base : Nat) (hb : base ≤ w.heap.size) (ok : Nat → Prop) (hok : ∀ k, ok k) : Kd.R Kd.string 9 (w.alloc (.cells #[.string ⟨#[]⟩] 9)) base ok (.slice (some ⟨w.heap.size, 0, none⟩) 1 1) [(⟨#[]⟩ : ByteArray)] :=
  Kd.R_of_own (enc := Value.string) (xs := [(⟨#[]⟩ : ByteArray)]) (World.ownsRow_lit (base := base) (e := 9) (size := 1) w #[.string ⟨#[]⟩] 1 hb (by unfold maxLen; decide) rfl) (fun k _ => hok k)
theorem impl_FirstReadings.addr0 (A : Option Addr) : A.map (fun a => a.add 0) = A := by
  cases A with
  | none => rfl
  | some a => simp [Addr.add]
theorem impl_FirstReadings.cut (t e : TypeId) (i : TypeInfo) (hi : Try.prog.info? e = some i) (ht : Try.prog.underlying t = some (.slice e)) (A : Option Addr) (n c : Nat) (k : IntKind) (m : Int) (h0 : 0 ≤ m) (hm : m ≤ c) (W : World) : (Instr.slice t (.slice A n c) none (some (.int k m)) none).run Try.prog W = .ok (.slice A m.toNat c) W := by
  have hel : Try.prog.elem t = e := by simp [Program.elem, ht]
  rw [run_slice_h W t A n c (by rw [hel]; exact ht) k m h0 hm, hel]
  simp [sizeOf, typeInfo, hi, sliced, Result.andThen, impl_FirstReadings.addr0]
theorem impl_FirstReadings.clip (t e : TypeId) (i : TypeInfo) (hi : Try.prog.info? e = some i) (ht : Try.prog.underlying t = some (.slice e)) (A : Option Addr) (n c : Nat) (k k' : IntKind) (hc : n ≤ c) (W : World) : (Instr.slice t (.slice A n c) none (some (.int k (n : Int))) (some (.int k' (n : Int)))).run Try.prog W = .ok (.slice A n n) W := by
  have hel : Try.prog.elem t = e := by simp [Program.elem, ht]
  rw [run_slice_hm W t A n c (by rw [hel]; exact ht) k k' n n (by omega) (by omega) (by omega), hel]
  simp [sizeOf, typeInfo, hi, sliced, Result.andThen, impl_FirstReadings.addr0]
set_option maxHeartbeats 1000000 in
set_option maxRecDepth 100000 in
theorem impl_FirstReadings.clipped (A : Option Addr) (n c : Nat) (hc : n ≤ c) (w : World) : Calls Try.prog 67 #[.slice A n c] w fun e w' => e = .returned (.slice A n n) ∧ w' = w := by
  obtain ⟨i, hi, _⟩ := info_parts info9
  have hs := impl_FirstReadings.clip 36 9 i hi Try.underlying36 A n c .i64 .i64 hc
  go_enter Try.func67, Try.ntmps67
  go_wp2
  go_ret
  exact ⟨rfl, rfl⟩
set_option maxHeartbeats 4000000 in
set_option maxRecDepth 100000 in
theorem impl_FirstReadings.bad1 (A0 : Option Addr) (c0 : Nat) (l0 : List Int) (A1 : Option Addr) (c1 : Nat) (l1 : List Int) (w : World) (hr0 : Kd.C (Kd.int .i64) w A0 l0.length l0) (hc0 : l0.length ≤ c0) (ht : impl_IsAlphabet.f l0 = some false) :
    Calls Try.prog 32 #[.slice A0 l0.length c0, .slice A1 l1.length c1] w fun e w' => e = .returned (.tuple #[.slice none 0 0, .bool false]) ∧ Below w.heap.size w w' := by
  have HR0 := Aside0.mk hr0
  clear hr0
  go_enter Try.func32, Try.ntmps32
  go_wp2_with (go_at_call 14; (with_reducible refine (impl_IsAlphabet.calls _ _ l0 false _ HR0.out hc0 ht).mono ?_); rintro e w1 ⟨rfl, hb1⟩)
  go_ret2
  exact ⟨rfl, hb1⟩
set_option maxHeartbeats 4000000 in
set_option maxRecDepth 100000 in
theorem impl_FirstReadings.bad2 (A0 : Option Addr) (c0 : Nat) (l0 : List Int) (A1 : Option Addr) (c1 : Nat) (l1 : List Int) (w : World) (hr0 : Kd.C (Kd.int .i64) w A0 l0.length l0) (hc0 : l0.length ≤ c0) (hr1 : Kd.C (Kd.int .i64) w A1 l1.length l1) (hc1 : l1.length ≤ c1) (ht : impl_IsAlphabet.f l0 = some true) (hu : impl_areShapes.f l1 = some false) :
    Calls Try.prog 32 #[.slice A0 l0.length c0, .slice A1 l1.length c1] w fun e w' => e = .returned (.tuple #[.slice none 0 0, .bool false]) ∧ Below w.heap.size w w' := by
  have HR0 := Aside0.mk hr0
  have HR1 := Aside0.mk hr1
  clear hr0 hr1
  go_enter Try.func32, Try.ntmps32
  go_wp2_with (first | (go_at_call 14; (with_reducible refine (impl_IsAlphabet.calls _ _ l0 true _ HR0.out hc0 ht).mono ?_); rintro e w1 ⟨rfl, hb1⟩) | (go_at_call 65; (with_reducible refine (impl_areShapes.calls _ _ l1 false _ (Kd.C_below HR1.out hb1) hc1 hu).mono ?_); rintro e w2 ⟨rfl, hb2⟩))
  go_ret2
  exact ⟨rfl, below_step hb1 hb2⟩
set_option maxHeartbeats 4000000 in
set_option maxRecDepth 100000 in
theorem impl_FirstReadings.zero (k : Nat) (A0 : Option Addr) (c0 : Nat) (l0 : List Int) (A1 : Option Addr) (c1 : Nat) (l1 : List Int) (b : Bool) (w : World) (hr0 : Kd.C (Kd.int .i64) w A0 l0.length l0) (hc0 : l0.length ≤ c0) (hr1 : Kd.C (Kd.int .i64) w A1 l1.length l1) (hc1 : l1.length ≤ c1) (ht : impl_IsAlphabet.f l0 = some true) (hu : impl_areShapes.f l1 = some true) (hc : impl_CountReadings.f k l0 l1 = some (0, b)) :
    Calls Try.prog 32 #[.slice A0 l0.length c0, .slice A1 l1.length c1] w fun e w' => e = .returned (.tuple #[.slice none 0 0, .bool true]) ∧ Below w.heap.size w w' := by
  have HR0 := Aside0.mk hr0
  have HR1 := Aside0.mk hr1
  clear hr0 hr1
  go_enter Try.func32, Try.ntmps32
  go_wp2_with (first | (go_at_call 14; (with_reducible refine (impl_IsAlphabet.calls _ _ l0 true _ HR0.out hc0 ht).mono ?_); rintro e w1 ⟨rfl, hb1⟩) | (go_at_call 65; (with_reducible refine (impl_areShapes.calls _ _ l1 true _ (Kd.C_below HR1.out hb1) hc1 hu).mono ?_); rintro e w2 ⟨rfl, hb2⟩; have HB2 := Aside0.mk (below_step hb1 hb2); clear hb1 hb2) | (go_at_call 30; (with_reducible refine (impl_CountReadings.calls k _ _ l0 _ _ l1 0 b _ (Kd.C_below HR0.out HB2.out) hc0 (Kd.C_below HR1.out HB2.out) hc1 hc).mono ?_); rintro e w3 ⟨rfl, hb3⟩))
  go_ret2
  exact ⟨rfl, below_step HB2.out hb3⟩
set_option maxHeartbeats 16000000 in
set_option maxRecDepth 100000 in
theorem impl_FirstReadings.main (k : Nat) (A0 : Option Addr) (c0 : Nat) (l0 : List Int) (A1 : Option Addr) (c1 : Nat) (l1 : List Int) (c : Int) (b : Bool) (r : List ByteArray) (w : World) (hr0 : Kd.C (Kd.int .i64) w A0 l0.length l0) (hc0 : l0.length ≤ c0) (hr1 : Kd.C (Kd.int .i64) w A1 l1.length l1) (hc1 : l1.length ≤ c1) (ht : impl_IsAlphabet.f l0 = some true) (hu : impl_areShapes.f l1 = some true) (hc : impl_CountReadings.f k l0 l1 = some (c, b)) (hcz : c ≠ 0) (hb : impl_FirstReadings.back k l0 l1.reverse [(⟨#[]⟩ : ByteArray)] = some r) :
    Calls Try.prog 32 #[.slice A0 l0.length c0, .slice A1 l1.length c1] w fun e w' => ∃ (A : Option Addr) (q : Nat), e = .returned (.tuple #[.slice A r.length r.length, .bool true]) ∧ Kd.R Kd.string 9 w' w.heap.size (fun _ => True) (.slice A r.length q) r ∧ Below w.heap.size w w' := by
  have HR0 := Aside0.mk hr0
  have HR1 := Aside0.mk hr1
  have HBK := Aside0.mk hb
  have hcz : (c == 0) = false := beq_eq_false_iff_ne.mpr hcz
  have HW : Aside0 (wrap64 ((l1.length : Int) - 1) = (l1.length : Int) - 1) := ⟨by have := hr1.2.1; unfold wrap64; omega⟩
  clear hr0 hr1 hb
  go_enter Try.func32, Try.ntmps32
  go_wp2_with (first | (go_at_call 14; (with_reducible refine (impl_IsAlphabet.calls _ _ l0 true _ HR0.out hc0 ht).mono ?_); rintro e w1 ⟨rfl, hb1⟩) | (go_at_call 65; (with_reducible refine (impl_areShapes.calls _ _ l1 true _ (Kd.C_below HR1.out hb1) hc1 hu).mono ?_); rintro e w2 ⟨rfl, hb2⟩; have HB2 := Aside0.mk (below_step hb1 hb2); clear hb1 hb2) | (go_at_call 30; (with_reducible refine (impl_CountReadings.calls k _ _ l0 _ _ l1 c b _ (Kd.C_below HR0.out HB2.out) hc0 (Kd.C_below HR1.out HB2.out) hc1 hc).mono ?_); rintro e w3 ⟨rfl, hb3⟩; have HB3 := Aside0.mk (below_step HB2.out hb3); clear hb3 HB2))
  go_loopg [8, 9] l1.length (fun kq v8 v9 w' => ∃ (x8 : List ByteArray) (x9 : Int), v9 = .int .i64 x9 ∧ Aside0 (x9 = (kq : Int) - 1 ∧ kq ≤ l1.length) ∧ Aside0 (impl_FirstReadings.back k l0 ((l1.take kq).reverse) x8 = some r) ∧ Aside0 (Kd.R Kd.string 9 w' w.heap.size (fun _ => True) v8 x8) ∧ Aside0 (Below w.heap.size w w'))
  case atStart => exact ⟨_, _, rfl, ⟨by rw [HW.out], Nat.le_refl _⟩, ⟨by rw [List.take_length]; exact HBK.out⟩, ⟨impl_FirstReadings.one w3 w.heap.size HB3.out.size _ (fun _ => trivial)⟩, ⟨below_alloc HB3.out _⟩⟩
  case round =>
    obtain ⟨x8, x9, rfl, HA, HK, HO8, HB⟩ := hrel
    obtain ⟨W1, rfl⟩ : ∃ W1, W1 = wr := ⟨wr, rfl⟩
    clear HB3 HBK
    obtain ⟨A8, c8, e8⟩ := Kd.R_slice HO8.out
    subst e8
    by_cases h0 : 0 ≤ x9
    · obtain ⟨g, rfl⟩ : ∃ g, gk = g + 1 := ⟨gk - 1, by have := HA.out; omega⟩
      have hg : g < l1.length := by have := HA.out; omega
      obtain rfl : x9 = (g : Int) := by have := HA.out; omega
      have H := HK.out
      rw [List.take_add_one, List.getElem?_eq_getElem hg, Option.toList_some, List.reverse_append, List.reverse_singleton, List.singleton_append, impl_FirstReadings.back] at H
      have erd : l1[g] = rd l1 (g : Int) := by unfold rd; rw [Int.toNat_natCast, List.getD_eq_getElem?_getD, List.getElem?_eq_getElem hg]; rfl
      rw [erd] at H
      clear HK erd
      obtain ⟨o, ho, H⟩ := Option.bind_eq_some_iff.mp H
      have HK := Aside0.mk H
      clear H
      unfold impl_FirstReadings.round at ho
      obtain ⟨s, hs, ho⟩ := Option.bind_eq_some_iff.mp ho
      have hf : impl_FirstReadings.fits s x8 = true := by
        cases hf : impl_FirstReadings.fits s x8
        · rw [hf, if_neg (by decide)] at ho; cases ho
        · rfl
      rw [if_pos hf] at ho
      have HO := Aside0.mk (Option.some.inj ho)
      have HF := Aside0.mk (impl_FirstReadings.fits_iff hf)
      clear ho hf
      have hge : decide ((g : Int) ≥ 0) = true := decide_eq_true (by omega)
      have hge2 : decide (0 ≤ (g : Int)) = true := decide_eq_true (by omega)
      have p0 : 0 ≤ (g : Int) := by omega
      have q0 : (g : Int) < (l1.length : Int) := by omega
      obtain ⟨ad, eA, hx0⟩ := Kd.at_int (Kd.C_below HR1.out HB.out) (g : Int) p0 q0
      cases eA
      rw [Int.toNat_natCast] at hx0
      replace p0 := eq_true p0
      replace q0 := eq_true q0
      have HG := Aside0.mk hg
      have HLE := Aside0.mk (HB.out.size)
      clear hg h0
      go_wp2_with (go_at_call 62; (with_reducible refine (impl_lettersFor.calls k _ _ l0 (rd l1 (g : Int)) s _ (Kd.C_below HR0.out HB.out) hc0 hs).mono ?_); rintro e w' ⟨rfl, ⟨nd, rfl⟩⟩)
      go_loopg [10] s.size (fun gq v10 w2 => ∃ (pos : Nat) (xs : List ByteArray), Aside0 (pos + gq = s.size) ∧ Aside0 (w2.heap[W1.heap.size]? = some (.stringIter s pos)) ∧ Aside0 (xs = impl_FirstReadings.more s x8 pos) ∧ Aside0 (Kd.R Kd.string 9 w2 w.heap.size (fun k_ => some k_ ≠ (Value.slice A8 x8.length c8).ownBlock) v10 xs) ∧ Aside0 (Kd.R Kd.string 9 w2 w.heap.size (fun k_ => some k_ ≠ v10.ownBlock) (.slice A8 x8.length c8) x8) ∧ Aside0 (Below w.heap.size w w2))
      case atStart => exact ⟨0, [], ⟨by omega⟩, ⟨World.iter_heap (W1.drewN nd) s 0⟩, ⟨by simp [impl_FirstReadings.more]⟩, ⟨Kd.R_nil _ _ _ _ _⟩, ⟨Kd.R_mono (Kd.R_alloc (Kd.R_drewN HO8.out nd) _) (fun k_ _ => by simp [Value.ownBlock])⟩, ⟨below_alloc (pw_below_drewN HB.out nd) _⟩⟩
      case round =>
        obtain ⟨pos, xs, HP, HI, HX, HO10, HO8', HB2⟩ := hrel
        obtain ⟨W2, rfl⟩ : ∃ W2, W2 = wr := ⟨wr, rfl⟩
        clear HO8 HB
        by_cases hlt : pos < s.size
        · have hasc := HF.out.1 pos hlt
          have hnx : ∀ ty, (Instr.next (.pointer (some ⟨W1.heap.size, 0, none⟩)) true ty).run Try.prog W2 = .ok (.tuple #[.bool true, .int .i64 pos, .int .i32 (bt s (pos : Int))]) (W2.iterAt W1.heap.size s (pos + 1)) := fun ty => by rw [Lib.run_next_ascii_at W2 W1.heap.size s pos ty HI.out hlt hasc, ← bt_at s (pos : Int) hlt]; rfl
          obtain ⟨q, rfl⟩ : ∃ q, gk = q + 1 := ⟨gk - 1, by have := HP.out; omega⟩
          have HI2 := Aside0.mk (Lib.iterAt_heap W2 W1.heap.size s pos (pos + 1) HI.out)
          have n1 := Aside0.mk (impl_FirstReadings.R_iter HO10.out HI.out (pos + 1))
          have n2 := Aside0.mk (impl_FirstReadings.R_iter HO8'.out HI.out (pos + 1))
          have n3 := Aside0.mk (Lib.below_iterAt HB2.out (k := W1.heap.size) HLE.out s (pos + 1))
          obtain ⟨W3, hW3⟩ : ∃ W3, W2.iterAt W1.heap.size s (pos + 1) = W3 := ⟨_, rfl⟩
          rw [hW3] at hnx HI2 n1 n2 n3
          clear HI HO10 HO8' HB2 hW3
          go_wp2
          go_loopg [10, 51] x8.length (fun hq v10 v51 w4 => ∃ (j : Nat) (ys : List ByteArray), v51 = .int .i64 (j : Int) ∧ Aside0 (j + hq = x8.length) ∧ Aside0 (w4.heap[W1.heap.size]? = some (.stringIter s (pos + 1))) ∧ Aside0 (ys = impl_FirstReadings.more s x8 pos ++ (x8.take j).map fun r => Utf8.encode (bt s (pos : Int)) ++ r) ∧ Aside0 (Kd.R Kd.string 9 w4 w.heap.size (fun k_ => some k_ ≠ (Value.slice A8 x8.length c8).ownBlock) v10 ys) ∧ Aside0 (Kd.R Kd.string 9 w4 w.heap.size (fun k_ => some k_ ≠ v10.ownBlock) (.slice A8 x8.length c8) x8) ∧ Aside0 (Below w.heap.size w w4))
          case atStart => exact ⟨0, xs, rfl, ⟨by omega⟩, HI2, ⟨by rw [HX.out]; simp⟩, n1, n2, n3⟩
          case round =>
            obtain ⟨j, ys, rfl, HJ, HI4, HY, HO4, HO84, HB4⟩ := hrel
            obtain ⟨W4, rfl⟩ : ∃ W4, W4 = wr := ⟨wr, rfl⟩
            clear n1 n2 n3 HI2
            by_cases hj : j < x8.length
            · obtain ⟨q2, rfl⟩ : ∃ q, gk = q + 1 := ⟨gk - 1, by have := HJ.out; omega⟩
              have p2 : 0 ≤ (j : Int) := by omega
              have p3 : (j : Int) < (x8.length : Int) := by omega
              obtain ⟨ad2, eA2, hx2⟩ := Kd.at_string (Kd.R_reads' HO84.out).2.2 (j : Int) p2 p3
              cases eA2
              rw [Int.toNat_natCast] at hx2
              have hmem : (rdOf ByteArray.empty x8 (j : Int)).size ≤ 1000000 := HF.out.2.2.2 _ (by unfold rdOf; rw [Int.toNat_natCast, List.getD_eq_getElem?_getD, List.getElem?_eq_getElem hj]; exact List.getElem_mem hj)
              have henc := encode_size_le (bt s (pos : Int))
              have hsz : ¬ (9223372036854775807 < (Utf8.encode (bt s (pos : Int))).size + (rdOf ByteArray.empty x8 (j : Int)).size) := by omega
              have HN : Aside0 (impl_FirstReadings.more s x8 pos ++ ((x8.take (j + 1)).map fun r => Utf8.encode (bt s (pos : Int)) ++ r) = ys ++ [Utf8.encode (bt s (pos : Int)) ++ rdOf ByteArray.empty x8 (j : Int)]) := ⟨by rw [HY.out, List.append_assoc, impl_FirstReadings.take_next _ _ _ hj]⟩
              have HLY : Aside0 (ys.length ≤ 2000000) := ⟨by
                rw [HY.out, List.length_append, impl_FirstReadings.more_length, List.length_map, List.length_take]
                have h1 := HF.out.2.1
                have h2 := HF.out.2.2.1
                have : pos * x8.length ≤ 1000 * 1000 := Nat.mul_le_mul (by omega) h2
                omega⟩
              have HJ2 := Aside0.mk hj
              clear hmem henc hj
              replace p2 := eq_true p2
              replace p3 := eq_true p3
              replace hsz := eq_false hsz
              go_wp2_with ((with_reducible refine gate_builtin (b := .append) (xs := #[.tmp 55, .tmp 60]) rfl ?_); at_builtin; refine Kd.R_append Kd.string (w0 := w) w.heap.size rfl (.tmp 55) (.tmp 60) 36 9 (.string ⟨#[]⟩) 16 rfl Try.underlying36 info9 rfl (by decide) (by omega) u10 ys (Utf8.encode (bt s (pos : Int)) ++ rdOf ByteArray.empty x8 (j : Int)) [.string (Utf8.encode (bt s (pos : Int)) ++ rdOf ByteArray.empty x8 (j : Int))] (fun k_ => some k_ ≠ (Value.slice (some ad2) x8.length c8).ownBlock) (fun _ => False) rfl rfl rfl (fun _ hk => hk.elim) (fun k_ hk => Kd.fresh' (Kd.R_lt HO84.out) k_ hk) HO4.out HB4.out (below_size HB4.out) (by have := HLY.out; omega) ?_; intro v5 w5 ho hb hg hat; rw [← HN.out] at ho; have n5 := Aside0.mk ho; have n6 := Aside0.mk (Kd.R_after (ok := fun _ => True) (Kd.R_mono HO84.out (fun _ hk => ⟨trivial, hk⟩)) hg hat); have n7 := Aside0.mk hb; have n8 := Aside0.mk ((hg.block _ (Array.getElem?_eq_some_iff.1 HI4.out).1 (impl_FirstReadings.ne_iter HO4.out HI4.out)).trans HI4.out); clear ho hb hg hat)
              go_roundg q2
              case measure => omega
              case rel => exact ⟨j + 1, _, by rw [show wrap64 ((j : Int) + 1) = ((j + 1 : Nat) : Int) from by have := HJ2.out; have := HF.out.2.2.1; unfold wrap64; omega], ⟨by have := HJ.out; omega⟩, n8, ⟨rfl⟩, n5, ⟨Kd.R_mono n6.out (fun _ hk => hk.2)⟩, n7⟩
            · go_wp2
              go_roundg q
              case measure => omega
              case rel =>
                have hjj : j = x8.length := by have := HJ.out; omega
                subst hjj
                exact ⟨pos + 1, ys, ⟨by have := HP.out; omega⟩, HI4, ⟨by rw [HY.out, List.take_length, impl_FirstReadings.more_succ]⟩, HO4, HO84, HB4⟩
        · have hnx : ∀ ty, (Instr.next (.pointer (some ⟨W1.heap.size, 0, none⟩)) true ty).run Try.prog W2 = _ := fun ty => Lib.run_next_end_at W2 W1.heap.size s pos ty HI.out hlt
          obtain ⟨A10, c10, e10⟩ := Kd.R_slice HO10.out
          subst e10
          have HR10 := Aside0.mk (Kd.R_reads' HO10.out)
          have hpos : pos = s.size := by have := HP.out; omega
          have hxo : xs.take 20 = o := by rw [HX.out, hpos]; exact HO.out
          have hw9 : wrap64 ((g : Int) - 1) = (g : Int) - 1 := by have := HG.out; have := HR1.out.2.1; unfold wrap64; omega
          have hc10 := HR10.out.2.1
          have HW9 := Aside0.mk hw9
          clear hpos hw9
          by_cases h20 : (20 : Int) < (xs.length : Int)
          · have h21 : (20 : Int) ≤ (c10 : Int) := by omega
            have h22 : ¬ ((c10 : Int) < 20) := by omega
            have HT : Aside0 (Kd.R Kd.string 9 W2 w.heap.size (fun k_ => some k_ ≠ (Value.slice A8 x8.length c8).ownBlock) (.slice A10 20 c10) o) := ⟨by rw [← hxo]; exact Kd.R_take (m := 20) HO10.out (by omega)⟩
            replace h20 := eq_true h20
            replace h21 := eq_true h21
            replace h22 := eq_false h22
            clear hc10 hxo
            go_wp2
            go_roundg g
            case measure => omega
            case rel => exact ⟨o, _, rfl, ⟨by rw [HW9.out], by have := HG.out; omega⟩, HK, ⟨Kd.R_mono HT.out (fun _ _ => trivial)⟩, HB2⟩
          · have HT : Aside0 (Kd.R Kd.string 9 W2 w.heap.size (fun k_ => some k_ ≠ (Value.slice A8 x8.length c8).ownBlock) (.slice A10 xs.length c10) o) := ⟨by rw [← hxo, List.take_of_length_le (by omega)]; exact HO10.out⟩
            replace h20 := eq_false h20
            replace hc10 := eq_true hc10
            clear hxo
            go_wp2
            go_roundg g
            case measure => omega
            case rel => exact ⟨o, _, rfl, ⟨by rw [HW9.out], by have := HG.out; omega⟩, HK, ⟨Kd.R_mono HT.out (fun _ _ => trivial)⟩, HB2⟩
    · have hge : decide (x9 ≥ 0) = false := decide_eq_false h0
      have hge2 : decide (0 ≤ x9) = false := decide_eq_false h0
      have e0 : gk = 0 := by have := HA.out; omega
      subst e0
      have H : impl_FirstReadings.back k l0 ((l1.take 0).reverse) x8 = some r := HK.out
      rw [List.take_zero, List.reverse_nil, impl_FirstReadings.back] at H
      obtain rfl := Option.some.inj H
      have HL := Aside0.mk (Kd.R_reads' HO8.out)
      clear H HA HK
      go_wp2_with (go_at_call 67; (with_reducible refine (impl_FirstReadings.clipped A8 x8.length c8 HL.out.2.1 _).mono ?_); rintro e w' ⟨rfl, rfl⟩)
      go_ret2
      exact ⟨_, _, rfl, HO8.out, HB.out⟩
/-- A value that is a row's, its capacity cut to its length. -/
def impl_FirstReadings.Cut (u v : Value) (n : Nat) : Prop := ∃ (A : Option Addr) (q : Nat), v = .slice A n q ∧ u = .slice A n n
theorem impl_FirstReadings.cut_nil : impl_FirstReadings.Cut (.slice none 0 0) (.slice none 0 0) 0 := ⟨none, 0, rfl, rfl⟩
theorem impl_FirstReadings.calls (k : Nat) (A0 : Option Addr) (c0 : Nat) (l0 : List Int) (A1 : Option Addr) (c1 : Nat) (l1 : List Int) (r1 : List ByteArray) (r2 : Bool) (w : World) (hr0 : Kd.C (Kd.int .i64) w A0 l0.length l0) (hc0 : l0.length ≤ c0) (hr1 : Kd.C (Kd.int .i64) w A1 l1.length l1) (hc1 : l1.length ≤ c1) (h : impl_FirstReadings.f k l0 l1 = some (r1, r2)) :
    Calls Try.prog 32 #[.slice A0 l0.length c0, .slice A1 l1.length c1] w fun e w' => ∃ v0_ v1_ : Value, e = .returned (.tuple #[v0_, .bool r2]) ∧ impl_FirstReadings.Cut v0_ v1_ r1.length ∧ Kd.R Kd.string 9 w' w.heap.size (fun _ => True) v1_ r1 ∧ Below w.heap.size w w' := by
  unfold impl_FirstReadings.f at h
  obtain ⟨t, ht, h⟩ := Option.bind_eq_some_iff.mp h
  cases t
  · rw [if_neg (by decide)] at h
    cases h
    exact (impl_FirstReadings.bad1 A0 c0 l0 A1 c1 l1 w hr0 hc0 ht).mono fun e w' ⟨he, hb⟩ => ⟨_, _, he, impl_FirstReadings.cut_nil, Kd.R_nil _ _ _ _ _, hb⟩
  rw [if_pos rfl] at h
  obtain ⟨u, hu, h⟩ := Option.bind_eq_some_iff.mp h
  cases u
  · rw [if_neg (by decide)] at h
    cases h
    exact (impl_FirstReadings.bad2 A0 c0 l0 A1 c1 l1 w hr0 hc0 hr1 hc1 ht hu).mono fun e w' ⟨he, hb⟩ => ⟨_, _, he, impl_FirstReadings.cut_nil, Kd.R_nil _ _ _ _ _, hb⟩
  rw [if_pos rfl] at h
  obtain ⟨⟨c, b⟩, hc, h⟩ := Option.bind_eq_some_iff.mp h
  by_cases hz : c = 0
  · subst hz
    rw [if_pos rfl] at h
    cases h
    exact (impl_FirstReadings.zero k A0 c0 l0 A1 c1 l1 b w hr0 hc0 hr1 hc1 ht hu hc).mono fun e w' ⟨he, hb⟩ => ⟨_, _, he, impl_FirstReadings.cut_nil, Kd.R_nil _ _ _ _ _, hb⟩
  · rw [if_neg hz] at h
    obtain ⟨out, ho, h⟩ := Option.bind_eq_some_iff.mp h
    cases h
    exact (impl_FirstReadings.main k A0 c0 l0 A1 c1 l1 c b r1 w hr0 hc0 hr1 hc1 ht hu hc hz ho).mono fun e w' ⟨A, q, he, hr, hb⟩ => ⟨_, _, he, ⟨A, q, rfl, rfl⟩, hr, hb⟩

end Go.Proofs.Ytopmmmggjohkeaa.FF
