-- laid by pr.py (wip/tools) over the kit's printer; Lean checks it
import Derived.Test.YtaecjbhenknfkaaDoorFAx0
import Derived.Test.YtaecjbhenknfkaaDoorFAx4
import Derived.Lib.AppendIntMem
import Derived.Lib.ItoaLen
import Derived.Test.YtaecjbhenknfkaaDoorMSh
namespace Go.Proofs.YtaecjbhenknfkaaDoor.FA
open Go.RowKit Go.Proofs.YtaecjbhenknfkaaDoorW.PrintWords Go.Proofs.YtaecjbhenknfkaaDoorW.PrintLast Go.Proofs.YtaecjbhenknfkaaDoorW.PrintMore
attribute [local go_sem] max2_int min2_int max_two min_two max_three min_three max_four min_four   -- for this text's walks alone
set_option linter.unusedVariables false
set_option linter.unusedSimpArgs false

/-! ### impl_areShapes: function 11 -/
def impl_areShapes.f (l0 : List Int) : Option (Bool) := (impl_within.f (l0.length : Int) 1 8).bind fun t120 => (if t120 = true then ((impl_allWithin.f l0 0 999).bind fun t121 => (some t121)) else (some false))
set_option maxHeartbeats 8000000 in
set_option maxRecDepth 100000 in
theorem impl_areShapes.calls (A0 : Option Addr) (c0 : Nat) (l0 : List Int) (r : Bool) (w : World) (hr0 : Kd.C (Kd.int .i64) w A0 l0.length l0) (hc0 : l0.length ≤ c0) (h : impl_areShapes.f l0 = some r) :
    Calls Tryd.prog 11 #[.slice A0 l0.length c0] w fun e w' => e = .returned (.bool r) ∧ Below w.heap.size w w' := by
  have HR0 := Aside0.mk hr0
  have HC0 := Aside0.mk hc0
  clear hr0 hc0
  have HB := Aside0.mk (Below.refl w.heap.size w)
  have H : ((impl_within.f (l0.length : Int) 1 8).bind fun t120 => (if t120 = true then ((impl_allWithin.f l0 0 999).bind fun t121 => (some t121)) else (some false))) = some r := h
  clear h
  replace H := Option.bind_eq_some_iff.mp H
  obtain ⟨t120, A20, H⟩ := H
  replace H : (if t120 = true then ((impl_allWithin.f l0 0 999).bind fun t121 => (some t121)) else (some false)) = some r := H
  have A2 := Aside0.mk A20
  clear A20
  by_cases c3 : t120 = true
  · subst c3
    have H1 : ((impl_allWithin.f l0 0 999).bind fun t121 => (some t121)) = some r := by rw [if_pos rfl] at H; exact H
    clear H
    have H := H1
    clear H1
    replace H := Option.bind_eq_some_iff.mp H
    obtain ⟨t121, A40, H⟩ := H
    replace H : (some t121) = some r := H
    have A4 := Aside0.mk A40
    clear A40
    obtain rfl := Option.some.inj H
    go_enter Tryd.func11, Tryd.ntmps11
    go_wp2_with (first | ((with_reducible refine gate_callee (f := 14) rfl ?_); refine goesL_ (some 5) rfl rfl Tryd.func14 (by kernel_rfl) rfl #[.int .i64 (l0.length : Int), .int .i64 1, .int .i64 8] rfl (by (try simp only [List.map_toArray, List.map_cons, List.map_nil]); first | done | rfl | (simp only [List.length_drop, List.length_take]; rfl)) ?_; (with_reducible refine (impl_within.calls (l0.length : Int) 1 8 true _ A2.out).mono ?_); rintro e w' ⟨rfl, ⟨nd, rfl⟩⟩; refine ⟨_, rfl, ?_⟩) | (go_at_call 15; (with_reducible refine (impl_allWithin.calls _ _ l0 0 999 t121 _ ?side1 ?side2 A4.out).mono ?_); (case side1 => repeat (first | exact HR0.out | (with_reducible refine Kd.C_alloc ?_ _) | (with_reducible refine Kd.C_drewN ?_ _) | (with_reducible refine Kd.C_drew ?_))); (case side2 => exact HC0.out); rintro e w5 ⟨rfl, hb⟩; have n0_ := Aside0.mk (below_step (by repeat (first | (with_reducible first | exact HB.out | apply below_alloc | apply pw_below_drewN | apply below_drew1) | exact HB.out)) hb); clear HB; have HB := n0_; clear n0_; (try clear hb); (try clear hb2); (try clear hk); (try clear hi)))
    go_ret
    exact ⟨by first | rfl | (simp [errW_none, errW_some] <;> rfl) | (simp [*, errW_none, errW_some] <;> rfl), by repeat (first | (with_reducible first | exact HB.out | apply below_alloc | apply pw_below_drewN | apply below_drew1) | exact HB.out)⟩
  · replace c3 := Bool.eq_false_iff.mpr c3
    subst c3
    have H1 : (some false) = some r := by rw [if_neg (show ¬ (false = true) by decide)] at H; exact H
    clear H
    have H := H1
    clear H1
    obtain rfl := Option.some.inj H
    go_enter Tryd.func11, Tryd.ntmps11
    go_wp2_with (first | ((with_reducible refine gate_callee (f := 14) rfl ?_); refine goesL_ (some 5) rfl rfl Tryd.func14 (by kernel_rfl) rfl #[.int .i64 (l0.length : Int), .int .i64 1, .int .i64 8] rfl (by (try simp only [List.map_toArray, List.map_cons, List.map_nil]); first | done | rfl | (simp only [List.length_drop, List.length_take]; rfl)) ?_; (with_reducible refine (impl_within.calls (l0.length : Int) 1 8 false _ A2.out).mono ?_); rintro e w' ⟨rfl, ⟨nd, rfl⟩⟩; refine ⟨_, rfl, ?_⟩))
    go_ret
    exact ⟨by first | rfl | (simp [errW_none, errW_some] <;> rfl) | (simp [*, errW_none, errW_some] <;> rfl), by repeat (first | (with_reducible first | exact HB.out | apply below_alloc | apply pw_below_drewN | apply below_drew1) | exact HB.out)⟩

-- NOT PRINTED: function 26 (strconv_small)

-- NOT PRINTED: function 32 (strconv_log10Pow2)

-- NOT PRINTED: function 33 (bits_Len64)

-- NOT PRINTED: function 34 (strconv_bool2_int)

-- NOT PRINTED: function 27 (strconv_numDigits)

-- NOT PRINTED: function 28 (strconv_formatBase10)

-- NOT PRINTED: function 35 (strconv_isPowerOfTwo)

-- NOT PRINTED: function 37 (bits_TrailingZeros32)

-- NOT PRINTED: function 38 (bits_TrailingZeros64)

-- NOT PRINTED: function 36 (bits_TrailingZeros)

-- NOT PRINTED: function 29 (strconv_formatBits)

-- NOT PRINTED: function 22 (strconv_FormatInt)

-- NOT PRINTED: function 16 (strconv_Itoa_16)

-- NOT PRINTED: function 12 (strconv_Itoa_12)

-- NOT PRINTED: function 30 (abi_NoEscape)

-- NOT PRINTED: function 23 (strings_Builder_copyCheck)

-- NOT PRINTED: function 31 (bytealg_MakeNoZero)

-- NOT PRINTED: function 24 (strings_Builder_grow)

-- NOT PRINTED: function 17 (strings_Builder_Grow)

-- NOT PRINTED: function 18 (strings_Builder_WriteString)

-- NOT PRINTED: function 19 (strings_Builder_String)

-- NOT PRINTED: function 13 (strings_Join)

/-! ### impl_ShapesText: function 6 -/
def impl_ShapesText.T (n : Int) : ByteArray := ⟨(Lib.itoa n).toArray⟩
/-- The texts of the numbers with a dot between them, where all are shapes. -/
def impl_ShapesText.f (l0 : List Int) : Option (ByteArray × Bool) := (impl_areShapes.f l0).bind fun b => if b = true then (if 1 ≤ l0.length ∧ l0.length ≤ 8 ∧ ∀ x ∈ l0, 0 ≤ x ∧ x ≤ 999 then some (⟨(Lib.join ((l0.map impl_ShapesText.T).map (·.data.toList)) [46]).toArray⟩, true) else none) else some (⟨#[]⟩, false)
theorem impl_ShapesText.inf : (Tryd.prog.info? 9).map (fun i => (i.zero, i.size, i.bytes)) = some (some (.string ⟨#[]⟩), 1, 16) := by kernel_rfl
theorem impl_ShapesText.cells {e base : Nat} {ok : Nat → Prop} {w : World} {v : Value} {xs : List ByteArray} (h : Kd.R Kd.string e w base ok v xs) (hn : 0 < xs.length) : ∃ g c, v = .slice (some ⟨g, 0, none⟩) xs.length c ∧ xs.length ≤ c ∧ g < w.heap.size ∧ ∀ (j : Nat) x, xs[j]? = some x → w.cell? ⟨g, 0 + j, none⟩ = some (.string x) := by
  obtain ⟨A, c, he, hl, hr⟩ := Kd.R_reads h
  obtain ⟨inner, ho⟩ := Kd.R_own h
  rcases ho.2 with ⟨he2, _⟩ | ⟨g, cap, cur, he2, hb, hh, _⟩
  · rw [he] at he2
    injection he2 with _ h2 _
    omega
  · rw [he] at he2
    injection he2 with h1 _ h3
    subst h1
    refine ⟨g, c, he, hl, (Array.getElem?_eq_some_iff.1 hh).1, fun j x hj => ?_⟩
    have hlt := (List.getElem?_eq_some_iff.1 hj).1
    obtain ⟨ad, e1, y⟩ := Kd.at_string hr (j : Int) (by omega) (by omega)
    cases e1
    have e3 : rdOf ByteArray.empty xs (j : Int) = x := by simp [rdOf, List.getD_eq_getElem?_getD, hj]
    rw [e3] at y
    have e4 : (⟨g, 0, none⟩ : Addr).add (j : Int).toNat = ⟨g, 0 + j, none⟩ := by rcases Nat.eq_zero_or_pos j with h | h <;> simp [Addr.add, h] <;> omega
    rwa [e4] at y
theorem impl_ShapesText.short (l : List Int) (hv : ∀ x ∈ l, 0 ≤ x ∧ x ≤ 999) (b : Nat) : (Lib.join ((l.map impl_ShapesText.T).map (·.data.toList)) [b.toUInt8]).length ≤ 22 * l.length := by
  induction l with
  | nil => simp [Lib.join]
  | cons a t ih =>
    have h1 : (Lib.itoa a).length ≤ 21 := Lib.itoa_length_le a (by have := hv a (by simp); omega) (by have := hv a (by simp); omega)
    have h2 := ih (fun x hx => hv x (by simp [hx]))
    cases t with
    | nil => simpa [Lib.join, impl_ShapesText.T] using by omega
    | cons c t => simp [Lib.join, impl_ShapesText.T] at h1 h2 ⊢; omega
set_option maxHeartbeats 4000000 in
set_option maxRecDepth 100000 in
theorem impl_ShapesText.main (A0 : Option Addr) (c0 : Nat) (l0 : List Int) (w : World) (hr0 : Kd.C (Kd.int .i64) w A0 l0.length l0) (hc0 : l0.length ≤ c0) (htab : Lib.TabIs Tryd.prog w "internal/strconv.uint64pow10" .u64 Lib.pow10Tab) (ha : impl_areShapes.f l0 = some true) (hn : 1 ≤ l0.length ∧ l0.length ≤ 8) (hv : ∀ x ∈ l0, 0 ≤ x ∧ x ≤ 999) :
    Calls Tryd.prog 6 #[.slice A0 l0.length c0] w fun e w' => e = .returned (.tuple #[.string ⟨(Lib.join ((l0.map impl_ShapesText.T).map (·.data.toList)) [46]).toArray⟩, .bool true]) ∧ Below w.heap.size w w' := by
  have HR0 := Aside0.mk hr0
  have HV := Aside0.mk hv
  have HN := Aside0.mk hn
  have HT := Aside0.mk (Lib.tabBelow_of_tabIs htab)
  have HB := Aside0.mk (Below.refl w.heap.size w)
  clear hr0 hv hn htab
  go_enter Tryd.func6, Tryd.ntmps6
  go_wp2_with ((with_reducible refine gate_dst (N := 8) rfl ?_); refine goesL_ (some 8) rfl rfl Tryd.func11 (by kernel_rfl) rfl #[.slice A0 l0.length c0] rfl (by (try simp only [List.map_toArray, List.map_cons, List.map_nil]); first | done | rfl) ?_; (with_reducible refine (impl_areShapes.calls A0 c0 l0 true _ (Kd.C_below HR0.out HB.out) hc0 ha).mono ?_); rintro e w8 ⟨rfl, hb⟩; refine ⟨_, rfl, ?_⟩; have n0 := Aside0.mk (below_step HB.out hb); clear HB; have HB := n0; clear n0; clear hb)
  go_loopg [4, 12] l0.length (fun kq v4 v12 w' => ∃ x : Int, v12 = .int .i64 x ∧ Aside0 (0 ≤ x ∧ x + kq = l0.length) ∧ Aside0 (Kd.R Kd.string 9 w' w.heap.size (fun _ => True) v4 ((l0.take x.toNat).map impl_ShapesText.T)) ∧ Aside0 (Below w.heap.size w w'))
  case atStart => exact ⟨0, rfl, ⟨by omega⟩, ⟨Kd.R_nil _ _ _ _ _⟩, HB⟩
  case round =>
    obtain ⟨x, rfl, HX, HL, HB⟩ := hrel
    by_cases hlt : x < (l0.length : Int)
    · have p0 : 0 ≤ x := HX.out.1
      have hm : l0[x.toNat]? = some (rd l0 x) := getD_at p0 hlt _
      have HI := Aside0.mk (HV.out (rd l0 x) (List.mem_of_getElem? hm))
      have HP : Aside0 ((l0.take (x + 1).toNat).map impl_ShapesText.T = (l0.take x.toNat).map impl_ShapesText.T ++ [impl_ShapesText.T (rd l0 x)]) := ⟨by rw [show (x + 1).toNat = x.toNat + 1 from by omega, List.take_add_one, hm, List.map_append]; rfl⟩
      have HW : Aside0 (wrap64 (x + 1) = x + 1) := ⟨by have := HN.out; unfold wrap64; omega⟩
      have HLN : Aside0 (((l0.take x.toNat).map impl_ShapesText.T).length ≤ 8) := ⟨by have := HN.out; rw [List.length_map, List.length_take]; omega⟩
      have hd : decide (x < (l0.length : Int)) = true := decide_eq_true hlt
      obtain ⟨ad, E1, y1⟩ := Kd.at_int (Kd.C_below HR0.out HB.out) x p0 hlt
      cases E1
      have ht : Lib.TabIs Tryd.prog wr "internal/strconv.uint64pow10" .u64 Lib.pow10Tab := HT.out _ HB.out
      clear hm
      replace p0 := eq_true p0
      replace hlt := eq_true hlt
      go_wp2_with (first | ((with_reducible refine gate_dst (N := 18) rfl ?_); refine goesL_ (some 18) rfl rfl Tryd.func12 (by kernel_rfl) rfl #[.int .i64 (rd l0 x)] rfl (by (try simp only [List.map_toArray, List.map_cons, List.map_nil]); first | done | rfl) ?_; (with_reducible refine (Tryd.strconv_Itoa (rd l0 x) (by have := HI.out; omega) (by have := HI.out; omega) _ ht).mono ?_); rintro e w18 ⟨rfl, hw⟩; refine ⟨_, rfl, ?_⟩; have hb : Below wr.heap.size wr w18 := (by obtain ⟨kd, os, rfl⟩ := hw; exact Lib.below_grow _ _ (Nat.le_refl _) _ _); clear hw; have n0 := Aside0.mk (Kd.R_below HL.out hb); have n1 := Aside0.mk (below_step HB.out hb); clear HL; clear HB; have HL := n0; have HB := n1; clear n0; clear n1; clear hb) | ((with_reducible refine gate_builtin (b := .append) (xs := #[.tmp 16, .tmp 19]) rfl ?_); at_builtin; refine Kd.R_append Kd.string (w0 := w) w.heap.size rfl (.tmp 16) (.tmp 19) 31 9 (.string ⟨#[]⟩) 16 rfl Tryd.underlying31 impl_ShapesText.inf rfl (by decide) (by omega) u4 ((l0.take x.toNat).map impl_ShapesText.T) (impl_ShapesText.T (rd l0 x)) [.string (impl_ShapesText.T (rd l0 x))] (fun _ => True) (fun _ => False) rfl rfl rfl (fun _ hk => hk.elim) (fun k_ hk => trivial) HL.out HB.out (below_size HB.out) (by have := HLN.out; omega) ?_; intro v5 w5 ho hb hg hat; rw [← HP.out] at ho; have n0 := Aside0.mk ho; have n1 := Aside0.mk hb; clear HL; clear HB; have HL := n0; have HB := n1; clear n0; clear n1; clear ho hb hg hat))
      go_roundg (gk - 1)
      case measure => have := HX.out.2; have := of_eq_true hlt; omega
      case rel => exact ⟨wrap64 (x + 1), rfl, ⟨by rw [HW.out]; have := HX.out; have := of_eq_true hlt; omega⟩, ⟨by rw [HW.out]; exact HL.out⟩, HB⟩
    · have hx : x = (l0.length : Int) := by have := HX.out; omega
      have HL2 := HL.out
      rw [hx, Int.toNat_natCast, List.take_length] at HL2
      obtain ⟨g, cc, rfl, hcc, hgs, hcells⟩ := impl_ShapesText.cells HL2 (by rw [List.length_map]; have := HN.out; omega)
      have hj := Tryd.strings_Join g 0 cc (l0.map impl_ShapesText.T) ⟨#[46]⟩ wr hcells hgs (by rw [List.length_map]; have := HN.out; omega) hcc (by have := impl_ShapesText.short l0 HV.out 46; have := HN.out; exact Nat.le_trans ‹_› (by omega))
      rw [List.length_map] at hj ⊢
      have hd : decide (x < (l0.length : Int)) = false := decide_eq_false hlt
      replace hlt := eq_false hlt
      go_wp2_with ((with_reducible refine gate_dst (N := 23) rfl ?_); refine goesL_ (some 23) rfl rfl Tryd.func13 (by kernel_rfl) rfl #[.slice (some ⟨g, 0, none⟩) l0.length cc, .string ⟨#[46]⟩] rfl (by (try simp only [List.map_toArray, List.map_cons, List.map_nil]); first | done | rfl) ?_; (with_reducible refine hj.mono ?_); rintro e w23 ⟨rfl, hb⟩; refine ⟨_, rfl, ?_⟩; have n0 := Aside0.mk (below_step HB.out hb); clear HB; have HB := n0; clear n0; clear hb)
      go_ret2
      exact ⟨rfl, HB.out⟩
set_option maxHeartbeats 4000000 in
set_option maxRecDepth 100000 in
theorem impl_ShapesText.mainF (A0 : Option Addr) (c0 : Nat) (l0 : List Int) (w : World) (hr0 : Kd.C (Kd.int .i64) w A0 l0.length l0) (hc0 : l0.length ≤ c0) (ha : impl_areShapes.f l0 = some false) :
    Calls Tryd.prog 6 #[.slice A0 l0.length c0] w fun e w' => e = .returned (.tuple #[.string ⟨#[]⟩, .bool false]) ∧ Below w.heap.size w w' := by
  have HR0 := Aside0.mk hr0
  have HB := Aside0.mk (Below.refl w.heap.size w)
  clear hr0
  go_enter Tryd.func6, Tryd.ntmps6
  go_wp2_with ((with_reducible refine gate_dst (N := 8) rfl ?_); refine goesL_ (some 8) rfl rfl Tryd.func11 (by kernel_rfl) rfl #[.slice A0 l0.length c0] rfl (by (try simp only [List.map_toArray, List.map_cons, List.map_nil]); first | done | rfl) ?_; (with_reducible refine (impl_areShapes.calls A0 c0 l0 false _ (Kd.C_below HR0.out HB.out) hc0 ha).mono ?_); rintro e w8 ⟨rfl, hb⟩; refine ⟨_, rfl, ?_⟩; have n0 := Aside0.mk (below_step HB.out hb); clear HB; have HB := n0; clear n0; clear hb)
  go_ret2
  exact ⟨rfl, HB.out⟩
theorem impl_ShapesText.calls (A0 : Option Addr) (c0 : Nat) (l0 : List Int) (r1 : ByteArray) (r2 : Bool) (w : World) (hr0 : Kd.C (Kd.int .i64) w A0 l0.length l0) (hc0 : l0.length ≤ c0) (htab : Lib.TabIs Tryd.prog w "internal/strconv.uint64pow10" .u64 Lib.pow10Tab) (h : impl_ShapesText.f l0 = some (r1, r2)) :
    Calls Tryd.prog 6 #[.slice A0 l0.length c0] w fun e w' => e = .returned (.tuple #[.string r1, .bool r2]) ∧ Below w.heap.size w w' := by
  unfold impl_ShapesText.f at h
  cases ha : impl_areShapes.f l0 with
  | none => rw [ha] at h; cases h
  | some b =>
    rw [ha] at h
    cases b with
    | false =>
      simp only [Option.bind_some, Bool.false_eq_true, if_false, Option.some.injEq, Prod.mk.injEq] at h
      obtain ⟨rfl, rfl⟩ := h
      exact impl_ShapesText.mainF A0 c0 l0 w hr0 hc0 ha
    | true =>
      simp only [Option.bind_some, if_true] at h
      split at h
      · rename_i hc
        simp only [Option.some.injEq, Prod.mk.injEq] at h
        obtain ⟨rfl, rfl⟩ := h
        exact impl_ShapesText.main A0 c0 l0 w hr0 hc0 htab ha ⟨hc.1, hc.2.1⟩ hc.2.2
      · cases h

end Go.Proofs.YtaecjbhenknfkaaDoor.FA
