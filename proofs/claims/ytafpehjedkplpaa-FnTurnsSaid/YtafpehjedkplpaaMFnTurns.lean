/- The words that the plain law behind FnTurns needs. -/
import Derived.Test.YtafpehjedkplpaaFBx2
import Derived.Test.YtafpehjedkplpaaFBx4
import Derived.Test.YtafpehjedkplpaaFBx6
import Derived.Test.YtafpehjedkplpaaFBx7
import Derived.Test.YtafpehjedkplpaaFBx9
import Derived.Test.YtafpehjedkplpaaFBx11
import Derived.Test.YtafpehjedkplpaaFBx13
import Derived.Test.YtafpehjedkplpaaFBx14
import Derived.Test.YtafpehjedkplpaaFBx15
import Derived.Test.YtafpehjedkplpaaFBx16
import Derived.Test.YtafpehjedkplpaaFBx17
import Derived.Test.YtafpehjedkplpaaFBx18
import Derived.Test.YtafpehjedkplpaaFBx190 -- home: impl_IsOrient.f impl_LeastTurns.f impl_ThirdDir.f impl_TurnHand.f impl_TurnWay.f impl_within.f laws_FnTurns.f laws_big.f laws_sameInts.f spec_AllOrients.f spec_DrawIsOrient.f spec_DrawLeastTurns.f spec_DrawThirdDir.f spec_DrawTurnHand.f spec_DrawTurnWay.f spec_LeastTurns.f spec_ThirdDir.f spec_TurnHand.f spec_TurnWay.f spec_l1Cur_among.f spec_l1Cur_anyOrient.f spec_l1Cur_dirOf.f spec_l1Cur_next.f spec_l1Cur_one.f spec_l1Cur_orient.f spec_l1Cur_pick.f spec_l1In.f spec_orDir.f spec_orGood.f spec_orLeast.f
namespace Go.Proofs.Ytafpehjedkplpaa.MFnTurns
open Go.RowKit Go.Proofs.Ytafpehjedkplpaa.FB Go.Proofs.YtafpehjedkplpaaW.PrintWords Go.Proofs.YtafpehjedkplpaaW.PrintLast Go.Proofs.YtafpehjedkplpaaW.PrintMore
set_option linter.unusedVariables false

def L6 : List Int := [0, 1, 2, 3, 4, 5]
theorem six {a : Int} (h0 : 0 ≤ a) (h5 : a ≤ 5) : a ∈ L6 := by
  have : a = 0 ∨ a = 1 ∨ a = 2 ∨ a = 3 ∨ a = 4 ∨ a = 5 := by omega
  rcases this with rfl | rfl | rfl | rfl | rfl | rfl <;> decide
theorem in_some (a b c : Int) : spec_l1In.f a b c = some (decide (b ≤ a ∧ a ≤ c)) := by
  unfold spec_l1In.f
  by_cases h : b ≤ a <;> simp [h]
theorem within_some (a b c : Int) : impl_within.f a b c = some (decide (b ≤ a ∧ a ≤ c)) := by
  unfold impl_within.f
  by_cases h : b ≤ a <;> simp [h]
theorem orDir_some (a : Int) : spec_orDir.f a = some (decide (0 ≤ a ∧ a ≤ 5)) := by
  unfold spec_orDir.f; rw [in_some]; rfl
/-- Is this an orientation? -/
def good (a b : Int) : Bool := decide (0 ≤ a ∧ a ≤ 5) && (decide (0 ≤ b ∧ b ≤ 5) && decide (a / 2 ≠ b / 2))
theorem good_fin : ∀ a ∈ L6, ∀ b ∈ L6, spec_orGood.f a b = some (good a b) ∧ impl_IsOrient.f a b = some (good a b) := by decide +kernel
theorem good_spec (a b : Int) : spec_orGood.f a b = some (good a b) := by
  by_cases ha : 0 ≤ a ∧ a ≤ 5
  · by_cases hb : 0 ≤ b ∧ b ≤ 5
    · exact (good_fin a (six ha.1 ha.2) b (six hb.1 hb.2)).1
    · simp [spec_orGood.f, good, orDir_some, ha, hb]
  · simp [spec_orGood.f, good, orDir_some, ha]
theorem good_impl (a b : Int) : impl_IsOrient.f a b = some (good a b) := by
  by_cases ha : 0 ≤ a ∧ a ≤ 5
  · by_cases hb : 0 ≤ b ∧ b ≤ 5
    · exact (good_fin a (six ha.1 ha.2) b (six hb.1 hb.2)).2
    · simp [impl_IsOrient.f, good, within_some, ha, hb]
  · simp [impl_IsOrient.f, good, within_some, ha]
theorem good_in {a b : Int} (h : good a b = true) : a ∈ L6 ∧ b ∈ L6 := by
  unfold good at h
  simp only [Bool.and_eq_true, decide_eq_true_eq] at h
  exact ⟨six h.1.1 h.1.2, six h.2.1.1 h.2.1.2⟩
theorem wd {x : Int} (h0 : -4611686018427387904 ≤ x) (h1 : x ≤ 4611686018427387904) : wrap64 x = x := by unfold wrap64; omega
theorem band255 (x : Int) : 0 ≤ Go.bits .and .u64 x 255 ∧ Go.bits .and .u64 x 255 ≤ 255 := by
  have h : ((BitVec.ofInt 64 x) &&& (BitVec.ofInt 64 255)).toNat ≤ 255 := by
    rw [BitVec.toNat_and]; exact Nat.and_le_right
  have e : Go.bits .and .u64 x 255 = (((BitVec.ofInt 64 x) &&& (BitVec.ofInt 64 255)).toNat : Int) % 18446744073709551616 := rfl
  omega
theorem rd_byte {l : List Int} (hl : ∀ x ∈ l, (Lit.int .u8 x).wf = true) (i : Int) : 0 ≤ rd l i ∧ rd l i ≤ 255 := by
  unfold rd
  rw [List.getD_eq_getElem?_getD]
  rcases Nat.lt_or_ge i.toNat l.length with h | h
  · rw [List.getElem?_eq_getElem h]
    have := hl _ (List.getElem_mem h)
    have h2 : (decide (IntKind.u8.min ≤ l[i.toNat]) && decide (l[i.toNat] ≤ IntKind.u8.max)) = true := this
    simp only [Bool.and_eq_true, decide_eq_true_eq, show IntKind.u8.min = 0 from rfl, show IntKind.u8.max = 255 from rfl] at h2
    simp only [Option.getD_some]
    omega
  · rw [List.getElem?_eq_none h]; simp
theorem next_some {l : List Int} (hl : ∀ x ∈ l, (Lit.int .u8 x).wf = true) (p s : Int) (h0 : 0 ≤ p) (h1 : p ≤ 1000000000000) : ∃ v t : Int, spec_l1Cur_next.f l p s = some (v, p + 1, t) ∧ 0 ≤ v ∧ v ≤ 255 := by
  have hb := rd_byte hl p
  unfold spec_l1Cur_next.f
  rw [wd (x := p + 1) (by omega) (by omega)]
  split
  · (first | rw [if_pos h0] | skip)
    split
    · exact ⟨_, _, rfl, by rw [wd (by omega) (by omega)]; exact hb.1, by rw [wd (by omega) (by omega)]; exact hb.2⟩
    · refine ⟨_, _, rfl, ?_, ?_⟩
      · have := band255 (IntKind.u64.wrap (IntKind.u64.wrap (IntKind.u64.wrap (s * 6364136223846793005) + IntKind.u64.wrap (wrap64 (rd l p))) + 1442695040888963407) / 1099511627776)
        rw [wd (by omega) (by omega)]; exact this.1
      · have := band255 (IntKind.u64.wrap (IntKind.u64.wrap (IntKind.u64.wrap (s * 6364136223846793005) + IntKind.u64.wrap (wrap64 (rd l p))) + 1442695040888963407) / 1099511627776)
        rw [wd (by omega) (by omega)]; exact this.2
  · split
    · exact ⟨0, _, rfl, by omega, by omega⟩
    · refine ⟨_, _, rfl, ?_, ?_⟩
      · have := band255 (IntKind.u64.wrap (IntKind.u64.wrap (IntKind.u64.wrap (s * 6364136223846793005)) + 1442695040888963407) / 1099511627776)
        rw [wd (by omega) (by omega)]; exact this.1
      · have := band255 (IntKind.u64.wrap (IntKind.u64.wrap (IntKind.u64.wrap (s * 6364136223846793005)) + 1442695040888963407) / 1099511627776)
        rw [wd (by omega) (by omega)]; exact this.2
theorem pick_some {l : List Int} (hl : ∀ x ∈ l, (Lit.int .u8 x).wf = true) (p s a : Int) (h0 : 0 ≤ p) (h1 : p ≤ 900000000000) (ha : 1 ≤ a) : ∃ v q t : Int, spec_l1Cur_pick.f l p s a = some (v, q, t) ∧ 0 ≤ v ∧ v < a ∧ p ≤ q ∧ q ≤ p + 2 := by
  unfold spec_l1Cur_pick.f
  split
  · exact ⟨0, p, s, rfl, by omega, by omega, by omega, by omega⟩
  · obtain ⟨v, t, e, hv0, hv1⟩ := next_some hl p s h0 (by omega)
    rw [e]
    simp only [Option.bind_some]
    split
    · obtain ⟨v2, t2, e2, hw0, hw1⟩ := next_some hl (p + 1) t (by omega) (by omega)
      rw [e2]
      simp only [Option.bind_some]
      rw [if_neg (by omega), wd (x := v * 256) (by omega) (by omega), wd (x := v * 256 + v2) (by omega) (by omega)]
      exact ⟨_, _, _, rfl, Int.tmod_nonneg _ (by omega), Int.tmod_lt_of_pos _ (by omega), by omega, by omega⟩
    · rw [if_neg (by omega)]
      exact ⟨_, _, _, rfl, Int.tmod_nonneg _ (by omega), Int.tmod_lt_of_pos _ (by omega), by omega, by omega⟩
theorem one_some {l : List Int} (hl : ∀ x ∈ l, (Lit.int .u8 x).wf = true) (p s a : Int) (h0 : 0 ≤ p) (h1 : p ≤ 900000000000) (ha : 1 ≤ a) : ∃ (v : Bool) (q t : Int), spec_l1Cur_one.f l p s a = some (v, q, t) ∧ p ≤ q ∧ q ≤ p + 2 := by
  obtain ⟨v, q, t, e, -, -, hq, hq2⟩ := pick_some hl p s a h0 h1 ha
  unfold spec_l1Cur_one.f
  rw [e]
  exact ⟨_, _, _, rfl, hq, hq2⟩
theorem among_some {l : List Int} (hl : ∀ x ∈ l, (Lit.int .u8 x).wf = true) (p s : Int) (m : List Int) (h0 : 0 ≤ p) (h1 : p ≤ 900000000000) (hm : 1 ≤ m.length) : ∃ v q t : Int, spec_l1Cur_among.f l p s m = some (v, q, t) ∧ p ≤ q ∧ q ≤ p + 2 := by
  obtain ⟨v, q, t, e, hv0, hv1, hq, hq2⟩ := pick_some hl p s m.length h0 h1 (by omega)
  unfold spec_l1Cur_among.f
  rw [e]
  simp only [Option.bind_some]
  rw [if_pos hv0, if_pos hv1]
  exact ⟨_, _, _, rfl, hq, hq2⟩
def L7 : List Int := [-3, -2, -1, 0, 1, 2, 3]
theorem seven {a : Int} (h : -3 ≤ a ∧ a ≤ 3) : a ∈ L7 := by
  have : a = -3 ∨ a = -2 ∨ a = -1 ∨ a = 0 ∨ a = 1 ∨ a = 2 ∨ a = 3 := by omega
  rcases this with rfl | rfl | rfl | rfl | rfl | rfl | rfl <;> decide
/-- One quarter turn of a direction. -/
def qt (a x : Int) : Int := rd impl_turnDir.table (6 * x + a)
theorem qt_fin : ∀ a ∈ L6, ∀ x ∈ L6, qt a x ∈ L6 ∧ qt (qt (qt (qt a x) x) x) x = a := by decide +kernel
theorem turn1_fin : ∀ a ∈ L6, ∀ b ∈ L6, good a b = true → ∀ x ∈ L6, impl_TurnHand.f 40 a b x 1 = some (qt a x, qt b x, true) ∧ spec_TurnHand.f 40 a b x 1 = some (qt a x, qt b x, true) ∧ good (qt a x) (qt b x) = true := by decide +kernel
def turnOk (a b x n : Int) : Bool := match impl_TurnHand.f 40 a b x n with | some (p, r, true) => decide (spec_TurnHand.f 40 a b x n = some (p, r, true)) && (good p r && decide (impl_TurnHand.f 40 p r x (-n) = some (a, b, true))) | _ => false
theorem turnOk_fin : ∀ a ∈ L6, ∀ b ∈ L6, good a b = true → ∀ x ∈ L6, ∀ n ∈ L7, turnOk a b x n = true := by decide +kernel
def foldq : List Int → Int → Int → Int × Int
  | [], p, r => (p, r)
  | x :: xs, p, r => foldq xs (qt p x) (qt r x)
def wayOk (a b c d : Int) : Bool := match impl_TurnWay.f 62 a b c d, impl_TurnWay.f 62 c d a b with
  | some (l, true), some (m, true) => decide (spec_orLeast.f 60 a b c d = some l) && (decide (l.length ≤ 3) && ((l.all fun x => decide (x ∈ L6)) && (decide (m.length = l.length) && (decide (foldq l a b = (c, d)) && (decide (l.length = 0) == (a == c && (b == d)))))))
  | _, _ => false
theorem wayOk_fin : ∀ a ∈ L6, ∀ b ∈ L6, good a b = true → ∀ c ∈ L6, ∀ d ∈ L6, good c d = true → wayOk a b c d = true := by decide +kernel
def thirdOk (a b : Int) : Bool := match impl_ThirdDir.f a b with | some (x, true) => decide (spec_ThirdDir.f 30 a b = some (x, true)) && (decide (x ≠ a) && (decide (x ≠ b) && (good a x && good b x))) | _ => false
theorem thirdOk_fin : ∀ a ∈ L6, ∀ b ∈ L6, good a b = true → thirdOk a b = true := by decide +kernel
theorem all24 : (spec_AllOrients.f 60).any (fun l => decide (l.length = 24)) = true := by decide +kernel
theorem all_some : ∃ l : List S28, l.length = 24 ∧ ∀ k, 60 ≤ k → spec_AllOrients.f k = some l := by
  cases h : spec_AllOrients.f 60 with
  | none => have := all24; rw [h] at this; cases this
  | some l =>
    have h2 := all24
    rw [h] at h2
    exact ⟨l, of_decide_eq_true h2, fun k hk => at_rounds (g := fun k => spec_AllOrients.f k) (fun k => spec_AllOrients.mono k) hk h⟩
theorem anyOrient_some {l : List Int} (hl : ∀ x ∈ l, (Lit.int .u8 x).wf = true) (k : Nat) (hk : 60 ≤ k) (p s : Int) (h0 : 0 ≤ p) (h1 : p ≤ 1000) : ∃ a b q t : Int, spec_l1Cur_anyOrient.f k l p s = some (a, b, q, t) ∧ p ≤ q ∧ q ≤ p + 10 := by
  unfold spec_l1Cur_anyOrient.f
  obtain ⟨v, q1, t1, e1, g1, g2⟩ := one_some hl p s 16 h0 (by omega) (by omega)
  rw [e1]
  simp only [Option.bind_some]
  cases v
  · rw [if_neg (by simp)]
    unfold spec_l1Cur_orient.f
    obtain ⟨L, hL, hA⟩ := all_some
    rw [hA k hk]
    simp only [Option.bind_some]
    obtain ⟨v, q2, t2, e2, g3, g4, g5, g6⟩ := pick_some hl q1 t1 L.length (by omega) (by omega) (by omega)
    rw [e2]
    simp only [Option.bind_some]
    rw [if_pos g3, if_pos g4]
    exact ⟨_, _, _, _, rfl, by simp only; omega, by simp only; omega⟩
  · rw [if_pos rfl]
    obtain ⟨v, q2, t2, e2, g3, g4, g5, g6⟩ := pick_some hl q1 t1 8 (by omega) (by omega) (by omega)
    rw [e2]
    simp only [Option.bind_some]
    obtain ⟨v, q3, t3, e3, g7, g8, g9, g10⟩ := pick_some hl q2 t2 8 (by omega) (by omega) (by omega)
    rw [e3]
    exact ⟨_, _, _, _, rfl, by simp only; omega, by simp only; omega⟩
theorem draw_turn {l : List Int} (hl : ∀ x ∈ l, (Lit.int .u8 x).wf = true) (k : Nat) (hk : 60 ≤ k) : ∃ a b x n : Int, spec_DrawTurnHand.f k l = some (a, b, x, n) := by
  unfold spec_DrawTurnHand.f spec_l1Cur_dirOf.f
  obtain ⟨a, b, q, t, e, g1, g2⟩ := anyOrient_some hl k hk 0 0 (by omega) (by omega)
  rw [e]
  simp only [Option.bind_some]
  obtain ⟨v, q2, t2, e2, g3, g4⟩ := among_some hl q t [0, 3, (-1), 6, (-9223372036854775808)] (by omega) (by omega) (by simp)
  rw [e2]
  simp only [Option.bind_some]
  obtain ⟨v2, q3, t3, e3, g5, g6⟩ := among_some hl q2 t2 [0, 1, 2, 3, 4, 5, v] (by omega) (by omega) (by simp)
  rw [e3]
  simp only [Option.bind_some]
  obtain ⟨v3, q4, t4, e4, g7, g8⟩ := among_some hl q3 t3 [(-2), 4, (-4), (-9223372036854775808)] (by omega) (by omega) (by simp)
  rw [e4]
  simp only [Option.bind_some]
  obtain ⟨v4, q5, t5, e5, g9, g10⟩ := among_some hl q4 t4 [0, 1, (-1), 2, 3, (-3), v3] (by omega) (by omega) (by simp)
  rw [e5]
  exact ⟨_, _, _, _, rfl⟩
theorem draw_way {l : List Int} (hl : ∀ x ∈ l, (Lit.int .u8 x).wf = true) (k : Nat) (hk : 60 ≤ k) : ∃ a b c d : Int, spec_DrawTurnWay.f k l = some (a, b, c, d) := by
  unfold spec_DrawTurnWay.f spec_DrawLeastTurns.f
  obtain ⟨a, b, q, t, e, g1, g2⟩ := anyOrient_some hl k hk 0 0 (by omega) (by omega)
  rw [e]
  simp only [Option.bind_some]
  obtain ⟨c, d, q2, t2, e2, g3, g4⟩ := anyOrient_some hl k hk q t (by omega) (by omega)
  rw [e2]
  exact ⟨_, _, _, _, rfl⟩
theorem draw_third {l : List Int} (hl : ∀ x ∈ l, (Lit.int .u8 x).wf = true) (k : Nat) (hk : 60 ≤ k) : ∃ a b : Int, spec_DrawThirdDir.f k l = some (a, b) := by
  unfold spec_DrawThirdDir.f spec_DrawIsOrient.f
  obtain ⟨a, b, q, t, e, g1, g2⟩ := anyOrient_some hl k hk 0 0 (by omega) (by omega)
  rw [e]
  exact ⟨_, _, rfl⟩
/-- The end: the third direction. -/
theorem j6_true {l : List Int} (hl : ∀ x ∈ l, (Lit.int .u8 x).wf = true) (k : Nat) (hk : 100 ≤ k) : laws_FnTurns.j6 k l = some true := by
  obtain ⟨k, rfl⟩ : ∃ q, k = q + 1 + 1 := ⟨k - 2, by omega⟩
  obtain ⟨a, b, e⟩ := draw_third hl (k + 1) (by omega)
  rw [laws_FnTurns.j6, e]
  simp only [Option.bind_some]
  cases hg : good a b
  · have e1 : impl_ThirdDir.f a b = some (0, false) := by unfold impl_ThirdDir.f; rw [good_impl, hg]; rfl
    have e2 : spec_ThirdDir.f (k + 1) a b = some (0, false) := by unfold spec_ThirdDir.f; rw [good_spec, hg]; rfl
    rw [e1, e2]
    simp [laws_FnTurns.j7]
  · have ht := thirdOk_fin a (good_in hg).1 b (good_in hg).2 hg
    unfold thirdOk at ht
    cases h1 : impl_ThirdDir.f a b with
    | none => rw [h1] at ht; cases ht
    | some y =>
      obtain ⟨x, v⟩ := y
      rw [h1] at ht
      cases v
      · cases ht
      · simp only [Bool.and_eq_true, decide_eq_true_eq] at ht
        obtain ⟨h2, h3, h4, h5, h6⟩ := ht
        have h7 : spec_ThirdDir.f (k + 1) a b = some (x, true) := at_rounds (g := fun k => spec_ThirdDir.f k a b) (fun k => spec_ThirdDir.mono _ _ k) (show 30 ≤ k + 1 by omega) h2
        rw [h7]
        simp only [Option.bind_some, bne_self_eq_false, Bool.false_eq_true, if_false, laws_FnTurns.j7, if_true, good_impl, h5, h6]
        rw [if_neg h3, if_neg h4]
theorem sameInts_l0 (l : List Int) (hn : l.length ≤ 1000000) : ∀ (d k i : Nat), i + d = l.length → d < k → laws_sameInts.l0 k l l (l.length : Int) (i : Int) = some true := by
  intro d
  induction d with
  | zero =>
    intro k i hi hk
    obtain ⟨k, rfl⟩ : ∃ q, k = q + 1 := ⟨k - 1, by omega⟩
    simp only [laws_sameInts.l0]
    rw [if_neg (by omega)]
  | succ d ih =>
    intro k i hi hk
    obtain ⟨k, rfl⟩ : ∃ q, k = q + 1 := ⟨k - 1, by omega⟩
    have c1 : (i : Int) < (l.length : Int) := by omega
    have c2 : (0 : Int) ≤ (i : Int) := by omega
    have hw : wrap64 ((i : Int) + 1) = ((i + 1 : Nat) : Int) := by rw [wd (by omega) (by omega)]; rfl
    simp only [laws_sameInts.l0, c1, c2, if_true, hw]
    exact ih k (i + 1) (by omega) (by omega)
theorem sameInts_self (l : List Int) (k : Nat) (hn : l.length ≤ 1000000) (hk : l.length < k) : laws_sameInts.f k l l = some true := by
  unfold laws_sameInts.f
  rw [if_pos rfl]
  exact sameInts_l0 l hn l.length k 0 (by omega) hk
theorem turn1_at {a b x : Int} (hg : good a b = true) (hx : x ∈ L6) (k : Nat) (hk : 40 ≤ k) : impl_TurnHand.f k a b x 1 = some (qt a x, qt b x, true) ∧ spec_TurnHand.f k a b x 1 = some (qt a x, qt b x, true) ∧ good (qt a x) (qt b x) = true := by
  obtain ⟨h1, h2, h3⟩ := turn1_fin a (good_in hg).1 b (good_in hg).2 hg x hx
  exact ⟨at_rounds (g := fun k => impl_TurnHand.f k a b x 1) (fun k => impl_TurnHand.mono _ _ _ _ k) hk h1, at_rounds (g := fun k => spec_TurnHand.f k a b x 1) (fun k => spec_TurnHand.mono _ _ _ _ k) hk h2, h3⟩
/-- The way is walked. -/
theorem l1_true {l1 : List Int} (hl : ∀ x ∈ l1, (Lit.int .u8 x).wf = true) (L : List Int) (hL : L.length ≤ 3) (a b c d : Int) (he : (decide (L.length = 0) == (a == c && (b == d))) = true) : ∀ (rest pre : List Int) (p r : Int) (k : Nat), pre ++ rest = L → (rest.all fun x => decide (x ∈ L6)) = true → good p r = true → foldq rest p r = (c, d) → rest.length + 150 < k →
    laws_FnTurns.l1 k l1 L (L.length : Int) (L.length : Int) true L (L.length : Int) (pre.length : Int) a b c d p r = some true := by
  intro rest
  induction rest with
  | nil =>
    intro pre p r k h hc hg hf hk
    obtain ⟨k, rfl⟩ : ∃ q, k = q + 1 := ⟨k - 1, by omega⟩
    have c1 : ¬ (pre.length : Int) < (L.length : Int) := by rw [← h]; simp
    have c2 : ¬ (L.length : Int) > 3 := by omega
    obtain ⟨rfl, rfl⟩ : p = c ∧ r = d := by simpa [foldq] using hf
    have c3 : (((L.length : Int) == 0) != (a == p && (b == r))) = false := by
      have e0 : ((L.length : Int) == 0) = decide (L.length = 0) := by
        rw [Bool.eq_iff_iff]; simp
      rw [e0, eq_of_beq he]; simp
    simp only [laws_FnTurns.l1, c1, if_false, c2, c3, Bool.false_eq_true, if_true, beq_self_eq_true, Bool.not_true, Bool.or_self]
    exact j6_true hl k (by omega)
  | cons x xs ih =>
    intro pre p r k h hc hg hf hk
    obtain ⟨k, rfl⟩ : ∃ q, k = q + 1 := ⟨k - 1, by omega⟩
    rw [List.length_cons] at hk
    rw [List.all_cons, Bool.and_eq_true] at hc
    have hx := of_decide_eq_true hc.1
    have c1 : (pre.length : Int) < (L.length : Int) := by rw [← h]; simp; omega
    have c2 : (0 : Int) ≤ (pre.length : Int) := by omega
    have hr : rd L (pre.length : Int) = x := by rw [← h]; unfold rd; simp
    have hw : wrap64 ((pre.length : Int) + 1) = ((pre ++ [x]).length : Int) := by rw [wd (by omega) (by omega)]; simp
    obtain ⟨h1, h2, h3⟩ := turn1_at hg hx k (by omega)
    simp only [laws_FnTurns.l1, c1, c2, if_true, hr, h1, h2, Option.bind_some, beq_self_eq_true, Bool.not_true, Bool.or_self, Bool.false_eq_true, if_false, hw]
    exact ih (pre ++ [x]) _ _ k (by rw [← h]; simp) hc.2 h3 hf (by omega)
/-- From the way on. -/
theorem j3_true {l1 : List Int} (hl : ∀ x ∈ l1, (Lit.int .u8 x).wf = true) (k : Nat) (hk : 300 ≤ k) : laws_FnTurns.j3 k l1 = some true := by
  obtain ⟨k, rfl⟩ : ∃ q, k = q + 1 + 1 := ⟨k - 2, by omega⟩
  obtain ⟨a, b, c, d, e⟩ := draw_way hl (k + 1) (by omega)
  rw [laws_FnTurns.j3, e]
  simp only [Option.bind_some]
  by_cases hc : good a b = true ∧ good c d = true
  · have hw := wayOk_fin a (good_in hc.1).1 b (good_in hc.1).2 hc.1 c (good_in hc.2).1 d (good_in hc.2).2 hc.2
    unfold wayOk at hw
    cases h1 : impl_TurnWay.f 62 a b c d with
    | none => rw [h1] at hw; simp at hw
    | some y =>
      cases h2 : impl_TurnWay.f 62 c d a b with
      | none => rw [h1, h2] at hw; simp at hw
      | some z =>
        obtain ⟨l, v⟩ := y
        obtain ⟨m, u⟩ := z
        rw [h1, h2] at hw
        cases v
        · simp at hw
        cases u
        · simp at hw
        simp only [Bool.and_eq_true, decide_eq_true_eq] at hw
        obtain ⟨g1, g2, g3, g4, g5, g6⟩ := hw
        have e1 : ∀ q, 62 ≤ q → impl_TurnWay.f q a b c d = some (l, true) := fun q hq => at_rounds (g := fun k => impl_TurnWay.f k a b c d) (fun k => impl_TurnWay.mono _ _ _ _ k) hq h1
        have e2 : ∀ q, 62 ≤ q → impl_TurnWay.f q c d a b = some (m, true) := fun q hq => at_rounds (g := fun k => impl_TurnWay.f k c d a b) (fun k => impl_TurnWay.mono _ _ _ _ k) hq h2
        have e3 : ∀ q, 60 ≤ q → spec_orLeast.f q a b c d = some l := fun q hq => at_rounds (g := fun k => spec_orLeast.f k a b c d) (fun k => spec_orLeast.mono _ _ _ _ k) hq g1
        have s1 : spec_TurnWay.f (k + 1) a b c d = some (l, true) := by unfold spec_TurnWay.f; rw [good_spec, good_spec, hc.1, hc.2]; simp only [Option.bind_some, if_true]; rw [e3 _ (by omega)]; rfl
        have s2 : spec_LeastTurns.f (k + 1) a b c d = some ((l.length : Int), true) := by unfold spec_LeastTurns.f; rw [good_spec, good_spec, hc.1, hc.2]; simp only [Option.bind_some, if_true]; rw [e3 _ (by omega)]; rfl
        have s3 : impl_LeastTurns.f (k + 1) a b c d = some ((l.length : Int), true) := by unfold impl_LeastTurns.f; rw [e1 _ (by omega)]; rfl
        have s4 : impl_LeastTurns.f k c d a b = some ((l.length : Int), true) := by unfold impl_LeastTurns.f; rw [e2 _ (by omega)]; simp only [Option.bind_some]; rw [g4]
        rw [e1 _ (by omega)]
        simp only [Option.bind_some, s1, s2, s3]
        rw [sameInts_self l (k + 1) (by omega) (by omega)]
        simp only [Option.bind_some, bne_self_eq_false, Bool.false_eq_true, if_false, if_true, laws_FnTurns.j4, s4]
        exact l1_true hl l g2 a b c d g6 l [] a b k (by simp) g3 hc.1 g5 (by omega)
  · have e1 : impl_TurnWay.f (k + 1) a b c d = some ([], false) := by
      unfold impl_TurnWay.f
      rw [good_impl, good_impl]
      simp only [Option.bind_some]
      cases hg : good a b
      · rfl
      cases hh : good c d
      · rfl
      exact absurd ⟨hg, hh⟩ hc
    have e2 : spec_TurnWay.f (k + 1) a b c d = some ([], false) := by
      unfold spec_TurnWay.f
      rw [good_spec, good_spec]
      simp only [Option.bind_some]
      cases hg : good a b
      · rfl
      cases hh : good c d
      · rfl
      exact absurd ⟨hg, hh⟩ hc
    have e3 : spec_LeastTurns.f (k + 1) a b c d = some (0, false) := by
      unfold spec_LeastTurns.f
      rw [good_spec, good_spec]
      simp only [Option.bind_some]
      cases hg : good a b
      · rfl
      cases hh : good c d
      · rfl
      exact absurd ⟨hg, hh⟩ hc
    have e4 : impl_LeastTurns.f (k + 1) a b c d = some (0, false) := by unfold impl_LeastTurns.f; rw [e1]; rfl
    rw [e1]
    simp only [Option.bind_some, e2, e3, e4]
    rw [sameInts_self [] (k + 1) (by simp) (by simp)]
    simp only [Option.bind_some, bne_self_eq_false, Bool.false_eq_true, if_false, if_true, laws_FnTurns.j4]
    exact j6_true hl k (by omega)
/-- Four quarter turns. -/
theorem l0_true {l1 : List Int} (hl : ∀ x ∈ l1, (Lit.int .u8 x).wf = true) {a b x : Int} (hg : good a b = true) (hx : x ∈ L6) (k : Nat) (hk : 400 ≤ k) : laws_FnTurns.l0 k l1 x 0 a b a b = some true := by
  obtain ⟨k, rfl⟩ : ∃ q, k = q + 1 + 1 + 1 + 1 + 1 := ⟨k - 5, by omega⟩
  obtain ⟨a1, a2, g1⟩ := turn1_at hg hx (k + 1 + 1 + 1 + 1) (by omega)
  obtain ⟨b1, b2, g2⟩ := turn1_at g1 hx (k + 1 + 1 + 1) (by omega)
  obtain ⟨c1, c2, g3⟩ := turn1_at g2 hx (k + 1 + 1) (by omega)
  obtain ⟨d1, d2, g4⟩ := turn1_at g3 hx (k + 1) (by omega)
  have q1 := (qt_fin a (good_in hg).1 x hx).2
  have q2 := (qt_fin b (good_in hg).2 x hx).2
  have w1 : wrap64 (0 + 1) = 1 := wd (by decide) (by decide)
  have w2 : wrap64 (1 + 1) = 2 := wd (by decide) (by decide)
  have w3 : wrap64 (2 + 1) = 3 := wd (by decide) (by decide)
  have w4 : wrap64 (3 + 1) = 4 := wd (by decide) (by decide)
  rw [laws_FnTurns.l0, if_pos (by decide), a1]
  simp only [Option.bind_some, a2, if_true, beq_self_eq_true, Bool.not_true, Bool.or_self, Bool.false_eq_true, if_false]
  rw [w1, laws_FnTurns.l0, if_pos (by decide), b1]
  simp only [Option.bind_some, b2, if_true, beq_self_eq_true, Bool.not_true, Bool.or_self, Bool.false_eq_true, if_false]
  rw [w2, laws_FnTurns.l0, if_pos (by decide), c1]
  simp only [Option.bind_some, c2, if_true, beq_self_eq_true, Bool.not_true, Bool.or_self, Bool.false_eq_true, if_false]
  rw [w3, laws_FnTurns.l0, if_pos (by decide), d1]
  simp only [Option.bind_some, d2, if_true, beq_self_eq_true, Bool.not_true, Bool.or_self, Bool.false_eq_true, if_false]
  rw [w4, laws_FnTurns.l0, if_neg (by decide), q1, q2]
  simp only [beq_self_eq_true, Bool.not_true, Bool.or_self, Bool.false_eq_true, if_false]
  exact j3_true hl k (by omega)
theorem turn_none {a b x n : Int} (hc : ¬ (good a b = true ∧ (0 ≤ x ∧ x ≤ 5) ∧ (-3 ≤ n ∧ n ≤ 3))) (k : Nat) (hk : 1 ≤ k) : impl_TurnHand.f k a b x n = some (0, 0, false) ∧ spec_TurnHand.f k a b x n = some (0, 0, false) := by
  obtain ⟨k, rfl⟩ : ∃ q, k = q + 1 := ⟨k - 1, by omega⟩
  unfold spec_TurnHand.f impl_TurnHand.f
  rw [good_spec, good_impl, orDir_some, in_some, within_some, within_some]
  simp only [Option.bind_some]
  cases hg : good a b
  · exact ⟨rfl, rfl⟩
  cases h1 : decide (0 ≤ x ∧ x ≤ 5)
  · exact ⟨rfl, rfl⟩
  cases h2 : decide (-3 ≤ n ∧ n ≤ 3)
  · exact ⟨rfl, rfl⟩
  exact absurd ⟨hg, of_decide_eq_true h1, of_decide_eq_true h2⟩ hc
theorem all_true (l0 l1 : List Int) (hl0 : ∀ x ∈ l0, (Lit.int .u8 x).wf = true) (hl1 : ∀ x ∈ l1, (Lit.int .u8 x).wf = true) : laws_FnTurns.f 1000 l0 l1 = some true := by
  unfold laws_FnTurns.f
  have hb : ∃ v, laws_big.f l0 l1 = some v := by unfold laws_big.f; split <;> exact ⟨_, rfl⟩
  obtain ⟨v, hv⟩ := hb
  rw [hv]
  simp only [Option.bind_some]
  cases v
  · rw [if_neg (by simp)]
    obtain ⟨a, b, x, n, e⟩ := draw_turn hl0 1000 (by omega)
    rw [e]
    simp only [Option.bind_some]
    by_cases hc : good a b = true ∧ (0 ≤ x ∧ x ≤ 5) ∧ (-3 ≤ n ∧ n ≤ 3)
    · obtain ⟨hg, hx, hn⟩ := hc
      have hx6 := six hx.1 hx.2
      have ht := turnOk_fin a (good_in hg).1 b (good_in hg).2 hg x hx6 n (seven hn)
      unfold turnOk at ht
      cases h1 : impl_TurnHand.f 40 a b x n with
      | none => rw [h1] at ht; cases ht
      | some y =>
        obtain ⟨p, r, v⟩ := y
        rw [h1] at ht
        cases v
        · cases ht
        simp only [Bool.and_eq_true, decide_eq_true_eq] at ht
        obtain ⟨h2, h3, h4⟩ := ht
        have e1 : impl_TurnHand.f 1000 a b x n = some (p, r, true) := at_rounds (g := fun k => impl_TurnHand.f k a b x n) (fun k => impl_TurnHand.mono _ _ _ _ k) (show 40 ≤ 1000 by omega) h1
        have e2 : spec_TurnHand.f 1000 a b x n = some (p, r, true) := at_rounds (g := fun k => spec_TurnHand.f k a b x n) (fun k => spec_TurnHand.mono _ _ _ _ k) (show 40 ≤ 1000 by omega) h2
        have e3 : impl_TurnHand.f 999 p r x (-n) = some (a, b, true) := at_rounds (g := fun k => impl_TurnHand.f k p r x (-n)) (fun k => impl_TurnHand.mono _ _ _ _ k) (show 40 ≤ 999 by omega) h4
        rw [e1]
        simp only [Option.bind_some, e2, bne_self_eq_false, Bool.false_eq_true, if_false, beq_self_eq_true, Bool.not_true, Bool.or_self]
        rw [show (1000 : Nat) = 999 + 1 from rfl, laws_FnTurns.j0, if_neg (by simp), if_pos rfl, wd (x := -n) (by omega) (by omega), e3]
        simp only [Option.bind_some, if_true, beq_self_eq_true, Bool.not_true, Bool.or_self, Bool.false_eq_true, if_false, good_impl, h3]
        rw [show (999 : Nat) = 998 + 1 from rfl, laws_FnTurns.j1, if_neg (by simp)]
        exact l0_true hl1 hg hx6 998 (by omega)
    · obtain ⟨e1, e2⟩ := turn_none hc 1000 (by omega)
      rw [e1]
      simp only [Option.bind_some, e2, bne_self_eq_false, Bool.false_eq_true, if_false, beq_self_eq_true, Bool.not_true, Bool.or_self]
      rw [show (1000 : Nat) = 999 + 1 from rfl, laws_FnTurns.j0, if_neg (by simp), if_neg (by simp)]
      exact j3_true hl1 999 (by omega)
  · rw [if_pos rfl]
end Go.Proofs.Ytafpehjedkplpaa.MFnTurns
