/- The words that the plain law behind FnExactTurnWay needs. -/
import Derived.Test.YtafpehjedkplpaaFAx2
import Derived.Test.YtafpehjedkplpaaFAx3
import Derived.Test.YtafpehjedkplpaaFAx29
import Derived.Test.YtafpehjedkplpaaFAx31
import Derived.Test.YtafpehjedkplpaaFAx33
import Derived.Test.YtafpehjedkplpaaFAx34 -- home: impl_IsOrient.f impl_TurnWay.f impl_within.f laws_eqIntS.f laws_heldIntS.f laws_markIntS.f spec_l1In.f spec_orDir.f spec_orGood.f spec_orLeast.f
namespace Go.Proofs.Ytafpehjedkplpaa.MFnExactTurnWay
open Go.RowKit Go.Proofs.Ytafpehjedkplpaa.FA Go.Proofs.YtafpehjedkplpaaW.PrintWords Go.Proofs.YtafpehjedkplpaaW.PrintLast Go.Proofs.YtafpehjedkplpaaW.PrintMore
set_option linter.unusedVariables false

theorem wr {x : Int} (h0 : -4611686018427387904 ≤ x) (h1 : x ≤ 4611686018427387904) : wrap64 x = x := by unfold wrap64; omega
theorem up {i n : Nat} (h : i < n) (hn : n ≤ 4611686018427387903) : wrap64 ((i : Int) + 1) = ((i + 1 : Nat) : Int) := by rw [wr (by omega) (by omega)]; rfl
theorem rd_nat (l : List Int) (i : Nat) : rd l (i : Int) = l.getD i 0 := rfl
/-- eqIntS tells equal lists. -/
theorem eqIntS_l0 (l : List Int) (hn : l.length ≤ 4611686018427387903) : ∀ (d k i : Nat), i + d = l.length → d < k → laws_eqIntS.l0 k l l (i : Int) = some true := by
  intro d
  induction d with
  | zero =>
    intro k i hi hk
    obtain ⟨k, rfl⟩ : ∃ q, k = q + 1 := ⟨k - 1, by omega⟩
    simp only [laws_eqIntS.l0]
    rw [if_neg (by omega)]
  | succ d ih =>
    intro k i hi hk
    obtain ⟨k, rfl⟩ : ∃ q, k = q + 1 := ⟨k - 1, by omega⟩
    simp only [laws_eqIntS.l0]
    rw [if_pos (by omega), if_pos (by omega), if_pos (by omega), if_pos trivial, up (n := l.length) (by omega) hn]
    exact ih k (i + 1) (by omega) (by omega)
theorem eqIntS_self (l : List Int) (k : Nat) (hn : l.length ≤ 1048576) (hk : l.length < k) : laws_eqIntS.f k l l = some true := by
  unfold laws_eqIntS.f
  rw [if_pos rfl]
  exact eqIntS_l0 l (by omega) l.length k 0 (by omega) hk
theorem rd_set_lt {l : List Int} {i j : Nat} {v : Int} (h : j < i) : rd (l.set i v) (j : Int) = rd l (j : Int) := by
  rw [rd_nat, rd_nat, List.getD_eq_getElem?_getD, List.getD_eq_getElem?_getD, List.getElem?_set_ne (by omega)]
theorem rd_set_self {l : List Int} {i : Nat} {v : Int} (h : i < l.length) : rd (l.set i v) (i : Int) = v := by
  rw [rd_nat, List.getD_eq_getElem?_getD, List.getElem?_set_self h]; rfl
theorem markIntS_l0 (n : Nat) (hn : n ≤ 4611686018427387903) : ∀ (d k i : Nat) (x : Int) (l : List Int), l.length = n → 0 ≤ x → x + d ≤ 2199023255552 → (∀ j : Nat, j < i → rd l (j : Int) = x - i + j) → i + d = n → d < k →
    ∃ m : List Int, laws_markIntS.l0 k l x (i : Int) = some (x + d, m) ∧ m.length = n ∧ ∀ j : Nat, j < n → rd m (j : Int) = x - i + j := by
  intro d
  induction d with
  | zero =>
    intro k i x l hl h0 h1 h hi hk
    obtain ⟨k, rfl⟩ : ∃ q, k = q + 1 := ⟨k - 1, by omega⟩
    refine ⟨l, ?_, hl, fun j hj => h j (by omega)⟩
    simp only [laws_markIntS.l0]
    rw [if_neg (by omega)]; simp
  | succ d ih =>
    intro k i x l hl h0 h1 h hi hk
    obtain ⟨k, rfl⟩ : ∃ q, k = q + 1 := ⟨k - 1, by omega⟩
    obtain ⟨m, hm, hm2, hm3⟩ := ih k (i + 1) (x + 1) (l.set i x) (by rw [List.length_set]; exact hl) (by omega) (by omega) (fun j hj => by
      rcases Nat.lt_or_ge j i with hji | hji
      · rw [rd_set_lt hji, h j hji]; omega
      · obtain rfl : j = i := by omega
        rw [rd_set_self (by omega)]; omega) (by omega) (by omega)
    refine ⟨m, ?_, hm2, fun j hj => by rw [hm3 j hj]; omega⟩
    simp only [laws_markIntS.l0]
    rw [if_pos (by omega), if_pos (by omega), up (n := n) (by omega) (by omega), wr (x := x + 1) (by omega) (by omega), Int.toNat_natCast, hm]
    congr 2; omega
/-- Marks are laid one behind the other. -/
theorem markIntS_eq (l : List Int) (k : Nat) (x : Int) (h0 : 0 ≤ x) (h1 : x + l.length ≤ 2199023255552) (hk : l.length < k) :
    ∃ m : List Int, laws_markIntS.f k l x = some (x + l.length, m) ∧ m.length = l.length ∧ ∀ j : Nat, j < l.length → rd m (j : Int) = x + j := by
  obtain ⟨m, h2, h3, h4⟩ := markIntS_l0 l.length (by omega) l.length k 0 x l rfl h0 h1 (fun j hj => by omega) (by omega) hk
  exact ⟨m, h2, h3, fun j hj => by rw [h4 j hj]; omega⟩
theorem heldIntS_l0 (m : List Int) (a : Int) (h0 : 0 ≤ a) (h1 : a + m.length ≤ 2199023255552) (h : ∀ j : Nat, j < m.length → rd m (j : Int) = a + j) : ∀ (d k i : Nat), i + d = m.length → d < k →
    laws_heldIntS.l0 k m (a + i) (i : Int) = some (a + m.length) := by
  intro d
  induction d with
  | zero =>
    intro k i hi hk
    obtain ⟨k, rfl⟩ : ∃ q, k = q + 1 := ⟨k - 1, by omega⟩
    simp only [laws_heldIntS.l0]
    rw [if_neg (by omega)]; congr 1; omega
  | succ d ih =>
    intro k i hi hk
    obtain ⟨k, rfl⟩ : ∃ q, k = q + 1 := ⟨k - 1, by omega⟩
    simp only [laws_heldIntS.l0]
    rw [if_pos (by omega), if_pos (by omega), if_pos (h i (by omega)), up (n := m.length) (by omega) (by omega), wr (x := a + i + 1) (by omega) (by omega)]
    rw [show a + (i : Int) + 1 = a + ((i + 1 : Nat) : Int) from by omega]
    exact ih k (i + 1) (by omega) (by omega)
theorem heldIntS_eq (m : List Int) (k : Nat) (a : Int) (h0 : 0 ≤ a) (h1 : a + m.length ≤ 2199023255552) (h : ∀ j : Nat, j < m.length → rd m (j : Int) = a + j) (hk : m.length < k) : laws_heldIntS.f k m a = some (a + m.length) := by
  unfold laws_heldIntS.f
  have := heldIntS_l0 m a h0 h1 h m.length k 0 (by omega) hk
  simpa using this

def L6 : List Int := [0, 1, 2, 3, 4, 5]
theorem six {a : Int} (h0 : 0 ≤ a) (h5 : a ≤ 5) : a ∈ L6 := by
  have : a = 0 ∨ a = 1 ∨ a = 2 ∨ a = 3 ∨ a = 4 ∨ a = 5 := by omega
  rcases this with rfl | rfl | rfl | rfl | rfl | rfl <;> decide
theorem in_some (a b c : Int) : spec_l1In.f a b c = some (decide (b ≤ a ∧ a ≤ c)) := by
  unfold spec_l1In.f
  by_cases h : b ≤ a <;> simp [h]
theorem within_some (a b c : Int) : impl_within.f a b c = some (decide (b ≤ a ∧ a ≤ c)) := by
  unfold impl_within.f
  by_cases h : b ≤ a <;> simp [h]
theorem orDir_some (a : Int) : spec_orDir.f a = some (decide (0 ≤ a ∧ a ≤ 5)) := by
  unfold spec_orDir.f; rw [in_some]; rfl
/-- Is this an orientation? -/
def good (a b : Int) : Bool := decide (0 ≤ a ∧ a ≤ 5) && (decide (0 ≤ b ∧ b ≤ 5) && decide (a / 2 ≠ b / 2))
theorem good_fin : ∀ a ∈ L6, ∀ b ∈ L6, spec_orGood.f a b = some (good a b) ∧ impl_IsOrient.f a b = some (good a b) := by decide +kernel
theorem good_spec (a b : Int) : spec_orGood.f a b = some (good a b) := by
  by_cases ha : 0 ≤ a ∧ a ≤ 5
  · by_cases hb : 0 ≤ b ∧ b ≤ 5
    · exact (good_fin a (six ha.1 ha.2) b (six hb.1 hb.2)).1
    · simp [spec_orGood.f, good, orDir_some, ha, hb]
  · simp [spec_orGood.f, good, orDir_some, ha]
theorem good_impl (a b : Int) : impl_IsOrient.f a b = some (good a b) := by
  by_cases ha : 0 ≤ a ∧ a ≤ 5
  · by_cases hb : 0 ≤ b ∧ b ≤ 5
    · exact (good_fin a (six ha.1 ha.2) b (six hb.1 hb.2)).2
    · simp [impl_IsOrient.f, good, within_some, ha, hb]
  · simp [impl_IsOrient.f, good, within_some, ha]
theorem good_in {a b : Int} (h : good a b = true) : a ∈ L6 ∧ b ∈ L6 := by
  unfold good at h
  simp only [Bool.and_eq_true, decide_eq_true_eq] at h
  exact ⟨six h.1.1 h.1.2, six h.2.1.1 h.2.1.2⟩
/-- The least turns from one orientation to another: both find the same. -/
def leastOk (a b c d : Int) : Bool := match spec_orLeast.f 60 a b c d with | some l => decide (l.length ≤ 3) && decide (impl_TurnWay.f 62 a b c d = some (l, true)) | none => false
theorem least_fin : ∀ a ∈ L6, ∀ b ∈ L6, good a b = true → ∀ c ∈ L6, ∀ d ∈ L6, good c d = true → leastOk a b c d = true := by decide +kernel
theorem least_same {a b c d : Int} (h : good a b = true) (h2 : good c d = true) : ∃ l : List Int, l.length ≤ 3 ∧ (∀ k, 60 ≤ k → spec_orLeast.f k a b c d = some l) ∧ ∀ k, 62 ≤ k → impl_TurnWay.f k a b c d = some (l, true) := by
  have hf := least_fin a (good_in h).1 b (good_in h).2 h c (good_in h2).1 d (good_in h2).2 h2
  unfold leastOk at hf
  cases hs : spec_orLeast.f 60 a b c d with
  | none => rw [hs] at hf; cases hf
  | some l =>
    rw [hs] at hf
    simp only [Bool.and_eq_true, decide_eq_true_eq] at hf
    exact ⟨l, hf.1, fun k hk => at_rounds (g := fun k => spec_orLeast.f k a b c d) (fun k => spec_orLeast.mono _ _ _ _ k) hk hs, fun k hk => at_rounds (g := fun k => impl_TurnWay.f k a b c d) (fun k => impl_TurnWay.mono _ _ _ _ k) hk hf.2⟩
end Go.Proofs.Ytafpehjedkplpaa.MFnExactTurnWay
