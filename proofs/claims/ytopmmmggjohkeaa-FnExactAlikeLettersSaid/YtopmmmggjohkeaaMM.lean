/- What marking a list of numbers, and asking it again, answer. -/
import Derived.Test.YtopmmmggjohkeaaMB
import Derived.Test.YtopmmmggjohkeaaFAx7 -- home: laws_markIntS.f laws_heldIntS.f
namespace Go.Proofs.Ytopmmmggjohkeaa.MB
open Go.RowKit Go.Proofs.Ytopmmmggjohkeaa.FA Go.Proofs.YtopmmmggjohkeaaW.PrintWords Go.Proofs.YtopmmmggjohkeaaW.PrintLast Go.Proofs.YtopmmmggjohkeaaW.PrintMore
theorem rd_set_lt {l : List Int} {i j : Nat} {v : Int} (h : j < i) : rd (l.set i v) (j : Int) = rd l (j : Int) := by
  rw [rd_nat, rd_nat, List.getD_eq_getElem?_getD, List.getD_eq_getElem?_getD, List.getElem?_set_ne (by omega)]
theorem rd_set_self {l : List Int} {i : Nat} {v : Int} (h : i < l.length) : rd (l.set i v) (i : Int) = v := by
  rw [rd_nat, List.getD_eq_getElem?_getD, List.getElem?_set_self h]; rfl
theorem markIntS_l0 (n : Nat) (hn : n ≤ 4611686018427387903) : ∀ (d k i : Nat) (x : Int) (l : List Int), l.length = n → 0 ≤ x → x + d ≤ 2199023255552 → (∀ j : Nat, j < i → rd l (j : Int) = x - i + j) → i + d = n → d < k →
    ∃ m : List Int, laws_markIntS.l0 k l x (i : Int) = some (x + d, m) ∧ m.length = n ∧ ∀ j : Nat, j < n → rd m (j : Int) = x - i + j := by
  intro d
  induction d with
  | zero =>
    intro k i x l hl h0 h1 h hi hk
    obtain ⟨k, rfl⟩ : ∃ q, k = q + 1 := ⟨k - 1, by omega⟩
    refine ⟨l, ?_, hl, fun j hj => h j (by omega)⟩
    simp only [laws_markIntS.l0]
    rw [if_neg (by omega)]; simp
  | succ d ih =>
    intro k i x l hl h0 h1 h hi hk
    obtain ⟨k, rfl⟩ : ∃ q, k = q + 1 := ⟨k - 1, by omega⟩
    obtain ⟨m, hm, hm2, hm3⟩ := ih k (i + 1) (x + 1) (l.set i x) (by rw [List.length_set]; exact hl) (by omega) (by omega) (fun j hj => by
      rcases Nat.lt_or_ge j i with hji | hji
      · rw [rd_set_lt hji, h j hji]; omega
      · obtain rfl : j = i := by omega
        rw [rd_set_self (by omega)]; omega) (by omega) (by omega)
    refine ⟨m, ?_, hm2, fun j hj => by rw [hm3 j hj]; omega⟩
    simp only [laws_markIntS.l0]
    rw [if_pos (by omega), if_pos (by omega), up (n := n) (by omega) (by omega), wr (x := x + 1) (by omega) (by omega), Int.toNat_natCast, hm]
    congr 2; omega
/-- Marks are laid one behind the other. -/
theorem markIntS_eq (l : List Int) (k : Nat) (x : Int) (h0 : 0 ≤ x) (h1 : x + l.length ≤ 2199023255552) (hk : l.length < k) :
    ∃ m : List Int, laws_markIntS.f k l x = some (x + l.length, m) ∧ m.length = l.length ∧ ∀ j : Nat, j < l.length → rd m (j : Int) = x + j := by
  obtain ⟨m, h2, h3, h4⟩ := markIntS_l0 l.length (by omega) l.length k 0 x l rfl h0 h1 (fun j hj => by omega) (by omega) hk
  exact ⟨m, h2, h3, fun j hj => by rw [h4 j hj]; omega⟩
theorem heldIntS_l0 (m : List Int) (a : Int) (h0 : 0 ≤ a) (h1 : a + m.length ≤ 2199023255552) (h : ∀ j : Nat, j < m.length → rd m (j : Int) = a + j) : ∀ (d k i : Nat), i + d = m.length → d < k →
    laws_heldIntS.l0 k m (a + i) (i : Int) = some (a + m.length) := by
  intro d
  induction d with
  | zero =>
    intro k i hi hk
    obtain ⟨k, rfl⟩ : ∃ q, k = q + 1 := ⟨k - 1, by omega⟩
    simp only [laws_heldIntS.l0]
    rw [if_neg (by omega)]; congr 1; omega
  | succ d ih =>
    intro k i hi hk
    obtain ⟨k, rfl⟩ : ∃ q, k = q + 1 := ⟨k - 1, by omega⟩
    simp only [laws_heldIntS.l0]
    rw [if_pos (by omega), if_pos (by omega), if_pos (h i (by omega)), up (n := m.length) (by omega) (by omega), wr (x := a + i + 1) (by omega) (by omega)]
    rw [show a + (i : Int) + 1 = a + ((i + 1 : Nat) : Int) from by omega]
    exact ih k (i + 1) (by omega) (by omega)
theorem heldIntS_eq (m : List Int) (k : Nat) (a : Int) (h0 : 0 ≤ a) (h1 : a + m.length ≤ 2199023255552) (h : ∀ j : Nat, j < m.length → rd m (j : Int) = a + j) (hk : m.length < k) : laws_heldIntS.f k m a = some (a + m.length) := by
  unfold laws_heldIntS.f
  have := heldIntS_l0 m a h0 h1 h m.length k 0 (by omega) hk
  simpa using this
end Go.Proofs.Ytopmmmggjohkeaa.MB
