/- What marking a list of strings, and asking it again, answer; equal lists of strings. -/
import Derived.Test.YtopmmmggjohkeaaMB
import Derived.Test.YtopmmmggjohkeaaFAx22
import Derived.Test.YtopmmmggjohkeaaFAx23
import Derived.Test.YtopmmmggjohkeaaFAx24 -- home: laws_markText.f laws_markStringS.f laws_heldStringS.f laws_eqStringS.f
namespace Go.Proofs.Ytopmmmggjohkeaa.MB
open Go.RowKit Go.Proofs.Ytopmmmggjohkeaa.FA Go.Proofs.YtopmmmggjohkeaaW.PrintWords Go.Proofs.YtopmmmggjohkeaaW.PrintLast Go.Proofs.YtopmmmggjohkeaaW.PrintMore
theorem eqStringS_l0 (l : List ByteArray) (hn : l.length ≤ 4611686018427387903) : ∀ (d k i : Nat), i + d = l.length → d < k → laws_eqStringS.l0 k l l (i : Int) = some true := by
  intro d
  induction d with
  | zero =>
    intro k i hi hk
    obtain ⟨k, rfl⟩ : ∃ q, k = q + 1 := ⟨k - 1, by omega⟩
    simp only [laws_eqStringS.l0]
    rw [if_neg (by omega)]
  | succ d ih =>
    intro k i hi hk
    obtain ⟨k, rfl⟩ : ∃ q, k = q + 1 := ⟨k - 1, by omega⟩
    simp only [laws_eqStringS.l0]
    rw [if_pos (by omega), if_pos (by omega), if_pos (by omega), if_pos trivial, up (n := l.length) (by omega) hn]
    exact ih k (i + 1) (by omega) (by omega)
theorem eqStringS_self (l : List ByteArray) (k : Nat) (hn : l.length ≤ 1048576) (hk : l.length < k) : laws_eqStringS.f k l l = some true := by
  unfold laws_eqStringS.f
  rw [if_pos rfl]
  exact eqStringS_l0 l (by omega) l.length k 0 (by omega) hk
theorem sz_one (x : Int) : (strOfNums [x]).size = 1 := rfl
theorem markText_l0 : ∀ (n : Nat) (x : Int) (a : ByteArray), 0 ≤ x → x ≤ 4611686018427387903 → x < 10 ^ n → n ≤ 15 → a.size + n ≤ 1000 → ∃ t, ∀ k, n < k → laws_markText.l0 k x a = some t := by
  intro n
  induction n with
  | zero =>
    intro x a h0 hx h1 h2 h3
    refine ⟨(⟨#[109]⟩ : ByteArray) ++ a, fun k hk => ?_⟩
    obtain ⟨k, rfl⟩ : ∃ q, k = q + 1 := ⟨k - 1, by omega⟩
    simp only [Int.pow_zero] at h1
    simp only [laws_markText.l0]
    rw [if_neg (by omega), if_pos (by omega)]
  | succ n ih =>
    intro x a h0 hx h1 h2 h3
    by_cases hz : x = 0
    · subst hz
      refine ⟨(⟨#[109]⟩ : ByteArray) ++ a, fun k hk => ?_⟩
      obtain ⟨k, rfl⟩ : ∃ q, k = q + 1 := ⟨k - 1, by omega⟩
      simp only [laws_markText.l0]
      rw [if_neg (by omega), if_pos (by omega)]
    · have hp : (10 : Int) ^ (n + 1) = 10 * 10 ^ n := by rw [Int.pow_succ]; omega
      have ht : Int.tdiv x 10 = x / 10 := Int.tdiv_eq_ediv_of_nonneg h0
      have hw : wrap64 (Int.tdiv x 10) = x / 10 := by rw [ht, wr (by omega) (by omega)]
      obtain ⟨t, ht2⟩ := ih (x / 10) (strOfNums [(wrap64 (48 + (Int.tmod x 10))) % 256] ++ a) (by omega) (by omega) (by omega) (by omega) (by rw [ByteArray.size_append, sz_one]; omega)
      refine ⟨t, fun k hk => ?_⟩
      obtain ⟨k, rfl⟩ : ∃ q, k = q + 1 := ⟨k - 1, by omega⟩
      simp only [laws_markText.l0]
      rw [if_pos (by omega)]
      simp only [Option.bind_some]
      rw [if_pos (by rw [sz_one]; omega), hw]
      exact ht2 k (by omega)
/-- A mark's text. -/
theorem markText_some (x : Int) (h0 : 0 ≤ x) (h1 : x ≤ 2199023255552) : ∃ t, ∀ k, 15 < k → laws_markText.f k x = some t := by
  unfold laws_markText.f
  by_cases hz : x ≤ 0
  · exact ⟨_, fun k hk => by rw [if_pos hz]⟩
  · obtain ⟨t, ht⟩ := markText_l0 15 x ⟨#[]⟩ h0 (by omega) (Int.lt_of_le_of_lt h1 (by decide)) (by omega) (by decide)
    exact ⟨t, fun k hk => by rw [if_neg hz]; exact ht k hk⟩
theorem rdOf_nat {α : Type} (z : α) (l : List α) (i : Nat) : rdOf z l (i : Int) = l.getD i z := rfl
theorem rdOf_set_lt {α : Type} {z : α} {l : List α} {i j : Nat} {v : α} (h : j < i) : rdOf z (l.set i v) (j : Int) = rdOf z l (j : Int) := by
  rw [rdOf_nat, rdOf_nat, List.getD_eq_getElem?_getD, List.getD_eq_getElem?_getD, List.getElem?_set_ne (by omega)]
theorem rdOf_set_self {α : Type} {z : α} {l : List α} {i : Nat} {v : α} (h : i < l.length) : rdOf z (l.set i v) (i : Int) = v := by
  rw [rdOf_nat, List.getD_eq_getElem?_getD, List.getElem?_set_self h]; rfl
theorem markStringS_l0 (n : Nat) (hn : n ≤ 4611686018427387903) : ∀ (d k i : Nat) (x : Int) (l : List ByteArray), l.length = n → 0 ≤ x → (i : Int) ≤ x → x + d ≤ 2199023255552 → (∀ (j : Nat) q, j < i → 15 < q → laws_markText.f q (x - i + j) = some (rdOf ByteArray.empty l (j : Int))) → i + d = n → d + 20 < k →
    ∃ m : List ByteArray, laws_markStringS.l0 k l x (i : Int) = some (x + d, m) ∧ m.length = n ∧ ∀ (j : Nat) q, j < n → 15 < q → laws_markText.f q (x - i + j) = some (rdOf ByteArray.empty m (j : Int)) := by
  intro d
  induction d with
  | zero =>
    intro k i x l hl h0 hix h1 h hi hk
    obtain ⟨k, rfl⟩ : ∃ q, k = q + 1 := ⟨k - 1, by omega⟩
    refine ⟨l, ?_, hl, fun j q hj hq => h j q (by omega) hq⟩
    simp only [laws_markStringS.l0]
    rw [if_neg (by omega)]; simp
  | succ d ih =>
    intro k i x l hl h0 hix h1 h hi hk
    obtain ⟨k, rfl⟩ : ∃ q, k = q + 1 := ⟨k - 1, by omega⟩
    obtain ⟨t, ht⟩ := markText_some x h0 (by omega)
    obtain ⟨m, hm, hm2, hm3⟩ := ih k (i + 1) (x + 1) (l.set i t) (by rw [List.length_set]; exact hl) (by omega) (by omega) (by omega) (fun j q hj hq => by
      rcases Nat.lt_or_ge j i with hji | hji
      · rw [rdOf_set_lt hji, ← h j q hji hq]; congr 1; omega
      · obtain rfl : j = i := by omega
        rw [rdOf_set_self (by omega), ← ht q hq]; congr 1; omega) (by omega) (by omega)
    refine ⟨m, ?_, hm2, fun j q hj hq => by rw [← hm3 j q hj hq]; congr 1; omega⟩
    simp only [laws_markStringS.l0]
    rw [if_pos (by omega), ht k (by omega)]
    simp only [Option.bind_some]
    rw [if_pos (by omega), up (n := n) (by omega) (by omega), wr (x := x + 1) (by omega) (by omega), Int.toNat_natCast, hm]
    congr 2; omega
theorem markStringS_eq (l : List ByteArray) (k : Nat) (x : Int) (h0 : 0 ≤ x) (h1 : x + l.length ≤ 2199023255552) (hk : l.length + 20 < k) :
    ∃ m : List ByteArray, laws_markStringS.f k l x = some (x + l.length, m) ∧ m.length = l.length ∧ ∀ (j : Nat) q, j < l.length → 15 < q → laws_markText.f q (x + j) = some (rdOf ByteArray.empty m (j : Int)) := by
  obtain ⟨m, h2, h3, h4⟩ := markStringS_l0 l.length (by omega) l.length k 0 x l rfl h0 (by omega) h1 (fun j q hj => by omega) (by omega) hk
  exact ⟨m, h2, h3, fun j q hj hq => by rw [← h4 j q hj hq]; congr 1; omega⟩
theorem heldStringS_l0 (m : List ByteArray) (a : Int) (h0 : 0 ≤ a) (h1 : a + m.length ≤ 2199023255552) (h : ∀ (j : Nat) q, j < m.length → 15 < q → laws_markText.f q (a + j) = some (rdOf ByteArray.empty m (j : Int))) : ∀ (d k i : Nat), i + d = m.length → d + 20 < k →
    laws_heldStringS.l0 k m (a + i) (i : Int) = some (a + m.length) := by
  intro d
  induction d with
  | zero =>
    intro k i hi hk
    obtain ⟨k, rfl⟩ : ∃ q, k = q + 1 := ⟨k - 1, by omega⟩
    simp only [laws_heldStringS.l0]
    rw [if_neg (by omega)]; congr 1; omega
  | succ d ih =>
    intro k i hi hk
    obtain ⟨k, rfl⟩ : ∃ q, k = q + 1 := ⟨k - 1, by omega⟩
    simp only [laws_heldStringS.l0]
    rw [if_pos (by omega), if_pos (by omega), h i k (by omega) (by omega)]
    simp only [Option.bind_some, if_true]
    rw [up (n := m.length) (by omega) (by omega), wr (x := a + i + 1) (by omega) (by omega)]
    rw [show a + (i : Int) + 1 = a + ((i + 1 : Nat) : Int) from by omega]
    exact ih k (i + 1) (by omega) (by omega)
theorem heldStringS_eq (m : List ByteArray) (k : Nat) (a : Int) (h0 : 0 ≤ a) (h1 : a + m.length ≤ 2199023255552) (h : ∀ (j : Nat) q, j < m.length → 15 < q → laws_markText.f q (a + j) = some (rdOf ByteArray.empty m (j : Int))) (hk : m.length + 20 < k) : laws_heldStringS.f k m a = some (a + m.length) := by
  unfold laws_heldStringS.f
  have := heldStringS_l0 m a h0 h1 h m.length k 0 (by omega) hk
  simpa using this
end Go.Proofs.Ytopmmmggjohkeaa.MB
