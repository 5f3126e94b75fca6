/- Plain words on lists and on what the laws' own helpers over lists of numbers answer. -/
import Derived.Test.YtkhaofalaikegaaFAx12
import Derived.Test.YtkhaofalaikegaaFAx16 -- home: laws_toIntS.f laws_eqIntS.f 
namespace Go.Proofs.Ytkhaofalaikegaa.MB
open Go.RowKit Go.Proofs.Ytkhaofalaikegaa.FA Go.Proofs.YtkhaofalaikegaaW.PrintWords Go.Proofs.YtkhaofalaikegaaW.PrintLast Go.Proofs.YtkhaofalaikegaaW.PrintMore

theorem wr {x : Int} (h0 : -4611686018427387904 ≤ x) (h1 : x ≤ 4611686018427387904) : wrap64 x = x := by unfold wrap64; omega
theorem up {i n : Nat} (h : i < n) (hn : n ≤ 4611686018427387903) : wrap64 ((i : Int) + 1) = ((i + 1 : Nat) : Int) := by rw [wr (by omega) (by omega)]; rfl
theorem rd_nat (l : List Int) (i : Nat) : rd l (i : Int) = l.getD i 0 := rfl
theorem getD_eq {α : Type} (l : List α) (i : Nat) (z : α) (h : i < l.length) : l[i]? = some (l.getD i z) := by
  rw [List.getD_eq_getElem?_getD, List.getElem?_eq_getElem h]; rfl
theorem set_next {α : Type} (l m : List α) (z : α) {i : Nat} (hl : m.length = l.length) (hi : i < l.length) (h : ∀ j, j < i → m[j]? = l[j]?) : ∀ j, j < i + 1 → (m.set i (l.getD i z))[j]? = l[j]? := by
  intro j hj
  rcases Nat.lt_or_ge j i with hji | hji
  · rw [List.getElem?_set_ne (by omega)]; exact h j hji
  · obtain rfl : j = i := by omega
    rw [List.getElem?_set_self (by omega)]; exact (getD_eq l j z hi).symm
theorem same_list {α : Type} (l m : List α) (hl : m.length = l.length) (h : ∀ j, j < l.length → m[j]? = l[j]?) : m = l := by
  apply List.ext_getElem?
  intro j
  rcases Nat.lt_or_ge j l.length with hj | hj
  · exact h j hj
  · rw [List.getElem?_eq_none (by omega), List.getElem?_eq_none (by omega)]
/-- toIntS copies. -/
theorem toIntS_l0 (l : List Int) (hn : l.length ≤ 4611686018427387903) : ∀ (d k i : Nat) (m : List Int), m.length = l.length → (∀ j, j < i → m[j]? = l[j]?) → i + d = l.length → d < k → laws_toIntS.l0 k l m (i : Int) = some l := by
  intro d
  induction d with
  | zero =>
    intro k i m hm h hi hk
    obtain ⟨k, rfl⟩ : ∃ q, k = q + 1 := ⟨k - 1, by omega⟩
    simp only [laws_toIntS.l0]
    rw [if_neg (by omega), same_list l m hm (fun j hj => h j (by omega))]
  | succ d ih =>
    intro k i m hm h hi hk
    obtain ⟨k, rfl⟩ : ∃ q, k = q + 1 := ⟨k - 1, by omega⟩
    simp only [laws_toIntS.l0]
    rw [if_pos (by omega), if_pos (by omega), if_pos (by omega), up (n := l.length) (by omega) hn, Int.toNat_natCast, rd_nat]
    exact ih k (i + 1) _ (by rw [List.length_set]; exact hm) (set_next l m 0 hm (by omega) h) (by omega) (by omega)
theorem toIntS_eq (l : List Int) (k : Nat) (hn : l.length ≤ 1048576) (hk : l.length < k) : laws_toIntS.f k l = some l := by
  unfold laws_toIntS.f
  rw [if_pos (by omega), if_pos (by omega), Int.toNat_natCast]
  exact toIntS_l0 l (by omega) l.length k 0 _ (by simp) (fun j hj => by omega) (by omega) hk
/-- eqIntS tells equal lists. -/
theorem eqIntS_l0 (l : List Int) (hn : l.length ≤ 4611686018427387903) : ∀ (d k i : Nat), i + d = l.length → d < k → laws_eqIntS.l0 k l l (i : Int) = some true := by
  intro d
  induction d with
  | zero =>
    intro k i hi hk
    obtain ⟨k, rfl⟩ : ∃ q, k = q + 1 := ⟨k - 1, by omega⟩
    simp only [laws_eqIntS.l0]
    rw [if_neg (by omega)]
  | succ d ih =>
    intro k i hi hk
    obtain ⟨k, rfl⟩ : ∃ q, k = q + 1 := ⟨k - 1, by omega⟩
    simp only [laws_eqIntS.l0]
    rw [if_pos (by omega), if_pos (by omega), if_pos (by omega), if_pos trivial, up (n := l.length) (by omega) hn]
    exact ih k (i + 1) (by omega) (by omega)
theorem eqIntS_self (l : List Int) (k : Nat) (hn : l.length ≤ 1048576) (hk : l.length < k) : laws_eqIntS.f k l l = some true := by
  unfold laws_eqIntS.f
  rw [if_pos rfl]
  exact eqIntS_l0 l (by omega) l.length k 0 (by omega) hk
end Go.Proofs.Ytkhaofalaikegaa.MB
