/- The words that the plain law behind FnExactNeedlessConstraints needs. -/
import Derived.Test.YtkhaofalaikegaaFEx2
import Derived.Test.YtkhaofalaikegaaFEx3
import Derived.Test.YtkhaofalaikegaaFEx4
import Derived.Test.YtkhaofalaikegaaFEx5
import Derived.Test.YtkhaofalaikegaaFEx6
import Derived.Test.YtkhaofalaikegaaFEx7
import Derived.Test.YtkhaofalaikegaaFEx8
import Derived.Test.YtkhaofalaikegaaFEx9
import Derived.Test.YtkhaofalaikegaaFEx10
import Derived.Test.YtkhaofalaikegaaFEx11
import Derived.Test.YtkhaofalaikegaaFEx12
import Derived.Test.YtkhaofalaikegaaFEx13 -- home: impl_Constraint_120.f impl_Constraint_90.f impl_IsConstraint.f impl_NeedlessConstraints.f impl_allOf_Constraint.f impl_areConstraints.f impl_needlessAny.f laws_eqConstraint.f laws_eqConstraintS.f laws_eqIntS.f laws_heldIntS.f laws_markConstraintS.f laws_markIntS.f laws_toConstraint.f laws_toConstraintS.f spec_NeedlessConstraints.f spec_l1In.f spec_ruAll.f spec_ruGood.f spec_ruImplies.f spec_ruMost.f
namespace Go.Proofs.Ytkhaofalaikegaa.MFnExactNeedlessConstraints
open Go.RowKit Go.Proofs.Ytkhaofalaikegaa.FE Go.Proofs.YtkhaofalaikegaaW.PrintWords Go.Proofs.YtkhaofalaikegaaW.PrintLast Go.Proofs.YtkhaofalaikegaaW.PrintMore
set_option linter.unusedVariables false

theorem wr {x : Int} (h0 : -4611686018427387904 ≤ x) (h1 : x ≤ 4611686018427387904) : wrap64 x = x := by unfold wrap64; omega
theorem up {i n : Nat} (h : i < n) (hn : n ≤ 4611686018427387903) : wrap64 ((i : Int) + 1) = ((i + 1 : Nat) : Int) := by rw [wr (by omega) (by omega)]; rfl
theorem rd_nat (l : List Int) (i : Nat) : rd l (i : Int) = l.getD i 0 := rfl
/-- eqIntS tells equal lists. -/
theorem eqIntS_l0 (l : List Int) (hn : l.length ≤ 4611686018427387903) : ∀ (d k i : Nat), i + d = l.length → d < k → laws_eqIntS.l0 k l l (i : Int) = some true := by
  intro d
  induction d with
  | zero =>
    intro k i hi hk
    obtain ⟨k, rfl⟩ : ∃ q, k = q + 1 := ⟨k - 1, by omega⟩
    simp only [laws_eqIntS.l0]
    rw [if_neg (by omega)]
  | succ d ih =>
    intro k i hi hk
    obtain ⟨k, rfl⟩ : ∃ q, k = q + 1 := ⟨k - 1, by omega⟩
    simp only [laws_eqIntS.l0]
    rw [if_pos (by omega), if_pos (by omega), if_pos (by omega), if_pos trivial, up (n := l.length) (by omega) hn]
    exact ih k (i + 1) (by omega) (by omega)
theorem eqIntS_self (l : List Int) (k : Nat) (hn : l.length ≤ 1048576) (hk : l.length < k) : laws_eqIntS.f k l l = some true := by
  unfold laws_eqIntS.f
  rw [if_pos rfl]
  exact eqIntS_l0 l (by omega) l.length k 0 (by omega) hk
theorem rd_set_lt {l : List Int} {i j : Nat} {v : Int} (h : j < i) : rd (l.set i v) (j : Int) = rd l (j : Int) := by
  rw [rd_nat, rd_nat, List.getD_eq_getElem?_getD, List.getD_eq_getElem?_getD, List.getElem?_set_ne (by omega)]
theorem rd_set_self {l : List Int} {i : Nat} {v : Int} (h : i < l.length) : rd (l.set i v) (i : Int) = v := by
  rw [rd_nat, List.getD_eq_getElem?_getD, List.getElem?_set_self h]; rfl
theorem markIntS_l0 (n : Nat) (hn : n ≤ 4611686018427387903) : ∀ (d k i : Nat) (x : Int) (l : List Int), l.length = n → 0 ≤ x → x + d ≤ 2199023255552 → (∀ j : Nat, j < i → rd l (j : Int) = x - i + j) → i + d = n → d < k →
    ∃ m : List Int, laws_markIntS.l0 k l x (i : Int) = some (x + d, m) ∧ m.length = n ∧ ∀ j : Nat, j < n → rd m (j : Int) = x - i + j := by
  intro d
  induction d with
  | zero =>
    intro k i x l hl h0 h1 h hi hk
    obtain ⟨k, rfl⟩ : ∃ q, k = q + 1 := ⟨k - 1, by omega⟩
    refine ⟨l, ?_, hl, fun j hj => h j (by omega)⟩
    simp only [laws_markIntS.l0]
    rw [if_neg (by omega)]; simp
  | succ d ih =>
    intro k i x l hl h0 h1 h hi hk
    obtain ⟨k, rfl⟩ : ∃ q, k = q + 1 := ⟨k - 1, by omega⟩
    obtain ⟨m, hm, hm2, hm3⟩ := ih k (i + 1) (x + 1) (l.set i x) (by rw [List.length_set]; exact hl) (by omega) (by omega) (fun j hj => by
      rcases Nat.lt_or_ge j i with hji | hji
      · rw [rd_set_lt hji, h j hji]; omega
      · obtain rfl : j = i := by omega
        rw [rd_set_self (by omega)]; omega) (by omega) (by omega)
    refine ⟨m, ?_, hm2, fun j hj => by rw [hm3 j hj]; omega⟩
    simp only [laws_markIntS.l0]
    rw [if_pos (by omega), if_pos (by omega), up (n := n) (by omega) (by omega), wr (x := x + 1) (by omega) (by omega), Int.toNat_natCast, hm]
    congr 2; omega
/-- Marks are laid one behind the other. -/
theorem markIntS_eq (l : List Int) (k : Nat) (x : Int) (h0 : 0 ≤ x) (h1 : x + l.length ≤ 2199023255552) (hk : l.length < k) :
    ∃ m : List Int, laws_markIntS.f k l x = some (x + l.length, m) ∧ m.length = l.length ∧ ∀ j : Nat, j < l.length → rd m (j : Int) = x + j := by
  obtain ⟨m, h2, h3, h4⟩ := markIntS_l0 l.length (by omega) l.length k 0 x l rfl h0 h1 (fun j hj => by omega) (by omega) hk
  exact ⟨m, h2, h3, fun j hj => by rw [h4 j hj]; omega⟩
theorem heldIntS_l0 (m : List Int) (a : Int) (h0 : 0 ≤ a) (h1 : a + m.length ≤ 2199023255552) (h : ∀ j : Nat, j < m.length → rd m (j : Int) = a + j) : ∀ (d k i : Nat), i + d = m.length → d < k →
    laws_heldIntS.l0 k m (a + i) (i : Int) = some (a + m.length) := by
  intro d
  induction d with
  | zero =>
    intro k i hi hk
    obtain ⟨k, rfl⟩ : ∃ q, k = q + 1 := ⟨k - 1, by omega⟩
    simp only [laws_heldIntS.l0]
    rw [if_neg (by omega)]; congr 1; omega
  | succ d ih =>
    intro k i hi hk
    obtain ⟨k, rfl⟩ : ∃ q, k = q + 1 := ⟨k - 1, by omega⟩
    simp only [laws_heldIntS.l0]
    rw [if_pos (by omega), if_pos (by omega), if_pos (h i (by omega)), up (n := m.length) (by omega) (by omega), wr (x := a + i + 1) (by omega) (by omega)]
    rw [show a + (i : Int) + 1 = a + ((i + 1 : Nat) : Int) from by omega]
    exact ih k (i + 1) (by omega) (by omega)
theorem heldIntS_eq (m : List Int) (k : Nat) (a : Int) (h0 : 0 ≤ a) (h1 : a + m.length ≤ 2199023255552) (h : ∀ j : Nat, j < m.length → rd m (j : Int) = a + j) (hk : m.length < k) : laws_heldIntS.f k m a = some (a + m.length) := by
  unfold laws_heldIntS.f
  have := heldIntS_l0 m a h0 h1 h m.length k 0 (by omega) hk
  simpa using this
theorem wq {x : Int} (h0 : -4611686018427387904 ≤ x) (h1 : x ≤ 4611686018427387904) : wrap64 x = x := by unfold wrap64; omega
theorem wup {i n : Nat} (h : i < n) (hn : n ≤ 1048576) : wrap64 ((i : Int) + 1) = ((i + 1 : Nat) : Int) := by rw [wq (by omega) (by omega)]; rfl
theorem in_some (x lo hi : Int) : spec_l1In.f x lo hi = some (decide (lo ≤ x) && decide (x ≤ hi)) := by
  unfold spec_l1In.f
  by_cases h : x ≥ lo
  · rw [if_pos h, decide_eq_true h]; rfl
  · rw [if_neg h, decide_eq_false h]; rfl
/-- Both tell whether this is a constraint. -/
theorem con_same (a b : Int) : ∃ q, spec_ruGood.f a b = some q ∧ impl_IsConstraint.f a b = some q := by
  unfold spec_ruGood.f impl_IsConstraint.f
  simp only [in_some, Option.bind_some]
  by_cases h : 0 ≤ a ∧ a ≤ 4
  · have hc : a = 0 ∨ a = 1 ∨ a = 2 ∨ a = 3 ∨ a = 4 := by omega
    rcases hc with rfl | rfl | rfl | rfl | rfl <;> simp only [spec_ruMost.f, impl_IsConstraint.most] <;> simp [rd]
    all_goals (by_cases g : 0 ≤ b <;> simp [g] <;> split <;> simp [*])
  · simp [h]
/-- Is this a constraint? -/
def good (x : S116) : Bool := spec_ruGood.f x.f0 x.f1 == some true
theorem good_spec (x : S116) : spec_ruGood.f x.f0 x.f1 = some (good x) := by
  obtain ⟨q, h, -⟩ := con_same x.f0 x.f1
  unfold good; rw [h]; cases q <;> rfl
theorem good_impl (x : S116) : impl_IsConstraint.f x.f0 x.f1 = some (good x) := by
  obtain ⟨q, h, h2⟩ := con_same x.f0 x.f1
  unfold good; rw [h, h2]; cases q <;> rfl
theorem rd_at (l : List S116) {i : Nat} (h : i < l.length) : rd_T116 l (i : Int) = l[i] := by
  unfold rd_T116
  rw [Int.toNat_natCast, List.getD_eq_getElem?_getD, List.getElem?_eq_getElem h]
  rfl
/-- Does it hold for one of so many numbers, from one on? -/
def anyFrom (P : Nat → Bool) : Nat → Nat → Bool
  | 0, _ => false
  | d + 1, j => P j || anyFrom P d (j + 1)
theorem anyFrom_iff (P : Nat → Bool) : ∀ d j, anyFrom P d j = true ↔ ∃ q, j ≤ q ∧ q < j + d ∧ P q = true
  | 0, j => by simp [anyFrom]; omega
  | d + 1, j => by
    rw [anyFrom, Bool.or_eq_true, anyFrom_iff P d (j + 1)]
    constructor
    · rintro (h | ⟨q, h1, h2, h3⟩)
      · exact ⟨j, by omega, by omega, h⟩
      · exact ⟨q, by omega, by omega, h3⟩
    · rintro ⟨q, h1, h2, h3⟩
      by_cases e : q = j
      · subst e; exact .inl h3
      · exact .inr ⟨q, by omega, by omega, h3⟩
theorem all_l0 (l : List S116) (hn : l.length ≤ 1048576) : ∀ (d k j : Nat), j + d = l.length → d < k → spec_ruAll.l0 k l l (l.length : Int) (j : Int) = some (!(anyFrom (fun q => !good (rd_T116 l (q : Int))) d j) && decide (l.length ≤ 10)) := by
  intro d
  induction d with
  | zero =>
    intro k j hj hk
    obtain ⟨k, rfl⟩ : ∃ q, k = q + 1 := ⟨k - 1, by omega⟩
    rw [spec_ruAll.l0, if_neg (by omega)]
    simp [anyFrom]
    omega
  | succ d ih =>
    intro k j hj hk
    obtain ⟨k, rfl⟩ : ∃ q, k = q + 1 := ⟨k - 1, by omega⟩
    rw [spec_ruAll.l0, if_pos (by omega), if_pos (by omega), if_pos (by omega), good_spec, Option.bind_some, wup (show j < l.length by omega) hn, ih k (j + 1) (by omega) (by omega), anyFrom]
    cases good (rd_T116 l (j : Int)) <;> simp
theorem all_same (l : List S116) (k : Nat) (hn : l.length ≤ 1048576) (hk : l.length < k) : ∃ b, spec_ruAll.f k l = some b ∧ impl_areConstraints.f l = some b ∧ (b = true → l.length ≤ 10) := by
  refine ⟨l.all good && decide (l.length ≤ 10), ?_, ?_, by simp⟩
  · unfold spec_ruAll.f
    have h := all_l0 l hn l.length k 0 (by omega) hk
    rw [show spec_ruAll.l0 k l l (l.length : Int) 0 = some (!(anyFrom (fun q => !good (rd_T116 l (q : Int))) l.length 0) && decide (l.length ≤ 10)) from h]
    congr 2
    rw [Bool.eq_iff_iff, List.all_eq_true, Bool.not_eq_true', ← Bool.not_eq_true, anyFrom_iff]
    constructor
    · intro h1 x hx
      obtain ⟨i, hi, rfl⟩ := List.getElem_of_mem hx
      cases hg : good l[i]
      · exact absurd ⟨i, by omega, by omega, by rw [rd_at l hi, hg]; rfl⟩ h1
      · rfl
    · rintro h1 ⟨q, -, h2, h3⟩
      rw [rd_at l (by omega), h1 _ (List.getElem_mem _)] at h3
      cases h3
  · unfold impl_areConstraints.f impl_allOf_Constraint.f
    have h1 : (l.all fun x => (impl_IsConstraint.f x.f0 x.f1).isSome) = true := by
      rw [List.all_eq_true]; intro x _; rw [good_impl]; rfl
    have h2 : impl_allOf_Constraint.p = good := by
      funext x; unfold impl_allOf_Constraint.p; rw [good_impl]; cases good x <;> rfl
    rw [if_pos h1, h2]
    by_cases h : l.length ≤ 10
    · rw [if_pos (by omega), decide_eq_true h, Option.bind_some, Bool.and_true]
    · rw [if_neg (by omega), decide_eq_false h, Bool.and_false]
theorem implies_eq (k : Nat) (hk : 0 < k) (y : S116) (x0 x1 : Int) : spec_ruImplies.f k y.f0 y.f1 x0 x1 = some (impl_needlessAny.p x0 x1 y) := by
  obtain ⟨k, rfl⟩ : ∃ q, k = q + 1 := ⟨k - 1, by omega⟩
  unfold spec_ruImplies.f impl_needlessAny.p
  by_cases a : y.f0 = x0
  · subst a
    simp only [if_true, spec_ruImplies.j0]
    by_cases b : y.f0 = 0
    · simp [b]
    · by_cases c : y.f0 = 4
      · simp [c]
      · by_cases e : y.f0 = 2
        · simp [e]
        · simp [b, c, e]
  · rw [if_neg a, if_neg a]
/-- Are they the same? -/
def eqc (x0 x1 : Int) (y : S116) : Bool := x0 == y.f0 && (x1 == y.f1)
theorem inner (l : List S116) (acc : List Int) (i : Nat) (x0 x1 : Int) (hn : l.length ≤ 1048576) (k : Nat) (hk : 0 < k) : ∀ (e j : Nat) (b : Bool), j + e = l.length →
    spec_NeedlessConstraints.l1 (k + e + 1) l acc (i : Int) b l (l.length : Int) (i : Int) l (l.length : Int) (j : Int) x0 x1 = if (b || anyFrom (fun q => impl_needlessAny.p x0 x1 (rd_T116 l (q : Int)) || (decide (q < i) && eqc x0 x1 (rd_T116 l (q : Int)))) e j) = true then (if acc.length < 17592186044416 then spec_NeedlessConstraints.l0 k l (acc ++ [(i : Int)]) l (l.length : Int) (wrap64 ((i : Int) + 1)) else none) else spec_NeedlessConstraints.l0 k l acc l (l.length : Int) (wrap64 ((i : Int) + 1)) := by
  intro e
  induction e with
  | zero =>
    intro j b hj
    rw [spec_NeedlessConstraints.l1, if_neg (by omega)]
    simp [anyFrom]
  | succ e ih =>
    intro j b hj
    rw [show k + (e + 1) + 1 = (k + e + 1) + 1 from by omega, spec_NeedlessConstraints.l1, if_pos (by omega), if_pos (by omega), if_pos (by omega), wup (show j < l.length by omega) hn, implies_eq _ (by omega), ih (j + 1) true (by omega), ih (j + 1) _ (by omega), ih (j + 1) false (by omega), anyFrom]
    cases b
    · cases hp : impl_needlessAny.p x0 x1 (rd_T116 l (j : Int))
      · by_cases hji : j < i
        · simp [hji, eqc]
        · simp [hji]
      · simp
    · simp
theorem index_l0 (xs : List S116) (x0 x1 : Int) (hn : xs.length ≤ 1048576) : ∀ (d k j : Nat), j + d = xs.length → d < k → ∃ t, impl_Constraint_120.l0 k xs (xs.length : Int) (j : Int) x0 x1 = some t ∧ decide (t ≥ 0) = anyFrom (fun q => eqc x0 x1 (rd_T116 xs (q : Int))) d j := by
  intro d
  induction d with
  | zero =>
    intro k j hj hk
    obtain ⟨k, rfl⟩ : ∃ q, k = q + 1 := ⟨k - 1, by omega⟩
    rw [impl_Constraint_120.l0, if_neg (by omega)]
    exact ⟨_, rfl, rfl⟩
  | succ d ih =>
    intro k j hj hk
    obtain ⟨k, rfl⟩ : ∃ q, k = q + 1 := ⟨k - 1, by omega⟩
    obtain ⟨t, h1, h2⟩ := ih k (j + 1) (by omega) (by omega)
    rw [impl_Constraint_120.l0, if_pos (by omega), if_pos (by omega), if_pos (by omega), wup (show j < xs.length by omega) hn, anyFrom]
    by_cases he : (x0 == (rd_T116 xs (j : Int)).f0 && (x1 == (rd_T116 xs (j : Int)).f1)) = true
    · rw [if_pos he]
      refine ⟨_, rfl, ?_⟩
      rw [show eqc x0 x1 (rd_T116 xs (j : Int)) = true from he, decide_eq_true (by omega)]; rfl
    · rw [if_neg he]
      refine ⟨t, h1, ?_⟩
      rw [show eqc x0 x1 (rd_T116 xs (j : Int)) = false from Bool.eq_false_iff.2 he, h2]; rfl
theorem contains_eq (l : List S116) (i : Nat) (x0 x1 : Int) (k : Nat) (hi : i ≤ l.length) (hn : l.length ≤ 1048576) (hk : l.length < k) : impl_Constraint_90.f k (l.take i) x0 x1 = some (anyFrom (fun q => eqc x0 x1 (rd_T116 l (q : Int))) i 0) := by
  have hl : (l.take i).length = i := by rw [List.length_take]; omega
  obtain ⟨t, h1, h2⟩ := index_l0 (l.take i) x0 x1 (by omega) (l.take i).length k 0 (by omega) (by omega)
  unfold impl_Constraint_90.f impl_Constraint_120.f
  rw [show impl_Constraint_120.l0 k (l.take i) ((l.take i).length : Int) 0 x0 x1 = some t from h1, Option.bind_some, h2, hl]
  congr 1
  rw [Bool.eq_iff_iff, anyFrom_iff, anyFrom_iff]
  constructor
  · rintro ⟨q, h3, h4, h5⟩
    exact ⟨q, h3, h4, by rw [rd_at l (by omega)]; rw [rd_at (l.take i) (by omega)] at h5; simpa using h5⟩
  · rintro ⟨q, h3, h4, h5⟩
    exact ⟨q, h3, h4, by rw [rd_at (l.take i) (by omega)]; rw [rd_at l (by omega)] at h5; simpa using h5⟩
theorem any_eq (l : List S116) (x0 x1 : Int) (i : Nat) (hi : i ≤ l.length) : anyFrom (fun q => impl_needlessAny.p x0 x1 (rd_T116 l (q : Int)) || (decide (q < i) && eqc x0 x1 (rd_T116 l (q : Int)))) l.length 0 = (anyFrom (fun q => eqc x0 x1 (rd_T116 l (q : Int))) i 0 || l.any (impl_needlessAny.p x0 x1)) := by
  rw [Bool.eq_iff_iff, Bool.or_eq_true, anyFrom_iff, anyFrom_iff, List.any_eq_true]
  constructor
  · rintro ⟨q, h1, h2, h3⟩
    rw [Bool.or_eq_true, Bool.and_eq_true] at h3
    rcases h3 with h3 | ⟨h3, h4⟩
    · exact .inr ⟨l[q]'(by omega), List.getElem_mem _, by rwa [rd_at l (by omega)] at h3⟩
    · exact .inl ⟨q, h1, by have := of_decide_eq_true h3; omega, h4⟩
  · rintro (⟨q, h1, h2, h3⟩ | ⟨x, hx, hp⟩)
    · exact ⟨q, h1, by omega, by rw [h3, decide_eq_true (by omega : q < i)]; simp⟩
    · obtain ⟨q, hq, rfl⟩ := List.getElem_of_mem hx
      exact ⟨q, by omega, by omega, by rw [rd_at l hq, hp]; rfl⟩
theorem outer (l : List S116) (hn : l.length ≤ 10) : ∀ (d i : Nat) (acc : List Int) (k : Nat), i + d = l.length → d * 20 + 20 ≤ k → acc.length ≤ i → ∃ r, r.length ≤ 10 ∧ spec_NeedlessConstraints.l0 k l acc l (l.length : Int) (i : Int) = some (r, true) ∧ impl_NeedlessConstraints.l0 k l acc l (l.length : Int) (i : Int) = some (r, true) := by
  intro d
  induction d with
  | zero =>
    intro i acc k hi hk ha
    obtain ⟨k, rfl⟩ : ∃ q, k = q + 1 := ⟨k - 1, by omega⟩
    rw [spec_NeedlessConstraints.l0, impl_NeedlessConstraints.l0, if_neg (by omega), if_neg (by omega)]
    exact ⟨acc, by omega, rfl, rfl⟩
  | succ d ih =>
    intro i acc k hi hk ha
    obtain ⟨m, rfl⟩ : ∃ m, k = (m + l.length + 1) + 1 := ⟨k - l.length - 2, by omega⟩
    have hal : acc.length < 17592186044416 := by omega
    have e1 : (i : Int) < (l.length : Int) := by omega
    have e2 : (0 : Int) ≤ (i : Int) := by omega
    have e3 : (i : Int) ≤ (l.length : Int) := by omega
    have hin := inner l acc i (rd_T116 l (i : Int)).f0 (rd_T116 l (i : Int)).f1 (by omega) m (by omega) l.length 0 false (by omega)
    rw [spec_NeedlessConstraints.l0, impl_NeedlessConstraints.l0, if_pos e1, if_pos e1, if_pos e2, if_pos e2, if_pos e1, if_pos e1, if_pos e3, Int.toNat_natCast, contains_eq l i _ _ _ (by omega) (by omega) (by omega), Option.bind_some]
    rw [show spec_NeedlessConstraints.l1 (m + l.length + 1) l acc (i : Int) false l (l.length : Int) (i : Int) l (l.length : Int) 0 (rd_T116 l (i : Int)).f0 (rd_T116 l (i : Int)).f1 = _ from hin, Bool.false_or, any_eq l _ _ i (by omega), wup (show i < l.length by omega) (by omega)]
    unfold impl_needlessAny.f
    rw [Option.bind_some, if_pos hal]
    have lift : ∀ acc', acc'.length ≤ i + 1 → ∃ r, r.length ≤ 10 ∧ spec_NeedlessConstraints.l0 m l acc' l (l.length : Int) ((i + 1 : Nat) : Int) = some (r, true) ∧ impl_NeedlessConstraints.l0 (m + l.length + 1) l acc' l (l.length : Int) ((i + 1 : Nat) : Int) = some (r, true) := by
      intro acc' ha'
      obtain ⟨r, hr, h1, h2⟩ := ih (i + 1) acc' m (by omega) (by omega) ha'
      exact ⟨r, hr, h1, at_rounds (g := fun k => impl_NeedlessConstraints.l0 k l acc' l (l.length : Int) ((i + 1 : Nat) : Int)) (fun k => impl_NeedlessConstraints.mono_l k _ _ _ _ _) (show m ≤ m + l.length + 1 by omega) h2⟩
    cases hc : anyFrom (fun q => eqc (rd_T116 l (i : Int)).f0 (rd_T116 l (i : Int)).f1 (rd_T116 l (q : Int))) i 0
    · cases hp : l.any (impl_needlessAny.p (rd_T116 l (i : Int)).f0 (rd_T116 l (i : Int)).f1)
      · exact lift acc (by omega)
      · have h := lift (acc ++ [(i : Int)]) (by simp; omega)
        simpa only [hal, if_true, if_false, Bool.false_or, Bool.true_or, Bool.false_eq_true, Option.bind_some] using h
    · have h := lift (acc ++ [(i : Int)]) (by simp; omega)
      simpa only [hal, if_true, if_false, Bool.false_or, Bool.true_or, Bool.false_eq_true, Option.bind_some] using h
/-- Both tell the same needless constraints. -/
theorem needless_same (l : List S116) (k : Nat) (hn : l.length ≤ 1048576) (hk : l.length + 300 < k) : ∃ r b, r.length ≤ 10 ∧ spec_NeedlessConstraints.f k l = some (r, b) ∧ impl_NeedlessConstraints.f k l = some (r, b) := by
  obtain ⟨b, h1, h2, h3⟩ := all_same l k hn (by omega)
  unfold spec_NeedlessConstraints.f impl_NeedlessConstraints.f
  rw [h1, h2, Option.bind_some, Option.bind_some]
  cases b
  · exact ⟨[], false, by simp, rfl, rfl⟩
  · have hl := h3 rfl
    obtain ⟨r, hr, h4, h5⟩ := outer l hl l.length 0 [] k (by omega) (by omega) (by simp)
    exact ⟨r, true, hr, h4, h5⟩
def cvc (x : S119) : S116 := ⟨x.f0, x.f1⟩
theorem rdC119 (pre : List S119) (x : S119) (rest : List S119) : rd_T119 (pre ++ x :: rest) (pre.length : Int) = x := by
  unfold rd_T119; simp
theorem rdC116 (pre : List S116) (x : S116) (rest : List S116) : rd_T116 (pre ++ x :: rest) (pre.length : Int) = x := by
  unfold rd_T116; simp
theorem setC116 (pre : List S116) (x v : S116) (rest : List S116) : (pre ++ x :: rest).set (pre.length : Int).toNat v = pre ++ v :: rest := by
  simp
theorem toConS_l0 (L : List S119) (hL : L.length ≤ 1048576) : ∀ (rest pre : List S119) (k : Nat), pre ++ rest = L → rest.length < k →
    laws_toConstraintS.l0 k L (pre.map cvc ++ List.replicate rest.length z116) (pre.length : Int) = some (L.map cvc) := by
  intro rest
  induction rest with
  | nil =>
    intro pre k h hk
    obtain ⟨k, rfl⟩ : ∃ q, k = q + 1 := ⟨k - 1, by omega⟩
    have c1 : ¬ (pre.length : Int) < (L.length : Int) := by rw [← h]; simp
    simp only [laws_toConstraintS.l0, c1, if_false]
    rw [← h]; simp
  | cons x xs ih =>
    intro pre k h hk
    obtain ⟨k, rfl⟩ : ∃ q, k = q + 1 := ⟨k - 1, by omega⟩
    rw [List.length_cons] at hk
    have hpl : pre.length < L.length := by rw [← h]; simp
    have c1 : (pre.length : Int) < (L.length : Int) := by omega
    have c2 : (0 : Int) ≤ (pre.length : Int) := by omega
    have hr : rd_T119 L (pre.length : Int) = x := by rw [← h]; exact rdC119 pre x xs
    have hl : (pre.map cvc ++ List.replicate (xs.length + 1) z116).length = L.length := by rw [← h]; simp
    have c3 : (pre.length : Int) < ((pre.map cvc ++ List.replicate (xs.length + 1) z116).length : Int) := by rw [hl]; exact c1
    have hw : wrap64 ((pre.length : Int) + 1) = ((pre ++ [x]).length : Int) := by rw [wq (by omega) (by omega)]; simp
    have hs : (pre.map cvc ++ List.replicate (xs.length + 1) z116).set (pre.length : Int).toNat (cvc x) = (pre ++ [x]).map cvc ++ List.replicate xs.length z116 := by
      rw [Int.toNat_natCast, List.set_append_right _ _ (by simp)]
      simp [List.replicate_succ]
    simp only [laws_toConstraintS.l0, List.length_cons, c1, c2, c3, if_true, hr, laws_toConstraint.f, Option.bind_some, hw]
    rw [show (⟨x.f0, x.f1⟩ : S116) = cvc x from rfl, hs]
    exact ih (pre ++ [x]) k (by rw [← h]; simp) (by omega)
theorem toConS_eq (L : List S119) (k : Nat) (hL : L.length ≤ 1048576) (hk : L.length < k) : laws_toConstraintS.f k L = some (L.map cvc) := by
  unfold laws_toConstraintS.f
  rw [if_pos (by omega), if_pos (by omega), Int.toNat_natCast]
  have h := toConS_l0 L hL L [] k (by simp) hk
  simpa using h
theorem eqCon_self (a b : Int) : laws_eqConstraint.f a b a b = some true := by
  unfold laws_eqConstraint.f; simp
theorem eqConS_l0 (l : List S116) (hn : l.length ≤ 1048576) : ∀ (d k i : Nat), i + d = l.length → d < k → laws_eqConstraintS.l0 k l l (i : Int) = some true := by
  intro d
  induction d with
  | zero =>
    intro k i hi hk
    obtain ⟨k, rfl⟩ : ∃ q, k = q + 1 := ⟨k - 1, by omega⟩
    have c1 : ¬ (i : Int) < (l.length : Int) := by omega
    simp only [laws_eqConstraintS.l0, c1, if_false]
  | succ d ih =>
    intro k i hi hk
    obtain ⟨k, rfl⟩ : ∃ q, k = q + 1 := ⟨k - 1, by omega⟩
    have c1 : (i : Int) < (l.length : Int) := by omega
    have c2 : (0 : Int) ≤ (i : Int) := by omega
    simp only [laws_eqConstraintS.l0, c1, c2, if_true, eqCon_self, Option.bind_some, wup (show i < l.length by omega) hn]
    exact ih k (i + 1) (by omega) (by omega)
theorem eqConS_self (l : List S116) (k : Nat) (hn : l.length ≤ 1048576) (hk : l.length < k) : laws_eqConstraintS.f k l l = some true := by
  unfold laws_eqConstraintS.f
  rw [if_pos rfl]
  exact eqConS_l0 l hn l.length k 0 (by omega) hk
theorem markConS_l0 : ∀ (rest pre : List S116) (k : Nat) (c : Int), 0 ≤ c → c + 2 * rest.length ≤ 2199023255552 → pre.length + rest.length ≤ 2199023255552 → rest.length < k →
    ∃ l', laws_markConstraintS.l0 k (pre ++ rest) c (pre.length : Int) = some (c + 2 * rest.length, l') := by
  intro rest
  induction rest with
  | nil =>
    intro pre k c h0 h1 h2 hk
    obtain ⟨k, rfl⟩ : ∃ q, k = q + 1 := ⟨k - 1, by omega⟩
    simp only [laws_markConstraintS.l0, List.append_nil]
    rw [if_neg (by omega)]; exact ⟨_, by simp; rfl⟩
  | cons x xs ih =>
    intro pre k c h0 h1 h2 hk
    obtain ⟨k, rfl⟩ : ∃ q, k = q + 1 := ⟨k - 1, by omega⟩
    rw [List.length_cons] at h1 h2 hk
    simp only [laws_markConstraintS.l0]
    rw [if_pos (by simp; omega), if_pos (by omega)]
    simp only [Option.bind_some, rdC116, setC116]
    rw [wq (x := c + 1) (by omega) (by omega), wq (x := c + 1 + 1) (by omega) (by omega)]
    obtain ⟨l', h⟩ := ih (pre ++ [(⟨c, c + 1⟩ : S116)]) k (c + 1 + 1) (by omega) (by omega) (by rw [List.length_append]; simp; omega) (by omega)
    refine ⟨l', ?_⟩
    rw [show wrap64 ((pre.length : Int) + 1) = ((pre ++ [(⟨c, c + 1⟩ : S116)]).length : Int) from by rw [wq (by omega) (by omega)]; simp, List.append_cons, h, List.length_cons]
    congr 2; omega
theorem markConS_eq (l : List S116) (k : Nat) (hn : l.length ≤ 1048576) (hk : l.length < k) : ∃ l', laws_markConstraintS.f k l 1 = some (1 + 2 * (l.length : Int), l') := by
  obtain ⟨l', h⟩ := markConS_l0 l [] k 1 (by omega) (by omega) (by simp; omega) hk
  unfold laws_markConstraintS.f
  exact ⟨l', by simpa using h⟩
end Go.Proofs.Ytkhaofalaikegaa.MFnExactNeedlessConstraints
