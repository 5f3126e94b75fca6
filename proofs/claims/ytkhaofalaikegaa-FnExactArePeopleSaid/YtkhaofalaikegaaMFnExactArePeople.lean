/- The words that the plain law behind FnExactArePeople needs. -/
import Derived.Test.YtkhaofalaikegaaFDx1
import Derived.Test.YtkhaofalaikegaaFDx2
import Derived.Test.YtkhaofalaikegaaFDx3
import Derived.Test.YtkhaofalaikegaaFDx4
import Derived.Test.YtkhaofalaikegaaFDx5
import Derived.Test.YtkhaofalaikegaaFDx6
import Derived.Test.YtkhaofalaikegaaFDx7
import Derived.Test.YtkhaofalaikegaaFDx8 -- home: impl_ArePeople.f impl_IsPerson.f impl_hasOnly.f impl_isWordOf.f impl_isYear.f impl_within.f laws_eqPerson.f laws_eqPersonS.f laws_szPerson.f laws_szPersonS.f laws_toPerson.f laws_toPersonS.f spec_l1In.f spec_naGood.f spec_naLetter.f spec_naName.f spec_naOne.f spec_naPlace.f spec_naYear.f strings_IndexByte.f
namespace Go.Proofs.Ytkhaofalaikegaa.MFnExactArePeople
open Go.RowKit Go.Proofs.Ytkhaofalaikegaa.FD Go.Proofs.YtkhaofalaikegaaW.PrintWords Go.Proofs.YtkhaofalaikegaaW.PrintLast Go.Proofs.YtkhaofalaikegaaW.PrintMore
set_option linter.unusedVariables false

theorem in_some (a b c : Int) : spec_l1In.f a b c = some (decide (b ≤ a ∧ a ≤ c)) := by
  unfold spec_l1In.f
  by_cases h : b ≤ a <;> simp [h]
theorem within_some (a b c : Int) : impl_within.f a b c = some (decide (b ≤ a ∧ a ≤ c)) := by
  unfold impl_within.f
  by_cases h : b ≤ a <;> simp [h]
/-- Something holds for the d places from i on. -/
def from_ (p : Nat → Bool) (i d : Nat) : Bool := (List.range' i d).all p
theorem from_zero (p : Nat → Bool) (i : Nat) : from_ p i 0 = true := rfl
theorem from_succ (p : Nat → Bool) (i d : Nat) : from_ p i (d + 1) = (p i && from_ p (i + 1) d) := by
  unfold from_; rw [List.range'_succ]; rfl
/-- Does the byte at a place stand among some letters? -/
def has (C s : ByteArray) (i : Nat) : Bool := decide (¬ Lib.indexByte C.data.toList (bt s (i : Int)).toNat.toUInt8 < 0)
theorem hasOnly_any (C s : ByteArray) (hn : s.size ≤ 9223372036854775807) : ∀ (d k i : Nat), i + d = s.size → d < k →
    impl_hasOnly.l0 k s C (s.size : Int) (i : Int) = some (from_ (has C s) i d) := by
  intro d
  induction d with
  | zero =>
    intro k i hi hk
    obtain ⟨k, rfl⟩ : ∃ q, k = q + 1 := ⟨k - 1, by omega⟩
    simp only [impl_hasOnly.l0]
    rw [if_neg (by omega), from_zero]
  | succ d ih =>
    intro k i hi hk
    obtain ⟨k, rfl⟩ : ∃ q, k = q + 1 := ⟨k - 1, by omega⟩
    have hw : wrap64 ((i : Int) + 1) = ((i + 1 : Nat) : Int) := by unfold wrap64; omega
    simp only [impl_hasOnly.l0, strings_IndexByte.f]
    rw [if_pos (by omega), if_pos (by omega), if_pos (by omega), from_succ, hw, ih k (i + 1) (by omega) (by omega)]
    simp only [Option.bind_some]
    unfold has
    by_cases h1 : Lib.indexByte C.data.toList (bt s (i : Int)).toNat.toUInt8 < 0
    · rw [if_pos h1]; simp [h1]
    · rw [if_neg h1]; simp [h1]
theorem hasOnly_eq (C s : ByteArray) (k : Nat) (hn : s.size ≤ 9223372036854775807) (hk : s.size < k) : impl_hasOnly.f k s C = some (from_ (has C s) 0 s.size) := hasOnly_any C s hn s.size k 0 (by omega) hk
/-- The small letters. -/
def smalls : ByteArray := ⟨#[97, 98, 99, 100, 101, 102, 103, 104, 105, 106, 107, 108, 109, 110, 111, 112, 113, 114, 115, 116, 117, 118, 119, 120, 121, 122]⟩
theorem smalls_fin : ∀ n ∈ List.range 256, decide (¬ Lib.indexByte smalls.data.toList (n : Int).toNat.toUInt8 < 0) = decide (97 ≤ n ∧ n ≤ 122) := by decide +kernel
theorem smalls_has (s : ByteArray) (i : Nat) : has smalls s i = decide (97 ≤ bt s (i : Int) ∧ bt s (i : Int) ≤ 122) := by
  obtain ⟨h0, h1⟩ := bt_range s (i : Int)
  have h := smalls_fin (bt s i).toNat (List.mem_range.2 (by omega))
  rw [Int.toNat_of_nonneg h0] at h
  unfold has
  rw [h]
  exact decide_eq_decide.2 ⟨fun h => by omega, fun h => by omega⟩
theorem naName_l0 (s : ByteArray) (hn : s.size ≤ 9223372036854775807) : ∀ (d k i : Nat), i + d = s.size → d < k →
    spec_naName.l0 k s (i : Int) = some (from_ (has smalls s) i d && decide (1 ≤ (s.size : Int) ∧ (s.size : Int) ≤ 8)) := by
  intro d
  induction d with
  | zero =>
    intro k i hi hk
    obtain ⟨k, rfl⟩ : ∃ q, k = q + 1 := ⟨k - 1, by omega⟩
    simp only [spec_naName.l0]
    rw [if_neg (by omega), from_zero, in_some]; rfl
  | succ d ih =>
    intro k i hi hk
    obtain ⟨k, rfl⟩ : ∃ q, k = q + 1 := ⟨k - 1, by omega⟩
    have hw : wrap64 ((i : Int) + 1) = ((i + 1 : Nat) : Int) := by unfold wrap64; omega
    simp only [spec_naName.l0]
    rw [if_pos (by omega), if_pos (by omega), from_succ, hw, ih k (i + 1) (by omega) (by omega), smalls_has]
    by_cases h1 : bt s (i : Int) < 97
    · rw [if_pos h1]; simp [show ¬ (97 ≤ bt s (i : Int)) from by omega]
    · rw [if_neg h1]
      by_cases h2 : bt s (i : Int) > 122
      · rw [if_pos h2]; simp [show ¬ (bt s (i : Int) ≤ 122) from by omega]
      · rw [if_neg h2]; simp [show 97 ≤ bt s (i : Int) from by omega, show bt s (i : Int) ≤ 122 from by omega]
/-- Is this a person? -/
def person (s : ByteArray) (a b c : Int) : Bool := from_ (has smalls s) 0 s.size && (decide (1 ≤ (s.size : Int) ∧ (s.size : Int) ≤ 8) && (decide (0 ≤ a ∧ a ≤ 25) && (decide (0 ≤ b ∧ b ≤ 9) && decide (1800 ≤ c ∧ c ≤ 2200))))
theorem person_spec (s : ByteArray) (a b c : Int) (k : Nat) (hn : s.size ≤ 9223372036854775807) (hk : s.size < k) : spec_naOne.f k s a b c = some (person s a b c) := by
  have h : spec_naName.f k s = some _ := naName_l0 s hn s.size k 0 (by omega) hk
  unfold spec_naOne.f person spec_naLetter.f spec_naPlace.f spec_naYear.f
  rw [h]
  simp only [in_some, Option.bind_some]
  cases from_ (has smalls s) 0 s.size <;> cases decide (1 ≤ (s.size : Int) ∧ (s.size : Int) ≤ 8) <;> cases decide (0 ≤ a ∧ a ≤ 25) <;> cases decide (0 ≤ b ∧ b ≤ 9) <;> simp
theorem person_impl (s : ByteArray) (a b c : Int) (k : Nat) (hn : s.size ≤ 9223372036854775807) (hk : s.size < k) : impl_IsPerson.f k s a b c = some (person s a b c) := by
  unfold impl_IsPerson.f person impl_isWordOf.f impl_isYear.f
  rw [show (⟨#[97, 98, 99, 100, 101, 102, 103, 104, 105, 106, 107, 108, 109, 110, 111, 112, 113, 114, 115, 116, 117, 118, 119, 120, 121, 122]⟩ : ByteArray) = smalls from rfl, hasOnly_eq smalls s k hn hk]
  simp only [within_some, Option.bind_some]
  cases from_ (has smalls s) 0 s.size <;> cases decide (1 ≤ (s.size : Int) ∧ (s.size : Int) ≤ 8) <;> cases decide (0 ≤ a ∧ a ≤ 25) <;> cases decide (0 ≤ b ∧ b ≤ 9) <;> simp
/-! shapes, orientations, places -/
theorem wq {x : Int} (h0 : -4611686018427387904 ≤ x) (h1 : x ≤ 4611686018427387904) : wrap64 x = x := by unfold wrap64; omega
def cvp (x : S80) : S83 := ⟨x.f0, x.f1, x.f2, x.f3⟩
theorem rdP80 (pre : List S80) (x : S80) (rest : List S80) : rd_T80 (pre ++ x :: rest) (pre.length : Int) = x := by
  unfold rd_T80; simp
theorem rd_mem {L : List S83} {i : Nat} (h : i < L.length) : rd_T83 L (i : Int) ∈ L := by
  unfold rd_T83
  rw [Int.toNat_natCast, List.getD_eq_getElem?_getD, List.getElem?_eq_getElem h]
  exact List.getElem_mem _
theorem toPersonS_l0 (L : List S80) (hL : L.length ≤ 1048576) : ∀ (rest pre : List S80) (k : Nat), pre ++ rest = L → rest.length < k →
    laws_toPersonS.l0 k L (pre.map cvp ++ List.replicate rest.length z83) (pre.length : Int) = some (L.map cvp) := by
  intro rest
  induction rest with
  | nil =>
    intro pre k h hk
    obtain ⟨k, rfl⟩ : ∃ q, k = q + 1 := ⟨k - 1, by omega⟩
    have c1 : ¬ (pre.length : Int) < (L.length : Int) := by rw [← h]; simp
    simp only [laws_toPersonS.l0, c1, if_false]
    rw [← h]; simp
  | cons x xs ih =>
    intro pre k h hk
    obtain ⟨k, rfl⟩ : ∃ q, k = q + 1 := ⟨k - 1, by omega⟩
    rw [List.length_cons] at hk
    have hpl : pre.length < L.length := by rw [← h]; simp
    have c1 : (pre.length : Int) < (L.length : Int) := by omega
    have c2 : (0 : Int) ≤ (pre.length : Int) := by omega
    have hr : rd_T80 L (pre.length : Int) = x := by rw [← h]; exact rdP80 pre x xs
    have hl : (pre.map cvp ++ List.replicate (xs.length + 1) z83).length = L.length := by rw [← h]; simp
    have c3 : (pre.length : Int) < ((pre.map cvp ++ List.replicate (xs.length + 1) z83).length : Int) := by rw [hl]; exact c1
    have hw : wrap64 ((pre.length : Int) + 1) = ((pre ++ [x]).length : Int) := by rw [wq (by omega) (by omega)]; simp
    have hs : (pre.map cvp ++ List.replicate (xs.length + 1) z83).set (pre.length : Int).toNat (cvp x) = (pre ++ [x]).map cvp ++ List.replicate xs.length z83 := by
      rw [Int.toNat_natCast, List.set_append_right _ _ (by simp)]
      simp [List.replicate_succ]
    simp only [laws_toPersonS.l0, List.length_cons, c1, c2, c3, if_true, hr, laws_toPerson.f, Option.bind_some, hw]
    rw [show (⟨x.f0, x.f1, x.f2, x.f3⟩ : S83) = cvp x from rfl, hs]
    exact ih (pre ++ [x]) k (by rw [← h]; simp) (by omega)
theorem toPersonS_eq (L : List S80) (k : Nat) (hL : L.length ≤ 1048576) (hk : L.length < k) : laws_toPersonS.f k L = some (L.map cvp) := by
  unfold laws_toPersonS.f
  rw [if_pos (by omega), if_pos (by omega), Int.toNat_natCast]
  have h := toPersonS_l0 L hL L [] k (by simp) hk
  simpa using h
theorem eqPerson_self (a : ByteArray) (b c d : Int) : laws_eqPerson.f a b c d a b c d = some true := by
  unfold laws_eqPerson.f; simp
theorem eqPersonS_l0 (l : List S83) (hn : l.length ≤ 1048576) : ∀ (d k i : Nat), i + d = l.length → d < k → laws_eqPersonS.l0 k l l (i : Int) = some true := by
  intro d
  induction d with
  | zero =>
    intro k i hi hk
    obtain ⟨k, rfl⟩ : ∃ q, k = q + 1 := ⟨k - 1, by omega⟩
    have c1 : ¬ (i : Int) < (l.length : Int) := by omega
    simp only [laws_eqPersonS.l0, c1, if_false]
  | succ d ih =>
    intro k i hi hk
    obtain ⟨k, rfl⟩ : ∃ q, k = q + 1 := ⟨k - 1, by omega⟩
    have c1 : (i : Int) < (l.length : Int) := by omega
    have c2 : (0 : Int) ≤ (i : Int) := by omega
    have hw : wrap64 ((i : Int) + 1) = ((i + 1 : Nat) : Int) := by rw [wq (by omega) (by omega)]; rfl
    simp only [laws_eqPersonS.l0, c1, c2, if_true, eqPerson_self, Option.bind_some, hw]
    exact ih k (i + 1) (by omega) (by omega)
theorem eqPersonS_self (l : List S83) (k : Nat) (hn : l.length ≤ 1048576) (hk : l.length < k) : laws_eqPersonS.f k l l = some true := by
  unfold laws_eqPersonS.f
  rw [if_pos rfl]
  exact eqPersonS_l0 l hn l.length k 0 (by omega) hk
theorem szPersonS_l0 (L : List S80) (hn : L.length ≤ 1048576) : ∀ (d k i : Nat) (z : Int), i + d = L.length → d < k → ∃ q, laws_szPersonS.l0 k L z (i : Int) = some q := by
  intro d
  induction d with
  | zero =>
    intro k i z hi hk
    obtain ⟨k, rfl⟩ : ∃ q, k = q + 1 := ⟨k - 1, by omega⟩
    have c1 : ¬ (i : Int) < (L.length : Int) := by omega
    simp only [laws_szPersonS.l0, c1, if_false]
    exact ⟨_, rfl⟩
  | succ d ih =>
    intro k i z hi hk
    obtain ⟨k, rfl⟩ : ∃ q, k = q + 1 := ⟨k - 1, by omega⟩
    have c1 : (i : Int) < (L.length : Int) := by omega
    have c2 : (0 : Int) ≤ (i : Int) := by omega
    have hw : wrap64 ((i : Int) + 1) = ((i + 1 : Nat) : Int) := by rw [wq (by omega) (by omega)]; rfl
    obtain ⟨y, hy⟩ : ∃ y, laws_szPerson.f (rd_T80 L (i : Int)).f0 (rd_T80 L (i : Int)).f1 (rd_T80 L (i : Int)).f2 (rd_T80 L (i : Int)).f3 z = some y := by
      unfold laws_szPerson.f
      split <;> exact ⟨_, rfl⟩
    simp only [laws_szPersonS.l0, c1, c2, if_true, hy, Option.bind_some, hw]
    by_cases c3 : y < 0
    · rw [if_pos c3]; exact ⟨_, rfl⟩
    · rw [if_neg c3]; exact ih k (i + 1) y (by omega) (by omega)
theorem people_l0 (L : List S83) (hs : ∀ x ∈ L, x.f0.size ≤ 9223372036854775807) (hL : L.length ≤ 1048576) : ∀ (d k i : Nat), i + d = L.length → 9223372036854775807 + d < k →
    ∃ b, spec_naGood.l0 k L L (L.length : Int) (i : Int) = some b ∧ impl_ArePeople.l0 k L L (L.length : Int) (i : Int) = some b := by
  intro d
  induction d with
  | zero =>
    intro k i hi hk
    obtain ⟨k, rfl⟩ : ∃ q, k = q + 1 := ⟨k - 1, by omega⟩
    have c1 : ¬ (i : Int) < (L.length : Int) := by omega
    simp only [spec_naGood.l0, impl_ArePeople.l0, c1, if_false]
    exact ⟨_, rfl, rfl⟩
  | succ d ih =>
    intro k i hi hk
    obtain ⟨k, rfl⟩ : ∃ q, k = q + 1 := ⟨k - 1, by omega⟩
    have c1 : (i : Int) < (L.length : Int) := by omega
    have c2 : (0 : Int) ≤ (i : Int) := by omega
    have hsz := hs _ (rd_mem (L := L) (i := i) (by omega))
    have hw : wrap64 ((i : Int) + 1) = ((i + 1 : Nat) : Int) := by rw [wq (by omega) (by omega)]; rfl
    obtain ⟨b, h1, h2⟩ := ih k (i + 1) (by omega) (by omega)
    simp only [spec_naGood.l0, impl_ArePeople.l0, c1, c2, if_true, hw]
    rw [person_spec _ _ _ _ k hsz (by omega), person_impl _ _ _ _ k hsz (by omega)]
    simp only [Option.bind_some]
    by_cases c5 : person (rd_T83 L (i : Int)).f0 (rd_T83 L (i : Int)).f1 (rd_T83 L (i : Int)).f2 (rd_T83 L (i : Int)).f3 = true
    · rw [if_pos c5, if_pos c5]
      by_cases c3 : (i : Int) > 0
      · have hw2 : wrap64 ((i : Int) - 1) = (i : Int) - 1 := wq (by omega) (by omega)
        have c4 : (0 : Int) ≤ (i : Int) - 1 := by omega
        have c6 : (i : Int) - 1 < (L.length : Int) := by omega
        rw [if_pos c3, if_pos c3, hw2]
        simp only [c4, c6, if_true]
        split
        · exact ⟨b, h1, h2⟩
        · exact ⟨_, rfl, rfl⟩
      · rw [if_neg c3, if_neg c3]; exact ⟨b, h1, h2⟩
    · rw [if_neg c5, if_neg c5]; exact ⟨_, rfl, rfl⟩
end Go.Proofs.Ytkhaofalaikegaa.MFnExactArePeople
