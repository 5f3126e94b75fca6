/- The words that the plain law behind FnExactCommonPlace needs. -/
import Derived.Test.YtmjejlifohghjaaFBx2
import Derived.Test.YtmjejlifohghjaaFBx3
import Derived.Test.YtmjejlifohghjaaFBx4
import Derived.Test.YtmjejlifohghjaaFBx5
import Derived.Test.YtmjejlifohghjaaFBx6
import Derived.Test.YtmjejlifohghjaaFBx7
import Derived.Test.YtmjejlifohghjaaFBx8
import Derived.Test.YtmjejlifohghjaaFBx9
import Derived.Test.YtmjejlifohghjaaFBx10
import Derived.Test.YtmjejlifohghjaaFBx11 -- home: impl_CommonPlace.f impl_IsPlace.f impl_PlaceOfCode.f impl_Place_code.f impl_allOf_Place.f impl_within.f laws_eqPlace.f laws_eqPlaceS.f laws_toPlace.f laws_toPlaceS.f slices_Index_int_int.f spec_CommonPlace.f spec_l1In.f spec_plAll.f spec_plGood.f spec_plList.f
namespace Go.Proofs.Ytmjejlifohghjaa.MFnExactCommonPlace
open Go.RowKit Go.Proofs.Ytmjejlifohghjaa.FB Go.Proofs.YtmjejlifohghjaaW.PrintWords Go.Proofs.YtmjejlifohghjaaW.PrintLast Go.Proofs.YtmjejlifohghjaaW.PrintMore
set_option linter.unusedVariables false
theorem in_some (a b c : Int) : spec_l1In.f a b c = some (decide (b ≤ a ∧ a ≤ c)) := by
  unfold spec_l1In.f
  by_cases h : b ≤ a <;> simp [h]
theorem within_some (a b c : Int) : impl_within.f a b c = some (decide (b ≤ a ∧ a ≤ c)) := by
  unfold impl_within.f
  by_cases h : b ≤ a <;> simp [h]
/-- Is this a place? -/
def good (a b : Int) (c : Bool) : Bool := decide (0 ≤ a ∧ a ≤ 9) && (decide (-1 ≤ b ∧ b ≤ 1) && (decide (0 < a) || !c))
theorem good_iff {a b : Int} {c : Bool} : good a b c = true ↔ (0 ≤ a ∧ a ≤ 9) ∧ (-1 ≤ b ∧ b ≤ 1) ∧ (0 < a ∨ c = false) := by
  unfold good; simp
theorem good_spec (a b : Int) (c : Bool) : spec_plGood.f a b c = some (good a b c) := by
  unfold spec_plGood.f good
  simp only [in_some, Option.bind_some]
  by_cases h1 : 0 ≤ a ∧ a ≤ 9 <;> by_cases h2 : -1 ≤ b ∧ b ≤ 1 <;> by_cases h3 : 0 < a <;> simp [h1, h2, h3]
theorem good_impl (a b : Int) (c : Bool) : impl_IsPlace.f a b c = some (good a b c) := by
  unfold impl_IsPlace.f good
  simp only [within_some, Option.bind_some]
  by_cases h1 : 0 ≤ a ∧ a ≤ 9
  · by_cases h2 : -1 ≤ b ∧ b ≤ 1
    · cases c
      · simp [h1, h2]
      · by_cases h3 : a = 0
        · simp [h3]
        · have : 0 < a := by omega
          simp [h1, h2, h3, this]
    · simp [h1, h2]
  · simp [h1]
theorem eqPlace_self (a b : Int) (c : Bool) : laws_eqPlace.f a b c a b c = some true := by
  unfold laws_eqPlace.f; simp
/-- All the places. -/
def places : List S25 := (spec_plAll.f 200).getD []
theorem plAll_200 : spec_plAll.f 200 = some places := by
  have h : (spec_plAll.f 200).isSome = true := by decide +kernel
  unfold places
  cases hh : spec_plAll.f 200 with
  | none => rw [hh] at h; cases h
  | some l => rfl
theorem plAll_eq (k : Nat) (hk : 200 ≤ k) : spec_plAll.f k = some places := at_rounds (g := fun k => spec_plAll.f k) (fun k => spec_plAll.mono k) hk plAll_200
theorem places_length : places.length = 57 := by decide +kernel
theorem wc {x : Int} (h0 : -4611686018427387904 ≤ x) (h1 : x ≤ 4611686018427387904) : wrap64 x = x := by unfold wrap64; omega
theorem wupc {i n : Nat} (h : i < n) (hn : n ≤ 1048576) : wrap64 ((i : Int) + 1) = ((i + 1 : Nat) : Int) := by rw [wc (by omega) (by omega)]; rfl
/-- A place's code. -/
def cdI (x : S25) : Int := (impl_Place_code.f x.f0 x.f1 x.f2).getD 0
theorem code_facts : (places.all fun p => (impl_Place_code.f p.f0 p.f1 p.f2 == some (cdI p)) && (decide (0 ≤ cdI p) && (decide (cdI p < 60) && (impl_PlaceOfCode.f (cdI p) == some (p.f0, p.f1, p.f2, true))))) = true := by decide +kernel
theorem code_at {p : S25} (h : p ∈ places) : impl_Place_code.f p.f0 p.f1 p.f2 = some (cdI p) ∧ 0 ≤ cdI p ∧ cdI p < 60 ∧ impl_PlaceOfCode.f (cdI p) = some (p.f0, p.f1, p.f2, true) := by
  have := List.all_eq_true.1 code_facts p h
  simpa only [Bool.and_eq_true, beq_iff_eq, decide_eq_true_eq] using this
theorem code_up : (List.range 57).all (fun i => (List.range i).all fun j => decide (cdI (places.getD j z25) < cdI (places.getD i z25))) = true := by decide +kernel
theorem code_lt {i j : Nat} (hi : i < 57) (hj : j < i) : cdI (places.getD j z25) < cdI (places.getD i z25) :=
  of_decide_eq_true (List.all_eq_true.1 (List.all_eq_true.1 code_up i (List.mem_range.2 hi)) j (List.mem_range.2 hj))
theorem code_inj {p q : S25} (hp : p ∈ places) (hq : q ∈ places) (h : cdI p = cdI q) : p = q := by
  have h1 := (code_at hp).2.2.2
  rw [h, (code_at hq).2.2.2] at h1
  simp only [Option.some.injEq, Prod.mk.injEq, and_true] at h1
  obtain ⟨a, b, c⟩ := p
  obtain ⟨a', b', c'⟩ := q
  simp only at h1
  rw [h1.1, h1.2.1, h1.2.2]
theorem good_fin : ∀ a ∈ [(0 : Int), 1, 2, 3, 4, 5, 6, 7, 8, 9], ∀ b ∈ [(-1 : Int), 0, 1], ∀ c ∈ [false, true], good a b c = true → (places.any fun p => p.f0 == a && (p.f1 == b && p.f2 == c)) = true := by decide +kernel
theorem good_in {x : S25} (h : good x.f0 x.f1 x.f2 = true) : x ∈ places := by
  obtain ⟨ha, hb, -⟩ := good_iff.1 h
  have h1 : x.f0 ∈ [(0 : Int), 1, 2, 3, 4, 5, 6, 7, 8, 9] := by
    have : x.f0 = 0 ∨ x.f0 = 1 ∨ x.f0 = 2 ∨ x.f0 = 3 ∨ x.f0 = 4 ∨ x.f0 = 5 ∨ x.f0 = 6 ∨ x.f0 = 7 ∨ x.f0 = 8 ∨ x.f0 = 9 := by omega
    simpa using this
  have h2 : x.f1 ∈ [(-1 : Int), 0, 1] := by
    have : x.f1 = -1 ∨ x.f1 = 0 ∨ x.f1 = 1 := by omega
    simpa using this
  obtain ⟨p, hp, he⟩ := List.any_eq_true.1 (good_fin _ h1 _ h2 x.f2 (by cases x.f2 <;> simp) h)
  simp only [Bool.and_eq_true, beq_iff_eq] at he
  obtain ⟨a, b, c⟩ := p
  obtain ⟨a', b', c'⟩ := x
  simp only at he
  rw [← he.1, ← he.2.1, ← he.2.2]
  exact hp
theorem at_mem {i : Nat} (h : i < 57) : places.getD i z25 ∈ places := by
  have hl : i < places.length := by rw [places_length]; exact h
  rw [List.getD_eq_getElem?_getD, List.getElem?_eq_getElem hl]
  exact List.getElem_mem hl
theorem mem_at {p : S25} (h : p ∈ places) : ∃ i, i < 57 ∧ places.getD i z25 = p := by
  obtain ⟨i, hi, rfl⟩ := List.getElem_of_mem h
  exact ⟨i, by rw [places_length] at hi; exact hi, by rw [List.getD_eq_getElem?_getD, List.getElem?_eq_getElem hi]; rfl⟩
/-- Are they the same, as the reference asks it? -/
def eqp (p x : S25) : Bool := x.f0 == p.f0 && (x.f1 == p.f1 && (x.f2 == p.f2))
theorem eqp_iff {p x : S25} : eqp p x = true ↔ x = p := by
  unfold eqp
  simp only [Bool.and_eq_true, beq_iff_eq]
  obtain ⟨a, b, c⟩ := p
  obtain ⟨a', b', c'⟩ := x
  constructor
  · rintro ⟨h1, h2, h3⟩
    simp only at h1 h2 h3
    rw [h1, h2, h3]
  · intro h
    injection h with h1 h2 h3
    exact ⟨h1, h2, h3⟩
/-- How often a place comes. -/
def often (l : List S25) (p : S25) : Int := (l.countP (eqp p) : Int)
theorem often_code {l : List S25} (hl : ∀ x ∈ l, x ∈ places) {p : S25} (hp : p ∈ places) : ((l.countP fun x => cdI x == cdI p : Nat) : Int) = often l p := by
  unfold often
  congr 1
  refine List.countP_congr (fun x hx => ?_)
  rw [beq_iff_eq, eqp_iff]
  exact ⟨fun h => code_inj (hl x hx) hp h, fun h => by rw [h]⟩
theorem rd_set_same {l : List Int} {c v : Int} (h0 : 0 ≤ c) (h1 : c < (l.length : Int)) : rd (l.set c.toNat v) c = v := by
  unfold rd
  rw [List.getD_eq_getElem?_getD, List.getElem?_set_self (by omega)]; rfl
theorem rd_set_other {l : List Int} {c d v : Int} (h0 : 0 ≤ c) (h1 : 0 ≤ d) (h : c ≠ d) : rd (l.set c.toNat v) d = rd l d := by
  unfold rd
  rw [List.getD_eq_getElem?_getD, List.getD_eq_getElem?_getD, List.getElem?_set_ne (by omega)]
theorem count_eq : ∀ (l : List S25), (∀ x ∈ l, x ∈ places) → ∀ cs0 : List Int, cs0.length = 60 → (∀ c, 0 ≤ c → c < 60 → 0 ≤ rd cs0 c ∧ rd cs0 c + l.length ≤ 1000000) →
    ∃ cs, impl_CommonPlace.count l cs0 = some cs ∧ cs.length = 60 ∧ ∀ c, 0 ≤ c → c < 60 → rd cs c = rd cs0 c + ((l.countP fun x => cdI x == c : Nat) : Int)
  | [], _, cs0, h0, _ => ⟨cs0, rfl, h0, fun c _ _ => by simp⟩
  | x :: xs, hl, cs0, h0, hb => by
    obtain ⟨h1, h2, h3, -⟩ := code_at (hl x List.mem_cons_self)
    have hbx := hb (cdI x) h2 h3
    rw [List.length_cons] at hbx
    have hw : wrap64 (rd cs0 (cdI x) + 1) = rd cs0 (cdI x) + 1 := wc (by omega) (by omega)
    obtain ⟨cs, g1, g2, g3⟩ := count_eq xs (fun y hy => hl y (List.mem_cons_of_mem _ hy)) (cs0.set (cdI x).toNat (rd cs0 (cdI x) + 1)) (by rw [List.length_set]; exact h0) (fun c c0 c1 => by
      have hc := hb c c0 c1
      rw [List.length_cons] at hc
      by_cases e : cdI x = c
      · subst e; rw [rd_set_same h2 (by omega)]; omega
      · rw [rd_set_other h2 c0 e]; omega)
    refine ⟨cs, by rw [impl_CommonPlace.count, h1, Option.bind_some, if_pos ⟨h2, h3⟩, hw]; exact g1, g2, fun c c0 c1 => ?_⟩
    rw [g3 c c0 c1, List.countP_cons]
    by_cases e : cdI x = c
    · subst e; rw [rd_set_same h2 (by omega)]; simp; omega
    · rw [rd_set_other h2 c0 e]; simp [e]
theorem foldl_max (l : List Int) : ∀ a, a ≤ l.foldl max a ∧ (∀ v ∈ l, v ≤ l.foldl max a) ∧ (l.foldl max a = a ∨ l.foldl max a ∈ l) := by
  induction l with
  | nil => intro a; simp
  | cons x xs ih =>
    intro a
    obtain ⟨h1, h2, h3⟩ := ih (max a x)
    rw [List.foldl_cons]
    refine ⟨by omega, fun v hv => ?_, ?_⟩
    · rcases List.mem_cons.1 hv with rfl | hv
      · omega
      · exact h2 v hv
    · rcases h3 with h3 | h3
      · rw [h3, Int.max_def]
        split
        · exact .inr List.mem_cons_self
        · exact .inl rfl
      · exact .inr (List.mem_cons_of_mem _ h3)
theorem maxOf_spec {l : List Int} (h : l ≠ []) : (∀ v ∈ l, v ≤ Lib.maxOf l) ∧ Lib.maxOf l ∈ l := by
  unfold Lib.maxOf
  obtain ⟨x, xs, rfl⟩ := List.exists_cons_of_ne_nil h
  obtain ⟨h1, h2, h3⟩ := foldl_max (x :: xs) ((x :: xs).headD 0)
  refine ⟨h2, ?_⟩
  rcases h3 with h3 | h3
  · rw [h3]; exact List.mem_cons_self
  · exact h3
theorem rd_mem {l : List Int} {c : Int} (h0 : 0 ≤ c) (h1 : c < (l.length : Int)) : rd l c ∈ l := by
  unfold rd
  rw [List.getD_eq_getElem?_getD, List.getElem?_eq_getElem (by omega)]
  exact List.getElem_mem _
theorem mem_rd {l : List Int} {v : Int} (h : v ∈ l) : ∃ i : Nat, i < l.length ∧ rd l (i : Int) = v := by
  obtain ⟨i, hi, rfl⟩ := List.getElem_of_mem h
  refine ⟨i, hi, ?_⟩
  unfold rd
  rw [Int.toNat_natCast, List.getD_eq_getElem?_getD, List.getElem?_eq_getElem hi]; rfl
theorem index_first (cs : List Int) (m : Int) (hn : cs.length ≤ 1048576) : ∀ (d k j : Nat), j + d = cs.length → d < k → (∃ q : Nat, j ≤ q ∧ q < cs.length ∧ rd cs (q : Int) = m) →
    ∃ i : Nat, j ≤ i ∧ i < cs.length ∧ slices_Index_int_int.l0 k cs m (cs.length : Int) (j : Int) = some (i : Int) ∧ rd cs (i : Int) = m ∧ ∀ q : Nat, j ≤ q → q < i → rd cs (q : Int) ≠ m := by
  intro d
  induction d with
  | zero => rintro k j hj hk ⟨q, h1, h2, -⟩; omega
  | succ d ih =>
    rintro k j hj hk ⟨q, h1, h2, h3⟩
    obtain ⟨k, rfl⟩ : ∃ q, k = q + 1 := ⟨k - 1, by omega⟩
    rw [slices_Index_int_int.l0, if_pos (by omega), if_pos (by omega), if_pos (by omega)]
    by_cases e : m = rd cs (j : Int)
    · rw [if_pos e]
      exact ⟨j, Nat.le_refl _, by omega, rfl, e.symm, fun q h4 h5 => by omega⟩
    · rw [if_neg e, wupc (show j < cs.length by omega) hn]
      have hqj : q ≠ j := fun z => e (by rw [← z]; exact h3.symm)
      obtain ⟨i, g1, g2, g3, g4, g5⟩ := ih k (j + 1) (by omega) (by omega) ⟨q, by omega, h2, h3⟩
      refine ⟨i, by omega, g2, g3, g4, fun r h4 h5 => ?_⟩
      by_cases er : r = j
      · subst er; exact fun z => e z.symm
      · exact g5 r (by omega) h5
theorem list_l0 (l : List S25) (hn : l.length ≤ 1048576) : ∀ (d k j : Nat), j + d = l.length → d < k → spec_plList.l0 k l l (l.length : Int) (j : Int) = some ((l.drop j).all (fun x => good x.f0 x.f1 x.f2) && decide (l.length ≤ 40)) := by
  intro d
  induction d with
  | zero =>
    intro k j hj hk
    obtain ⟨k, rfl⟩ : ∃ q, k = q + 1 := ⟨k - 1, by omega⟩
    rw [spec_plList.l0, if_neg (by omega), List.drop_eq_nil_of_le (by omega), List.all_nil, Bool.true_and]
    congr 1
    by_cases h : l.length ≤ 40
    · rw [decide_eq_true h, decide_eq_true (by omega)]
    · rw [decide_eq_false h, decide_eq_false (by omega)]
  | succ d ih =>
    intro k j hj hk
    obtain ⟨k, rfl⟩ : ∃ q, k = q + 1 := ⟨k - 1, by omega⟩
    have hjl : j < l.length := by omega
    have e : rd_T25 l (j : Int) = l[j] := by
      unfold rd_T25
      rw [Int.toNat_natCast, List.getD_eq_getElem?_getD, List.getElem?_eq_getElem hjl]; rfl
    rw [spec_plList.l0, if_pos (by omega), if_pos (by omega), if_pos (by omega), good_spec, Option.bind_some, wupc hjl hn, ih k (j + 1) (by omega) (by omega), List.drop_eq_getElem_cons hjl, List.all_cons, e]
    cases good l[j].f0 l[j].f1 l[j].f2 <;> simp
theorem inner (l P : List S25) (most : Int) (hn : l.length ≤ 1048576) (x22 x23 : Int) (b0 b1 : Int) (b2 : Bool) (p : S25) (k : Nat) : ∀ (e j : Nat) (c : Int), j + e = l.length → 0 ≤ c → c + e ≤ 1048576 →
    spec_CommonPlace.l1 (k + e + 1) l most c P x22 x23 l (l.length : Int) (j : Int) b0 b1 b2 p.f0 p.f1 p.f2 = if c + ((l.drop j).countP (eqp p) : Int) > most then spec_CommonPlace.l0 k l (c + ((l.drop j).countP (eqp p) : Int)) P x22 (wrap64 (x23 + 1)) p.f0 p.f1 p.f2 else spec_CommonPlace.l0 k l most P x22 (wrap64 (x23 + 1)) b0 b1 b2 := by
  intro e
  induction e with
  | zero =>
    intro j c hj h0 h1
    rw [spec_CommonPlace.l1, if_neg (by omega), List.drop_eq_nil_of_le (by omega)]
    simp
  | succ e ih =>
    intro j c hj h0 h1
    have hjl : j < l.length := by omega
    have er : rd_T25 l (j : Int) = l[j] := by
      unfold rd_T25
      rw [Int.toNat_natCast, List.getD_eq_getElem?_getD, List.getElem?_eq_getElem hjl]; rfl
    rw [show k + (e + 1) + 1 = (k + e + 1) + 1 from by omega, spec_CommonPlace.l1, if_pos (by omega), if_pos (by omega), if_pos (by omega), wupc hjl hn, wc (x := c + 1) (by omega) (by omega), ih (j + 1) (c + 1) (by omega) (by omega) (by omega), ih (j + 1) c (by omega) h0 (by omega), List.drop_eq_getElem_cons hjl, List.countP_cons, er]
    by_cases he : eqp p l[j] = true
    · rw [if_pos (show (l[j].f0 == p.f0 && (l[j].f1 == p.f1 && (l[j].f2 == p.f2))) = true from he), if_pos he, show c + 1 + (((l.drop (j + 1)).countP (eqp p) : Nat) : Int) = c + (((l.drop (j + 1)).countP (eqp p) + 1 : Nat) : Int) from by omega]
    · rw [if_neg (show ¬ (l[j].f0 == p.f0 && (l[j].f1 == p.f1 && (l[j].f2 == p.f2))) = true from he), if_neg he]
      simp only [Nat.add_zero]
/-- What is known when so many places have been asked. -/
def Inv (l : List S25) (j : Nat) (most b0 b1 : Int) (b2 : Bool) : Prop :=
  (most = 0 ∧ ∀ i, i < j → often l (places.getD i z25) = 0) ∨
  ∃ b, b < j ∧ b0 = (places.getD b z25).f0 ∧ b1 = (places.getD b z25).f1 ∧ b2 = (places.getD b z25).f2 ∧ most = often l (places.getD b z25) ∧ 0 < most ∧ (∀ i, i < j → often l (places.getD i z25) ≤ most) ∧ ∀ i, i < b → often l (places.getD i z25) < most
theorem outer (l : List S25) (hn : l.length ≤ 40) : ∀ (d j : Nat) (most b0 b1 : Int) (b2 : Bool) (k : Nat), j + d = 57 → d * 50 + 60 ≤ k → Inv l j most b0 b1 b2 →
    ∃ most' b0' b1' b2', Inv l 57 most' b0' b1' b2' ∧ spec_CommonPlace.l0 k l most places (places.length : Int) (j : Int) b0 b1 b2 = some (b0', b1', b2', true) := by
  intro d
  induction d with
  | zero =>
    intro j most b0 b1 b2 k hj hk hI
    obtain ⟨k, rfl⟩ : ∃ q, k = q + 1 := ⟨k - 1, by omega⟩
    obtain rfl : j = 57 := by omega
    rw [spec_CommonPlace.l0, places_length, if_neg (by omega)]
    exact ⟨most, b0, b1, b2, hI, rfl⟩
  | succ d ih =>
    intro j most b0 b1 b2 k hj hk hI
    obtain ⟨m, rfl⟩ : ∃ m, k = (m + l.length + 1) + 1 := ⟨k - l.length - 2, by omega⟩
    have hin := inner l places most (by omega) (places.length : Int) (j : Int) b0 b1 b2 (places.getD j z25) m l.length 0 0 (by omega) (by omega) (by omega)
    rw [List.drop_zero, Int.zero_add] at hin
    rw [spec_CommonPlace.l0, places_length, if_pos (by omega), if_pos (by omega), if_pos (by omega)]
    rw [places_length] at hin ih
    rw [show spec_CommonPlace.l1 (m + l.length + 1) l most 0 places ((57 : Nat) : Int) (j : Int) l (l.length : Int) 0 b0 b1 b2 (rd_T25 places (j : Int)).f0 (rd_T25 places (j : Int)).f1 (rd_T25 places (j : Int)).f2 = _ from hin, wupc (show j < 57 by omega) (by omega)]
    have hp : ((l.countP (eqp (places.getD j z25)) : Nat) : Int) = often l (places.getD j z25) := rfl
    rw [hp]
    have hpos : 0 ≤ often l (places.getD j z25) := by unfold often; omega
    by_cases hm : often l (places.getD j z25) > most
    · rw [if_pos hm]
      refine ih (j + 1) _ _ _ _ m (by omega) (by omega) (.inr ⟨j, by omega, rfl, rfl, rfl, rfl, ?_, fun i hi => ?_, fun i hi => ?_⟩)
      · rcases hI with ⟨h1, -⟩ | ⟨b, -, -, -, -, -, h1, -⟩ <;> omega
      · rcases hI with ⟨h1, h2⟩ | ⟨b, -, -, -, -, -, h1, h2, -⟩
        · by_cases e : i = j
          · subst e; omega
          · have := h2 i (by omega); omega
        · by_cases e : i = j
          · subst e; omega
          · have := h2 i (by omega); omega
      · rcases hI with ⟨h1, h2⟩ | ⟨b, -, -, -, -, -, h1, h2, -⟩
        · have := h2 i hi; omega
        · have := h2 i hi; omega
    · rw [if_neg hm]
      refine ih (j + 1) _ _ _ _ m (by omega) (by omega) ?_
      rcases hI with ⟨h1, h2⟩ | ⟨b, h1, h2, h3, h4, h5, h6, h7, h8⟩
      · refine .inl ⟨h1, fun i hi => ?_⟩
        by_cases e : i = j
        · subst e; omega
        · exact h2 i (by omega)
      · refine .inr ⟨b, by omega, h2, h3, h4, h5, h6, fun i hi => ?_, h8⟩
        by_cases e : i = j
        · subst e; omega
        · exact h7 i (by omega)
/-- Both tell the same most common place. -/
theorem common_same (l : List S25) (k : Nat) (hn : l.length ≤ 1048576) (hk : l.length + 5000 < k) : ∃ r1 r2 r3 r4, spec_CommonPlace.f k l = some (r1, r2, r3, r4) ∧ impl_CommonPlace.f k l = some (r1, r2, r3, r4) := by
  have hs : spec_plList.f k l = some (l.all (fun x => good x.f0 x.f1 x.f2) && decide (l.length ≤ 40)) := list_l0 l hn l.length k 0 (by omega) (by omega)
  have hall : impl_allOf_Place.f l = some (l.all fun x => good x.f0 x.f1 x.f2) := by
    unfold impl_allOf_Place.f
    have h1 : (l.all fun x => (impl_IsPlace.f x.f0 x.f1 x.f2).isSome) = true := by
      rw [List.all_eq_true]; intro x _; rw [good_impl]; rfl
    have h2 : impl_allOf_Place.p = fun x => good x.f0 x.f1 x.f2 := by
      funext x; unfold impl_allOf_Place.p; rw [good_impl]; cases good x.f0 x.f1 x.f2 <;> rfl
    rw [if_pos h1, h2]
  obtain ⟨k, rfl⟩ : ∃ q, k = q + 1 := ⟨k - 1, by omega⟩
  unfold spec_CommonPlace.f impl_CommonPlace.f
  rw [hs, within_some, hall, Option.bind_some, Option.bind_some]
  by_cases hlen : 1 ≤ l.length ∧ l.length ≤ 40
  · have e1 : decide ((1 : Int) ≤ (l.length : Int) ∧ (l.length : Int) ≤ 40) = true := decide_eq_true (by omega)
    have e2 : decide (l.length ≤ 40) = true := decide_eq_true hlen.2
    rw [e1, e2]
    cases hg : l.all (fun x => good x.f0 x.f1 x.f2)
    · refine ⟨0, 0, false, false, ?_, rfl⟩
      show spec_CommonPlace.j0 (k + 1) l true = _
      rw [spec_CommonPlace.j0, if_pos rfl]
    · have hP : ∀ x ∈ l, x ∈ places := fun x hx => good_in (List.all_eq_true.1 hg x hx)
      obtain ⟨cs, c1, c2, c3⟩ := count_eq l hP (List.replicate 60 0) (by simp) (fun c h0 h1 => by
        have : rd (List.replicate 60 (0 : Int)) c = 0 := by
          unfold rd
          rw [List.getD_eq_getElem?_getD, List.getElem?_replicate, if_pos (by omega)]; rfl
        omega)
      have c4 : ∀ c : Int, 0 ≤ c → c < 60 → rd cs c = ((l.countP fun x => cdI x == c : Nat) : Int) := fun c h0 h1 => by
        rw [c3 c h0 h1]
        have : rd (List.replicate 60 (0 : Int)) c = 0 := by
          unfold rd
          rw [List.getD_eq_getElem?_getD, List.getElem?_replicate, if_pos (by omega)]; rfl
        omega
      obtain ⟨m1, m2⟩ := maxOf_spec (l := cs) (by intro z; rw [z] at c2; simp at c2)
      obtain ⟨q, hq, hqe⟩ := mem_rd m2
      obtain ⟨i, i1, i2, i3, i4, i5⟩ := index_first cs (Lib.maxOf cs) (by omega) cs.length (k + 1) 0 (by omega) (by omega) ⟨q, by omega, hq, hqe⟩
      obtain ⟨most, b0, b1, b2, hI, hso⟩ := outer l hlen.2 57 0 0 0 0 false k (by omega) (by omega) (.inl ⟨rfl, fun i hi => by omega⟩)
      have hx0 : ∃ x, x ∈ l := by
        cases l with
        | nil => simp at hlen
        | cons x xs => exact ⟨x, List.mem_cons_self⟩
      obtain ⟨x0, hx0⟩ := hx0
      obtain ⟨a0, ha0, hae⟩ := mem_at (hP x0 hx0)
      have hoft : 0 < often l x0 := by
        unfold often
        have := List.countP_pos_iff.2 ⟨x0, hx0, eqp_iff.2 rfl⟩
        omega
      rcases hI with ⟨-, h2⟩ | ⟨b, h1, h2, h3, h4, h5, h6, h7, h8⟩
      · have := h2 a0 ha0
        rw [hae] at this
        omega
      · obtain ⟨p, hpe⟩ : ∃ p, p = places.getD b z25 := ⟨_, rfl⟩
        rw [← hpe] at h2 h3 h4 h5
        have hpm : p ∈ places := by rw [hpe]; exact at_mem h1
        obtain ⟨k1, k2, k3, k4⟩ := code_at hpm
        have hcp : rd cs (cdI p) = most := by rw [c4 _ k2 k3, often_code hP hpm, h5]
        have hmax : Lib.maxOf cs ≤ most := by
          rw [← hqe, c4 _ (by omega) (by omega)]
          by_cases hz : (l.countP fun x => cdI x == (q : Int)) = 0
          · rw [hz]; omega
          · obtain ⟨y, hy, hyc⟩ := List.countP_pos_iff.1 (Nat.pos_of_ne_zero hz)
            have hyc := beq_iff_eq.1 hyc
            rw [← hyc, often_code hP (hP y hy)]
            obtain ⟨a, ha, hae2⟩ := mem_at (hP y hy)
            rw [← hae2]
            exact h7 a ha
        have hmm : Lib.maxOf cs = most := Int.le_antisymm hmax (by rw [← hcp]; exact m1 _ (rd_mem k2 (by omega)))
        have hi_le : (i : Int) ≤ cdI p := by
          by_cases z : (i : Int) ≤ cdI p
          · exact z
          · exact absurd (by rw [Int.toNat_of_nonneg k2, hcp, hmm] : rd cs (((cdI p).toNat : Nat) : Int) = Lib.maxOf cs) (i5 (cdI p).toNat (by omega) (by omega))
        have hie : (i : Int) = cdI p := by
          have hri : rd cs (i : Int) = most := by rw [i4, hmm]
          rw [c4 _ (by omega) (by omega)] at hri
          obtain ⟨y, hy, hyc⟩ := List.countP_pos_iff.1 (show 0 < (l.countP fun x => cdI x == (i : Int)) by omega)
          have hyc := beq_iff_eq.1 hyc
          rw [← hyc, often_code hP (hP y hy)] at hri
          obtain ⟨a, ha, hae2⟩ := mem_at (hP y hy)
          have hab : ¬ a < b := fun z => by
            have := h8 a z
            rw [hae2] at this
            omega
          by_cases e : a = b
          · subst e
            rw [← hyc, ← hae2, ← hpe]
          · have := code_lt ha (show b < a by omega)
            rw [hae2, ← hpe] at this
            omega
        refine ⟨p.f0, p.f1, p.f2, true, ?_, ?_⟩
        · show spec_CommonPlace.j0 (k + 1) l ((l.length : Int) == 0) = _
          have hne : ¬ (((l.length : Int) == 0) = true) := by rw [beq_iff_eq]; omega
          rw [spec_CommonPlace.j0, if_neg hne, plAll_eq k (by omega), Option.bind_some, ← h2, ← h3, ← h4]
          exact hso
        · show (impl_CommonPlace.count l (List.replicate 60 0)).bind _ = _
          rw [c1, Option.bind_some]
          unfold slices_Index_int_int.f
          rw [show slices_Index_int_int.l0 (k + 1) cs (Lib.maxOf cs) (cs.length : Int) 0 = some (i : Int) from i3, Option.bind_some, hie, k4]
  · have e1 : decide ((1 : Int) ≤ (l.length : Int) ∧ (l.length : Int) ≤ 40) = false := decide_eq_false (by omega)
    rw [e1]
    refine ⟨0, 0, false, false, ?_, rfl⟩
    by_cases h40 : l.length ≤ 40
    · have h0 : l = [] := List.length_eq_zero_iff.1 (by omega)
      subst h0
      show spec_CommonPlace.j0 (k + 1) [] true = _
      rw [spec_CommonPlace.j0, if_pos rfl]
    · rw [decide_eq_false h40, Bool.and_false]
      show spec_CommonPlace.j0 (k + 1) l true = _
      rw [spec_CommonPlace.j0, if_pos rfl]
def cvl (x : S23) : S25 := ⟨x.f0, x.f1, x.f2⟩
theorem rdL23 (pre : List S23) (x : S23) (rest : List S23) : rd_T23 (pre ++ x :: rest) (pre.length : Int) = x := by
  unfold rd_T23; simp
theorem toPlS_l0 (L : List S23) (hL : L.length ≤ 1048576) : ∀ (rest pre : List S23) (k : Nat), pre ++ rest = L → rest.length < k →
    laws_toPlaceS.l0 k L (pre.map cvl ++ List.replicate rest.length z25) (pre.length : Int) = some (L.map cvl) := by
  intro rest
  induction rest with
  | nil =>
    intro pre k h hk
    obtain ⟨k, rfl⟩ : ∃ q, k = q + 1 := ⟨k - 1, by omega⟩
    have c1 : ¬ (pre.length : Int) < (L.length : Int) := by rw [← h]; simp
    simp only [laws_toPlaceS.l0, c1, if_false]
    rw [← h]; simp
  | cons x xs ih =>
    intro pre k h hk
    obtain ⟨k, rfl⟩ : ∃ q, k = q + 1 := ⟨k - 1, by omega⟩
    rw [List.length_cons] at hk
    have hpl : pre.length < L.length := by rw [← h]; simp
    have c1 : (pre.length : Int) < (L.length : Int) := by omega
    have c2 : (0 : Int) ≤ (pre.length : Int) := by omega
    have hr : rd_T23 L (pre.length : Int) = x := by rw [← h]; exact rdL23 pre x xs
    have hl : (pre.map cvl ++ List.replicate (xs.length + 1) z25).length = L.length := by rw [← h]; simp
    have c3 : (pre.length : Int) < ((pre.map cvl ++ List.replicate (xs.length + 1) z25).length : Int) := by rw [hl]; exact c1
    have hw : wrap64 ((pre.length : Int) + 1) = ((pre ++ [x]).length : Int) := by rw [wc (by omega) (by omega)]; simp
    have hs : (pre.map cvl ++ List.replicate (xs.length + 1) z25).set (pre.length : Int).toNat (cvl x) = (pre ++ [x]).map cvl ++ List.replicate xs.length z25 := by
      rw [Int.toNat_natCast, List.set_append_right _ _ (by simp)]
      simp [List.replicate_succ]
    simp only [laws_toPlaceS.l0, List.length_cons, c1, c2, c3, if_true, hr, laws_toPlace.f, Option.bind_some, hw]
    rw [show (⟨x.f0, x.f1, x.f2⟩ : S25) = cvl x from rfl, hs]
    exact ih (pre ++ [x]) k (by rw [← h]; simp) (by omega)
theorem toPlS_eq (L : List S23) (k : Nat) (hL : L.length ≤ 1048576) (hk : L.length < k) : laws_toPlaceS.f k L = some (L.map cvl) := by
  unfold laws_toPlaceS.f
  rw [if_pos (by omega), if_pos (by omega), Int.toNat_natCast]
  have h := toPlS_l0 L hL L [] k (by simp) hk
  simpa using h
theorem eqPlS_l0 (l : List S25) (hn : l.length ≤ 1048576) : ∀ (d k i : Nat), i + d = l.length → d < k → laws_eqPlaceS.l0 k l l (i : Int) = some true := by
  intro d
  induction d with
  | zero =>
    intro k i hi hk
    obtain ⟨k, rfl⟩ : ∃ q, k = q + 1 := ⟨k - 1, by omega⟩
    have c1 : ¬ (i : Int) < (l.length : Int) := by omega
    simp only [laws_eqPlaceS.l0, c1, if_false]
  | succ d ih =>
    intro k i hi hk
    obtain ⟨k, rfl⟩ : ∃ q, k = q + 1 := ⟨k - 1, by omega⟩
    have c1 : (i : Int) < (l.length : Int) := by omega
    have c2 : (0 : Int) ≤ (i : Int) := by omega
    simp only [laws_eqPlaceS.l0, c1, c2, if_true, eqPlace_self, Option.bind_some, wupc (show i < l.length by omega) hn]
    exact ih k (i + 1) (by omega) (by omega)
theorem eqPlS_self (l : List S25) (k : Nat) (hn : l.length ≤ 1048576) (hk : l.length < k) : laws_eqPlaceS.f k l l = some true := by
  unfold laws_eqPlaceS.f
  rw [if_pos rfl]
  exact eqPlS_l0 l hn l.length k 0 (by omega) hk
end Go.Proofs.Ytmjejlifohghjaa.MFnExactCommonPlace
