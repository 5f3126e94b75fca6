/- The words that the plain law behind FnExactReverseMove needs. -/
import Derived.Test.YtkhaofalaikegaaFFx1
import Derived.Test.YtkhaofalaikegaaFFx2
import Derived.Test.YtkhaofalaikegaaFFx3
import Derived.Test.YtkhaofalaikegaaFFx4
import Derived.Test.YtkhaofalaikegaaFFx5
import Derived.Test.YtkhaofalaikegaaFFx6
import Derived.Test.YtkhaofalaikegaaFFx7 -- home: impl_IsMove.f impl_ReverseMove.f impl_hasOnly.f impl_within.f laws_eqMove.f slices_Reverse_byte_byte.f spec_ReverseMove.f spec_l1In.f spec_mvBack.f spec_mvGood.f spec_mvIndex.f spec_mvLetters.f spec_mvSteps.f strings_IndexByte.f
namespace Go.Proofs.Ytkhaofalaikegaa.MFnExactReverseMove
open Go.RowKit Go.Proofs.Ytkhaofalaikegaa.FF Go.Proofs.YtkhaofalaikegaaW.PrintWords Go.Proofs.YtkhaofalaikegaaW.PrintLast Go.Proofs.YtkhaofalaikegaaW.PrintMore
set_option linter.unusedVariables false

theorem in_some (a b c : Int) : spec_l1In.f a b c = some (decide (b ≤ a ∧ a ≤ c)) := by
  unfold spec_l1In.f
  by_cases h : b ≤ a <;> simp [h]
theorem within_some (a b c : Int) : impl_within.f a b c = some (decide (b ≤ a ∧ a ≤ c)) := by
  unfold impl_within.f
  by_cases h : b ≤ a <;> simp [h]
/-- Something holds for the d places from i on. -/
def from_ (p : Nat → Bool) (i d : Nat) : Bool := (List.range' i d).all p
theorem from_zero (p : Nat → Bool) (i : Nat) : from_ p i 0 = true := rfl
theorem from_succ (p : Nat → Bool) (i d : Nat) : from_ p i (d + 1) = (p i && from_ p (i + 1) d) := by
  unfold from_; rw [List.range'_succ]; rfl
theorem from_iff (p : Nat → Bool) (n : Nat) : from_ p 0 n = true ↔ ∀ i, i < n → p i = true := by
  unfold from_
  rw [List.all_eq_true]
  exact ⟨fun h i hi => h i (by rw [List.mem_range']; exact ⟨i, hi, by omega⟩), fun h i hi => h i (by rw [List.mem_range'] at hi; obtain ⟨j, hj, rfl⟩ := hi; omega)⟩
/-- Does the byte at a place stand among some letters? -/
def has (C s : ByteArray) (i : Nat) : Bool := decide (¬ Lib.indexByte C.data.toList (bt s (i : Int)).toNat.toUInt8 < 0)
theorem hasOnly_any (C s : ByteArray) (hn : s.size ≤ 9223372036854775807) : ∀ (d k i : Nat), i + d = s.size → d < k →
    impl_hasOnly.l0 k s C (s.size : Int) (i : Int) = some (from_ (has C s) i d) := by
  intro d
  induction d with
  | zero =>
    intro k i hi hk
    obtain ⟨k, rfl⟩ : ∃ q, k = q + 1 := ⟨k - 1, by omega⟩
    simp only [impl_hasOnly.l0]
    rw [if_neg (by omega), from_zero]
  | succ d ih =>
    intro k i hi hk
    obtain ⟨k, rfl⟩ : ∃ q, k = q + 1 := ⟨k - 1, by omega⟩
    have hw : wrap64 ((i : Int) + 1) = ((i + 1 : Nat) : Int) := by unfold wrap64; omega
    simp only [impl_hasOnly.l0, strings_IndexByte.f]
    rw [if_pos (by omega), if_pos (by omega), if_pos (by omega), from_succ, hw, ih k (i + 1) (by omega) (by omega)]
    simp only [Option.bind_some]
    unfold has
    by_cases h1 : Lib.indexByte C.data.toList (bt s (i : Int)).toNat.toUInt8 < 0
    · rw [if_pos h1]; simp [h1]
    · rw [if_neg h1]; simp [h1]
theorem hasOnly_eq (C s : ByteArray) (k : Nat) (hn : s.size ≤ 9223372036854775807) (hk : s.size < k) : impl_hasOnly.f k s C = some (from_ (has C s) 0 s.size) := hasOnly_any C s hn s.size k 0 (by omega) hk
/-- The letters of the directions. -/
def dirs : ByteArray := ⟨#[117, 100, 108, 114, 102, 98]⟩
theorem dirs_fin : ∀ n ∈ List.range 256, spec_mvIndex.f 10 (n : Int) = some (Lib.indexByte dirs.data.toList (n : Int).toNat.toUInt8) := by decide +kernel
theorem mvIndex_eq (s : ByteArray) (i : Int) (k : Nat) (hk : 10 ≤ k) : spec_mvIndex.f k (bt s i) = some (Lib.indexByte dirs.data.toList (bt s i).toNat.toUInt8) := by
  obtain ⟨h0, h1⟩ := bt_range s i
  have h := dirs_fin (bt s i).toNat (List.mem_range.2 (by omega))
  rw [Int.toNat_of_nonneg h0] at h
  exact at_rounds (g := fun k => spec_mvIndex.f k (bt s i)) (fun k => spec_mvIndex.mono _ k) hk h
theorem mvSteps_l0 (s : ByteArray) (hn : s.size ≤ 9223372036854775807) : ∀ (d k i : Nat), i + d = s.size → d + 12 < k →
    spec_mvSteps.l0 k s (i : Int) = some (from_ (has dirs s) i d) := by
  intro d
  induction d with
  | zero =>
    intro k i hi hk
    obtain ⟨k, rfl⟩ : ∃ q, k = q + 1 := ⟨k - 1, by omega⟩
    simp only [spec_mvSteps.l0]
    rw [if_neg (by omega), from_zero]
  | succ d ih =>
    intro k i hi hk
    obtain ⟨k, rfl⟩ : ∃ q, k = q + 1 := ⟨k - 1, by omega⟩
    have hw : wrap64 ((i : Int) + 1) = ((i + 1 : Nat) : Int) := by unfold wrap64; omega
    simp only [spec_mvSteps.l0]
    rw [if_pos (by omega), if_pos (by omega), mvIndex_eq s _ k (by omega), from_succ, hw, ih k (i + 1) (by omega) (by omega)]
    simp only [Option.bind_some]
    unfold has
    by_cases h1 : Lib.indexByte dirs.data.toList (bt s (i : Int)).toNat.toUInt8 < 0
    · rw [if_pos h1]; simp [h1]
    · rw [if_neg h1]; simp [h1]
theorem mvSteps_eq (s : ByteArray) (k : Nat) (hn : s.size ≤ 9223372036854775807) (hk : s.size + 12 < k) : spec_mvSteps.f k s = some (from_ (has dirs s) 0 s.size) := mvSteps_l0 s hn s.size k 0 (by omega) hk
/-- Both tell the same of a movement. -/
theorem move_same (s : ByteArray) (r : Int) (k : Nat) (hn : s.size ≤ 9223372036854775807) (hk : s.size + 12 < k) : ∃ b, spec_mvGood.f k s r = some b ∧ impl_IsMove.f k s r = some b := by
  unfold spec_mvGood.f impl_IsMove.f
  rw [show (⟨#[117, 100, 108, 114, 102, 98]⟩ : ByteArray) = dirs from rfl, mvSteps_eq s k hn hk, hasOnly_eq dirs s k hn (by omega)]
  by_cases h6 : (s.size : Int) ≤ 6
  · rw [if_pos h6, if_pos h6]
    simp only [in_some, within_some, Option.bind_some]
    cases from_ (has dirs s) 0 s.size
    · exact ⟨false, rfl, rfl⟩
    · cases decide (1 ≤ r ∧ r ≤ 3)
      · exact ⟨false, rfl, rfl⟩
      · by_cases he : s.toList = []
        · exact ⟨r == 1, by simp [he], by simp [he]⟩
        · exact ⟨true, by simp [he], by simp [he]⟩
  · rw [if_neg h6, if_neg h6]; exact ⟨false, rfl, rfl⟩
theorem has_valid : ∀ n ∈ List.range 256, decide (¬ Lib.indexByte dirs.data.toList (n : Int).toNat.toUInt8 < 0) = true → impl_ReverseMove.valid (n : Int) = true := by decide +kernel
/-- One step back, as the reference takes it. -/
def stepB (n : Nat) : Bool := match spec_mvIndex.f 10 (n : Int) with
  | some t => decide (0 ≤ (wrap64 (t + (wrap64 (1 - (wrap64 (2 * (Int.tmod t 2)))))))) && (decide ((wrap64 (t + (wrap64 (1 - (wrap64 (2 * (Int.tmod t 2))))))) ≤ (wrap64 ((wrap64 (t + (wrap64 (1 - (wrap64 (2 * (Int.tmod t 2))))))) + 1))) && (decide ((wrap64 ((wrap64 (t + (wrap64 (1 - (wrap64 (2 * (Int.tmod t 2))))))) + 1)) ≤ 6) && ((dirs.extract ((wrap64 (t + (wrap64 (1 - (wrap64 (2 * (Int.tmod t 2))))))) : Int).toNat ((wrap64 ((wrap64 (t + (wrap64 (1 - (wrap64 (2 * (Int.tmod t 2))))))) + 1)) : Int).toNat).data.toList == [(impl_ReverseMove.flip (n : Int)).toNat.toUInt8])))
  | none => false
theorem step_fin : ∀ n ∈ List.range 256, impl_ReverseMove.valid (n : Int) = true → stepB n = true := by decide +kernel
/-- The opposite letter. -/
def flipU (b : UInt8) : UInt8 := (impl_ReverseMove.flip (b.toNat : Int)).toNat.toUInt8
theorem bt_get (s : ByteArray) (j : Nat) (h : j < s.data.toList.length) : bt s (j : Int) = ((s.data.toList[j]).toNat : Int) := by
  have h2 : j < s.size := by rw [Array.length_toList] at h; exact h
  have h3 : (j : Int).toNat < s.size := by omega
  unfold bt
  rw [dif_pos h3]
  rfl
theorem back_l0 (s : ByteArray) (m : Int) (h6 : s.size ≤ 6) (hv : ∀ b ∈ s.data.toList, impl_ReverseMove.valid (b.toNat : Int) = true) : ∀ (j k : Nat) (acc : ByteArray), j ≤ s.size → j + 20 ≤ k → acc.size + j ≤ 100 →
    spec_mvBack.l0 k acc ((j : Int) - 1) s m = some (⟨acc.data ++ (((s.data.toList.take j).reverse.map flipU).toArray)⟩, m) := by
  intro j
  induction j with
  | zero =>
    intro k acc hj hk ha
    obtain ⟨k, rfl⟩ : ∃ q, k = q + 1 := ⟨k - 1, by omega⟩
    rw [spec_mvBack.l0, if_neg (by omega)]
    simp
  | succ j ih =>
    intro k acc hj hk ha
    obtain ⟨k, rfl⟩ : ∃ q, k = q + 1 := ⟨k - 1, by omega⟩
    have hl : j < s.data.toList.length := by rw [Array.length_toList]; exact hj
    have hb := hv _ (List.getElem_mem hl)
    obtain ⟨b, hbe⟩ : ∃ b, b = s.data.toList[j] := ⟨_, rfl⟩
    rw [← hbe] at hb
    have hbt : bt s (((j + 1 : Nat) : Int) - 1) = (b.toNat : Int) := by rw [show ((j + 1 : Nat) : Int) - 1 = (j : Int) from by omega, bt_get s j hl, hbe]
    have hst := step_fin b.toNat (List.mem_range.2 b.toNat_lt) hb
    unfold stepB at hst
    cases hm : spec_mvIndex.f 10 (b.toNat : Int) with
    | none => rw [hm] at hst; cases hst
    | some t =>
      rw [hm] at hst
      simp only [Bool.and_eq_true, decide_eq_true_eq, beq_iff_eq] at hst
      obtain ⟨g1, g2, g3, g4⟩ := hst
      have hm2 : spec_mvIndex.f k (b.toNat : Int) = some t := at_rounds (g := fun k => spec_mvIndex.f k (b.toNat : Int)) (fun k => spec_mvIndex.mono _ k) (show 10 ≤ k by omega) hm
      have hw : wrap64 (((j + 1 : Nat) : Int) - 1 - 1) = (j : Int) - 1 := by unfold wrap64; omega
      have hex : dirs.extract ((wrap64 (t + (wrap64 (1 - (wrap64 (2 * (Int.tmod t 2))))))) : Int).toNat ((wrap64 ((wrap64 (t + (wrap64 (1 - (wrap64 (2 * (Int.tmod t 2))))))) + 1)) : Int).toNat = ⟨#[flipU b]⟩ := by
        obtain ⟨d, hd⟩ : ∃ d, d = dirs.extract ((wrap64 (t + (wrap64 (1 - (wrap64 (2 * (Int.tmod t 2))))))) : Int).toNat ((wrap64 ((wrap64 (t + (wrap64 (1 - (wrap64 (2 * (Int.tmod t 2))))))) + 1)) : Int).toNat := ⟨_, rfl⟩
        rw [← hd] at g4 ⊢
        obtain ⟨d⟩ := d
        congr 1
        exact Array.toList_inj.1 g4
      have hin : spec_mvLetters.f = some dirs := rfl
      rw [spec_mvBack.l0, if_pos (by omega), if_pos (by omega), if_pos (by have : s.size = s.data.size := rfl; omega), hbt, hm2, Option.bind_some, hin, Option.bind_some, if_pos g1, if_pos g2, if_pos (show _ ≤ (dirs.size : Int) from g3), hex, if_pos (by have : (⟨#[flipU b]⟩ : ByteArray).size = 1 := rfl; omega), hw]
      have hsz : (acc ++ (⟨#[flipU b]⟩ : ByteArray)).size = acc.size + 1 := by rw [ByteArray.size_append]; rfl
      rw [ih k (acc ++ ⟨#[flipU b]⟩) (by omega) (by omega) (by rw [hsz]; omega)]
      congr 2
      rw [List.take_succ_eq_append_getElem hl, List.reverse_append, List.map_append, ← hbe]
      have hd : (acc ++ (⟨#[flipU b]⟩ : ByteArray)).data = acc.data ++ #[flipU b] := ByteArray.data_append ..
      rw [hd]
      simp
theorem rev_small (l : List Int) (h : l.length ≤ 6) : slices_Reverse_byte_byte.f 20 l = some l.reverse := by
  rcases l with _ | ⟨a, _ | ⟨b, _ | ⟨c, _ | ⟨d, _ | ⟨e, _ | ⟨f, _ | ⟨g, l⟩⟩⟩⟩⟩⟩⟩
  · kernel_rfl
  · kernel_rfl
  · kernel_rfl
  · kernel_rfl
  · kernel_rfl
  · kernel_rfl
  · kernel_rfl
  · simp at h
theorem move_true {s : ByteArray} {m : Int} {k : Nat} (hn : s.size ≤ 9223372036854775807) (hk : s.size + 12 < k) (h : impl_IsMove.f k s m = some true) : s.size ≤ 6 ∧ ∀ b ∈ s.data.toList, impl_ReverseMove.valid (b.toNat : Int) = true := by
  unfold impl_IsMove.f at h
  by_cases h6 : (s.size : Int) ≤ 6
  · rw [if_pos h6, show (⟨#[117, 100, 108, 114, 102, 98]⟩ : ByteArray) = dirs from rfl, hasOnly_eq dirs s k hn (by omega), Option.bind_some] at h
    cases hf : from_ (has dirs s) 0 s.size
    · rw [hf] at h; cases h
    · refine ⟨by omega, fun b hb => ?_⟩
      obtain ⟨j, hj, rfl⟩ := List.getElem_of_mem hb
      have h1 := (from_iff _ _).1 hf j (by rw [Array.length_toList] at hj; exact hj)
      unfold has at h1
      rw [bt_get s j hj] at h1
      exact has_valid _ (List.mem_range.2 (UInt8.toNat_lt _)) h1
  · rw [if_neg h6] at h; cases h
/-- Both tell the same reversed movement. -/
theorem back_same (s : ByteArray) (m : Int) (k : Nat) (hn : s.size ≤ 9223372036854775807) (hk : s.size + 60 < k) : ∃ r1 r2 r3, spec_ReverseMove.f k s m = some (r1, r2, r3) ∧ impl_ReverseMove.f k s m = some (r1, r2, r3) := by
  obtain ⟨b, h1, h2⟩ := move_same s m k hn (by omega)
  unfold spec_ReverseMove.f impl_ReverseMove.f
  rw [h1, h2, Option.bind_some, Option.bind_some]
  cases b
  · exact ⟨_, _, _, rfl, rfl⟩
  · obtain ⟨h6, hv⟩ := move_true hn (by omega) h2
    have hlen : (impl_ReverseMove.bytes s).length = s.size := by unfold impl_ReverseMove.bytes; rw [List.length_map, Array.length_toList]; rfl
    have hr := at_rounds (g := fun k => slices_Reverse_byte_byte.f k (impl_ReverseMove.bytes s)) (fun k => slices_Reverse_byte_byte.mono _ k) (show 20 ≤ k by omega) (rev_small _ (by omega))
    have hb := back_l0 s m h6 hv s.size k ⟨#[]⟩ (Nat.le_refl _) (by omega) (by show 0 + s.size ≤ 100; omega)
    have hw : wrap64 ((s.size : Int) - 1) = (s.size : Int) - 1 := by unfold wrap64; omega
    have hval : (impl_ReverseMove.bytes s).reverse.all impl_ReverseMove.valid = true := by
      rw [List.all_eq_true]
      intro x hx
      rw [List.mem_reverse] at hx
      unfold impl_ReverseMove.bytes at hx
      obtain ⟨y, hy, rfl⟩ := List.mem_map.1 hx
      exact hv y hy
    unfold spec_mvBack.f
    rw [if_pos rfl, if_pos rfl, hw, hb, show slices_Reverse_byte_byte.f k (impl_ReverseMove.bytes s) = some (impl_ReverseMove.bytes s).reverse from hr, Option.bind_some, Option.bind_some, if_pos ⟨hval, by rw [List.length_reverse, hlen], h6⟩]
    refine ⟨_, _, _, rfl, ?_⟩
    congr 2
    unfold impl_ReverseMove.text impl_ReverseMove.bytes
    rw [show s.data.toList.take s.size = s.data.toList from List.take_of_length_le (by rw [Array.length_toList]; exact Nat.le_refl _)]
    simp [flipU, Function.comp_def]
theorem eqMove_self (s : ByteArray) (m : Int) : laws_eqMove.f s m s m = some true := by
  unfold laws_eqMove.f; simp
end Go.Proofs.Ytkhaofalaikegaa.MFnExactReverseMove
