/- The words that the plain law behind FnExactMirrorMove needs. -/
import Derived.Test.YtkhaofalaikegaaFGx1
import Derived.Test.YtkhaofalaikegaaFGx2 -- home: impl_IsMove.f impl_MirrorMove.f impl_Move_mirrored.f impl_hasOnly.f impl_within.f laws_eqMove.f spec_MirrorMove.f spec_l1In.f spec_mvGood.f spec_mvIndex.f spec_mvMirror.f spec_mvSteps.f strings_IndexByte.f
namespace Go.Proofs.Ytkhaofalaikegaa.MFnExactMirrorMove
open Go.RowKit Go.Proofs.Ytkhaofalaikegaa.FG Go.Proofs.YtkhaofalaikegaaW.PrintWords Go.Proofs.YtkhaofalaikegaaW.PrintLast Go.Proofs.YtkhaofalaikegaaW.PrintMore
set_option linter.unusedVariables false

theorem in_some (a b c : Int) : spec_l1In.f a b c = some (decide (b ≤ a ∧ a ≤ c)) := by
  unfold spec_l1In.f
  by_cases h : b ≤ a <;> simp [h]
theorem within_some (a b c : Int) : impl_within.f a b c = some (decide (b ≤ a ∧ a ≤ c)) := by
  unfold impl_within.f
  by_cases h : b ≤ a <;> simp [h]
/-- Something holds for the d places from i on. -/
def from_ (p : Nat → Bool) (i d : Nat) : Bool := (List.range' i d).all p
theorem from_zero (p : Nat → Bool) (i : Nat) : from_ p i 0 = true := rfl
theorem from_succ (p : Nat → Bool) (i d : Nat) : from_ p i (d + 1) = (p i && from_ p (i + 1) d) := by
  unfold from_; rw [List.range'_succ]; rfl
/-- Does the byte at a place stand among some letters? -/
def has (C s : ByteArray) (i : Nat) : Bool := decide (¬ Lib.indexByte C.data.toList (bt s (i : Int)).toNat.toUInt8 < 0)
theorem hasOnly_any (C s : ByteArray) (hn : s.size ≤ 9223372036854775807) : ∀ (d k i : Nat), i + d = s.size → d < k →
    impl_hasOnly.l0 k s C (s.size : Int) (i : Int) = some (from_ (has C s) i d) := by
  intro d
  induction d with
  | zero =>
    intro k i hi hk
    obtain ⟨k, rfl⟩ : ∃ q, k = q + 1 := ⟨k - 1, by omega⟩
    simp only [impl_hasOnly.l0]
    rw [if_neg (by omega), from_zero]
  | succ d ih =>
    intro k i hi hk
    obtain ⟨k, rfl⟩ : ∃ q, k = q + 1 := ⟨k - 1, by omega⟩
    have hw : wrap64 ((i : Int) + 1) = ((i + 1 : Nat) : Int) := by unfold wrap64; omega
    simp only [impl_hasOnly.l0, strings_IndexByte.f]
    rw [if_pos (by omega), if_pos (by omega), if_pos (by omega), from_succ, hw, ih k (i + 1) (by omega) (by omega)]
    simp only [Option.bind_some]
    unfold has
    by_cases h1 : Lib.indexByte C.data.toList (bt s (i : Int)).toNat.toUInt8 < 0
    · rw [if_pos h1]; simp [h1]
    · rw [if_neg h1]; simp [h1]
theorem hasOnly_eq (C s : ByteArray) (k : Nat) (hn : s.size ≤ 9223372036854775807) (hk : s.size < k) : impl_hasOnly.f k s C = some (from_ (has C s) 0 s.size) := hasOnly_any C s hn s.size k 0 (by omega) hk
/-- The letters of the directions. -/
def dirs : ByteArray := ⟨#[117, 100, 108, 114, 102, 98]⟩
theorem dirs_fin : ∀ n ∈ List.range 256, spec_mvIndex.f 10 (n : Int) = some (Lib.indexByte dirs.data.toList (n : Int).toNat.toUInt8) := by decide +kernel
theorem mvIndex_eq (s : ByteArray) (i : Int) (k : Nat) (hk : 10 ≤ k) : spec_mvIndex.f k (bt s i) = some (Lib.indexByte dirs.data.toList (bt s i).toNat.toUInt8) := by
  obtain ⟨h0, h1⟩ := bt_range s i
  have h := dirs_fin (bt s i).toNat (List.mem_range.2 (by omega))
  rw [Int.toNat_of_nonneg h0] at h
  exact at_rounds (g := fun k => spec_mvIndex.f k (bt s i)) (fun k => spec_mvIndex.mono _ k) hk h
theorem mvSteps_l0 (s : ByteArray) (hn : s.size ≤ 9223372036854775807) : ∀ (d k i : Nat), i + d = s.size → d + 12 < k →
    spec_mvSteps.l0 k s (i : Int) = some (from_ (has dirs s) i d) := by
  intro d
  induction d with
  | zero =>
    intro k i hi hk
    obtain ⟨k, rfl⟩ : ∃ q, k = q + 1 := ⟨k - 1, by omega⟩
    simp only [spec_mvSteps.l0]
    rw [if_neg (by omega), from_zero]
  | succ d ih =>
    intro k i hi hk
    obtain ⟨k, rfl⟩ : ∃ q, k = q + 1 := ⟨k - 1, by omega⟩
    have hw : wrap64 ((i : Int) + 1) = ((i + 1 : Nat) : Int) := by unfold wrap64; omega
    simp only [spec_mvSteps.l0]
    rw [if_pos (by omega), if_pos (by omega), mvIndex_eq s _ k (by omega), from_succ, hw, ih k (i + 1) (by omega) (by omega)]
    simp only [Option.bind_some]
    unfold has
    by_cases h1 : Lib.indexByte dirs.data.toList (bt s (i : Int)).toNat.toUInt8 < 0
    · rw [if_pos h1]; simp [h1]
    · rw [if_neg h1]; simp [h1]
theorem mvSteps_eq (s : ByteArray) (k : Nat) (hn : s.size ≤ 9223372036854775807) (hk : s.size + 12 < k) : spec_mvSteps.f k s = some (from_ (has dirs s) 0 s.size) := mvSteps_l0 s hn s.size k 0 (by omega) hk
/-- Both tell the same of a movement. -/
theorem move_same (s : ByteArray) (r : Int) (k : Nat) (hn : s.size ≤ 9223372036854775807) (hk : s.size + 12 < k) : ∃ b, spec_mvGood.f k s r = some b ∧ impl_IsMove.f k s r = some b := by
  unfold spec_mvGood.f impl_IsMove.f
  rw [show (⟨#[117, 100, 108, 114, 102, 98]⟩ : ByteArray) = dirs from rfl, mvSteps_eq s k hn hk, hasOnly_eq dirs s k hn (by omega)]
  by_cases h6 : (s.size : Int) ≤ 6
  · rw [if_pos h6, if_pos h6]
    simp only [in_some, within_some, Option.bind_some]
    cases from_ (has dirs s) 0 s.size
    · exact ⟨false, rfl, rfl⟩
    · cases decide (1 ≤ r ∧ r ≤ 3)
      · exact ⟨false, rfl, rfl⟩
      · by_cases he : s.toList = []
        · exact ⟨r == 1, by simp [he], by simp [he]⟩
        · exact ⟨true, by simp [he], by simp [he]⟩
  · rw [if_neg h6, if_neg h6]; exact ⟨false, rfl, rfl⟩
theorem move_short {s : ByteArray} {m : Int} {k : Nat} (h : impl_IsMove.f k s m = some true) : s.size ≤ 6 := by
  unfold impl_IsMove.f at h
  by_cases h6 : (s.size : Int) ≤ 6
  · omega
  · rw [if_neg h6] at h; cases h
theorem mir_ext {a b : ByteArray} (h : a.data.toList = b.data.toList) : a = b := by
  apply ByteArray.ext
  exact Array.toList_inj.1 h
theorem text_snoc (l : List Int) (x : Int) : impl_Move_mirrored.text (l ++ [x]) = impl_Move_mirrored.text l ++ ⟨#[x.toNat.toUInt8]⟩ := by
  apply mir_ext
  simp [impl_Move_mirrored.text, ByteArray.data_append]
theorem text_size (l : List Int) : (impl_Move_mirrored.text l).size = l.length := by
  show (impl_Move_mirrored.text l).data.size = _
  simp [impl_Move_mirrored.text]
/-- The letters up to i exchanged. -/
def mirTo (s : ByteArray) (i : Nat) : ByteArray := impl_Move_mirrored.text (((impl_Move_mirrored.bytes s).take i).map impl_Move_mirrored.flip)
theorem mirTo_size (s : ByteArray) (i : Nat) : (mirTo s i).size ≤ i := by
  unfold mirTo
  rw [text_size, List.length_map, List.length_take]
  omega
theorem mirTo_next (s : ByteArray) (i : Nat) (h : i < s.size) : mirTo s (i + 1) = mirTo s i ++ ⟨#[(impl_Move_mirrored.flip (bt s (i : Int))).toNat.toUInt8]⟩ := by
  have hx := impl_Move_mirrored.bytes_at s (i : Int) (by omega) (by omega)
  rw [Int.toNat_natCast] at hx
  unfold mirTo
  rw [List.take_add_one, hx, List.map_append]
  exact text_snoc _ _
theorem extract_one (s : ByteArray) (i : Nat) (h : i < s.size) : s.extract i (i + 1) = ⟨#[(bt s (i : Int)).toNat.toUInt8]⟩ := by
  apply mir_ext
  have h2 : i < s.data.size := h
  have hb : bt s (i : Int) = ((s.data[i]'h2).toNat : Int) := by
    unfold bt
    have h3 : (i : Int).toNat < s.size := by omega
    rw [dif_pos h3]
    rfl
  rw [hb]
  have e : (s.extract i (i + 1)).data = s.data.extract i (i + 1) := by simp [ByteArray.data_extract]
  rw [e]
  simp only [Int.toNat_natCast]
  have e2 : (s.data[i]'h2).toNat.toUInt8 = s.data[i]'h2 := by simp
  rw [e2]
  apply List.ext_getElem?
  intro j
  rw [Array.getElem?_toList, Array.getElem?_extract]
  rcases Nat.eq_zero_or_pos j with hj | hj
  · subst hj
    rw [if_pos (by omega)]
    simp
  · rw [if_neg (by omega)]
    simp
    omega
theorem mirror_l0 (s : ByteArray) (m : Int) (h6 : s.size ≤ 6) : ∀ (d k i : Nat), i + d = s.size → d < k → spec_mvMirror.l0 k (mirTo s i) (i : Int) s m = some (mirTo s s.size, m) := by
  intro d
  induction d with
  | zero =>
    intro k i hi hk
    obtain ⟨k, rfl⟩ : ∃ q, k = q + 1 := ⟨k - 1, by omega⟩
    rw [spec_mvMirror.l0, if_neg (by omega), show i = s.size from by omega]
  | succ d ih =>
    intro k i hi hk
    obtain ⟨k, rfl⟩ : ∃ q, k = q + 1 := ⟨k - 1, by omega⟩
    have hsz := mirTo_size s i
    have hn := mirTo_next s i (by omega)
    have hr := ih k (i + 1) (by omega) (by omega)
    have hw : wrap64 ((i : Int) + 1) = ((i + 1 : Nat) : Int) := by unfold wrap64; omega
    rw [hn] at hr
    unfold impl_Move_mirrored.flip at hr
    rw [spec_mvMirror.l0, if_pos (by omega), if_pos (by omega), hw]
    by_cases h1 : bt s (i : Int) = 108
    · rw [if_pos h1] at hr
      rw [if_pos h1, if_pos (by omega)]
      exact hr
    · rw [if_neg h1] at hr
      rw [if_neg h1]
      by_cases h2 : bt s (i : Int) = 114
      · rw [if_pos h2] at hr
        rw [if_pos h2, if_pos (by omega)]
        exact hr
      · rw [if_neg h2] at hr
        rw [if_neg h2, if_pos (by omega), if_pos (by omega), Int.toNat_natCast, Int.toNat_natCast, extract_one s i (by omega), if_pos (by have : (⟨#[(bt s (i : Int)).toNat.toUInt8]⟩ : ByteArray).size = 1 := rfl; omega)]
        exact hr
theorem mirror_same (s : ByteArray) (m : Int) (k : Nat) (hn : s.size ≤ 9223372036854775807) (hk : s.size + 60 < k) : ∃ r1 r2 r3, spec_MirrorMove.f k s m = some (r1, r2, r3) ∧ impl_MirrorMove.f k s m = some (r1, r2, r3) := by
  obtain ⟨b, h1, h2⟩ := move_same s m k hn (by omega)
  unfold spec_MirrorMove.f impl_MirrorMove.f
  rw [h1, h2, Option.bind_some, Option.bind_some]
  cases b
  · exact ⟨_, _, _, rfl, rfl⟩
  · have h6 := move_short h2
    have hl := mirror_l0 s m h6 s.size k 0 (by omega) (by omega)
    have h0 : mirTo s 0 = ⟨#[]⟩ := rfl
    have hall : mirTo s s.size = impl_Move_mirrored.text ((impl_Move_mirrored.bytes s).map impl_Move_mirrored.flip) := by
      unfold mirTo
      rw [List.take_of_length_le (by rw [impl_Move_mirrored.bytes_len]; exact Nat.le_refl _)]
    rw [h0, hall] at hl
    unfold spec_mvMirror.f impl_Move_mirrored.f
    rw [if_pos rfl, if_pos rfl, show spec_mvMirror.l0 k ⟨#[]⟩ 0 s m = _ from hl, if_pos (by omega)]
    exact ⟨_, _, _, rfl, rfl⟩
theorem mir_eqMove (s : ByteArray) (m : Int) : laws_eqMove.f s m s m = some true := by
  unfold laws_eqMove.f; simp
end Go.Proofs.Ytkhaofalaikegaa.MFnExactMirrorMove
