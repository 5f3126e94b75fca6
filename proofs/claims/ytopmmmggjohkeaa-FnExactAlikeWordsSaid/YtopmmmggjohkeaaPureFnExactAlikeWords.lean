/- The plain law behind FnExactAlikeWords: what the printed functions answer is true, for every input. -/
import Derived.Test.YtopmmmggjohkeaaFGx15 -- home: laws_FnExactAlikeWords.f
import Derived.Test.YtopmmmggjohkeaaMFnExactAlikeWords
namespace Go.Proofs.Ytopmmmggjohkeaa.Pure
open Go.RowKit Go.Proofs.Ytopmmmggjohkeaa.MFnExactAlikeWords Go.Proofs.Ytopmmmggjohkeaa.FG Go.Proofs.YtopmmmggjohkeaaW.PrintWords Go.Proofs.YtopmmmggjohkeaaW.PrintLast Go.Proofs.YtopmmmggjohkeaaW.PrintMore
set_option linter.unusedVariables false

theorem FnExactAlikeWords (l0 : List Int) (l1 : List ByteArray) (y0 : l0.length * 8 ≤ 140737488351232) (q0 : ∀ x ∈ l0, (Lit.int .i64 x).wf = true) (y1 : l1.length * 16 ≤ 140737488351232) (q1 : ∀ x ∈ l1, x.size ≤ maxLen) : ∃ k, laws_FnExactAlikeWords.f k l0 l1 = some true := by
  have hn1 : l1.length ≤ 8796093022207 := by omega
  by_cases hb : (l0.length : Int) > 1048576
  · exact ⟨0, by unfold laws_FnExactAlikeWords.f; rw [if_pos hb]⟩
  obtain ⟨k, hk⟩ : ∃ k, k = l0.length + l1.length + 1048576 + 10000 := ⟨_, rfl⟩
  refine ⟨k, ?_⟩
  unfold laws_FnExactAlikeWords.f
  rw [if_neg hb]
  obtain ⟨z, hz, hz2⟩ := sz_eq l1 hn1 q1 k (by omega)
  rw [hz, Option.bind_some]
  by_cases hz0 : z < 0
  · rw [if_pos hz0]
  rw [if_neg hz0]
  obtain ⟨hl1, hB⟩ := hz2 (by omega)
  obtain ⟨p1, p2⟩ := pairs_eq l0 l1 1048576 k (by omega) hB (by omega) (by omega)
  have h400 := pairs_len l0 l1
  have h2 := pairs_two l0 l1
  generalize pairs l0 l1 = r at p1 p2 h400 h2
  obtain ⟨m1, a1, _, _⟩ := markIntS_eq l0 k 1 (by omega) (by omega) (by omega)
  obtain ⟨m2, b1, _, _⟩ := markStringS_eq l1 k (1 + l0.length) (by omega) (by omega) (by omega)
  obtain ⟨y, m3, c1, c2, c3⟩ := marks_eq r.1 k h400 h2 (by omega)
  rw [toIntS_eq l0 k (by omega) (by omega), Option.bind_some, toStringS_eq l1 k hl1 (by omega), Option.bind_some, p1, Option.bind_some, p2, Option.bind_some, eqIntS_self l0 k (by omega) (by omega), Option.bind_some, eqStringS_self l1 k hl1 (by omega), Option.bind_some]
  unfold laws_FnExactAlikeWords.ok
  rw [eqIntSS_eq r.1 k h400 h2 (by omega), Option.bind_some, a1, Option.bind_some]
  simp only
  rw [b1, Option.bind_some, c1, Option.bind_some]
  simp only
  rw [c3, Option.bind_some]
  have n1 : decide (0 ≤ 1 + (l0.length : Int) + (l1.length : Int)) = true := decide_eq_true (by omega)
  have n2 : decide (0 ≤ y) = true := decide_eq_true (by omega)
  simp [n1, n2]

end Go.Proofs.Ytopmmmggjohkeaa.Pure
