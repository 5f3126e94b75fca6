/- The plain law behind FnExactIsWeaker: what the printed functions answer is true, for every input. -/
import Derived.Test.YtkhaofalaikegaaFAx37 -- home: laws_FnExactIsWeaker.f
import Derived.Test.YtkhaofalaikegaaMFnExactIsWeaker
namespace Go.Proofs.Ytkhaofalaikegaa.Pure
open Go.RowKit Go.Proofs.Ytkhaofalaikegaa.MFnExactIsWeaker Go.Proofs.Ytkhaofalaikegaa.FA Go.Proofs.YtkhaofalaikegaaW.PrintWords Go.Proofs.YtkhaofalaikegaaW.PrintLast Go.Proofs.YtkhaofalaikegaaW.PrintMore
set_option linter.unusedVariables false

theorem FnExactIsWeaker (a0_0 : ByteArray) (a0_1 : ByteArray) (a0_2 : Int) (a0_3 : ByteArray) (a0_4 : Int) (a1_0 : ByteArray) (a1_1 : ByteArray) (a1_2 : Int) (a1_3 : ByteArray) (a1_4 : Int) (w0_0 : a0_0.size ≤ maxLen) (w0_1 : a0_1.size ≤ maxLen) (w0_2 : (Lit.int .i64 a0_2).wf = true) (w0_3 : a0_3.size ≤ maxLen) (w0_4 : (Lit.int .i64 a0_4).wf = true) (w1_0 : a1_0.size ≤ maxLen) (w1_1 : a1_1.size ≤ maxLen) (w1_2 : (Lit.int .i64 a1_2).wf = true) (w1_3 : a1_3.size ≤ maxLen) (w1_4 : (Lit.int .i64 a1_4).wf = true) : ∃ k, laws_FnExactIsWeaker.f k a0_0 a0_1 a0_2 a0_3 a0_4 a1_0 a1_1 a1_2 a1_3 a1_4 = some true := by
  have h0 : a0_0.size ≤ 9223372036854775807 := w0_0
  have h1 : a0_1.size ≤ 9223372036854775807 := w0_1
  have h3 : a0_3.size ≤ 9223372036854775807 := w0_3
  have g0 : a1_0.size ≤ 9223372036854775807 := w1_0
  have g1 : a1_1.size ≤ 9223372036854775807 := w1_1
  have g3 : a1_3.size ≤ 9223372036854775807 := w1_3
  obtain ⟨k, hk⟩ : ∃ k, k = a0_0.size + a0_1.size + a0_3.size + a1_0.size + a1_1.size + a1_3.size + 100 := ⟨_, rfl⟩
  obtain ⟨r, e1, e2⟩ := weaker_same a0_0 a0_1 a0_2 a0_3 a0_4 a1_0 a1_1 a1_2 a1_3 a1_4 k h0 h1 h3 g0 g1 g3 (by omega)
  refine ⟨k + 1, ?_⟩
  unfold laws_FnExactIsWeaker.f laws_toPattern.f
  obtain ⟨z, hz⟩ := sz_some a0_0 a0_1 a0_2 a0_3 a0_4 1048576
  rw [hz]
  simp only [Option.bind_some]
  by_cases hz0 : z < 0
  · rw [if_pos hz0]
  rw [if_neg hz0]
  obtain ⟨y, hy⟩ := sz_some a1_0 a1_1 a1_2 a1_3 a1_4 z
  rw [hy]
  simp only [Option.bind_some]
  by_cases hy0 : y < 0
  · rw [if_pos hy0]
  rw [if_neg hy0]
  simp only [Option.bind_some, e1, e2, bne_self_eq_false, Bool.false_eq_true, if_false]

end Go.Proofs.Ytkhaofalaikegaa.Pure
