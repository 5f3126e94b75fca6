/- The plain law behind FnExactOneHand: what the printed functions answer is true, for every input. -/
import Derived.Test.YtkhaofalaikegaaFBx15 -- home: laws_FnExactOneHand.f
import Derived.Test.YtkhaofalaikegaaMFnExactOneHand
namespace Go.Proofs.Ytkhaofalaikegaa.Pure
open Go.RowKit Go.Proofs.Ytkhaofalaikegaa.MFnExactOneHand Go.Proofs.Ytkhaofalaikegaa.FB Go.Proofs.YtkhaofalaikegaaW.PrintWords Go.Proofs.YtkhaofalaikegaaW.PrintLast Go.Proofs.YtkhaofalaikegaaW.PrintMore
set_option linter.unusedVariables false

theorem FnExactOneHand (a0_0 : Int) (a0_1 : Int) (a0_2 : Int) (a0_3 : Int) (a0_4 : Int) (a0_5 : Bool) (a0_6 : Int) (a0_7 : Int) (a0_8 : Int) (a0_9 : Int) (a0_10 : Bool) (a0_11 : ByteArray) (a0_12 : Int) (w0_0 : (Lit.int .i64 a0_0).wf = true) (w0_1 : (Lit.int .i64 a0_1).wf = true) (w0_2 : (Lit.int .i64 a0_2).wf = true) (w0_3 : (Lit.int .i64 a0_3).wf = true) (w0_4 : (Lit.int .i64 a0_4).wf = true) (w0_6 : (Lit.int .i64 a0_6).wf = true) (w0_7 : (Lit.int .i64 a0_7).wf = true) (w0_8 : (Lit.int .i64 a0_8).wf = true) (w0_9 : (Lit.int .i64 a0_9).wf = true) (w0_11 : a0_11.size ≤ maxLen) (w0_12 : (Lit.int .i64 a0_12).wf = true) : ∃ k, laws_FnExactOneHand.f k a0_0 a0_1 a0_2 a0_3 a0_4 a0_5 a0_6 a0_7 a0_8 a0_9 a0_10 a0_11 a0_12 = some true := by
  have hm : a0_11.size ≤ 9223372036854775807 := w0_11
  obtain ⟨b, h1, h2⟩ := hand_same a0_0 a0_1 a0_2 a0_3 a0_4 a0_5 a0_6 a0_7 a0_8 a0_9 a0_10 a0_11 a0_12 (a0_11.size + 100) hm (by omega)
  refine ⟨a0_11.size + 100, ?_⟩
  unfold laws_FnExactOneHand.f laws_szHand.f laws_szMove.f laws_toHand.f laws_toShape.f laws_toOrient.f laws_toPlace.f laws_toMove.f spec_OneHand.f impl_OneHand.f
  by_cases hb : wrap64 (1048576 - (a0_11.size : Int)) < 0
  · rw [if_pos hb]; rfl
  rw [if_neg hb]
  have h3 : impl_IsHand.f (a0_11.size + 100) a0_0 a0_1 a0_2 a0_3 a0_4 a0_5 a0_6 a0_7 a0_8 a0_9 a0_10 a0_11 a0_12 = some b := h2
  simp only [Option.bind_some, if_neg hb, h1, h3]
  cases b <;> simp [laws_eqSign.f, laws_eqHand.f, laws_eqShape.f, laws_eqOrient.f, laws_eqPlace.f, laws_eqMove.f]

end Go.Proofs.Ytkhaofalaikegaa.Pure
