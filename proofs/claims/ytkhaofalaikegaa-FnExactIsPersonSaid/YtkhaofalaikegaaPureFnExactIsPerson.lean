/- The plain law behind FnExactIsPerson: what the printed functions answer is true, for every input. -/
import Derived.Test.YtkhaofalaikegaaFAx50 -- home: laws_FnExactIsPerson.f
import Derived.Test.YtkhaofalaikegaaMFnExactIsPerson
namespace Go.Proofs.Ytkhaofalaikegaa.Pure
open Go.RowKit Go.Proofs.Ytkhaofalaikegaa.MFnExactIsPerson Go.Proofs.Ytkhaofalaikegaa.FA Go.Proofs.YtkhaofalaikegaaW.PrintWords Go.Proofs.YtkhaofalaikegaaW.PrintLast Go.Proofs.YtkhaofalaikegaaW.PrintMore
set_option linter.unusedVariables false

theorem FnExactIsPerson (a0_0 : ByteArray) (a0_1 : Int) (a0_2 : Int) (a0_3 : Int) (w0_0 : a0_0.size ≤ maxLen) (w0_1 : (Lit.int .i64 a0_1).wf = true) (w0_2 : (Lit.int .i64 a0_2).wf = true) (w0_3 : (Lit.int .i64 a0_3).wf = true) : ∃ k, laws_FnExactIsPerson.f k a0_0 a0_1 a0_2 a0_3 = some true := by
  have hm : a0_0.size ≤ 9223372036854775807 := w0_0
  refine ⟨a0_0.size + 100, ?_⟩
  unfold laws_FnExactIsPerson.f laws_szPerson.f laws_toPerson.f spec_IsPerson.f
  by_cases hb : wrap64 (1048576 - (a0_0.size : Int)) < 0
  · rw [if_pos hb]; rfl
  rw [if_neg hb]
  simp only [Option.bind_some, if_neg hb]
  rw [person_spec a0_0 a0_1 a0_2 a0_3 _ hm (by omega), person_impl a0_0 a0_1 a0_2 a0_3 _ hm (by omega)]
  simp only [Option.bind_some, bne_self_eq_false, Bool.false_eq_true, if_false]

end Go.Proofs.Ytkhaofalaikegaa.Pure
