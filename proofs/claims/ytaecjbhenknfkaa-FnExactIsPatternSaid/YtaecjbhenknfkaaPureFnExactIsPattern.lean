/- The plain law behind FnExactIsPattern: what the printed functions answer is true, for every input. -/
import Derived.Test.YtaecjbhenknfkaaFAx48 -- home: laws_FnExactIsPattern.f
import Derived.Test.YtaecjbhenknfkaaMFnExactIsPattern
namespace Go.Proofs.Ytaecjbhenknfkaa.Pure
open Go.RowKit Go.Proofs.Ytaecjbhenknfkaa.MFnExactIsPattern Go.Proofs.Ytaecjbhenknfkaa.FA Go.Proofs.YtaecjbhenknfkaaW.PrintWords Go.Proofs.YtaecjbhenknfkaaW.PrintLast Go.Proofs.YtaecjbhenknfkaaW.PrintMore
set_option linter.unusedVariables false

theorem FnExactIsPattern (a0_0 : ByteArray) (a0_1 : ByteArray) (a0_2 : Int) (a0_3 : ByteArray) (a0_4 : Int) (w0_0 : a0_0.size ≤ maxLen) (w0_1 : a0_1.size ≤ maxLen) (w0_2 : (Lit.int .i64 a0_2).wf = true) (w0_3 : a0_3.size ≤ maxLen) (w0_4 : (Lit.int .i64 a0_4).wf = true) : ∃ k, laws_FnExactIsPattern.f k a0_0 a0_1 a0_2 a0_3 a0_4 = some true := by
  have h0 : a0_0.size ≤ 9223372036854775807 := w0_0
  have h1 : a0_1.size ≤ 9223372036854775807 := w0_1
  have h3 : a0_3.size ≤ 9223372036854775807 := w0_3
  obtain ⟨k, hk⟩ : ∃ k, k = a0_0.size + a0_1.size + a0_3.size + 100 := ⟨_, rfl⟩
  refine ⟨k, ?_⟩
  have e1 := pattern_spec a0_0 a0_1 a0_2 a0_3 a0_4 k h0 h1 h3 (by omega)
  have e2 := pattern_impl a0_0 a0_1 a0_2 a0_3 a0_4 k h0 h1 h3 (by omega)
  unfold laws_FnExactIsPattern.f laws_toPattern.f spec_IsPattern.f
  cases hs : laws_szPattern.f a0_0 a0_1 a0_2 a0_3 a0_4 1048576 with
  | none =>
    exfalso
    unfold laws_szPattern.f at hs
    repeat' split at hs
    all_goals cases hs
  | some z =>
    simp only [Option.bind_some, e1, e2, bne_self_eq_false, Bool.false_eq_true, if_false]
    split <;> rfl

end Go.Proofs.Ytaecjbhenknfkaa.Pure
