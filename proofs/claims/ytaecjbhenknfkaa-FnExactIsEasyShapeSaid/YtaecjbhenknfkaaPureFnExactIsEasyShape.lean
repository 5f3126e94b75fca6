/- The plain law behind FnExactIsEasyShape: what the printed functions answer is true, for every input. -/
import Derived.Test.YtaecjbhenknfkaaFAx11 -- home: laws_FnExactIsEasyShape.f
import Derived.Test.YtaecjbhenknfkaaMFnExactIsEasyShape
namespace Go.Proofs.Ytaecjbhenknfkaa.Pure
open Go.RowKit Go.Proofs.Ytaecjbhenknfkaa.MFnExactIsEasyShape Go.Proofs.Ytaecjbhenknfkaa.FA Go.Proofs.YtaecjbhenknfkaaW.PrintWords Go.Proofs.YtaecjbhenknfkaaW.PrintLast Go.Proofs.YtaecjbhenknfkaaW.PrintMore
set_option linter.unusedVariables false

theorem FnExactIsEasyShape (a0_0 : Int) (a0_1 : Int) (a0_2 : Int) (a0_3 : Int) (a0_4 : Int) (a0_5 : Bool) (w0_0 : (Lit.int .i64 a0_0).wf = true) (w0_1 : (Lit.int .i64 a0_1).wf = true) (w0_2 : (Lit.int .i64 a0_2).wf = true) (w0_3 : (Lit.int .i64 a0_3).wf = true) (w0_4 : (Lit.int .i64 a0_4).wf = true) : ∃ k, laws_FnExactIsEasyShape.f k a0_0 a0_1 a0_2 a0_3 a0_4 a0_5 = some true := by
  obtain ⟨z, h1, h2⟩ := easy_same a0_0 a0_1 a0_2 a0_3 a0_4 a0_5 100 (by omega)
  refine ⟨100, ?_⟩
  unfold laws_FnExactIsEasyShape.f laws_toShape.f
  simp only [Option.bind_some, h1, h2, bne_self_eq_false, Bool.false_eq_true, if_false]

end Go.Proofs.Ytaecjbhenknfkaa.Pure
