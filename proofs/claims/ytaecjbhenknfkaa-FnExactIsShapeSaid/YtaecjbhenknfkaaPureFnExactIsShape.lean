/- The plain law behind FnExactIsShape: what the printed functions answer is true, for every input. -/
import Derived.Test.YtaecjbhenknfkaaFAx6 -- home: laws_FnExactIsShape.f
import Derived.Test.YtaecjbhenknfkaaMFnExactIsShape
namespace Go.Proofs.Ytaecjbhenknfkaa.Pure
open Go.RowKit Go.Proofs.Ytaecjbhenknfkaa.MFnExactIsShape Go.Proofs.Ytaecjbhenknfkaa.FA Go.Proofs.YtaecjbhenknfkaaW.PrintWords Go.Proofs.YtaecjbhenknfkaaW.PrintLast Go.Proofs.YtaecjbhenknfkaaW.PrintMore
set_option linter.unusedVariables false

theorem FnExactIsShape (a0_0 : Int) (a0_1 : Int) (a0_2 : Int) (a0_3 : Int) (a0_4 : Int) (a0_5 : Bool) (w0_0 : (Lit.int .i64 a0_0).wf = true) (w0_1 : (Lit.int .i64 a0_1).wf = true) (w0_2 : (Lit.int .i64 a0_2).wf = true) (w0_3 : (Lit.int .i64 a0_3).wf = true) (w0_4 : (Lit.int .i64 a0_4).wf = true) : ∃ k, laws_FnExactIsShape.f k a0_0 a0_1 a0_2 a0_3 a0_4 a0_5 = some true := by
  refine ⟨100, ?_⟩
  unfold laws_FnExactIsShape.f laws_toShape.f spec_IsShape.f
  simp only [Option.bind_some]
  rw [hshape_spec a0_0 a0_1 a0_2 a0_3 a0_4 a0_5 100 (by omega), hshape_impl]
  simp only [Option.bind_some, bne_self_eq_false, Bool.false_eq_true, if_false]

end Go.Proofs.Ytaecjbhenknfkaa.Pure
