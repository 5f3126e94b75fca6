/- The plain law behind FnExactBetweenShapes: what the printed functions answer is true, for every input. -/
import Derived.Test.YtaecjbhenknfkaaFCx10 -- home: laws_FnExactBetweenShapes.f
import Derived.Test.YtaecjbhenknfkaaMFnExactBetweenShapes
namespace Go.Proofs.Ytaecjbhenknfkaa.Pure
open Go.RowKit Go.Proofs.Ytaecjbhenknfkaa.MFnExactBetweenShapes Go.Proofs.Ytaecjbhenknfkaa.FC Go.Proofs.YtaecjbhenknfkaaW.PrintWords Go.Proofs.YtaecjbhenknfkaaW.PrintLast Go.Proofs.YtaecjbhenknfkaaW.PrintMore
set_option linter.unusedVariables false

theorem FnExactBetweenShapes (a0_0 : Int) (a0_1 : Int) (a0_2 : Int) (a0_3 : Int) (a0_4 : Int) (a0_5 : Bool) (a1_0 : Int) (a1_1 : Int) (a1_2 : Int) (a1_3 : Int) (a1_4 : Int) (a1_5 : Bool) (w0_0 : (Lit.int .i64 a0_0).wf = true) (w0_1 : (Lit.int .i64 a0_1).wf = true) (w0_2 : (Lit.int .i64 a0_2).wf = true) (w0_3 : (Lit.int .i64 a0_3).wf = true) (w0_4 : (Lit.int .i64 a0_4).wf = true) (w1_0 : (Lit.int .i64 a1_0).wf = true) (w1_1 : (Lit.int .i64 a1_1).wf = true) (w1_2 : (Lit.int .i64 a1_2).wf = true) (w1_3 : (Lit.int .i64 a1_3).wf = true) (w1_4 : (Lit.int .i64 a1_4).wf = true) : ∃ k, laws_FnExactBetweenShapes.f k a0_0 a0_1 a0_2 a0_3 a0_4 a0_5 a1_0 a1_1 a1_2 a1_3 a1_4 a1_5 = some true := by
  obtain ⟨r1, r2, r3, r4, r5, r6, q, h1, h2⟩ := btw_same a0_0 a0_1 a0_2 a0_3 a0_4 a0_5 a1_0 a1_1 a1_2 a1_3 a1_4 a1_5
  refine ⟨101, ?_⟩
  unfold laws_FnExactBetweenShapes.f laws_toShape.f
  simp only [Option.bind_some, h1, h2, eq_shape, if_true, bne_self_eq_false, Bool.false_eq_true, if_false]

end Go.Proofs.Ytaecjbhenknfkaa.Pure
