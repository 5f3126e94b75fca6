/- The plain law behind FnExactShapeDistance: what the printed functions answer is true, for every input. -/
import Derived.Test.YtaecjbhenknfkaaFAx16 -- home: laws_FnExactShapeDistance.f
import Derived.Test.YtaecjbhenknfkaaMFnExactShapeDistance
namespace Go.Proofs.Ytaecjbhenknfkaa.Pure
open Go.RowKit Go.Proofs.Ytaecjbhenknfkaa.MFnExactShapeDistance Go.Proofs.Ytaecjbhenknfkaa.FA Go.Proofs.YtaecjbhenknfkaaW.PrintWords Go.Proofs.YtaecjbhenknfkaaW.PrintLast Go.Proofs.YtaecjbhenknfkaaW.PrintMore
set_option linter.unusedVariables false

theorem FnExactShapeDistance (a0_0 : Int) (a0_1 : Int) (a0_2 : Int) (a0_3 : Int) (a0_4 : Int) (a0_5 : Bool) (a1_0 : Int) (a1_1 : Int) (a1_2 : Int) (a1_3 : Int) (a1_4 : Int) (a1_5 : Bool) (w0_0 : (Lit.int .i64 a0_0).wf = true) (w0_1 : (Lit.int .i64 a0_1).wf = true) (w0_2 : (Lit.int .i64 a0_2).wf = true) (w0_3 : (Lit.int .i64 a0_3).wf = true) (w0_4 : (Lit.int .i64 a0_4).wf = true) (w1_0 : (Lit.int .i64 a1_0).wf = true) (w1_1 : (Lit.int .i64 a1_1).wf = true) (w1_2 : (Lit.int .i64 a1_2).wf = true) (w1_3 : (Lit.int .i64 a1_3).wf = true) (w1_4 : (Lit.int .i64 a1_4).wf = true) : ∃ k, laws_FnExactShapeDistance.f k a0_0 a0_1 a0_2 a0_3 a0_4 a0_5 a1_0 a1_1 a1_2 a1_3 a1_4 a1_5 = some true := by
  refine ⟨100, ?_⟩
  unfold laws_FnExactShapeDistance.f laws_toShape.f spec_ShapeDistance.f impl_ShapeDistance.f
  simp only [Option.bind_some]
  rw [hshape_spec a0_0 a0_1 a0_2 a0_3 a0_4 a0_5 100 (by omega), hshape_impl, hshape_spec a1_0 a1_1 a1_2 a1_3 a1_4 a1_5 100 (by omega), hshape_impl]
  cases hg : hshape a0_0 a0_1 a0_2 a0_3 a0_4 a0_5
  · simp
  cases hh : hshape a1_0 a1_1 a1_2 a1_3 a1_4 a1_5
  · simp
  obtain ⟨z, hz⟩ := far_same hg hh
  obtain ⟨h1, h2⟩ := hz 100 (by omega)
  rw [h1, h2]
  simp

end Go.Proofs.Ytaecjbhenknfkaa.Pure
