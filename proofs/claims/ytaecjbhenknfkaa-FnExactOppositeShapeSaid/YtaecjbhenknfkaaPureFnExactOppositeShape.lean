/- The plain law behind FnExactOppositeShape: what the printed functions answer is true, for every input. -/
import Derived.Test.YtaecjbhenknfkaaFAx27 -- home: laws_FnExactOppositeShape.f
import Derived.Test.YtaecjbhenknfkaaMFnExactOppositeShape
namespace Go.Proofs.Ytaecjbhenknfkaa.Pure
open Go.RowKit Go.Proofs.Ytaecjbhenknfkaa.MFnExactOppositeShape Go.Proofs.Ytaecjbhenknfkaa.FA Go.Proofs.YtaecjbhenknfkaaW.PrintWords Go.Proofs.YtaecjbhenknfkaaW.PrintLast Go.Proofs.YtaecjbhenknfkaaW.PrintMore
set_option linter.unusedVariables false

theorem FnExactOppositeShape (a0_0 : Int) (a0_1 : Int) (a0_2 : Int) (a0_3 : Int) (a0_4 : Int) (a0_5 : Bool) (w0_0 : (Lit.int .i64 a0_0).wf = true) (w0_1 : (Lit.int .i64 a0_1).wf = true) (w0_2 : (Lit.int .i64 a0_2).wf = true) (w0_3 : (Lit.int .i64 a0_3).wf = true) (w0_4 : (Lit.int .i64 a0_4).wf = true) : ∃ k, laws_FnExactOppositeShape.f k a0_0 a0_1 a0_2 a0_3 a0_4 a0_5 = some true := by
  refine ⟨100, ?_⟩
  unfold laws_FnExactOppositeShape.f laws_toShape.f spec_OppositeShape.f impl_OppositeShape.f
  simp only [Option.bind_some]
  rw [hshape_spec a0_0 a0_1 a0_2 a0_3 a0_4 a0_5 100 (by omega), hshape_impl]
  cases hg : hshape a0_0 a0_1 a0_2 a0_3 a0_4 a0_5
  · simp [eq_shape]
  have e1 := at_rounds (g := fun k => spec_OppositeShape.l0 k [] [a0_1, a0_2, a0_3, a0_4] 4 0 a0_0 a0_1 a0_2 a0_3 a0_4 a0_5) (fun k => spec_OppositeShape.mono_l k _ _ _ _ _ _ _ _ _ _) (show 20 ≤ 100 by omega) (opp_spec hg)
  have e2 := at_rounds (g := fun k => impl_OppositeShape.l0 k [a0_1, a0_2, a0_3, a0_4] 4 0 a0_0 0 0 0 0 false) (fun k => impl_OppositeShape.mono_l k _ _ _ _ _ _ _ _ _) (show 20 ≤ 100 by omega) (opp_impl hg)
  unfold spec_shFingers.f impl_Shape_bends.f
  simp only [Option.bind_some, if_true]
  rw [show (([a0_1, a0_2, a0_3, a0_4] : List Int).length : Int) = 4 from rfl]
  rw [e1, e2]
  simp [eq_shape]

end Go.Proofs.Ytaecjbhenknfkaa.Pure
