/- The plain law behind FnExactSetFinger: what the printed functions answer is true, for every input. -/
import Derived.Test.YtaecjbhenknfkaaFAx29 -- home: laws_FnExactSetFinger.f
import Derived.Test.YtaecjbhenknfkaaMFnExactSetFinger
namespace Go.Proofs.Ytaecjbhenknfkaa.Pure
open Go.RowKit Go.Proofs.Ytaecjbhenknfkaa.MFnExactSetFinger Go.Proofs.Ytaecjbhenknfkaa.FA Go.Proofs.YtaecjbhenknfkaaW.PrintWords Go.Proofs.YtaecjbhenknfkaaW.PrintLast Go.Proofs.YtaecjbhenknfkaaW.PrintMore
set_option linter.unusedVariables false

theorem FnExactSetFinger (a0_0 : Int) (a0_1 : Int) (a0_2 : Int) (a0_3 : Int) (a0_4 : Int) (a0_5 : Bool) (a1 : Int) (a2 : Int) (w0_0 : (Lit.int .i64 a0_0).wf = true) (w0_1 : (Lit.int .i64 a0_1).wf = true) (w0_2 : (Lit.int .i64 a0_2).wf = true) (w0_3 : (Lit.int .i64 a0_3).wf = true) (w0_4 : (Lit.int .i64 a0_4).wf = true) (w1 : (Lit.int .i64 a1).wf = true) (w2 : (Lit.int .i64 a2).wf = true) : ∃ k, laws_FnExactSetFinger.f k a0_0 a0_1 a0_2 a0_3 a0_4 a0_5 a1 a2 = some true := by
  refine ⟨100, ?_⟩
  unfold laws_FnExactSetFinger.f laws_toShape.f spec_SetFinger.f impl_SetFinger.f
  simp only [Option.bind_some]
  rw [hshape_spec a0_0 a0_1 a0_2 a0_3 a0_4 a0_5 100 (by omega), hshape_impl]
  cases hg : hshape a0_0 a0_1 a0_2 a0_3 a0_4 a0_5
  · simp [eq_shape]
  simp only [Option.bind_some, if_true, within_in]
  by_cases h1 : 0 ≤ a1 ∧ a1 ≤ 4
  · rw [in_yes h1]
    simp only [Option.bind_some, if_true]
    by_cases h2 : 0 ≤ a2 ∧ a2 ≤ 2
    · rw [in_yes h2]
      simp only [Option.bind_some, if_true]
      have h3 : a1 = 0 ∨ a1 = 1 ∨ a1 = 2 ∨ a1 = 3 ∨ a1 = 4 := by omega
      rcases h3 with rfl | rfl | rfl | rfl | rfl
      · rw [set0 100 (by omega), with0]; simp [eq_shape]
      · rw [set1 100 (by omega), with1]; simp [eq_shape]
      · rw [set2 100 (by omega), with2]; simp [eq_shape]
      · rw [set3 100 (by omega), with3]; simp [eq_shape]
      · rw [set4 100 (by omega), with4]; simp [eq_shape]
    · rw [in_no h2]; simp [eq_shape]
  · rw [in_no h1]; simp [eq_shape]

end Go.Proofs.Ytaecjbhenknfkaa.Pure
