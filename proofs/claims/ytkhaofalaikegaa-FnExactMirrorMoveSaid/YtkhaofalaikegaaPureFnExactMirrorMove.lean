/- The plain law behind FnExactMirrorMove: what the printed functions answer is true, for every input. -/
import Derived.Test.YtkhaofalaikegaaFGx3 -- home: laws_FnExactMirrorMove.f
import Derived.Test.YtkhaofalaikegaaMFnExactMirrorMove
namespace Go.Proofs.Ytkhaofalaikegaa.Pure
open Go.RowKit Go.Proofs.Ytkhaofalaikegaa.MFnExactMirrorMove Go.Proofs.Ytkhaofalaikegaa.FG Go.Proofs.YtkhaofalaikegaaW.PrintWords Go.Proofs.YtkhaofalaikegaaW.PrintLast Go.Proofs.YtkhaofalaikegaaW.PrintMore
set_option linter.unusedVariables false

theorem FnExactMirrorMove (a0_0 : ByteArray) (a0_1 : Int) (w0_0 : a0_0.size ≤ maxLen) (w0_1 : (Lit.int .i64 a0_1).wf = true) : ∃ k, laws_FnExactMirrorMove.f k a0_0 a0_1 = some true := by
  have hm : a0_0.size ≤ 9223372036854775807 := w0_0
  obtain ⟨r1, r2, r3, h1, h2⟩ := mirror_same a0_0 a0_1 (a0_0.size + 100) hm (by omega)
  refine ⟨a0_0.size + 100, ?_⟩
  unfold laws_FnExactMirrorMove.f laws_szMove.f laws_toMove.f
  by_cases hb : wrap64 (1048576 - (a0_0.size : Int)) < 0
  · rw [if_pos hb]; rfl
  rw [if_neg hb]
  simp only [Option.bind_some, if_neg hb, h1, h2, mir_eqMove, if_true, bne_self_eq_false, Bool.false_eq_true, if_false]

end Go.Proofs.Ytkhaofalaikegaa.Pure
