/- The plain law behind FnExactShapesText: what the printed functions answer is true, for every input. -/
import Derived.Test.YtaecjbhenknfkaaDoorFAx7 -- home: laws_FnExactShapesText.f
import Derived.Test.YtaecjbhenknfkaaDoorMFnExactShapesText
namespace Go.Proofs.YtaecjbhenknfkaaDoor.Pure
open Go.RowKit Go.Proofs.YtaecjbhenknfkaaDoor.MFnExactShapesText Go.Proofs.YtaecjbhenknfkaaDoor.FA Go.Proofs.YtaecjbhenknfkaaDoorW.PrintWords Go.Proofs.YtaecjbhenknfkaaDoorW.PrintLast Go.Proofs.YtaecjbhenknfkaaDoorW.PrintMore
set_option linter.unusedVariables false

theorem FnExactShapesText : laws_FnExactShapesText.Pure := by
  intro l0 hm0 y0 hw0
  by_cases hl : (l0.length : Int) > 1048576
  · exact ⟨0, by unfold laws_FnExactShapesText.f; rw [if_pos hl]⟩
  refine ⟨l0.length + 99 + 1, ?_⟩
  unfold laws_FnExactShapesText.f
  rw [if_neg hl, toIntS_eq l0 _ (by omega) (by omega)]
  obtain ⟨h1, h2⟩ := text_eq l0 (l0.length + 99 + 1) (by omega) (by omega)
  simp only [Option.bind_some]
  rw [h1, h2]
  simp only [Option.bind_some, if_true, bne_self_eq_false, laws_FnExactShapesText.j0, Bool.false_eq_true, if_false]
  rw [toIntS_eq l0 _ (by omega) (by omega)]
  simp only [Option.bind_some]
  rw [eqIntS_self l0 _ (by omega) (by omega)]
  simp

end Go.Proofs.YtaecjbhenknfkaaDoor.Pure
