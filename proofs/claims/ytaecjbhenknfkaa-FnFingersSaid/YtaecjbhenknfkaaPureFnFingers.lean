/- The plain law behind FnFingers: what the printed functions answer is true, for every input. -/
import Derived.Test.YtaecjbhenknfkaaFDx29 -- home: laws_FnFingers.f
import Derived.Test.YtaecjbhenknfkaaMFnFingers
namespace Go.Proofs.Ytaecjbhenknfkaa.Pure
open Go.RowKit Go.Proofs.Ytaecjbhenknfkaa.MFnFingers Go.Proofs.Ytaecjbhenknfkaa.FD Go.Proofs.YtaecjbhenknfkaaW.PrintWords Go.Proofs.YtaecjbhenknfkaaW.PrintLast Go.Proofs.YtaecjbhenknfkaaW.PrintMore
set_option linter.unusedVariables false

theorem FnFingers (l0 : List Int) (l1 : List Int) (y0 : l0.length * 1 ≤ 140737488351232) (q0 : ∀ x ∈ l0, (Lit.int .u8 x).wf = true) (y1 : l1.length * 1 ≤ 140737488351232) (q1 : ∀ x ∈ l1, (Lit.int .u8 x).wf = true) : ∃ k, laws_FnFingers.f k l0 l1 = some true := by
  exact ⟨1000, fingers_true l0 l1 q0 q1⟩

end Go.Proofs.Ytaecjbhenknfkaa.Pure
