/- The plain law behind FnSpelling: what the printed functions answer is true, for every input. -/
import Derived.Test.YtopmmmggjohkeaaFFx29 -- home: laws_FnSpelling.f
import Derived.Test.YtopmmmggjohkeaaMFnSpelling
namespace Go.Proofs.Ytopmmmggjohkeaa.Pure
open Go.RowKit Go.Proofs.Ytopmmmggjohkeaa.MFnSpelling Go.Proofs.Ytopmmmggjohkeaa.FF Go.Proofs.YtopmmmggjohkeaaW.PrintWords Go.Proofs.YtopmmmggjohkeaaW.PrintLast Go.Proofs.YtopmmmggjohkeaaW.PrintMore
set_option linter.unusedVariables false

theorem FnSpelling (l0 : List Int) (l1 : List Int) (y0 : l0.length * 1 ≤ 140737488351232) (q0 : ∀ x ∈ l0, (Lit.int .u8 x).wf = true) (y1 : l1.length * 1 ≤ 140737488351232) (q1 : ∀ x ∈ l1, (Lit.int .u8 x).wf = true) : ∃ k, laws_FnSpelling.f k l0 l1 = some true := by
  exact ⟨20000, spelling_true l0 l1 q0 q1⟩

end Go.Proofs.Ytopmmmggjohkeaa.Pure
