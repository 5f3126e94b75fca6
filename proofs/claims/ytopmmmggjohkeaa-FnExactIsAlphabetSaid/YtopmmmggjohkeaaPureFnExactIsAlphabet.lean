/- The plain law behind FnExactIsAlphabet: what the printed functions answer is true, for every input. -/
import Derived.Test.YtopmmmggjohkeaaFAx4 -- home: laws_FnExactIsAlphabet.f
import Derived.Test.YtopmmmggjohkeaaMT
import Derived.Test.YtopmmmggjohkeaaMM
namespace Go.Proofs.Ytopmmmggjohkeaa.Pure
open Go.RowKit Go.Proofs.Ytopmmmggjohkeaa.MB Go.Proofs.Ytopmmmggjohkeaa.MS Go.Proofs.Ytopmmmggjohkeaa.FA Go.Proofs.YtopmmmggjohkeaaW.PrintWords Go.Proofs.YtopmmmggjohkeaaW.PrintLast Go.Proofs.YtopmmmggjohkeaaW.PrintMore
set_option linter.unusedVariables false

theorem FnExactIsAlphabet : laws_FnExactIsAlphabet.Pure := by
  intro l _ hl _
  refine ⟨l.length + 10, ?_⟩
  unfold laws_FnExactIsAlphabet.f
  by_cases hb : (l.length : Int) > 1048576
  · rw [if_pos hb]
  · rw [if_neg hb]
    have T := fun k hk => toIntS_eq l k (by omega) hk
    have E := fun k hk => eqIntS_self l k (by omega) hk
    unfold spec_IsAlphabet.f
    have A := alpha_spec l (l.length + 10) (by omega) (by omega)
    simp (disch := omega) only [T, E, A, alpha_impl, Option.bind_some, bne_self_eq_false, if_true, if_false, Bool.false_eq_true]

end Go.Proofs.Ytopmmmggjohkeaa.Pure
