/- The plain law behind FnExactCountReadings: what the printed functions answer is true, for every input. -/
import Derived.Test.YtopmmmggjohkeaaFAx28 -- home: laws_FnExactCountReadings.f
import Derived.Test.YtopmmmggjohkeaaMC
namespace Go.Proofs.Ytopmmmggjohkeaa.Pure
open Go.RowKit Go.Proofs.Ytopmmmggjohkeaa.MB Go.Proofs.Ytopmmmggjohkeaa.MS Go.Proofs.Ytopmmmggjohkeaa.FA Go.Proofs.YtopmmmggjohkeaaW.PrintWords Go.Proofs.YtopmmmggjohkeaaW.PrintLast Go.Proofs.YtopmmmggjohkeaaW.PrintMore
set_option linter.unusedVariables false

theorem FnExactCountReadings : laws_FnExactCountReadings.Pure := by
  intro l s _ hl _ _ hs _
  refine ⟨l.length + s.length + 100 + 1, ?_⟩
  unfold laws_FnExactCountReadings.f
  by_cases hb : (l.length : Int) > 1048576
  · rw [if_pos hb]
  rw [if_neg hb]
  by_cases hb2 : (s.length : Int) > 1048576
  · rw [if_pos hb2]
  rw [if_neg hb2]
  have T := fun k hk => toIntS_eq l k (by omega) hk
  have T2 := fun k hk => toIntS_eq s k (by omega) hk
  have E := fun k hk => eqIntS_self l k (by omega) hk
  have E2 := fun k hk => eqIntS_self s k (by omega) hk
  obtain ⟨h1, h2⟩ := count_eq l s (l.length + s.length + 100 + 1) (by omega) (by omega) (by omega)
  simp (disch := omega) only [T, T2, h1, h2, Option.bind_some, bne_self_eq_false, if_true]
  rw [laws_FnExactCountReadings.j0, if_neg Bool.false_ne_true]
  simp (disch := omega) only [T, T2, E, E2, Option.bind_some, if_true]

end Go.Proofs.Ytopmmmggjohkeaa.Pure
