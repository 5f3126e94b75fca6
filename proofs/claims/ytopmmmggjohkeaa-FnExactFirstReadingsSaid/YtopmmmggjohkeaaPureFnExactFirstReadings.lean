/- The plain law behind FnExactFirstReadings: what the printed functions answer is true, for every input. -/
import Derived.Test.YtopmmmggjohkeaaFEx12 -- home: laws_FnExactFirstReadings.f
import Derived.Test.YtopmmmggjohkeaaMFnExactFirstReadings
namespace Go.Proofs.Ytopmmmggjohkeaa.Pure
open Go.RowKit Go.Proofs.Ytopmmmggjohkeaa.MFnExactFirstReadings Go.Proofs.Ytopmmmggjohkeaa.FE Go.Proofs.YtopmmmggjohkeaaW.PrintWords Go.Proofs.YtopmmmggjohkeaaW.PrintLast Go.Proofs.YtopmmmggjohkeaaW.PrintMore
set_option linter.unusedVariables false

theorem FnExactFirstReadings : laws_FnExactFirstReadings.Pure := by
  intro l s _ hl _ _ hs _
  refine ⟨l.length + s.length + 11000 + 1 + 1 + 1, ?_⟩
  unfold laws_FnExactFirstReadings.f
  by_cases hb : (l.length : Int) > 1048576
  · rw [if_pos hb]
  rw [if_neg hb]
  by_cases hb2 : (s.length : Int) > 1048576
  · rw [if_pos hb2]
  rw [if_neg hb2]
  have T := fun k hk => toIntS_eq l k (by omega) hk
  have T2 := fun k hk => toIntS_eq s k (by omega) hk
  have El := fun k hk => eqIntS_self l k (by omega) hk
  have E2 := fun k hk => eqIntS_self s k (by omega) hk
  have h1 := fun k hk => (first_eq l s k (by omega) (by omega) hk).1
  have h2 := fun k hk => (first_eq l s k (by omega) (by omega) hk).2
  have h26 := firsts_length l s
  generalize firsts l s = r at h1 h2 h26
  obtain ⟨r, b⟩ := r
  have h26 : r.length ≤ 20 := h26
  have Er := fun k hk => eqStringS_self r k (by omega) hk
  obtain ⟨m1, q1, _, _⟩ := markIntS_eq l (l.length + s.length + 11000 + 1 + 1) 1 (by omega) (by omega) (by omega)
  obtain ⟨m3, q5, _, _⟩ := markIntS_eq s (l.length + s.length + 11000 + 1 + 1) (1 + l.length) (by omega) (by omega) (by omega)
  obtain ⟨m2, q2, q3, q4⟩ := markStringS_eq r (l.length + s.length + 11000 + 1) 1 (by omega) (by omega) (by omega)
  have H := fun k hk => heldStringS_eq m2 k 1 (by omega) (by omega) (fun j q hj hq => q4 j q (by omega) hq) hk
  rw [q3] at H
  have n1 : ¬ (1 + (l.length : Int) + (s.length : Int) < 0) := by omega
  have n2 : ¬ (1 + (r.length : Int) < 0) := by omega
  simp (disch := omega) only [T, T2, Er, h1, h2, Option.bind_some, bne_self_eq_false, if_true]
  rw [laws_FnExactFirstReadings.j0, if_neg Bool.false_ne_true]
  simp (disch := omega) only [T, T2, El, E2, Er, q1, q5, n1, Option.bind_some, bne_self_eq_false, if_true, if_false]
  rw [laws_FnExactFirstReadings.j1, if_neg Bool.false_ne_true]
  simp (disch := omega) only [T, T2, H, Er, h2, q2, n2, Option.bind_some, bne_self_eq_false, if_true, if_false]
  rw [laws_FnExactFirstReadings.j2, if_neg Bool.false_ne_true]
  simp (disch := omega) only [H, n2, Option.bind_some, if_true, if_false]

end Go.Proofs.Ytopmmmggjohkeaa.Pure
