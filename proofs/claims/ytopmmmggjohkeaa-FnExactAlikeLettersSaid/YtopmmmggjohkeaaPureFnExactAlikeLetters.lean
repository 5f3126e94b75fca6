/- The plain law behind FnExactAlikeLetters: what the printed functions answer is true, for every input. -/
import Derived.Test.YtopmmmggjohkeaaFAx25 -- home: laws_FnExactAlikeLetters.f
import Derived.Test.YtopmmmggjohkeaaMA2
import Derived.Test.YtopmmmggjohkeaaMK
import Derived.Test.YtopmmmggjohkeaaMM
namespace Go.Proofs.Ytopmmmggjohkeaa.Pure
open Go.RowKit Go.Proofs.Ytopmmmggjohkeaa.MB  Go.Proofs.Ytopmmmggjohkeaa.MS Go.Proofs.Ytopmmmggjohkeaa.FA Go.Proofs.YtopmmmggjohkeaaW.PrintWords Go.Proofs.YtopmmmggjohkeaaW.PrintLast Go.Proofs.YtopmmmggjohkeaaW.PrintMore
set_option linter.unusedVariables false

theorem FnExactAlikeLetters : laws_FnExactAlikeLetters.Pure := by
  intro l _ hl _
  refine ⟨l.length + 200 + 1 + 1 + 1, ?_⟩
  unfold laws_FnExactAlikeLetters.f
  by_cases hb : (l.length : Int) > 1048576
  · rw [if_pos hb]
  rw [if_neg hb]
  have T := fun k hk => toIntS_eq l k (by omega) hk
  have El := fun k hk => eqIntS_self l k (by omega) hk
  have h1 := fun k hk => (alike_eq l k (by omega) hk).1
  have h2 := fun k hk => (alike_eq l k (by omega) hk).2
  have h26 := alike_length l
  generalize alike l = r at h1 h2 h26
  obtain ⟨r, b⟩ := r
  have h26 : r.length ≤ 26 := h26
  have Er := fun k hk => eqStringS_self r k (by omega) hk
  obtain ⟨m1, q1, _, _⟩ := markIntS_eq l (l.length + 200 + 1 + 1) 1 (by omega) (by omega) (by omega)
  obtain ⟨m2, q2, q3, q4⟩ := markStringS_eq r (l.length + 200 + 1) 1 (by omega) (by omega) (by omega)
  have H := fun k hk => heldStringS_eq m2 k 1 (by omega) (by omega) (fun j q hj hq => q4 j q (by omega) hq) hk
  rw [q3] at H
  have n1 : ¬ (1 + (l.length : Int) < 0) := by omega
  have n2 : ¬ (1 + (r.length : Int) < 0) := by omega
  simp (disch := omega) only [T, Er, h1, h2, Option.bind_some, bne_self_eq_false, if_true]
  rw [laws_FnExactAlikeLetters.j0, if_neg Bool.false_ne_true]
  simp (disch := omega) only [T, El, Er, q1, n1, Option.bind_some, bne_self_eq_false, if_true, if_false]
  rw [laws_FnExactAlikeLetters.j1, if_neg Bool.false_ne_true]
  simp (disch := omega) only [T, H, Er, h2, q2, n2, Option.bind_some, bne_self_eq_false, if_true, if_false]
  rw [laws_FnExactAlikeLetters.j2, if_neg Bool.false_ne_true]
  simp (disch := omega) only [H, n2, Option.bind_some, if_true, if_false]

end Go.Proofs.Ytopmmmggjohkeaa.Pure
