/- The plain law behind FnExactNeedlessConstraints: what the printed functions answer is true, for every input. -/
import Derived.Test.YtkhaofalaikegaaFEx14 -- home: laws_FnExactNeedlessConstraints.f
import Derived.Test.YtkhaofalaikegaaMFnExactNeedlessConstraints
namespace Go.Proofs.Ytkhaofalaikegaa.Pure
open Go.RowKit Go.Proofs.Ytkhaofalaikegaa.MFnExactNeedlessConstraints Go.Proofs.Ytkhaofalaikegaa.FE Go.Proofs.YtkhaofalaikegaaW.PrintWords Go.Proofs.YtkhaofalaikegaaW.PrintLast Go.Proofs.YtkhaofalaikegaaW.PrintMore
set_option linter.unusedVariables false

theorem FnExactNeedlessConstraints (l0 : List (S119)) (y0 : l0.length * 16 ≤ 140737488351232) (q0 : ∀ x ∈ l0, (Lit.int .i64 x.f0).wf = true ∧ (Lit.int .i64 x.f1).wf = true) : ∃ k, laws_FnExactNeedlessConstraints.f k l0 = some true := by
  refine ⟨l0.length + 400 + 1 + 1 + 1, ?_⟩
  have hy : l0.length ≤ 8796093022207 := by omega
  unfold laws_FnExactNeedlessConstraints.f laws_szConstraintS.f
  have hwl : wrap64 (1048576 - (l0.length : Int)) = 1048576 - (l0.length : Int) := wq (by omega) (by omega)
  rw [hwl]
  by_cases hb : 1048576 - (l0.length : Int) < 0
  · rw [if_pos hb]; rfl
  rw [if_neg hb, Option.bind_some, if_neg hb]
  have hL : l0.length ≤ 1048576 := by omega
  obtain ⟨l, hl⟩ : ∃ l, l = l0.map cvc := ⟨_, rfl⟩
  have hlm : l.length = l0.length := by rw [hl]; exact List.length_map ..
  have T := fun k hk => toConS_eq l0 k hL hk
  rw [← hl] at T
  have Ec := fun k hk => eqConS_self l k (by omega) hk
  obtain ⟨r, b, hr, g1, g2⟩ := needless_same l (l0.length + 301) (by omega) (by omega)
  have h1 : ∀ k, l0.length + 301 ≤ k → spec_NeedlessConstraints.f k l = some (r, b) := fun k hk => at_rounds (g := fun k => spec_NeedlessConstraints.f k l) (fun k => spec_NeedlessConstraints.mono _ k) hk g1
  have h2 : ∀ k, l0.length + 301 ≤ k → impl_NeedlessConstraints.f k l = some (r, b) := fun k hk => at_rounds (g := fun k => impl_NeedlessConstraints.f k l) (fun k => impl_NeedlessConstraints.mono _ k) hk g2
  have Er := fun k hk => eqIntS_self r k (by omega) hk
  obtain ⟨m1, q1⟩ := markConS_eq l (l0.length + 400 + 1 + 1) (by omega) (by omega)
  obtain ⟨m2, q2, q3, q4⟩ := markIntS_eq r (l0.length + 400 + 1) 1 (by omega) (by omega) (by omega)
  have H := fun k hk => heldIntS_eq m2 k 1 (by omega) (by omega) (fun j hj => q4 j (by omega)) hk
  rw [q3] at H
  have n1 : ¬ (1 + 2 * (l.length : Int) < 0) := by omega
  have n2 : ¬ (1 + (r.length : Int) < 0) := by omega
  simp (disch := omega) only [T, Er, h1, h2, Option.bind_some, bne_self_eq_false, if_true]
  rw [laws_FnExactNeedlessConstraints.j0, if_neg Bool.false_ne_true]
  simp (disch := omega) only [T, Ec, Er, q1, n1, Option.bind_some, bne_self_eq_false, if_true, if_false]
  rw [laws_FnExactNeedlessConstraints.j1, if_neg Bool.false_ne_true]
  simp (disch := omega) only [T, H, Er, h2, q2, n2, Option.bind_some, bne_self_eq_false, if_true, if_false]
  rw [laws_FnExactNeedlessConstraints.j2, if_neg Bool.false_ne_true]
  simp (disch := omega) only [H, n2, Option.bind_some, if_true, if_false]

end Go.Proofs.Ytkhaofalaikegaa.Pure
