/- The plain law behind FnExactCommonPlace: what the printed functions answer is true, for every input. -/
import Derived.Test.YtmjejlifohghjaaFBx12 -- home: laws_FnExactCommonPlace.f
import Derived.Test.YtmjejlifohghjaaMFnExactCommonPlace
namespace Go.Proofs.Ytmjejlifohghjaa.Pure
open Go.RowKit Go.Proofs.Ytmjejlifohghjaa.MFnExactCommonPlace Go.Proofs.Ytmjejlifohghjaa.FB Go.Proofs.YtmjejlifohghjaaW.PrintWords Go.Proofs.YtmjejlifohghjaaW.PrintLast Go.Proofs.YtmjejlifohghjaaW.PrintMore
set_option linter.unusedVariables false

theorem FnExactCommonPlace (l0 : List (S23)) (y0 : l0.length * 24 ≤ 140737488351232) (q0 : ∀ x ∈ l0, (Lit.int .i64 x.f0).wf = true ∧ (Lit.int .i64 x.f1).wf = true) : ∃ k, laws_FnExactCommonPlace.f k l0 = some true := by
  refine ⟨l0.length + 5002 + 1, ?_⟩
  have hy : l0.length ≤ 140737488351232 := by omega
  unfold laws_FnExactCommonPlace.f laws_szPlaceS.f
  have hwl : wrap64 (1048576 - (l0.length : Int)) = 1048576 - (l0.length : Int) := wc (by omega) (by omega)
  rw [hwl]
  by_cases hb : 1048576 - (l0.length : Int) < 0
  · rw [if_pos hb]; rfl
  rw [if_neg hb, Option.bind_some, if_neg hb]
  have hL : l0.length ≤ 1048576 := by omega
  obtain ⟨l, hl⟩ : ∃ l, l = l0.map cvl := ⟨_, rfl⟩
  have hlm : l.length = l0.length := by rw [hl]; exact List.length_map ..
  have T := fun k hk => toPlS_eq l0 k hL hk
  rw [← hl] at T
  obtain ⟨r1, r2, r3, r4, g1, g2⟩ := common_same l (l0.length + 5002 + 1) (by omega) (by omega)
  have Ec := fun k hk => eqPlS_self l k (by omega) hk
  simp (disch := omega) only [T, g1, g2, eqPlace_self, Option.bind_some, bne_self_eq_false, if_true]
  rw [laws_FnExactCommonPlace.j0, if_neg Bool.false_ne_true]
  simp (disch := omega) only [T, Ec, Option.bind_some, if_true]

end Go.Proofs.Ytmjejlifohghjaa.Pure
