/- The plain law behind FnExactLongestWithin: what the printed functions answer is true, for every input. -/
import Derived.Test.YtkhaofalaikegaaFAx17 -- home: laws_FnExactLongestWithin.f
import Derived.Test.YtkhaofalaikegaaMFnExactLongestWithin
namespace Go.Proofs.Ytkhaofalaikegaa.Pure
open Go.RowKit Go.Proofs.Ytkhaofalaikegaa.MFnExactLongestWithin Go.Proofs.Ytkhaofalaikegaa.FA Go.Proofs.YtkhaofalaikegaaW.PrintWords Go.Proofs.YtkhaofalaikegaaW.PrintLast Go.Proofs.YtkhaofalaikegaaW.PrintMore
set_option linter.unusedVariables false

theorem FnExactLongestWithin : laws_FnExactLongestWithin.Pure := by
  intro l s h c m y0 y1 hx hs w2 w3 w4
  by_cases hb : (l.length : Int) > 1048576
  · refine ⟨0, ?_⟩; unfold laws_FnExactLongestWithin.f; rw [if_pos hb]
  by_cases hb2 : (s.size : Int) > 1048576
  · refine ⟨0, ?_⟩; unfold laws_FnExactLongestWithin.f; rw [if_neg hb, if_pos hb2]
  obtain ⟨k, hk⟩ : ∃ k, k = l.length + s.size + 100 := ⟨_, rfl⟩
  obtain ⟨r, e1, e2⟩ := longest_same l s h c m k (by omega) (by omega) (by omega)
  refine ⟨k + 1, ?_⟩
  unfold laws_FnExactLongestWithin.f
  rw [if_neg hb, if_neg hb2, toIntS_eq l (k + 1) (by omega) (by omega)]
  simp only [Option.bind_some, e1, e2, if_true, bne_self_eq_false, laws_FnExactLongestWithin.j0, Bool.false_eq_true, if_false]
  rw [toIntS_eq l k (by omega) (by omega)]
  simp only [Option.bind_some]
  rw [eqIntS_self l k (by omega) (by omega)]
  rfl

end Go.Proofs.Ytkhaofalaikegaa.Pure
