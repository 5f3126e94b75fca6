/- The plain law behind FnExactTurnWay: what the printed functions answer is true, for every input. -/
import Derived.Test.YtafpehjedkplpaaFAx35 -- home: laws_FnExactTurnWay.f
import Derived.Test.YtafpehjedkplpaaMFnExactTurnWay
namespace Go.Proofs.Ytafpehjedkplpaa.Pure
open Go.RowKit Go.Proofs.Ytafpehjedkplpaa.MFnExactTurnWay Go.Proofs.Ytafpehjedkplpaa.FA Go.Proofs.YtafpehjedkplpaaW.PrintWords Go.Proofs.YtafpehjedkplpaaW.PrintLast Go.Proofs.YtafpehjedkplpaaW.PrintMore
set_option linter.unusedVariables false

theorem FnExactTurnWay (a0_0 : Int) (a0_1 : Int) (a1_0 : Int) (a1_1 : Int) (w0_0 : (Lit.int .i64 a0_0).wf = true) (w0_1 : (Lit.int .i64 a0_1).wf = true) (w1_0 : (Lit.int .i64 a1_0).wf = true) (w1_1 : (Lit.int .i64 a1_1).wf = true) : ∃ k, laws_FnExactTurnWay.f k a0_0 a0_1 a1_0 a1_1 = some true := by
  have hsp : ∃ (l : List Int) (b : Bool), l.length ≤ 3 ∧ (∀ k, 62 ≤ k → spec_TurnWay.f k a0_0 a0_1 a1_0 a1_1 = some (l, b)) ∧ ∀ k, 62 ≤ k → impl_TurnWay.f k a0_0 a0_1 a1_0 a1_1 = some (l, b) := by
    by_cases hc : good a0_0 a0_1 = true ∧ good a1_0 a1_1 = true
    · obtain ⟨l, hl, h1, h2⟩ := least_same hc.1 hc.2
      refine ⟨l, true, hl, fun k hk => ?_, h2⟩
      unfold spec_TurnWay.f
      rw [good_spec, good_spec, hc.1, hc.2]
      simp only [Option.bind_some, if_true]
      rw [h1 k (by omega)]
      rfl
    · refine ⟨[], false, by simp, fun k hk => ?_, fun k hk => ?_⟩
      · unfold spec_TurnWay.f
        rw [good_spec, good_spec]
        simp only [Option.bind_some]
        cases hg : good a0_0 a0_1
        · rfl
        cases hh : good a1_0 a1_1
        · rfl
        exact absurd ⟨hg, hh⟩ hc
      · obtain ⟨k, rfl⟩ : ∃ q, k = q + 1 := ⟨k - 1, by omega⟩
        unfold impl_TurnWay.f
        rw [good_impl, good_impl]
        simp only [Option.bind_some]
        cases hg : good a0_0 a0_1
        · rfl
        cases hh : good a1_0 a1_1
        · rfl
        exact absurd ⟨hg, hh⟩ hc
  obtain ⟨l, b, hl, h1, h2⟩ := hsp
  have he := fun k hk => eqIntS_self l k (by omega) hk
  obtain ⟨m, hm1, hm2, hm3⟩ := markIntS_eq l (100 + 1) 1 (by omega) (by omega) (by omega)
  have hm4 : ∀ j : Nat, j < m.length → rd m (j : Int) = 1 + j := by rw [hm2]; exact hm3
  have hh := fun k hk => heldIntS_eq m k 1 (by omega) (by omega) hm4 hk
  refine ⟨100 + 1 + 1, ?_⟩
  unfold laws_FnExactTurnWay.f laws_toOrient.f
  simp only [Option.bind_some]
  rw [h1 _ (by omega)]
  simp only [Option.bind_some]
  rw [h2 _ (by omega)]
  simp only [Option.bind_some]
  rw [he _ (by omega)]
  simp only [Option.bind_some, if_true, bne_self_eq_false]
  rw [laws_FnExactTurnWay.j0, if_neg Bool.false_ne_true, hm1]
  simp only [Option.bind_some]
  rw [hh _ (by omega), hm2]
  simp only [Option.bind_some]
  rw [if_neg (by omega), if_pos trivial]
  unfold laws_toOrient.f
  simp only [Option.bind_some]
  rw [h2 _ (by omega)]
  simp only [Option.bind_some]
  rw [he _ (by omega)]
  simp only [Option.bind_some, if_true, bne_self_eq_false]
  rw [laws_FnExactTurnWay.j1, if_neg Bool.false_ne_true, hh _ (by omega), hm2]
  simp only [Option.bind_some]
  rw [if_neg (by omega), if_pos trivial]

end Go.Proofs.Ytafpehjedkplpaa.Pure
