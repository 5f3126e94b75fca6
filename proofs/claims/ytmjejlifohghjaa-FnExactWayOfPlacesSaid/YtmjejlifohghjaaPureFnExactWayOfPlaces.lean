/- The plain law behind FnExactWayOfPlaces: what the printed functions answer is true, for every input. -/
import Derived.Test.YtmjejlifohghjaaFAx16 -- home: laws_FnExactWayOfPlaces.f
import Derived.Test.YtmjejlifohghjaaMFnExactWayOfPlaces
namespace Go.Proofs.Ytmjejlifohghjaa.Pure
open Go.RowKit Go.Proofs.Ytmjejlifohghjaa.MFnExactWayOfPlaces Go.Proofs.Ytmjejlifohghjaa.FA Go.Proofs.YtmjejlifohghjaaW.PrintWords Go.Proofs.YtmjejlifohghjaaW.PrintLast Go.Proofs.YtmjejlifohghjaaW.PrintMore
set_option linter.unusedVariables false

theorem FnExactWayOfPlaces (a0_0 : Int) (a0_1 : Int) (a0_2 : Bool) (a1_0 : Int) (a1_1 : Int) (a1_2 : Bool) (w0_0 : (Lit.int .i64 a0_0).wf = true) (w0_1 : (Lit.int .i64 a0_1).wf = true) (w1_0 : (Lit.int .i64 a1_0).wf = true) (w1_1 : (Lit.int .i64 a1_1).wf = true) : ∃ k, laws_FnExactWayOfPlaces.f k a0_0 a0_1 a0_2 a1_0 a1_1 a1_2 = some true := by
  obtain ⟨l, b, hl, h1, h2⟩ := way_same a0_0 a0_1 a0_2 a1_0 a1_1 a1_2
  have hm := fun k hk => mark_eq l k (by omega) hk
  have hh := fun k hk => held_eq l k (by omega) hk
  have he := fun k hk => eqS_self l k (by omega) hk
  refine ⟨400 + 1 + 1, ?_⟩
  unfold laws_FnExactWayOfPlaces.f laws_toPlace.f
  simp only [Option.bind_some]
  rw [h1 _ (by omega)]
  simp only [Option.bind_some]
  rw [h2 _ (by omega)]
  simp only [Option.bind_some]
  rw [he _ (by omega)]
  simp only [Option.bind_some, if_true, bne_self_eq_false]
  rw [laws_FnExactWayOfPlaces.j0, if_neg Bool.false_ne_true, hm _ (by omega)]
  simp only [Option.bind_some]
  rw [hh _ (by omega)]
  simp only [Option.bind_some]
  rw [if_neg (by omega), if_pos trivial]
  unfold laws_toPlace.f
  simp only [Option.bind_some]
  rw [h2 _ (by omega)]
  simp only [Option.bind_some]
  rw [he _ (by omega)]
  simp only [Option.bind_some, if_true, bne_self_eq_false]
  rw [laws_FnExactWayOfPlaces.j1, if_neg Bool.false_ne_true, hh _ (by omega)]
  simp only [Option.bind_some]
  rw [if_neg (by omega), if_pos trivial]

end Go.Proofs.Ytmjejlifohghjaa.Pure
