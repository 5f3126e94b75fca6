/- The plain law behind FnExactPlacesWithin: what the printed functions answer is true, for every input. -/
import Derived.Test.YtmjejlifohghjaaFAx19 -- home: laws_FnExactPlacesWithin.f
import Derived.Test.YtmjejlifohghjaaMFnExactPlacesWithin
namespace Go.Proofs.Ytmjejlifohghjaa.Pure
open Go.RowKit Go.Proofs.Ytmjejlifohghjaa.MFnExactPlacesWithin Go.Proofs.Ytmjejlifohghjaa.FA Go.Proofs.YtmjejlifohghjaaW.PrintWords Go.Proofs.YtmjejlifohghjaaW.PrintLast Go.Proofs.YtmjejlifohghjaaW.PrintMore
set_option linter.unusedVariables false

theorem FnExactPlacesWithin (a0_0 : Int) (a0_1 : Int) (a0_2 : Bool) (a1 : Int) (w0_0 : (Lit.int .i64 a0_0).wf = true) (w0_1 : (Lit.int .i64 a0_1).wf = true) (w1 : (Lit.int .i64 a1).wf = true) : ∃ k, laws_FnExactPlacesWithin.f k a0_0 a0_1 a0_2 a1 = some true := by
  obtain ⟨l, b, hl, h1, h2⟩ := within_same a0_0 a0_1 a0_2 a1
  have hm := fun k hk => mark_eq l k (by omega) hk
  have hh := fun k hk => held_eq l k (by omega) hk
  have he := fun k hk => eqS_self l k (by omega) hk
  refine ⟨400 + 1 + 1, ?_⟩
  unfold laws_FnExactPlacesWithin.f laws_toPlace.f
  simp (disch := omega) only [h1, h2, Option.bind_some, he, if_true, bne_self_eq_false, laws_FnExactPlacesWithin.j0, laws_FnExactPlacesWithin.j1, laws_toPlace.f, hm, hh, Bool.false_eq_true, if_false]
  rw [if_neg (by omega), if_neg (by omega)]

end Go.Proofs.Ytmjejlifohghjaa.Pure
