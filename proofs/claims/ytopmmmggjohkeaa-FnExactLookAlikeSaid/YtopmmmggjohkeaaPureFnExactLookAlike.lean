/- The plain law behind FnExactLookAlike: what the printed functions answer is true, for every input. -/
import Derived.Test.YtopmmmggjohkeaaFAx17 -- home: laws_FnExactLookAlike.f
import Derived.Test.YtopmmmggjohkeaaMT
import Derived.Test.YtopmmmggjohkeaaMM
namespace Go.Proofs.Ytopmmmggjohkeaa.Pure
open Go.RowKit Go.Proofs.Ytopmmmggjohkeaa.MB Go.Proofs.Ytopmmmggjohkeaa.MS Go.Proofs.Ytopmmmggjohkeaa.FA Go.Proofs.YtopmmmggjohkeaaW.PrintWords Go.Proofs.YtopmmmggjohkeaaW.PrintLast Go.Proofs.YtopmmmggjohkeaaW.PrintMore
set_option linter.unusedVariables false

theorem FnExactLookAlike : laws_FnExactLookAlike.Pure := by
  intro l s u _ hl _ hs hu
  refine ⟨l.length + s.size + u.size + 100 + 1 + 1, ?_⟩
  unfold laws_FnExactLookAlike.f
  by_cases hb : (l.length : Int) > 1048576
  · rw [if_pos hb]
  rw [if_neg hb]
  by_cases hb2 : (s.size : Int) > 1048576
  · rw [if_pos hb2]
  rw [if_neg hb2]
  by_cases hb3 : (u.size : Int) > 1048576
  · rw [if_pos hb3]
  rw [if_neg hb3]
  have T := fun k hk => toIntS_eq l k (by omega) hk
  have E := fun k hk => eqIntS_self l k (by omega) hk
  have hA := fun k hk hk2 => asked_eq l s k (by omega) hk (by omega) hk2
  have hW := fun k hk => word_impl s k (by omega) hk
  have hW2 := fun k hk => word_impl u k (by omega) hk
  have hS2 := fun k hk => word_spec u k (by omega) hk
  have hsp : ∃ r, spec_LookAlike.f (l.length + s.size + u.size + 100 + 1 + 1) l s u = some r ∧ impl_LookAlike.f (l.length + s.size + u.size + 100 + 1 + 1) l s u = some r := by
    unfold spec_LookAlike.f impl_LookAlike.f
    change ∃ r, _ = some r ∧ ((impl_IsAlphabet.f l).bind fun t => if t = true then ((impl_isWordOf.f _ s caps).bind fun t => if t = true then ((impl_isWordOf.f _ u caps).bind fun t => _) else _) else _) = some r
    simp (disch := omega) only [hA, hW, hW2, hS2, alpha_impl, Option.bind_some]
    cases ha : alpha l
    · exact ⟨(false, false), by simp [spec_LookAlike.j0], by simp [impl_LookAlike.j0]⟩
    · cases hw : word s
      · exact ⟨(false, false), by simp [spec_LookAlike.j0], by simp [impl_LookAlike.j0]⟩
      · cases hw2 : word u
        · exact ⟨(false, false), by simp [spec_LookAlike.j0], by simp [impl_LookAlike.j0]⟩
        · have hwi := word_iff.1 hw
          have hl := shapes_length l s
          refine ⟨(same (shapes l s) (shapes l u), true), ?_, ?_⟩
          · simp only [Bool.and_self, if_true, Bool.not_true, spec_LookAlike.j0, Bool.false_eq_true, if_false]
            rw [shapes_spec l s _ ha hw (by omega), shapes_spec l u _ ha hw2 (by omega)]
            simp only [Option.bind_some]
            rw [same_spec _ _ _ (by omega) (by omega)]; rfl
          · simp only [if_true, Bool.not_true, impl_LookAlike.j0, Bool.false_eq_true, if_false]
            rw [shapes_impl l s _ ha hw (by omega), shapes_impl l u _ ha hw2 (by omega)]
            simp only [Option.bind_some]
            rw [same_impl _ _ _ (by omega) (by omega)]; rfl
  obtain ⟨r, h1, h2⟩ := hsp
  simp (disch := omega) only [T, E, h1, h2, Option.bind_some, bne_self_eq_false, if_true, laws_FnExactLookAlike.j0, Bool.false_eq_true, if_false]

end Go.Proofs.Ytopmmmggjohkeaa.Pure
