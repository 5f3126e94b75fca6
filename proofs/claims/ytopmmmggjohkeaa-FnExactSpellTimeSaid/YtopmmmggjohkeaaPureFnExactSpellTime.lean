/- The plain law behind FnExactSpellTime: what the printed functions answer is true, for every input. -/
import Derived.Test.YtopmmmggjohkeaaFAx12 -- home: laws_FnExactSpellTime.f
import Derived.Test.YtopmmmggjohkeaaMT
import Derived.Test.YtopmmmggjohkeaaMM
namespace Go.Proofs.Ytopmmmggjohkeaa.Pure
open Go.RowKit Go.Proofs.Ytopmmmggjohkeaa.MB Go.Proofs.Ytopmmmggjohkeaa.MS Go.Proofs.Ytopmmmggjohkeaa.FA Go.Proofs.YtopmmmggjohkeaaW.PrintWords Go.Proofs.YtopmmmggjohkeaaW.PrintLast Go.Proofs.YtopmmmggjohkeaaW.PrintMore
set_option linter.unusedVariables false

theorem FnExactSpellTime : laws_FnExactSpellTime.Pure := by
  intro l s h c _ hl _ hs _ _
  refine ⟨l.length + s.size + 100 + 1 + 1, ?_⟩
  unfold laws_FnExactSpellTime.f
  by_cases hb : (l.length : Int) > 1048576
  · rw [if_pos hb]
  rw [if_neg hb]
  by_cases hb2 : (s.size : Int) > 1048576
  · rw [if_pos hb2]
  rw [if_neg hb2]
  have T := fun k hk => toIntS_eq l k (by omega) hk
  have E := fun k hk => eqIntS_self l k (by omega) hk
  have hA := fun k hk hk2 => asked_eq l s k (by omega) hk (by omega) hk2
  have hW := fun k hk => word_impl s k (by omega) hk
  have hsp : ∃ r, spec_SpellTime.f (l.length + s.size + 100 + 1 + 1) l s h c = some r ∧ impl_SpellTime.f (l.length + s.size + 100 + 1 + 1) l s h c = some r := by
    unfold spec_SpellTime.f impl_SpellTime.f
    change ∃ r, _ = some r ∧ ((impl_IsAlphabet.f l).bind fun t => if t = true then ((impl_isWordOf.f _ s caps).bind fun t => _) else _) = some r
    simp (disch := omega) only [hA, hW, alpha_impl, within_some, times_eq, Option.bind_some]
    cases ha : alpha l
    · exact ⟨(0, false), by simp [spec_SpellTime.j0], by simp [impl_SpellTime.j0]⟩
    · cases hw : word s
      · exact ⟨(0, false), by simp [spec_SpellTime.j0], by simp [impl_SpellTime.j0]⟩
      · cases hh : decide (1 ≤ h ∧ h ≤ 100)
        · exact ⟨(0, false), by simp [spec_SpellTime.j0], by simp [impl_SpellTime.j0]⟩
        · cases hc : decide (0 ≤ c ∧ c ≤ 100)
          · exact ⟨(0, false), by simp [spec_SpellTime.j0], by simp [impl_SpellTime.j0]⟩
          · have hh := of_decide_eq_true hh
            have hc := of_decide_eq_true hc
            have hwi := word_iff.1 hw
            have hl := shapes_length l s
            refine ⟨(time (shapes l s) h c, true), ?_, ?_⟩
            · simp only [Bool.and_self, if_true, Bool.not_true, spec_SpellTime.j0, Bool.false_eq_true, if_false]
              rw [shapes_spec l s _ ha hw (by omega)]
              simp only [Option.bind_some]
              rw [time_spec (shapes l s) h c (l.length + s.size + 100 + 1) (by omega) hh.2 hc.1 hc.2 (by omega) (by omega) (by omega)]; rfl
            · simp only [if_true, Bool.not_true, impl_SpellTime.j0, Bool.false_eq_true, if_false]
              rw [shapes_impl l s _ ha hw (by omega)]
              simp only [Option.bind_some]
              rw [time_impl (shapes l s) h c (l.length + s.size + 100 + 1) (by omega) hh.2 hc.1 hc.2 (by omega) (by omega) (by omega)]; rfl
  obtain ⟨r, h1, h2⟩ := hsp
  simp (disch := omega) only [T, E, h1, h2, Option.bind_some, bne_self_eq_false, if_true, laws_FnExactSpellTime.j0, Bool.false_eq_true, if_false]

end Go.Proofs.Ytopmmmggjohkeaa.Pure
