/- The plain law behind FnExactSpellWord: what the printed functions answer is true, for every input. -/
import Derived.Test.YtopmmmggjohkeaaFAx8 -- home: laws_FnExactSpellWord.f
import Derived.Test.YtopmmmggjohkeaaMT
import Derived.Test.YtopmmmggjohkeaaMM
namespace Go.Proofs.Ytopmmmggjohkeaa.Pure
open Go.RowKit Go.Proofs.Ytopmmmggjohkeaa.MB Go.Proofs.Ytopmmmggjohkeaa.MS Go.Proofs.Ytopmmmggjohkeaa.FA Go.Proofs.YtopmmmggjohkeaaW.PrintWords Go.Proofs.YtopmmmggjohkeaaW.PrintLast Go.Proofs.YtopmmmggjohkeaaW.PrintMore
set_option linter.unusedVariables false

theorem FnExactSpellWord : laws_FnExactSpellWord.Pure := by
  intro l s _ hl _ hs
  refine ⟨l.length + s.size + 100 + 1 + 1 + 1, ?_⟩
  unfold laws_FnExactSpellWord.f
  by_cases hb : (l.length : Int) > 1048576
  · rw [if_pos hb]
  rw [if_neg hb]
  by_cases hb2 : (s.size : Int) > 1048576
  · rw [if_pos hb2]
  rw [if_neg hb2]
  have T := fun k hk => toIntS_eq l k (by omega) hk
  have hA := fun k hk hk2 => asked_eq l s k (by omega) hk (by omega) hk2
  have hW := fun k hk => word_impl s k (by omega) hk
  have hsp : ∃ (r : List Int) (b : Bool), r.length ≤ 8 ∧ ∀ k, l.length + s.size + 50 < k → spec_SpellWord.f k l s = some (r, b) ∧ impl_SpellWord.f k l s = some (r, b) := by
    cases ha : alpha l
    · refine ⟨[], false, by simp, fun k hk => ⟨?_, ?_⟩⟩
      · unfold spec_SpellWord.f; simp (disch := omega) only [hA, ha]; simp
      · unfold impl_SpellWord.f; simp only [alpha_impl, ha]; simp
    · cases hw : word s
      · refine ⟨[], false, by simp, fun k hk => ⟨?_, ?_⟩⟩
        · unfold spec_SpellWord.f; simp (disch := omega) only [hA, ha, hw]; simp
        · unfold impl_SpellWord.f
          change ((impl_IsAlphabet.f l).bind fun t => if t = true then ((impl_isWordOf.f _ s caps).bind fun t => _) else _) = _
          simp (disch := omega) only [alpha_impl, ha, hW, hw]; simp
      · have hwi := word_iff.1 hw
        refine ⟨shapes l s, true, by rw [shapes_length]; omega, fun k hk => ⟨?_, ?_⟩⟩
        · unfold spec_SpellWord.f; simp (disch := omega) only [hA, ha, hw, shapes_spec l s _ ha hw]; simp
        · unfold impl_SpellWord.f
          change ((impl_IsAlphabet.f l).bind fun t => if t = true then ((impl_isWordOf.f _ s caps).bind fun t => _) else _) = _
          simp (disch := omega) only [alpha_impl, ha, hW, hw, shapes_impl l s _ ha hw]; simp
  obtain ⟨r, b, hr, hsp⟩ := hsp
  have h1 := fun k hk => (hsp k hk).1
  have h2 := fun k hk => (hsp k hk).2
  have El := fun k hk => eqIntS_self l k (by omega) hk
  have Er := fun k hk => eqIntS_self r k (by omega) hk
  obtain ⟨m1, q1, _, _⟩ := markIntS_eq l (l.length + s.size + 100 + 1 + 1) 1 (by omega) (by omega) (by omega)
  obtain ⟨m2, q2, q3, q4⟩ := markIntS_eq r (l.length + s.size + 100 + 1) 1 (by omega) (by omega) (by omega)
  have H := fun k hk => heldIntS_eq m2 k 1 (by omega) (by omega) (fun j hj => q4 j (by omega)) hk
  rw [q3] at H
  have n1 : ¬ (1 + (l.length : Int) < 0) := by omega
  have n2 : ¬ (1 + (r.length : Int) < 0) := by omega
  simp (disch := omega) only [T, Er, h1, h2, Option.bind_some, bne_self_eq_false, if_true]
  rw [laws_FnExactSpellWord.j0, if_neg Bool.false_ne_true]
  simp (disch := omega) only [T, El, Er, q1, n1, Option.bind_some, bne_self_eq_false, if_true, if_false]
  rw [laws_FnExactSpellWord.j1, if_neg Bool.false_ne_true]
  simp (disch := omega) only [T, H, Er, h2, q2, n2, Option.bind_some, bne_self_eq_false, if_true, if_false]
  rw [laws_FnExactSpellWord.j2, if_neg Bool.false_ne_true]
  simp (disch := omega) only [H, n2, Option.bind_some, if_true, if_false]

end Go.Proofs.Ytopmmmggjohkeaa.Pure
