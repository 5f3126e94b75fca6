/- The plain law behind FnAlphabets: what the printed functions answer is true, for every input. -/
import Derived.Test.YtopmmmggjohkeaaDoorFAx13 -- home: laws_FnAlphabets.f
import Derived.Test.YtopmmmggjohkeaaDoorMFnAlphabets
namespace Go.Proofs.YtopmmmggjohkeaaDoor.Pure
open Go.RowKit Go.Proofs.YtopmmmggjohkeaaDoor.MFnAlphabets Go.Proofs.YtopmmmggjohkeaaDoor.FA Go.Proofs.YtopmmmggjohkeaaDoorW.PrintWords Go.Proofs.YtopmmmggjohkeaaDoorW.PrintLast Go.Proofs.YtopmmmggjohkeaaDoorW.PrintMore
set_option linter.unusedVariables false

theorem FnAlphabets (l0 : List Int) (l1 : List Int) (y0 : l0.length * 1 ≤ 140737488351232) (q0 : ∀ x ∈ l0, (Lit.int .u8 x).wf = true) (y1 : l1.length * 1 ≤ 140737488351232) (q1 : ∀ x ∈ l1, (Lit.int .u8 x).wf = true) : ∃ k, laws_FnAlphabets.f k l0 l1 = some true := by
  by_cases hb : wrap64 ((l0.length : Int) + (l1.length : Int)) > 1048576
  · exact ⟨0, by unfold laws_FnAlphabets.f; rw [if_pos hb]⟩
  refine ⟨30000, ?_⟩
  obtain ⟨co, hd1, hco⟩ := drawAlpha_some q0 30000 (by omega)
  obtain ⟨u, W, hd2, hu, hW, hWs⟩ := drawWords_some q1 30000 (by omega)
  obtain ⟨v, vw, vh, vc, hd4, hv, hvw⟩ := drawTime_some q1 30000 (by omega)
  obtain ⟨x, y, hd5, hx, hy⟩ := drawCount_some q1 30000 (by omega)
  have hd3 : spec_DrawShapesText.f 30000 l1 = some y := by unfold spec_DrawShapesText.f; rw [hd5]; rfl
  obtain ⟨a1, a2⟩ := alike_eq co 30000 (by omega) (by omega)
  obtain ⟨b1, b2⟩ := pairs_eq u W 16 30000 (by omega) hWs (by omega) (by omega)
  obtain ⟨c1, c2⟩ := text_eq y 30000 (by omega) (by omega)
  obtain ⟨e1, e2⟩ := spent_eq v vw vh vc 30000 (by omega) (by omega) (by omega)
  obtain ⟨g1, g2⟩ := count_eq x y 30000 (by omega) (by omega) (by omega)
  obtain ⟨i1, i2⟩ := first_eq x y 30000 (by omega) (by omega) (by omega)
  have k1 := alike_length co
  have k2 := pairs_len u W
  have k3 := firsts_length x y
  unfold laws_FnAlphabets.f
  rw [if_neg hb, hd1, Option.bind_some, a1, Option.bind_some, hd2, Option.bind_some]
  simp only
  rw [b1, Option.bind_some, hd3, Option.bind_some, c1, Option.bind_some, hd4, Option.bind_some]
  simp only
  rw [e1, Option.bind_some, hd5, Option.bind_some]
  simp only
  rw [g1, Option.bind_some, i1, Option.bind_some, a2, b2, c2, e2, g2, i2, qTexts_eq (alike co).1 30000 (by omega) (by omega), qLists_eq (pairs u W).1 30000 k2 (pairs_two u W) (by omega), qTexts_eq (firsts x y).1 30000 (by omega) (by omega), alpha_impl, alike_snd, alike_all co 30000 (by omega), pairs_all u W 30000 (by omega) hu hWs]
  have z1 : (!(spent v vw vh vc).2 || laws_FnAlphabets.tm vw vh vc (spent v vw vh vc).1) = true := by
    cases hs : (spent v vw vh vc).2
    · rfl
    · rw [spent_tm v vw vh vc hs]; rfl
  have z2 : (!(count x y).2 || laws_FnAlphabets.en (count x y).1 (firsts x y).1) = true := by
    cases hs : (count x y).2
    · rfl
    · rw [ends_eq x y hs]; rfl
  rw [z1, z2]
  simp [firsts_snd]

end Go.Proofs.YtopmmmggjohkeaaDoor.Pure
