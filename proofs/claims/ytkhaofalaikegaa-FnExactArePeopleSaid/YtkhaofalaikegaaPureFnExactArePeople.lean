/- The plain law behind FnExactArePeople: what the printed functions answer is true, for every input. -/
import Derived.Test.YtkhaofalaikegaaFDx9 -- home: laws_FnExactArePeople.f
import Derived.Test.YtkhaofalaikegaaMFnExactArePeople
namespace Go.Proofs.Ytkhaofalaikegaa.Pure
open Go.RowKit Go.Proofs.Ytkhaofalaikegaa.MFnExactArePeople Go.Proofs.Ytkhaofalaikegaa.FD Go.Proofs.YtkhaofalaikegaaW.PrintWords Go.Proofs.YtkhaofalaikegaaW.PrintLast Go.Proofs.YtkhaofalaikegaaW.PrintMore
set_option linter.unusedVariables false

theorem FnExactArePeople (l0 : List (S80)) (y0 : l0.length * 40 ≤ 140737488351232) (q0 : ∀ x ∈ l0, x.f0.size ≤ maxLen ∧ (Lit.int .i64 x.f1).wf = true ∧ (Lit.int .i64 x.f2).wf = true ∧ (Lit.int .i64 x.f3).wf = true) : ∃ k, laws_FnExactArePeople.f k l0 = some true := by
  obtain ⟨k, hk⟩ : ∃ k : Nat, k = 9223372036854775807 + l0.length + 100 := ⟨_, rfl⟩
  refine ⟨k, ?_⟩
  have hy : l0.length ≤ 3518437208780 := by omega
  unfold laws_FnExactArePeople.f laws_szPersonS.f
  have hwl : wrap64 (1048576 - (l0.length : Int)) = 1048576 - (l0.length : Int) := wq (by omega) (by omega)
  rw [hwl]
  by_cases hb : 1048576 - (l0.length : Int) < 0
  · rw [if_pos hb]; rfl
  rw [if_neg hb]
  have hL : l0.length ≤ 1048576 := by omega
  obtain ⟨z, hz⟩ := szPersonS_l0 l0 hL l0.length k 0 (1048576 - (l0.length : Int)) (by omega) (by omega)
  rw [show laws_szPersonS.l0 k l0 (1048576 - (l0.length : Int)) 0 = some z from hz, Option.bind_some]
  by_cases hz0 : z < 0
  · rw [if_pos hz0]
  rw [if_neg hz0, toPersonS_eq l0 k hL (by omega)]
  have hs : ∀ x ∈ l0.map cvp, x.f0.size ≤ 9223372036854775807 := by
    intro x hx
    obtain ⟨y, hy1, rfl⟩ := List.mem_map.1 hx
    exact (q0 y hy1).1
  have hlm : (l0.map cvp).length = l0.length := List.length_map ..
  obtain ⟨b, h1, h2⟩ := people_l0 (l0.map cvp) hs (by omega) (l0.map cvp).length k 0 (by omega) (by omega)
  unfold spec_ArePeople.f spec_naGood.f impl_ArePeople.f
  simp only [Option.bind_some]
  rw [show spec_naGood.l0 k (l0.map cvp) (l0.map cvp) ((l0.map cvp).length : Int) 0 = some b from h1, show impl_ArePeople.l0 k (l0.map cvp) (l0.map cvp) ((l0.map cvp).length : Int) 0 = some b from h2]
  simp only [Option.bind_some, bne_self_eq_false, Bool.false_eq_true, if_false]
  rw [eqPersonS_self _ k (by omega) (by omega)]
  simp only [Option.bind_some, if_true]

end Go.Proofs.Ytkhaofalaikegaa.Pure
