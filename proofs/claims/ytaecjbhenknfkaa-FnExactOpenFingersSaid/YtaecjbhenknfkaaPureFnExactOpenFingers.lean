/- The plain law behind FnExactOpenFingers: what the printed functions answer is true, for every input. -/
import Derived.Test.YtaecjbhenknfkaaFAx11 -- home: laws_FnExactOpenFingers.f
import Derived.Test.YtaecjbhenknfkaaMFnExactOpenFingers
namespace Go.Proofs.Ytaecjbhenknfkaa.Pure
open Go.RowKit Go.Proofs.Ytaecjbhenknfkaa.MFnExactOpenFingers Go.Proofs.Ytaecjbhenknfkaa.FA Go.Proofs.YtaecjbhenknfkaaW.PrintWords Go.Proofs.YtaecjbhenknfkaaW.PrintLast Go.Proofs.YtaecjbhenknfkaaW.PrintMore
set_option linter.unusedVariables false

theorem FnExactOpenFingers (a0_0 : Int) (a0_1 : Int) (a0_2 : Int) (a0_3 : Int) (a0_4 : Int) (a0_5 : Bool) (w0_0 : (Lit.int .i64 a0_0).wf = true) (w0_1 : (Lit.int .i64 a0_1).wf = true) (w0_2 : (Lit.int .i64 a0_2).wf = true) (w0_3 : (Lit.int .i64 a0_3).wf = true) (w0_4 : (Lit.int .i64 a0_4).wf = true) : ∃ k, laws_FnExactOpenFingers.f k a0_0 a0_1 a0_2 a0_3 a0_4 a0_5 = some true := by
  refine ⟨100, ?_⟩
  unfold laws_FnExactOpenFingers.f laws_toShape.f spec_OpenFingers.f impl_OpenFingers.f
  simp only [Option.bind_some]
  rw [hshape_spec a0_0 a0_1 a0_2 a0_3 a0_4 a0_5 100 (by omega), hshape_impl]
  cases hg : hshape a0_0 a0_1 a0_2 a0_3 a0_4 a0_5
  · simp
  obtain ⟨-, ha, hb, hc, hd, -⟩ := hshape_iff.1 hg
  obtain ⟨h1, h2⟩ := open_fin _ (three ha) _ (three hb) _ (three hc) _ (three hd)
  obtain ⟨z, hz⟩ := Option.isSome_iff_exists.1 h1
  rw [hz] at h2
  obtain ⟨l, hl, rfl⟩ := Option.map_eq_some_iff.1 h2
  have e1 : spec_OpenFingers.l0 100 0 [a0_1, a0_2, a0_3, a0_4] 4 0 = some ((l.length : Int), true) := at_rounds (g := fun k => spec_OpenFingers.l0 k 0 [a0_1, a0_2, a0_3, a0_4] 4 0) (fun k => spec_OpenFingers.mono_l k _ _ _ _) (show 10 ≤ 100 by omega) hz
  have e2 : impl_those_int.f 100 [a0_1, a0_2, a0_3, a0_4] = some l := at_rounds (g := fun k => impl_those_int.f k [a0_1, a0_2, a0_3, a0_4]) (fun k => impl_those_int.mono _ k) (show 10 ≤ 100 by omega) hl
  unfold spec_shFingers.f impl_Shape_open.f impl_Shape_bends.f
  simp only [Option.bind_some, if_true]
  rw [e2, show (([a0_1, a0_2, a0_3, a0_4] : List Int).length : Int) = 4 from rfl, e1]
  simp only [Option.bind_some, if_true, bne_self_eq_false, Bool.false_eq_true, if_false]

end Go.Proofs.Ytaecjbhenknfkaa.Pure
