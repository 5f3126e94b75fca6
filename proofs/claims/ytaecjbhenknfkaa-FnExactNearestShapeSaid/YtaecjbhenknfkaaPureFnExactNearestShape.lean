/- The plain law behind FnExactNearestShape: what the printed functions answer is true, for every input. -/
import Derived.Test.YtaecjbhenknfkaaFAx32 -- home: laws_FnExactNearestShape.f
import Derived.Test.YtaecjbhenknfkaaMFnExactNearestShape
namespace Go.Proofs.Ytaecjbhenknfkaa.Pure
open Go.RowKit Go.Proofs.Ytaecjbhenknfkaa.MFnExactNearestShape Go.Proofs.Ytaecjbhenknfkaa.FA Go.Proofs.YtaecjbhenknfkaaW.PrintWords Go.Proofs.YtaecjbhenknfkaaW.PrintLast Go.Proofs.YtaecjbhenknfkaaW.PrintMore
set_option linter.unusedVariables false

theorem FnExactNearestShape (l0 : List (S23)) (a1_0 : Int) (a1_1 : Int) (a1_2 : Int) (a1_3 : Int) (a1_4 : Int) (a1_5 : Bool) (y0 : l0.length * 48 ≤ 140737488351232) (q0 : ∀ x ∈ l0, (Lit.int .i64 x.f0).wf = true ∧ (Lit.int .i64 x.f1).wf = true ∧ (Lit.int .i64 x.f2).wf = true ∧ (Lit.int .i64 x.f3).wf = true ∧ (Lit.int .i64 x.f4).wf = true) (w1_0 : (Lit.int .i64 a1_0).wf = true) (w1_1 : (Lit.int .i64 a1_1).wf = true) (w1_2 : (Lit.int .i64 a1_2).wf = true) (w1_3 : (Lit.int .i64 a1_3).wf = true) (w1_4 : (Lit.int .i64 a1_4).wf = true) : ∃ k, laws_FnExactNearestShape.f k l0 a1_0 a1_1 a1_2 a1_3 a1_4 a1_5 = some true := by
  obtain ⟨sz, hsz⟩ : ∃ z, laws_szShapeS.f l0 1048576 = some z := by
    unfold laws_szShapeS.f; split <;> exact ⟨_, rfl⟩
  by_cases hL : l0.length ≤ 1048576
  · obtain ⟨k, hk⟩ : ∃ k, k = l0.length + 100 := ⟨_, rfl⟩
    refine ⟨k + 1, ?_⟩
    obtain ⟨z, e1, e2⟩ := nearest_same (l0.map cvs) (by simpa using hL) a1_0 a1_1 a1_2 a1_3 a1_4 a1_5 (k + 1) (by simp; omega)
    unfold laws_FnExactNearestShape.f laws_toShape.f
    rw [hsz]
    simp only [Option.bind_some]
    split
    · rfl
    rw [toShapeS_eq l0 (k + 1) hL (by omega)]
    simp only [Option.bind_some, e1, e2, if_true, bne_self_eq_false, laws_FnExactNearestShape.j0, Bool.false_eq_true, if_false]
    rw [toShapeS_eq l0 k hL (by omega)]
    simp only [Option.bind_some]
    rw [eqShapeS_self _ k (by simpa using hL) (by simp; omega)]
    rfl
  · refine ⟨0, ?_⟩
    unfold laws_FnExactNearestShape.f laws_szShapeS.f
    have hy : l0.length * 48 ≤ 140737488351232 := y0
    rw [show wrap64 (1048576 - (l0.length : Int)) = 1048576 - (l0.length : Int) from wr (by omega) (by omega), if_pos (by omega)]
    rfl

end Go.Proofs.Ytaecjbhenknfkaa.Pure
