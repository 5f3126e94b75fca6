/- The plain law behind FnExactShapeWay: what the printed functions answer is true, for every input. -/
import Derived.Test.YtaecjbhenknfkaaFBx18 -- home: laws_FnExactShapeWay.f
import Derived.Test.YtaecjbhenknfkaaMFnExactShapeWay
namespace Go.Proofs.Ytaecjbhenknfkaa.Pure
open Go.RowKit Go.Proofs.Ytaecjbhenknfkaa.MFnExactShapeWay Go.Proofs.Ytaecjbhenknfkaa.FB Go.Proofs.YtaecjbhenknfkaaW.PrintWords Go.Proofs.YtaecjbhenknfkaaW.PrintLast Go.Proofs.YtaecjbhenknfkaaW.PrintMore
set_option linter.unusedVariables false

theorem FnExactShapeWay (a0_0 : Int) (a0_1 : Int) (a0_2 : Int) (a0_3 : Int) (a0_4 : Int) (a0_5 : Bool) (a1_0 : Int) (a1_1 : Int) (a1_2 : Int) (a1_3 : Int) (a1_4 : Int) (a1_5 : Bool) (w0_0 : (Lit.int .i64 a0_0).wf = true) (w0_1 : (Lit.int .i64 a0_1).wf = true) (w0_2 : (Lit.int .i64 a0_2).wf = true) (w0_3 : (Lit.int .i64 a0_3).wf = true) (w0_4 : (Lit.int .i64 a0_4).wf = true) (w1_0 : (Lit.int .i64 a1_0).wf = true) (w1_1 : (Lit.int .i64 a1_1).wf = true) (w1_2 : (Lit.int .i64 a1_2).wf = true) (w1_3 : (Lit.int .i64 a1_3).wf = true) (w1_4 : (Lit.int .i64 a1_4).wf = true) : ∃ k, laws_FnExactShapeWay.f k a0_0 a0_1 a0_2 a0_3 a0_4 a0_5 a1_0 a1_1 a1_2 a1_3 a1_4 a1_5 = some true := by
  obtain ⟨l, q, hl, h1, h2⟩ := way_same a0_0 a0_1 a0_2 a0_3 a0_4 a0_5 a1_0 a1_1 a1_2 a1_3 a1_4 a1_5 402 (by omega)
  obtain ⟨l', q', hl', h1', h2'⟩ := way_same a0_0 a0_1 a0_2 a0_3 a0_4 a0_5 a1_0 a1_1 a1_2 a1_3 a1_4 a1_5 401 (by omega)
  have e := (impl_ShapeWay.mono a0_0 a0_1 a0_2 a0_3 a0_4 a0_5 a1_0 a1_1 a1_2 a1_3 a1_4 a1_5 401) _ h2'
  rw [h2] at e
  simp only [Option.some.injEq, Prod.mk.injEq] at e
  obtain ⟨rfl, rfl⟩ := e
  have hm := fun k hk => mark_eq l k (by omega) hk
  have hh := fun k hk => held_eq l k (by omega) hk
  have he := fun k hk => eqS_self l k (by omega) hk
  refine ⟨400 + 1 + 1, ?_⟩
  unfold laws_FnExactShapeWay.f laws_toShape.f
  simp only [Option.bind_some]
  rw [h1]
  simp only [Option.bind_some]
  rw [h2]
  simp only [Option.bind_some]
  rw [he _ (by omega)]
  simp only [Option.bind_some, if_true, bne_self_eq_false]
  rw [laws_FnExactShapeWay.j0, if_neg Bool.false_ne_true, hm _ (by omega)]
  simp only [Option.bind_some]
  rw [hh _ (by omega)]
  simp only [Option.bind_some]
  rw [if_neg (by omega), if_pos trivial]
  unfold laws_toShape.f
  simp only [Option.bind_some]
  rw [h2']
  simp only [Option.bind_some]
  rw [he _ (by omega)]
  simp only [Option.bind_some, if_true, bne_self_eq_false]
  rw [laws_FnExactShapeWay.j1, if_neg Bool.false_ne_true, hh _ (by omega)]
  simp only [Option.bind_some]
  rw [if_neg (by omega), if_pos trivial]

end Go.Proofs.Ytaecjbhenknfkaa.Pure
