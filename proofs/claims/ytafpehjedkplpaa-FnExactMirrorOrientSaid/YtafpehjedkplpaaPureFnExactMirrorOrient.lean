/- The plain law behind FnExactMirrorOrient: what the printed functions answer is true, for every input. -/
import Derived.Test.YtafpehjedkplpaaFAx14 -- home: laws_FnExactMirrorOrient.f
import Derived.Test.YtafpehjedkplpaaMA
namespace Go.Proofs.Ytafpehjedkplpaa.Pure
open Go.RowKit Go.Proofs.Ytafpehjedkplpaa.MA Go.Proofs.Ytafpehjedkplpaa.FA Go.Proofs.YtafpehjedkplpaaW.PrintWords Go.Proofs.YtafpehjedkplpaaW.PrintLast Go.Proofs.YtafpehjedkplpaaW.PrintMore
set_option linter.unusedVariables false

theorem FnExactMirrorOrient (a0_0 : Int) (a0_1 : Int) (w0_0 : (Lit.int .i64 a0_0).wf = true) (w0_1 : (Lit.int .i64 a0_1).wf = true) : laws_FnExactMirrorOrient.f a0_0 a0_1 = some true := by
  unfold laws_FnExactMirrorOrient.f
  simp only [toOrient_eq, Option.bind_some]
  cases h : good a0_0 a0_1
  · simp [spec_MirrorOrient.f, impl_MirrorOrient.f, good_spec, good_impl, h, eqOrient_self]
  · have hf : ∀ a ∈ L6, spec_orSwap.f a = impl_Orient_mirrored_1.f a ∧ (impl_Orient_mirrored_1.f a).isSome = true := by decide +kernel
    obtain ⟨e0, s0⟩ := hf a0_0 (good_in h).1
    obtain ⟨e1, s1⟩ := hf a0_1 (good_in h).2
    obtain ⟨x, hx⟩ := Option.isSome_iff_exists.1 s0
    obtain ⟨y, hy⟩ := Option.isSome_iff_exists.1 s1
    simp [spec_MirrorOrient.f, impl_MirrorOrient.f, spec_orMirror.f, impl_Orient_mirrored.f, good_spec, good_impl, h, e0, e1, hx, hy, eqOrient_self]

end Go.Proofs.Ytafpehjedkplpaa.Pure
