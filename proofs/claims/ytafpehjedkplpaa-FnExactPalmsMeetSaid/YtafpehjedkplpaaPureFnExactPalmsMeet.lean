/- The plain law behind FnExactPalmsMeet: what the printed functions answer is true, for every input. -/
import Derived.Test.YtafpehjedkplpaaFAx5 -- home: laws_FnExactPalmsMeet.f
import Derived.Test.YtafpehjedkplpaaMA
namespace Go.Proofs.Ytafpehjedkplpaa.Pure
open Go.RowKit Go.Proofs.Ytafpehjedkplpaa.MA Go.Proofs.Ytafpehjedkplpaa.FA Go.Proofs.YtafpehjedkplpaaW.PrintWords Go.Proofs.YtafpehjedkplpaaW.PrintLast Go.Proofs.YtafpehjedkplpaaW.PrintMore
set_option linter.unusedVariables false

theorem FnExactPalmsMeet (a0_0 : Int) (a0_1 : Int) (a1_0 : Int) (a1_1 : Int) (w0_0 : (Lit.int .i64 a0_0).wf = true) (w0_1 : (Lit.int .i64 a0_1).wf = true) (w1_0 : (Lit.int .i64 a1_0).wf = true) (w1_1 : (Lit.int .i64 a1_1).wf = true) : laws_FnExactPalmsMeet.f a0_0 a0_1 a1_0 a1_1 = some true := by
  unfold laws_FnExactPalmsMeet.f spec_PalmsMeet.f impl_PalmsMeet.f
  simp only [toOrient_eq, Option.bind_some, good_spec, good_impl]
  cases h : good a0_0 a0_1
  · simp
  · cases h2 : good a1_0 a1_1
    · simp
    · have hf : ∀ a ∈ L6, ∀ b ∈ L6, (spec_orOpposite.f b).bind (fun t => some (a == t)) = some (Go.bits .xor .i64 a 1 == b) := by decide +kernel
      have hh := hf a0_0 (good_in h).1 a1_0 (good_in h2).1
      obtain ⟨r, hr, hr2⟩ := Option.bind_eq_some_iff.1 hh
      simp only [Option.some.injEq] at hr2
      simp [hr, ← hr2]

end Go.Proofs.Ytafpehjedkplpaa.Pure
