/- The plain law behind FnExactParseOrient: what the printed functions answer is true, for every input. -/
import Derived.Test.YtafpehjedkplpaaFAx12 -- home: laws_FnExactParseOrient.f
import Derived.Test.YtafpehjedkplpaaMA
namespace Go.Proofs.Ytafpehjedkplpaa.Pure
open Go.RowKit Go.Proofs.Ytafpehjedkplpaa.MA Go.Proofs.Ytafpehjedkplpaa.FA Go.Proofs.YtafpehjedkplpaaW.PrintWords Go.Proofs.YtafpehjedkplpaaW.PrintLast Go.Proofs.YtafpehjedkplpaaW.PrintMore
set_option linter.unusedVariables false

theorem FnExactParseOrient : laws_FnExactParseOrient.Pure := by
  intro s hs
  refine ⟨10, ?_⟩
  unfold laws_FnExactParseOrient.f
  by_cases hbig : (s.size : Int) > 1048576
  · rw [if_pos hbig]
  · rw [if_neg hbig]
    unfold spec_ParseOrient.f spec_orParse.f impl_ParseOrient.f
    by_cases h2 : (s.size : Int) = 2
    · have hl : ∀ n ∈ List.range 256, spec_orLetter.f 10 (n : Int) = strings_IndexByte.f (⟨#[117, 100, 108, 114, 102, 98]⟩ : ByteArray) (n : Int) := by decide +kernel
      have hc : ∀ i, spec_orLetter.f 10 (bt s i) = strings_IndexByte.f (⟨#[117, 100, 108, 114, 102, 98]⟩ : ByteArray) (bt s i) := by
        intro i
        obtain ⟨h0, h1⟩ := bt_range s i
        have := hl (bt s i).toNat (List.mem_range.2 (by omega))
        rwa [Int.toNat_of_nonneg h0] at this
      simp only [hc, h2, if_true]
      obtain ⟨x, hx⟩ : ∃ x, strings_IndexByte.f (⟨#[117, 100, 108, 114, 102, 98]⟩ : ByteArray) (bt s 0) = some x := ⟨_, rfl⟩
      obtain ⟨y, hy⟩ : ∃ x, strings_IndexByte.f (⟨#[117, 100, 108, 114, 102, 98]⟩ : ByteArray) (bt s 1) = some x := ⟨_, rfl⟩
      cases h : good x y <;> simp [hx, hy, good_spec, good_impl, h, eqOrient_self]
    · simp [h2, eqOrient_self]

end Go.Proofs.Ytafpehjedkplpaa.Pure
