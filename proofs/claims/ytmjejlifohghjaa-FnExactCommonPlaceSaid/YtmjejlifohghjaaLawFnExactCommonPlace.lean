/- FnExactCommonPlace, out of its plain law and the printed walk. It is claimed for every input: no condition. -/
import Derived.Test.YtmjejlifohghjaaRows
import Derived.Test.YtmjejlifohghjaaFBx12
import Derived.Test.YtmjejlifohghjaaPureFnExactCommonPlace
import Derived.Test.YtmjejlifohghjaaOpenB
import Derived.WalkKit
import Derived.ProofKit
import Derived.OpenShut
import Derived.ShutString
import Derived.ChangeOld
import Derived.Below
import Derived.SizedLaws
import Derived.Carry
namespace Go.Proofs.Ytmjejlifohghjaa.fnExactCommonPlace
open Go.Proofs.Ytmjejlifohghjaa.FB Go.Proofs.Ytmjejlifohghjaa.FB.Open Go.ChangeShapes Go.WideShapes Go.ChangeAt Go.RowKit Go.Proofs.YtmjejlifohghjaaW.PrintWords
open Go.ChangeMaps (open_string shut_string)
set_option linter.unusedVariables false
theorem own : ownKnob Try.prog.godebug = none := by kernel_rfl
theorem laidOut : laidOutB Try.prog = true := by kernel_rfl
set_option maxRecDepth 100000 in
theorem lifted (os : Os) (started : os.Started) (H : Type) (enc : TypeId × Value → H) :
    ReturnsInHanded {} Try.checked os 10 .any (Rows.fnExactCommonPlaceSpec.pre6 enc Try.prog Try.f10 Rows.fnExactCommonPlaceRow.domain false) (Rows.fnExactCommonPlaceSpec.post enc Try.prog Try.f10 false true false false) := by
  refine returnsInHanded_of_change_sized (C := Try.checked) own started (by kernel_rfl) Try.func10
    (ChangeSpec.witness6 (enc := enc) (C := Try.checked) false ⟨#[], #[.slice none 0 0], []⟩ 8 (by kernel_rfl) (by kernel_rfl) (by kernel_rfl) (by kernel_rfl)) ?_
  intro W base args ds gs before hval0 hW hcnd hsz0 _
  have hsz : (DataW.weightsEach Try.prog (Try.f10.params.toList ++ Rows.fnExactCommonPlaceSpec.plain.varTypes Try.prog) (ds ++ gs)).all (· ≤ reachBytes) = true := hsz0
  have hval : ∀ (j : Nat) t v, Try.f10.params[j]? = some t → args[j]? = some v → Value.okWide Try.prog W .any base t v := hval0
  have hW' := hW
  obtain ⟨p, q, hA0, hV, rfl, hfz, hnd⟩ := hW
  have hA : DataW.TrodAll enc Try.prog W 0 (fun _ => true) true Try.f10.params.toList args.toList ds p := hA0
  rw [Try.params10] at hA hval hsz
  obtain ⟨v0, vs0, d0, ds0, p0, q0, hargs, rfl, rfl, h0, r0⟩ := trodAll_cons hA
  obtain ⟨rfl, rfl, rfl⟩ := trodAll_nil r0
  obtain rfl : args = #[v0] := by cases args; simp_all
  obtain ⟨rfl, rfl⟩ := trodVars_none hV
  have k0 := h0
  have lt0 : ∀ x ∈ p0, x.block < W.heap.size := by obtain ⟨m, hm⟩ := k0; exact DataW.trod_lt m _ _ _ hm
  obtain ⟨A0, len0, cap0, rfl⟩ := okWide_slice Try.underlying44 (hval 0 44 v0 rfl rfl)
  obtain ⟨l0, hl0, hc0, hcap0, hq0⟩ := open_rows (α := Go.Proofs.Ytmjejlifohghjaa.FB.S23) k23 (fun x => (Lit.int .i64 x.f0).wf = true ∧ (Lit.int .i64 x.f1).wf = true) Try.underlying44 (by kernel_rfl) (fun fuel cs y hy => by obtain ⟨b0, b1, b2, rfl, hx⟩ := cells23 hy; exact ⟨(⟨b0, b1, b2⟩ : Go.Proofs.Ytmjejlifohghjaa.FB.S23), k23_mk _ _, hx⟩) h0
  have y0 : len0 * 24 ≤ 140737488351232 := sized_any (j := 0) hsz rfl rfl Try.underlying44 (by kernel_rfl) h0
  subst hl0
  clear hA0 hval0 hsz0 hsz
  obtain ⟨k, hk⟩ := Pure.FnExactCommonPlace l0 y0 hq0
  refine (Go.Proofs.Ytmjejlifohghjaa.FB.laws_FnExactCommonPlace.calls k _ _ l0 true W hc0 hcap0 hk).mono fun e W' hE => ?_
  obtain ⟨he, hd⟩ := hE
  have bel : Below W.heap.size W W' := hd
  subst he
  exact ⟨_, rfl, _, _, _, [], _, [], hW', trodAll_mk1 (shut_bool Try.underlying4 _), (trodAll_cons_mk (Below.trod laidOut (by kernel_rfl) (of_decide_eq_true (by kernel_rfl)) k0 bel lt0) trodAll_mk0), rfl, bel.frame _, fun h => by cases h⟩
theorem over : Rows.fnExactCommonPlaceRow.holds Try.pinned (OpenSpec.ofChange Rows.fnExactCommonPlaceSpec) :=
  OpenClaim.holds_of_wide 10 Try.f10 rfl rfl rfl rfl rfl rfl rfl ⟨rfl, rfl, rfl, rfl, rfl⟩ rfl rfl rfl rfl rfl (by kernel_rfl) Try.func10 (by kernel_rfl)
    (of_decide_eq_true (by kernel_rfl)) (by unfold Func.isWrapper; first | (rw [if_pos (by decide +kernel)]; kernel_rfl) | (rw [if_neg (by decide +kernel)]; exact ⟨rfl, rfl⟩))
    (fun os started H enc _ => lifted os started H enc)
theorem proved : Rows.FnExactCommonPlaceSaid := over
#print axioms proved
end Go.Proofs.Ytmjejlifohghjaa.fnExactCommonPlace
namespace Go.Proofs.Ytmjejlifohghjaa
/-- The row, under a short name, for the claim. -/
theorem fnExactCommonPlace_holds : Rows.FnExactCommonPlaceSaid := fnExactCommonPlace.proved
end Go.Proofs.Ytmjejlifohghjaa
