/- FnFingers, out of its plain law and the printed walk. It is claimed for every input: no condition. -/
import Derived.Test.YtaecjbhenknfkaaRows
import Derived.Test.YtaecjbhenknfkaaFDx29
import Derived.Test.YtaecjbhenknfkaaPureFnFingers
import Derived.Test.YtaecjbhenknfkaaOpenD
import Derived.WalkKit
import Derived.ProofKit
import Derived.OpenShut
import Derived.ShutString
import Derived.ChangeOld
import Derived.Below
import Derived.SizedLaws
import Derived.Carry
namespace Go.Proofs.Ytaecjbhenknfkaa.fnFingers
open Go.Proofs.Ytaecjbhenknfkaa.FD Go.Proofs.Ytaecjbhenknfkaa.FD.Open Go.ChangeShapes Go.WideShapes Go.ChangeAt Go.RowKit Go.Proofs.YtaecjbhenknfkaaW.PrintWords
open Go.ChangeMaps (open_string shut_string)
set_option linter.unusedVariables false
theorem own : ownKnob Try.prog.godebug = none := by kernel_rfl
theorem laidOut : laidOutB Try.prog = true := by kernel_rfl
set_option maxRecDepth 100000 in
theorem lifted (os : Os) (started : os.Started) (H : Type) (enc : TypeId × Value → H) :
    ReturnsInHanded {} Try.checked os 12 .any (Rows.fnFingersSpec.pre6 enc Try.prog Try.f12 Rows.fnFingersRow.domain false) (Rows.fnFingersSpec.post enc Try.prog Try.f12 false true false false) := by
  refine returnsInHanded_of_change_sized (C := Try.checked) own started (by kernel_rfl) Try.func12
    (ChangeSpec.witness6 (enc := enc) (C := Try.checked) false ⟨#[], #[.slice none 0 0, .slice none 0 0], []⟩ 8 (by kernel_rfl) (by kernel_rfl) (by kernel_rfl) (by kernel_rfl)) ?_
  intro W base args ds gs before hval0 hW hcnd hsz0 _
  have hsz : (DataW.weightsEach Try.prog (Try.f12.params.toList ++ Rows.fnFingersSpec.plain.varTypes Try.prog) (ds ++ gs)).all (· ≤ reachBytes) = true := hsz0
  have hval : ∀ (j : Nat) t v, Try.f12.params[j]? = some t → args[j]? = some v → Value.okWide Try.prog W .any base t v := hval0
  have hW' := hW
  obtain ⟨p, q, hA0, hV, rfl, hfz, hnd⟩ := hW
  have hA : DataW.TrodAll enc Try.prog W 0 (fun _ => true) true Try.f12.params.toList args.toList ds p := hA0
  rw [Try.params12] at hA hval hsz
  obtain ⟨v0, vs0, d0, ds0, p0, q0, hargs, rfl, rfl, h0, r0⟩ := trodAll_cons hA
  obtain ⟨v1, vs1, d1, ds1, p1, q1, rfl, rfl, rfl, h1, r1⟩ := trodAll_cons r0
  obtain ⟨rfl, rfl, rfl⟩ := trodAll_nil r1
  obtain rfl : args = #[v0, v1] := by cases args; simp_all
  obtain ⟨rfl, rfl⟩ := trodVars_none hV
  have k0 := h0
  have lt0 : ∀ x ∈ p0, x.block < W.heap.size := by obtain ⟨m, hm⟩ := k0; exact DataW.trod_lt m _ _ _ hm
  obtain ⟨A0, len0, cap0, rfl⟩ := okWide_slice Try.underlying51 (hval 0 51 v0 rfl rfl)
  obtain ⟨l0, hl0, hc0, hcap0, hq0⟩ := open_rows (α := Int) (Kd.int .u8) (fun x => (Lit.int .u8 x).wf = true) Try.underlying51 (by kernel_rfl) (fun fuel cs y hy => by obtain ⟨x, rfl, _, hx⟩ := DataW.trod_int Try.underlying5 hy; exact ⟨x, rfl, hx⟩) h0
  have y0 : len0 * 1 ≤ 140737488351232 := sized_any (j := 0) hsz rfl rfl Try.underlying51 (by kernel_rfl) h0
  subst hl0
  have k1 := h1
  have lt1 : ∀ x ∈ p1, x.block < W.heap.size := by obtain ⟨m, hm⟩ := k1; exact DataW.trod_lt m _ _ _ hm
  obtain ⟨A1, len1, cap1, rfl⟩ := okWide_slice Try.underlying51 (hval 1 51 v1 rfl rfl)
  obtain ⟨l1, hl1, hc1, hcap1, hq1⟩ := open_rows (α := Int) (Kd.int .u8) (fun x => (Lit.int .u8 x).wf = true) Try.underlying51 (by kernel_rfl) (fun fuel cs y hy => by obtain ⟨x, rfl, _, hx⟩ := DataW.trod_int Try.underlying5 hy; exact ⟨x, rfl, hx⟩) h1
  have y1 : len1 * 1 ≤ 140737488351232 := sized_any (j := 1) hsz rfl rfl Try.underlying51 (by kernel_rfl) h1
  subst hl1
  clear hA0 hval0 hsz0 hsz
  obtain ⟨k, hk⟩ := Pure.FnFingers l0 l1 y0 hq0 y1 hq1
  refine (Go.Proofs.Ytaecjbhenknfkaa.FD.laws_FnFingers.calls k _ _ l0 _ _ l1 true W hc0 hcap0 hc1 hcap1 hk).mono fun e W' hE => ?_
  obtain ⟨he, hd⟩ := hE
  have bel : Below W.heap.size W W' := hd
  subst he
  exact ⟨_, rfl, _, _, _, [], _, [], hW', trodAll_mk1 (shut_bool Try.underlying4 _), (trodAll_cons_mk (Below.trod laidOut (by kernel_rfl) (of_decide_eq_true (by kernel_rfl)) k0 bel lt0) (trodAll_cons_mk (Below.trod laidOut (by kernel_rfl) (of_decide_eq_true (by kernel_rfl)) k1 bel lt1) trodAll_mk0)), rfl, bel.frame _, fun h => by cases h⟩
theorem over : Rows.fnFingersRow.holds Try.pinned (OpenSpec.ofChange Rows.fnFingersSpec) :=
  OpenClaim.holds_of_wide 12 Try.f12 rfl rfl rfl rfl rfl rfl rfl ⟨rfl, rfl, rfl, rfl, rfl⟩ rfl rfl rfl rfl rfl (by kernel_rfl) Try.func12 (by kernel_rfl)
    (of_decide_eq_true (by kernel_rfl)) (by unfold Func.isWrapper; first | (rw [if_pos (by decide +kernel)]; kernel_rfl) | (rw [if_neg (by decide +kernel)]; exact ⟨rfl, rfl⟩))
    (fun os started H enc _ => lifted os started H enc)
theorem proved : Rows.FnFingersSaid := over
#print axioms proved
end Go.Proofs.Ytaecjbhenknfkaa.fnFingers
namespace Go.Proofs.Ytaecjbhenknfkaa
/-- The row, under a short name, for the claim. -/
theorem fnFingers_holds : Rows.FnFingersSaid := fnFingers.proved
end Go.Proofs.Ytaecjbhenknfkaa
