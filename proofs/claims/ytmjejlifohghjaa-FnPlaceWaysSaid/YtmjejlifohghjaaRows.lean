/-
  No cell of these rows narrows 'for every input' (looked for: loops, veiled, ifaces, maps, wideKeys, modest, calm, conditions, laid).
  DERIVED. THE GIVEN ROWS OF THIS SEAT. 11 by the template 'for every input the law returns true; each argument reads behind the call as it read before'; 0 by the template 'total and deterministic' (their statements: YtmjejlifohghjaaTotals.lean).
  GIVEN WITH THE SEED: the statements are not yours to turn. If you find one false, say at which input.
  Laid BY PROGRAM, IN A SANDBOX (cutbox-rows.mjs): the forced cells as the released guide's own fill.sh prints them over the translation a23c1b6fb5f229fb… (all of the seat's roots in one cut). By AI agents, Wed Nov 11 2026. No macro, syntax, notation, axiom, sorry.
-/
import Derived.Test.YtmjejlifohghjaaChecked
import GoSem.Claim
import GoSem.ClaimJoined
import GoSem.ClaimMapViews
import Derived.JoinedTies
import Derived.KernelRfl
namespace Go.Proofs.Ytmjejlifohghjaa
/- THE CELL 'sum', in the pinned program and in every row, IS THE sha256 OF THE DUMP (.gsa) THAT YtmjejlifohghjaaProg.lean LOADS. Nothing in Lean hashes anything: it is a label: what it is worth is what the hold of that sum in a sandbox is worth. -/
noncomputable def Try.pinned : Pinned := { name := "ytmjejlifohghjaa", sum := "a23c1b6fb5f229fb482fcb259b3057d6b26600f7b2c50695f9a1b18ef573f874", checked := Try.checked }
namespace Rows
def none {H : Type} : Left H := { results := [], args := [] }

/-- 'laws.FnExactIsPlace': WHATEVER THE INPUT: true; the input reads as it did. -/
def fnExactIsPlaceSpec : ChangeSpec := { name := "fnExactIsPlace", fn := fun _ => fun
  | [d] => { results := [.lit (.bool true)], args := [d] }
  | _ => none }
def fnExactIsPlaceRow : OpenClaim := { program := "ytmjejlifohghjaa", sum := "a23c1b6fb5f229fb482fcb259b3057d6b26600f7b2c50695f9a1b18ef573f874", func := "loop.example/g01008/laws.FnExactIsPlace", spec := "fnExactIsPlace", apart := false }
def FnExactIsPlaceSaid : Prop := fnExactIsPlaceRow.holds Try.pinned (OpenSpec.ofChange fnExactIsPlaceSpec)

/-- ITS FALSE NEIGHBOUR: 'it returns false'. Refute it at one input. -/
def fnExactIsPlaceWrong : ChangeSpec := { name := "fnExactIsPlace", fn := fun _ => fun
  | [d] => { results := [.lit (.bool false)], args := [d] }
  | _ => none }
def FnExactIsPlaceWrongFalsely : Prop := fnExactIsPlaceRow.holds Try.pinned (OpenSpec.ofChange fnExactIsPlaceWrong)

/-- 'laws.FnExactPlaceCode': WHATEVER THE INPUT: true; the input reads as it did. -/
def fnExactPlaceCodeSpec : ChangeSpec := { name := "fnExactPlaceCode", fn := fun _ => fun
  | [d] => { results := [.lit (.bool true)], args := [d] }
  | _ => none }
def fnExactPlaceCodeRow : OpenClaim := { program := "ytmjejlifohghjaa", sum := "a23c1b6fb5f229fb482fcb259b3057d6b26600f7b2c50695f9a1b18ef573f874", func := "loop.example/g01008/laws.FnExactPlaceCode", spec := "fnExactPlaceCode", apart := false }
def FnExactPlaceCodeSaid : Prop := fnExactPlaceCodeRow.holds Try.pinned (OpenSpec.ofChange fnExactPlaceCodeSpec)

/-- ITS FALSE NEIGHBOUR: 'it returns false'. Refute it at one input. -/
def fnExactPlaceCodeWrong : ChangeSpec := { name := "fnExactPlaceCode", fn := fun _ => fun
  | [d] => { results := [.lit (.bool false)], args := [d] }
  | _ => none }
def FnExactPlaceCodeWrongFalsely : Prop := fnExactPlaceCodeRow.holds Try.pinned (OpenSpec.ofChange fnExactPlaceCodeWrong)

/-- 'laws.FnExactMirrorPlace': WHATEVER THE INPUT: true; the input reads as it did. -/
def fnExactMirrorPlaceSpec : ChangeSpec := { name := "fnExactMirrorPlace", fn := fun _ => fun
  | [d] => { results := [.lit (.bool true)], args := [d] }
  | _ => none }
def fnExactMirrorPlaceRow : OpenClaim := { program := "ytmjejlifohghjaa", sum := "a23c1b6fb5f229fb482fcb259b3057d6b26600f7b2c50695f9a1b18ef573f874", func := "loop.example/g01008/laws.FnExactMirrorPlace", spec := "fnExactMirrorPlace", apart := false }
def FnExactMirrorPlaceSaid : Prop := fnExactMirrorPlaceRow.holds Try.pinned (OpenSpec.ofChange fnExactMirrorPlaceSpec)

/-- ITS FALSE NEIGHBOUR: 'it returns false'. Refute it at one input. -/
def fnExactMirrorPlaceWrong : ChangeSpec := { name := "fnExactMirrorPlace", fn := fun _ => fun
  | [d] => { results := [.lit (.bool false)], args := [d] }
  | _ => none }
def FnExactMirrorPlaceWrongFalsely : Prop := fnExactMirrorPlaceRow.holds Try.pinned (OpenSpec.ofChange fnExactMirrorPlaceWrong)

/-- 'laws.FnExactPlaceDistance': WHATEVER THE INPUT: true; the input reads as it did. -/
def fnExactPlaceDistanceSpec : ChangeSpec := { name := "fnExactPlaceDistance", fn := fun _ => fun
  | [d1, d2] => { results := [.lit (.bool true)], args := [d1, d2] }
  | _ => none }
def fnExactPlaceDistanceRow : OpenClaim := { program := "ytmjejlifohghjaa", sum := "a23c1b6fb5f229fb482fcb259b3057d6b26600f7b2c50695f9a1b18ef573f874", func := "loop.example/g01008/laws.FnExactPlaceDistance", spec := "fnExactPlaceDistance", apart := false }
def FnExactPlaceDistanceSaid : Prop := fnExactPlaceDistanceRow.holds Try.pinned (OpenSpec.ofChange fnExactPlaceDistanceSpec)

/-- ITS FALSE NEIGHBOUR: 'it returns false'. Refute it at one input. -/
def fnExactPlaceDistanceWrong : ChangeSpec := { name := "fnExactPlaceDistance", fn := fun _ => fun
  | [d1, d2] => { results := [.lit (.bool false)], args := [d1, d2] }
  | _ => none }
def FnExactPlaceDistanceWrongFalsely : Prop := fnExactPlaceDistanceRow.holds Try.pinned (OpenSpec.ofChange fnExactPlaceDistanceWrong)

/-- 'laws.FnExactPlaceOfCode': WHATEVER THE INPUT: true; the input reads as it did. -/
def fnExactPlaceOfCodeSpec : ChangeSpec := { name := "fnExactPlaceOfCode", fn := fun _ => fun
  | [d] => { results := [.lit (.bool true)], args := [d] }
  | _ => none }
def fnExactPlaceOfCodeRow : OpenClaim := { program := "ytmjejlifohghjaa", sum := "a23c1b6fb5f229fb482fcb259b3057d6b26600f7b2c50695f9a1b18ef573f874", func := "loop.example/g01008/laws.FnExactPlaceOfCode", spec := "fnExactPlaceOfCode", apart := false }
def FnExactPlaceOfCodeSaid : Prop := fnExactPlaceOfCodeRow.holds Try.pinned (OpenSpec.ofChange fnExactPlaceOfCodeSpec)

/-- ITS FALSE NEIGHBOUR: 'it returns false'. Refute it at one input. -/
def fnExactPlaceOfCodeWrong : ChangeSpec := { name := "fnExactPlaceOfCode", fn := fun _ => fun
  | [d] => { results := [.lit (.bool false)], args := [d] }
  | _ => none }
def FnExactPlaceOfCodeWrongFalsely : Prop := fnExactPlaceOfCodeRow.holds Try.pinned (OpenSpec.ofChange fnExactPlaceOfCodeWrong)

/-- 'laws.FnExactWayOfPlaces': WHATEVER THE INPUT: true; the input reads as it did. -/
def fnExactWayOfPlacesSpec : ChangeSpec := { name := "fnExactWayOfPlaces", fn := fun _ => fun
  | [d1, d2] => { results := [.lit (.bool true)], args := [d1, d2] }
  | _ => none }
def fnExactWayOfPlacesRow : OpenClaim := { program := "ytmjejlifohghjaa", sum := "a23c1b6fb5f229fb482fcb259b3057d6b26600f7b2c50695f9a1b18ef573f874", func := "loop.example/g01008/laws.FnExactWayOfPlaces", spec := "fnExactWayOfPlaces", apart := false }
def FnExactWayOfPlacesSaid : Prop := fnExactWayOfPlacesRow.holds Try.pinned (OpenSpec.ofChange fnExactWayOfPlacesSpec)

/-- ITS FALSE NEIGHBOUR: 'it returns false'. Refute it at one input. -/
def fnExactWayOfPlacesWrong : ChangeSpec := { name := "fnExactWayOfPlaces", fn := fun _ => fun
  | [d1, d2] => { results := [.lit (.bool false)], args := [d1, d2] }
  | _ => none }
def FnExactWayOfPlacesWrongFalsely : Prop := fnExactWayOfPlacesRow.holds Try.pinned (OpenSpec.ofChange fnExactWayOfPlacesWrong)

/-- 'laws.FnExactPlacesWithin': WHATEVER THE INPUT: true; the input reads as it did. -/
def fnExactPlacesWithinSpec : ChangeSpec := { name := "fnExactPlacesWithin", fn := fun _ => fun
  | [d1, d2] => { results := [.lit (.bool true)], args := [d1, d2] }
  | _ => none }
def fnExactPlacesWithinRow : OpenClaim := { program := "ytmjejlifohghjaa", sum := "a23c1b6fb5f229fb482fcb259b3057d6b26600f7b2c50695f9a1b18ef573f874", func := "loop.example/g01008/laws.FnExactPlacesWithin", spec := "fnExactPlacesWithin", apart := false }
def FnExactPlacesWithinSaid : Prop := fnExactPlacesWithinRow.holds Try.pinned (OpenSpec.ofChange fnExactPlacesWithinSpec)

/-- ITS FALSE NEIGHBOUR: 'it returns false'. Refute it at one input. -/
def fnExactPlacesWithinWrong : ChangeSpec := { name := "fnExactPlacesWithin", fn := fun _ => fun
  | [d1, d2] => { results := [.lit (.bool false)], args := [d1, d2] }
  | _ => none }
def FnExactPlacesWithinWrongFalsely : Prop := fnExactPlacesWithinRow.holds Try.pinned (OpenSpec.ofChange fnExactPlacesWithinWrong)

/-- 'laws.FnExactCommonPlace': WHATEVER THE INPUT: true; the input reads as it did. -/
def fnExactCommonPlaceSpec : ChangeSpec := { name := "fnExactCommonPlace", fn := fun _ => fun
  | [d] => { results := [.lit (.bool true)], args := [d] }
  | _ => none }
def fnExactCommonPlaceRow : OpenClaim := { program := "ytmjejlifohghjaa", sum := "a23c1b6fb5f229fb482fcb259b3057d6b26600f7b2c50695f9a1b18ef573f874", func := "loop.example/g01008/laws.FnExactCommonPlace", spec := "fnExactCommonPlace", unfollowed := true, recurses := true, apart := false }
def FnExactCommonPlaceSaid : Prop := fnExactCommonPlaceRow.holds Try.pinned (OpenSpec.ofChange fnExactCommonPlaceSpec)

/-- ITS FALSE NEIGHBOUR: 'it returns false'. Refute it at one input. -/
def fnExactCommonPlaceWrong : ChangeSpec := { name := "fnExactCommonPlace", fn := fun _ => fun
  | [d] => { results := [.lit (.bool false)], args := [d] }
  | _ => none }
def FnExactCommonPlaceWrongFalsely : Prop := fnExactCommonPlaceRow.holds Try.pinned (OpenSpec.ofChange fnExactCommonPlaceWrong)

/-- 'laws.FnPlaceWays': WHATEVER THE INPUT: true; the input reads as it did. -/
def fnPlaceWaysSpec : ChangeSpec := { name := "fnPlaceWays", fn := fun _ => fun
  | [d1, d2] => { results := [.lit (.bool true)], args := [d1, d2] }
  | _ => none }
def fnPlaceWaysRow : OpenClaim := { program := "ytmjejlifohghjaa", sum := "a23c1b6fb5f229fb482fcb259b3057d6b26600f7b2c50695f9a1b18ef573f874", func := "loop.example/g01008/laws.FnPlaceWays", spec := "fnPlaceWays", unfollowed := true, recurses := true, apart := false }
def FnPlaceWaysSaid : Prop := fnPlaceWaysRow.holds Try.pinned (OpenSpec.ofChange fnPlaceWaysSpec)

/-- ITS FALSE NEIGHBOUR: 'it returns false'. Refute it at one input. -/
def fnPlaceWaysWrong : ChangeSpec := { name := "fnPlaceWays", fn := fun _ => fun
  | [d1, d2] => { results := [.lit (.bool false)], args := [d1, d2] }
  | _ => none }
def FnPlaceWaysWrongFalsely : Prop := fnPlaceWaysRow.holds Try.pinned (OpenSpec.ofChange fnPlaceWaysWrong)

/-- 'laws.FnExactConstants': WHATEVER THE INPUT: true; the input reads as it did. -/
def fnExactConstantsSpec : ChangeSpec := { name := "fnExactConstants", fn := fun _ => fun
  | [] => { results := [.lit (.bool true)], args := [] }
  | _ => none }
def fnExactConstantsRow : OpenClaim := { program := "ytmjejlifohghjaa", sum := "a23c1b6fb5f229fb482fcb259b3057d6b26600f7b2c50695f9a1b18ef573f874", func := "loop.example/g01008/laws.FnExactConstants", spec := "fnExactConstants", apart := false }
def FnExactConstantsSaid : Prop := fnExactConstantsRow.holds Try.pinned (OpenSpec.ofChange fnExactConstantsSpec)

/-- ITS FALSE NEIGHBOUR: 'it returns false'. Refute it at one input. -/
def fnExactConstantsWrong : ChangeSpec := { name := "fnExactConstants", fn := fun _ => fun
  | [] => { results := [.lit (.bool false)], args := [] }
  | _ => none }
def FnExactConstantsWrongFalsely : Prop := fnExactConstantsRow.holds Try.pinned (OpenSpec.ofChange fnExactConstantsWrong)

/-- 'laws.FnExactIsConstraint': WHATEVER THE INPUT: true; the input reads as it did. -/
def fnExactIsConstraintSpec : ChangeSpec := { name := "fnExactIsConstraint", fn := fun _ => fun
  | [d] => { results := [.lit (.bool true)], args := [d] }
  | _ => none }
def fnExactIsConstraintRow : OpenClaim := { program := "ytmjejlifohghjaa", sum := "a23c1b6fb5f229fb482fcb259b3057d6b26600f7b2c50695f9a1b18ef573f874", func := "loop.example/g01008/laws.FnExactIsConstraint", spec := "fnExactIsConstraint", apart := false }
def FnExactIsConstraintSaid : Prop := fnExactIsConstraintRow.holds Try.pinned (OpenSpec.ofChange fnExactIsConstraintSpec)

/-- ITS FALSE NEIGHBOUR: 'it returns false'. Refute it at one input. -/
def fnExactIsConstraintWrong : ChangeSpec := { name := "fnExactIsConstraint", fn := fun _ => fun
  | [d] => { results := [.lit (.bool false)], args := [d] }
  | _ => none }
def FnExactIsConstraintWrongFalsely : Prop := fnExactIsConstraintRow.holds Try.pinned (OpenSpec.ofChange fnExactIsConstraintWrong)

/- THE SECOND FORM. 'bulk': how many values and letters a reading holds, each counted each time it is reached (what is shared counts as often as it is met; a slice's spare places count too). A statement '..UptoSaid' is the law's where the arguments, and the package variables that the reading takes, are together of bulk at most 1048576: NARROWER than '..Said'. Prove '..Said' where nothing that the law and all that it calls make is longer than what came in: it says more and counts as full. Else prove '..UptoSaid'. A law counts once. -/
mutual
def uptoBulk {H : Type} : DataW H → Nat
  | .lit (.string bytes) => bytes.length + 1
  | .lit _ => 1
  | .nil => 1
  | .ptr d => uptoBulk d + 1
  | .slice elems spare => uptoBulkAll elems + uptoBulkAll spare + 1
  | .agg parts => uptoBulkAll parts + 1
  | .iface _ d => uptoBulk d + 1
  | .map entries => uptoBulkEntries entries + 1
  | .held _ => 1
def uptoBulkAll {H : Type} : List (DataW H) → Nat
  | [] => 0
  | d :: r => uptoBulk d + uptoBulkAll r
def uptoBulkEntries {H : Type} : List (Lit × DataW H) → Nat
  | [] => 0
  | x :: r => uptoBulkEntry x + uptoBulkEntries r
def uptoBulkEntry {H : Type} : Lit × DataW H → Nat
  | (.string bytes, d) => bytes.length + uptoBulk d + 1
  | (_, d) => uptoBulk d + 1
 end
def uptoSmall : (H : Type) → List (DataW H) → Bool := fun _ ds => decide (uptoBulkAll ds ≤ 1048576)
def OpenSpec.upto (s : _root_.Go.ChangeSpec) : _root_.Go.OpenSpec := { _root_.Go.OpenSpec.ofChange s with cond := some uptoSmall }

/-- 'laws.FnExactIsPlace', WHERE WHAT IT READS IS OF BULK AT MOST 1048576: true; the input reads as it did. -/
def fnExactIsPlaceUptoRow : OpenClaim := { program := "ytmjejlifohghjaa", sum := "a23c1b6fb5f229fb482fcb259b3057d6b26600f7b2c50695f9a1b18ef573f874", func := "loop.example/g01008/laws.FnExactIsPlace", spec := "fnExactIsPlace", apart := false, narrowed := true }
def FnExactIsPlaceUptoSaid : Prop := fnExactIsPlaceUptoRow.holds Try.pinned (OpenSpec.upto fnExactIsPlaceSpec)

/-- 'laws.FnExactPlaceCode', WHERE WHAT IT READS IS OF BULK AT MOST 1048576: true; the input reads as it did. -/
def fnExactPlaceCodeUptoRow : OpenClaim := { program := "ytmjejlifohghjaa", sum := "a23c1b6fb5f229fb482fcb259b3057d6b26600f7b2c50695f9a1b18ef573f874", func := "loop.example/g01008/laws.FnExactPlaceCode", spec := "fnExactPlaceCode", apart := false, narrowed := true }
def FnExactPlaceCodeUptoSaid : Prop := fnExactPlaceCodeUptoRow.holds Try.pinned (OpenSpec.upto fnExactPlaceCodeSpec)

/-- 'laws.FnExactMirrorPlace', WHERE WHAT IT READS IS OF BULK AT MOST 1048576: true; the input reads as it did. -/
def fnExactMirrorPlaceUptoRow : OpenClaim := { program := "ytmjejlifohghjaa", sum := "a23c1b6fb5f229fb482fcb259b3057d6b26600f7b2c50695f9a1b18ef573f874", func := "loop.example/g01008/laws.FnExactMirrorPlace", spec := "fnExactMirrorPlace", apart := false, narrowed := true }
def FnExactMirrorPlaceUptoSaid : Prop := fnExactMirrorPlaceUptoRow.holds Try.pinned (OpenSpec.upto fnExactMirrorPlaceSpec)

/-- 'laws.FnExactPlaceDistance', WHERE WHAT IT READS IS OF BULK AT MOST 1048576: true; the input reads as it did. -/
def fnExactPlaceDistanceUptoRow : OpenClaim := { program := "ytmjejlifohghjaa", sum := "a23c1b6fb5f229fb482fcb259b3057d6b26600f7b2c50695f9a1b18ef573f874", func := "loop.example/g01008/laws.FnExactPlaceDistance", spec := "fnExactPlaceDistance", apart := false, narrowed := true }
def FnExactPlaceDistanceUptoSaid : Prop := fnExactPlaceDistanceUptoRow.holds Try.pinned (OpenSpec.upto fnExactPlaceDistanceSpec)

/-- 'laws.FnExactPlaceOfCode', WHERE WHAT IT READS IS OF BULK AT MOST 1048576: true; the input reads as it did. -/
def fnExactPlaceOfCodeUptoRow : OpenClaim := { program := "ytmjejlifohghjaa", sum := "a23c1b6fb5f229fb482fcb259b3057d6b26600f7b2c50695f9a1b18ef573f874", func := "loop.example/g01008/laws.FnExactPlaceOfCode", spec := "fnExactPlaceOfCode", apart := false, narrowed := true }
def FnExactPlaceOfCodeUptoSaid : Prop := fnExactPlaceOfCodeUptoRow.holds Try.pinned (OpenSpec.upto fnExactPlaceOfCodeSpec)

/-- 'laws.FnExactWayOfPlaces', WHERE WHAT IT READS IS OF BULK AT MOST 1048576: true; the input reads as it did. -/
def fnExactWayOfPlacesUptoRow : OpenClaim := { program := "ytmjejlifohghjaa", sum := "a23c1b6fb5f229fb482fcb259b3057d6b26600f7b2c50695f9a1b18ef573f874", func := "loop.example/g01008/laws.FnExactWayOfPlaces", spec := "fnExactWayOfPlaces", apart := false, narrowed := true }
def FnExactWayOfPlacesUptoSaid : Prop := fnExactWayOfPlacesUptoRow.holds Try.pinned (OpenSpec.upto fnExactWayOfPlacesSpec)

/-- 'laws.FnExactPlacesWithin', WHERE WHAT IT READS IS OF BULK AT MOST 1048576: true; the input reads as it did. -/
def fnExactPlacesWithinUptoRow : OpenClaim := { program := "ytmjejlifohghjaa", sum := "a23c1b6fb5f229fb482fcb259b3057d6b26600f7b2c50695f9a1b18ef573f874", func := "loop.example/g01008/laws.FnExactPlacesWithin", spec := "fnExactPlacesWithin", apart := false, narrowed := true }
def FnExactPlacesWithinUptoSaid : Prop := fnExactPlacesWithinUptoRow.holds Try.pinned (OpenSpec.upto fnExactPlacesWithinSpec)

/-- 'laws.FnExactCommonPlace', WHERE WHAT IT READS IS OF BULK AT MOST 1048576: true; the input reads as it did. -/
def fnExactCommonPlaceUptoRow : OpenClaim := { program := "ytmjejlifohghjaa", sum := "a23c1b6fb5f229fb482fcb259b3057d6b26600f7b2c50695f9a1b18ef573f874", func := "loop.example/g01008/laws.FnExactCommonPlace", spec := "fnExactCommonPlace", unfollowed := true, recurses := true, apart := false, narrowed := true }
def FnExactCommonPlaceUptoSaid : Prop := fnExactCommonPlaceUptoRow.holds Try.pinned (OpenSpec.upto fnExactCommonPlaceSpec)

/-- 'laws.FnPlaceWays', WHERE WHAT IT READS IS OF BULK AT MOST 1048576: true; the input reads as it did. -/
def fnPlaceWaysUptoRow : OpenClaim := { program := "ytmjejlifohghjaa", sum := "a23c1b6fb5f229fb482fcb259b3057d6b26600f7b2c50695f9a1b18ef573f874", func := "loop.example/g01008/laws.FnPlaceWays", spec := "fnPlaceWays", unfollowed := true, recurses := true, apart := false, narrowed := true }
def FnPlaceWaysUptoSaid : Prop := fnPlaceWaysUptoRow.holds Try.pinned (OpenSpec.upto fnPlaceWaysSpec)

/-- 'laws.FnExactConstants', WHERE WHAT IT READS IS OF BULK AT MOST 1048576: true; the input reads as it did. -/
def fnExactConstantsUptoRow : OpenClaim := { program := "ytmjejlifohghjaa", sum := "a23c1b6fb5f229fb482fcb259b3057d6b26600f7b2c50695f9a1b18ef573f874", func := "loop.example/g01008/laws.FnExactConstants", spec := "fnExactConstants", apart := false, narrowed := true }
def FnExactConstantsUptoSaid : Prop := fnExactConstantsUptoRow.holds Try.pinned (OpenSpec.upto fnExactConstantsSpec)

/-- 'laws.FnExactIsConstraint', WHERE WHAT IT READS IS OF BULK AT MOST 1048576: true; the input reads as it did. -/
def fnExactIsConstraintUptoRow : OpenClaim := { program := "ytmjejlifohghjaa", sum := "a23c1b6fb5f229fb482fcb259b3057d6b26600f7b2c50695f9a1b18ef573f874", func := "loop.example/g01008/laws.FnExactIsConstraint", spec := "fnExactIsConstraint", apart := false, narrowed := true }
def FnExactIsConstraintUptoSaid : Prop := fnExactIsConstraintUptoRow.holds Try.pinned (OpenSpec.upto fnExactIsConstraintSpec)

end Rows
end Go.Proofs.Ytmjejlifohghjaa
