/-
  No cell of these rows narrows 'for every input' (looked for: loops, veiled, ifaces, maps, wideKeys, modest, calm, conditions, laid).
  DERIVED. THE GIVEN ROWS OF THIS SEAT. 11 by the template 'for every input the law returns true; each argument reads behind the call as it read before'; 0 by the template 'total and deterministic' (their statements: YtaecjbhenknfkaaTotals.lean).
  GIVEN WITH THE SEED: the statements are not yours to turn. If you find one false, say at which input.
  Laid BY PROGRAM, IN A SANDBOX (cutbox-rows.mjs): the forced cells as the released guide's own fill.sh prints them over the translation d115971fcf31ab96… (all of the seat's roots in one cut). By AI agents, Wed Nov 11 2026. No macro, syntax, notation, axiom, sorry.
-/
import Derived.Test.YtaecjbhenknfkaaChecked
import GoSem.Claim
import GoSem.ClaimJoined
import GoSem.ClaimMapViews
import Derived.JoinedTies
import Derived.KernelRfl
namespace Go.Proofs.Ytaecjbhenknfkaa
/- THE CELL 'sum', in the pinned program and in every row, IS THE sha256 OF THE DUMP (.gsa) THAT YtaecjbhenknfkaaProg.lean LOADS. Nothing in Lean hashes anything: it is a label: what it is worth is what the hold of that sum in a sandbox is worth. -/
noncomputable def Try.pinned : Pinned := { name := "ytaecjbhenknfkaa", sum := "d115971fcf31ab96941186cf7ad55cd733d9fb55d25e8aef8288f1f6713bf606", checked := Try.checked }
namespace Rows
def none {H : Type} : Left H := { results := [], args := [] }

/-- 'laws.FnExactIsShape': WHATEVER THE INPUT: true; the input reads as it did. -/
def fnExactIsShapeSpec : ChangeSpec := { name := "fnExactIsShape", fn := fun _ => fun
  | [d] => { results := [.lit (.bool true)], args := [d] }
  | _ => none }
def fnExactIsShapeRow : OpenClaim := { program := "ytaecjbhenknfkaa", sum := "d115971fcf31ab96941186cf7ad55cd733d9fb55d25e8aef8288f1f6713bf606", func := "loop.example/g01008/laws.FnExactIsShape", spec := "fnExactIsShape", unfollowed := true, recurses := true, apart := false }
def FnExactIsShapeSaid : Prop := fnExactIsShapeRow.holds Try.pinned (OpenSpec.ofChange fnExactIsShapeSpec)

/-- ITS FALSE NEIGHBOUR: 'it returns false'. Refute it at one input. -/
def fnExactIsShapeWrong : ChangeSpec := { name := "fnExactIsShape", fn := fun _ => fun
  | [d] => { results := [.lit (.bool false)], args := [d] }
  | _ => none }
def FnExactIsShapeWrongFalsely : Prop := fnExactIsShapeRow.holds Try.pinned (OpenSpec.ofChange fnExactIsShapeWrong)

/-- 'laws.FnExactIsEasyShape': WHATEVER THE INPUT: true; the input reads as it did. -/
def fnExactIsEasyShapeSpec : ChangeSpec := { name := "fnExactIsEasyShape", fn := fun _ => fun
  | [d] => { results := [.lit (.bool true)], args := [d] }
  | _ => none }
def fnExactIsEasyShapeRow : OpenClaim := { program := "ytaecjbhenknfkaa", sum := "d115971fcf31ab96941186cf7ad55cd733d9fb55d25e8aef8288f1f6713bf606", func := "loop.example/g01008/laws.FnExactIsEasyShape", spec := "fnExactIsEasyShape", unfollowed := true, recurses := true, apart := false }
def FnExactIsEasyShapeSaid : Prop := fnExactIsEasyShapeRow.holds Try.pinned (OpenSpec.ofChange fnExactIsEasyShapeSpec)

/-- ITS FALSE NEIGHBOUR: 'it returns false'. Refute it at one input. -/
def fnExactIsEasyShapeWrong : ChangeSpec := { name := "fnExactIsEasyShape", fn := fun _ => fun
  | [d] => { results := [.lit (.bool false)], args := [d] }
  | _ => none }
def FnExactIsEasyShapeWrongFalsely : Prop := fnExactIsEasyShapeRow.holds Try.pinned (OpenSpec.ofChange fnExactIsEasyShapeWrong)

/-- 'laws.FnExactOpenFingers': WHATEVER THE INPUT: true; the input reads as it did. -/
def fnExactOpenFingersSpec : ChangeSpec := { name := "fnExactOpenFingers", fn := fun _ => fun
  | [d] => { results := [.lit (.bool true)], args := [d] }
  | _ => none }
def fnExactOpenFingersRow : OpenClaim := { program := "ytaecjbhenknfkaa", sum := "d115971fcf31ab96941186cf7ad55cd733d9fb55d25e8aef8288f1f6713bf606", func := "loop.example/g01008/laws.FnExactOpenFingers", spec := "fnExactOpenFingers", unfollowed := true, recurses := true, apart := false }
def FnExactOpenFingersSaid : Prop := fnExactOpenFingersRow.holds Try.pinned (OpenSpec.ofChange fnExactOpenFingersSpec)

/-- ITS FALSE NEIGHBOUR: 'it returns false'. Refute it at one input. -/
def fnExactOpenFingersWrong : ChangeSpec := { name := "fnExactOpenFingers", fn := fun _ => fun
  | [d] => { results := [.lit (.bool false)], args := [d] }
  | _ => none }
def FnExactOpenFingersWrongFalsely : Prop := fnExactOpenFingersRow.holds Try.pinned (OpenSpec.ofChange fnExactOpenFingersWrong)

/-- 'laws.FnExactShapeDistance': WHATEVER THE INPUT: true; the input reads as it did. -/
def fnExactShapeDistanceSpec : ChangeSpec := { name := "fnExactShapeDistance", fn := fun _ => fun
  | [d1, d2] => { results := [.lit (.bool true)], args := [d1, d2] }
  | _ => none }
def fnExactShapeDistanceRow : OpenClaim := { program := "ytaecjbhenknfkaa", sum := "d115971fcf31ab96941186cf7ad55cd733d9fb55d25e8aef8288f1f6713bf606", func := "loop.example/g01008/laws.FnExactShapeDistance", spec := "fnExactShapeDistance", unfollowed := true, recurses := true, apart := false }
def FnExactShapeDistanceSaid : Prop := fnExactShapeDistanceRow.holds Try.pinned (OpenSpec.ofChange fnExactShapeDistanceSpec)

/-- ITS FALSE NEIGHBOUR: 'it returns false'. Refute it at one input. -/
def fnExactShapeDistanceWrong : ChangeSpec := { name := "fnExactShapeDistance", fn := fun _ => fun
  | [d1, d2] => { results := [.lit (.bool false)], args := [d1, d2] }
  | _ => none }
def FnExactShapeDistanceWrongFalsely : Prop := fnExactShapeDistanceRow.holds Try.pinned (OpenSpec.ofChange fnExactShapeDistanceWrong)

/-- 'laws.FnExactBetweenShapes': WHATEVER THE INPUT: true; the input reads as it did. -/
def fnExactBetweenShapesSpec : ChangeSpec := { name := "fnExactBetweenShapes", fn := fun _ => fun
  | [d1, d2] => { results := [.lit (.bool true)], args := [d1, d2] }
  | _ => none }
def fnExactBetweenShapesRow : OpenClaim := { program := "ytaecjbhenknfkaa", sum := "d115971fcf31ab96941186cf7ad55cd733d9fb55d25e8aef8288f1f6713bf606", func := "loop.example/g01008/laws.FnExactBetweenShapes", spec := "fnExactBetweenShapes", unfollowed := true, recurses := true, apart := false }
def FnExactBetweenShapesSaid : Prop := fnExactBetweenShapesRow.holds Try.pinned (OpenSpec.ofChange fnExactBetweenShapesSpec)

/-- ITS FALSE NEIGHBOUR: 'it returns false'. Refute it at one input. -/
def fnExactBetweenShapesWrong : ChangeSpec := { name := "fnExactBetweenShapes", fn := fun _ => fun
  | [d1, d2] => { results := [.lit (.bool false)], args := [d1, d2] }
  | _ => none }
def FnExactBetweenShapesWrongFalsely : Prop := fnExactBetweenShapesRow.holds Try.pinned (OpenSpec.ofChange fnExactBetweenShapesWrong)

/-- 'laws.FnExactOppositeShape': WHATEVER THE INPUT: true; the input reads as it did. -/
def fnExactOppositeShapeSpec : ChangeSpec := { name := "fnExactOppositeShape", fn := fun _ => fun
  | [d] => { results := [.lit (.bool true)], args := [d] }
  | _ => none }
def fnExactOppositeShapeRow : OpenClaim := { program := "ytaecjbhenknfkaa", sum := "d115971fcf31ab96941186cf7ad55cd733d9fb55d25e8aef8288f1f6713bf606", func := "loop.example/g01008/laws.FnExactOppositeShape", spec := "fnExactOppositeShape", unfollowed := true, recurses := true, apart := false }
def FnExactOppositeShapeSaid : Prop := fnExactOppositeShapeRow.holds Try.pinned (OpenSpec.ofChange fnExactOppositeShapeSpec)

/-- ITS FALSE NEIGHBOUR: 'it returns false'. Refute it at one input. -/
def fnExactOppositeShapeWrong : ChangeSpec := { name := "fnExactOppositeShape", fn := fun _ => fun
  | [d] => { results := [.lit (.bool false)], args := [d] }
  | _ => none }
def FnExactOppositeShapeWrongFalsely : Prop := fnExactOppositeShapeRow.holds Try.pinned (OpenSpec.ofChange fnExactOppositeShapeWrong)

/-- 'laws.FnExactSetFinger': WHATEVER THE INPUT: true; the input reads as it did. -/
def fnExactSetFingerSpec : ChangeSpec := { name := "fnExactSetFinger", fn := fun _ => fun
  | [d1, d2, d3] => { results := [.lit (.bool true)], args := [d1, d2, d3] }
  | _ => none }
def fnExactSetFingerRow : OpenClaim := { program := "ytaecjbhenknfkaa", sum := "d115971fcf31ab96941186cf7ad55cd733d9fb55d25e8aef8288f1f6713bf606", func := "loop.example/g01008/laws.FnExactSetFinger", spec := "fnExactSetFinger", unfollowed := true, recurses := true, apart := false }
def FnExactSetFingerSaid : Prop := fnExactSetFingerRow.holds Try.pinned (OpenSpec.ofChange fnExactSetFingerSpec)

/-- ITS FALSE NEIGHBOUR: 'it returns false'. Refute it at one input. -/
def fnExactSetFingerWrong : ChangeSpec := { name := "fnExactSetFinger", fn := fun _ => fun
  | [d1, d2, d3] => { results := [.lit (.bool false)], args := [d1, d2, d3] }
  | _ => none }
def FnExactSetFingerWrongFalsely : Prop := fnExactSetFingerRow.holds Try.pinned (OpenSpec.ofChange fnExactSetFingerWrong)

/-- 'laws.FnExactNearestShape': WHATEVER THE INPUT: true; the input reads as it did. -/
def fnExactNearestShapeSpec : ChangeSpec := { name := "fnExactNearestShape", fn := fun _ => fun
  | [d1, d2] => { results := [.lit (.bool true)], args := [d1, d2] }
  | _ => none }
def fnExactNearestShapeRow : OpenClaim := { program := "ytaecjbhenknfkaa", sum := "d115971fcf31ab96941186cf7ad55cd733d9fb55d25e8aef8288f1f6713bf606", func := "loop.example/g01008/laws.FnExactNearestShape", spec := "fnExactNearestShape", unfollowed := true, recurses := true, apart := false }
def FnExactNearestShapeSaid : Prop := fnExactNearestShapeRow.holds Try.pinned (OpenSpec.ofChange fnExactNearestShapeSpec)

/-- ITS FALSE NEIGHBOUR: 'it returns false'. Refute it at one input. -/
def fnExactNearestShapeWrong : ChangeSpec := { name := "fnExactNearestShape", fn := fun _ => fun
  | [d1, d2] => { results := [.lit (.bool false)], args := [d1, d2] }
  | _ => none }
def FnExactNearestShapeWrongFalsely : Prop := fnExactNearestShapeRow.holds Try.pinned (OpenSpec.ofChange fnExactNearestShapeWrong)

/-- 'laws.FnExactShapeWay': WHATEVER THE INPUT: true; the input reads as it did. -/
def fnExactShapeWaySpec : ChangeSpec := { name := "fnExactShapeWay", fn := fun _ => fun
  | [d1, d2] => { results := [.lit (.bool true)], args := [d1, d2] }
  | _ => none }
def fnExactShapeWayRow : OpenClaim := { program := "ytaecjbhenknfkaa", sum := "d115971fcf31ab96941186cf7ad55cd733d9fb55d25e8aef8288f1f6713bf606", func := "loop.example/g01008/laws.FnExactShapeWay", spec := "fnExactShapeWay", unfollowed := true, recurses := true, apart := false }
def FnExactShapeWaySaid : Prop := fnExactShapeWayRow.holds Try.pinned (OpenSpec.ofChange fnExactShapeWaySpec)

/-- ITS FALSE NEIGHBOUR: 'it returns false'. Refute it at one input. -/
def fnExactShapeWayWrong : ChangeSpec := { name := "fnExactShapeWay", fn := fun _ => fun
  | [d1, d2] => { results := [.lit (.bool false)], args := [d1, d2] }
  | _ => none }
def FnExactShapeWayWrongFalsely : Prop := fnExactShapeWayRow.holds Try.pinned (OpenSpec.ofChange fnExactShapeWayWrong)

/-- 'laws.FnFingers': WHATEVER THE INPUT: true; the input reads as it did. -/
def fnFingersSpec : ChangeSpec := { name := "fnFingers", fn := fun _ => fun
  | [d1, d2] => { results := [.lit (.bool true)], args := [d1, d2] }
  | _ => none }
def fnFingersRow : OpenClaim := { program := "ytaecjbhenknfkaa", sum := "d115971fcf31ab96941186cf7ad55cd733d9fb55d25e8aef8288f1f6713bf606", func := "loop.example/g01008/laws.FnFingers", spec := "fnFingers", unfollowed := true, recurses := true, apart := false }
def FnFingersSaid : Prop := fnFingersRow.holds Try.pinned (OpenSpec.ofChange fnFingersSpec)

/-- ITS FALSE NEIGHBOUR: 'it returns false'. Refute it at one input. -/
def fnFingersWrong : ChangeSpec := { name := "fnFingers", fn := fun _ => fun
  | [d1, d2] => { results := [.lit (.bool false)], args := [d1, d2] }
  | _ => none }
def FnFingersWrongFalsely : Prop := fnFingersRow.holds Try.pinned (OpenSpec.ofChange fnFingersWrong)

/-- 'laws.FnExactIsPattern': WHATEVER THE INPUT: true; the input reads as it did. -/
def fnExactIsPatternSpec : ChangeSpec := { name := "fnExactIsPattern", fn := fun _ => fun
  | [d] => { results := [.lit (.bool true)], args := [d] }
  | _ => none }
def fnExactIsPatternRow : OpenClaim := { program := "ytaecjbhenknfkaa", sum := "d115971fcf31ab96941186cf7ad55cd733d9fb55d25e8aef8288f1f6713bf606", func := "loop.example/g01008/laws.FnExactIsPattern", spec := "fnExactIsPattern", inPlace := ["internal/bytealg.IndexByteString"], apart := false }
def FnExactIsPatternSaid : Prop := fnExactIsPatternRow.holds Try.pinned (OpenSpec.ofChange fnExactIsPatternSpec)

/-- ITS FALSE NEIGHBOUR: 'it returns false'. Refute it at one input. -/
def fnExactIsPatternWrong : ChangeSpec := { name := "fnExactIsPattern", fn := fun _ => fun
  | [d] => { results := [.lit (.bool false)], args := [d] }
  | _ => none }
def FnExactIsPatternWrongFalsely : Prop := fnExactIsPatternRow.holds Try.pinned (OpenSpec.ofChange fnExactIsPatternWrong)

/- THE SECOND FORM. 'bulk': how many values and letters a reading holds, each counted each time it is reached (what is shared counts as often as it is met; a slice's spare places count too). A statement '..UptoSaid' is the law's where the arguments, and the package variables that the reading takes, are together of bulk at most 1048576: NARROWER than '..Said'. Prove '..Said' where nothing that the law and all that it calls make is longer than what came in: it says more and counts as full. Else prove '..UptoSaid'. A law counts once. -/
mutual
def uptoBulk {H : Type} : DataW H → Nat
  | .lit (.string bytes) => bytes.length + 1
  | .lit _ => 1
  | .nil => 1
  | .ptr d => uptoBulk d + 1
  | .slice elems spare => uptoBulkAll elems + uptoBulkAll spare + 1
  | .agg parts => uptoBulkAll parts + 1
  | .iface _ d => uptoBulk d + 1
  | .map entries => uptoBulkEntries entries + 1
  | .held _ => 1
def uptoBulkAll {H : Type} : List (DataW H) → Nat
  | [] => 0
  | d :: r => uptoBulk d + uptoBulkAll r
def uptoBulkEntries {H : Type} : List (Lit × DataW H) → Nat
  | [] => 0
  | x :: r => uptoBulkEntry x + uptoBulkEntries r
def uptoBulkEntry {H : Type} : Lit × DataW H → Nat
  | (.string bytes, d) => bytes.length + uptoBulk d + 1
  | (_, d) => uptoBulk d + 1
 end
def uptoSmall : (H : Type) → List (DataW H) → Bool := fun _ ds => decide (uptoBulkAll ds ≤ 1048576)
def OpenSpec.upto (s : _root_.Go.ChangeSpec) : _root_.Go.OpenSpec := { _root_.Go.OpenSpec.ofChange s with cond := some uptoSmall }

/-- 'laws.FnExactIsShape', WHERE WHAT IT READS IS OF BULK AT MOST 1048576: true; the input reads as it did. -/
def fnExactIsShapeUptoRow : OpenClaim := { program := "ytaecjbhenknfkaa", sum := "d115971fcf31ab96941186cf7ad55cd733d9fb55d25e8aef8288f1f6713bf606", func := "loop.example/g01008/laws.FnExactIsShape", spec := "fnExactIsShape", unfollowed := true, recurses := true, apart := false, narrowed := true }
def FnExactIsShapeUptoSaid : Prop := fnExactIsShapeUptoRow.holds Try.pinned (OpenSpec.upto fnExactIsShapeSpec)

/-- 'laws.FnExactIsEasyShape', WHERE WHAT IT READS IS OF BULK AT MOST 1048576: true; the input reads as it did. -/
def fnExactIsEasyShapeUptoRow : OpenClaim := { program := "ytaecjbhenknfkaa", sum := "d115971fcf31ab96941186cf7ad55cd733d9fb55d25e8aef8288f1f6713bf606", func := "loop.example/g01008/laws.FnExactIsEasyShape", spec := "fnExactIsEasyShape", unfollowed := true, recurses := true, apart := false, narrowed := true }
def FnExactIsEasyShapeUptoSaid : Prop := fnExactIsEasyShapeUptoRow.holds Try.pinned (OpenSpec.upto fnExactIsEasyShapeSpec)

/-- 'laws.FnExactOpenFingers', WHERE WHAT IT READS IS OF BULK AT MOST 1048576: true; the input reads as it did. -/
def fnExactOpenFingersUptoRow : OpenClaim := { program := "ytaecjbhenknfkaa", sum := "d115971fcf31ab96941186cf7ad55cd733d9fb55d25e8aef8288f1f6713bf606", func := "loop.example/g01008/laws.FnExactOpenFingers", spec := "fnExactOpenFingers", unfollowed := true, recurses := true, apart := false, narrowed := true }
def FnExactOpenFingersUptoSaid : Prop := fnExactOpenFingersUptoRow.holds Try.pinned (OpenSpec.upto fnExactOpenFingersSpec)

/-- 'laws.FnExactShapeDistance', WHERE WHAT IT READS IS OF BULK AT MOST 1048576: true; the input reads as it did. -/
def fnExactShapeDistanceUptoRow : OpenClaim := { program := "ytaecjbhenknfkaa", sum := "d115971fcf31ab96941186cf7ad55cd733d9fb55d25e8aef8288f1f6713bf606", func := "loop.example/g01008/laws.FnExactShapeDistance", spec := "fnExactShapeDistance", unfollowed := true, recurses := true, apart := false, narrowed := true }
def FnExactShapeDistanceUptoSaid : Prop := fnExactShapeDistanceUptoRow.holds Try.pinned (OpenSpec.upto fnExactShapeDistanceSpec)

/-- 'laws.FnExactBetweenShapes', WHERE WHAT IT READS IS OF BULK AT MOST 1048576: true; the input reads as it did. -/
def fnExactBetweenShapesUptoRow : OpenClaim := { program := "ytaecjbhenknfkaa", sum := "d115971fcf31ab96941186cf7ad55cd733d9fb55d25e8aef8288f1f6713bf606", func := "loop.example/g01008/laws.FnExactBetweenShapes", spec := "fnExactBetweenShapes", unfollowed := true, recurses := true, apart := false, narrowed := true }
def FnExactBetweenShapesUptoSaid : Prop := fnExactBetweenShapesUptoRow.holds Try.pinned (OpenSpec.upto fnExactBetweenShapesSpec)

/-- 'laws.FnExactOppositeShape', WHERE WHAT IT READS IS OF BULK AT MOST 1048576: true; the input reads as it did. -/
def fnExactOppositeShapeUptoRow : OpenClaim := { program := "ytaecjbhenknfkaa", sum := "d115971fcf31ab96941186cf7ad55cd733d9fb55d25e8aef8288f1f6713bf606", func := "loop.example/g01008/laws.FnExactOppositeShape", spec := "fnExactOppositeShape", unfollowed := true, recurses := true, apart := false, narrowed := true }
def FnExactOppositeShapeUptoSaid : Prop := fnExactOppositeShapeUptoRow.holds Try.pinned (OpenSpec.upto fnExactOppositeShapeSpec)

/-- 'laws.FnExactSetFinger', WHERE WHAT IT READS IS OF BULK AT MOST 1048576: true; the input reads as it did. -/
def fnExactSetFingerUptoRow : OpenClaim := { program := "ytaecjbhenknfkaa", sum := "d115971fcf31ab96941186cf7ad55cd733d9fb55d25e8aef8288f1f6713bf606", func := "loop.example/g01008/laws.FnExactSetFinger", spec := "fnExactSetFinger", unfollowed := true, recurses := true, apart := false, narrowed := true }
def FnExactSetFingerUptoSaid : Prop := fnExactSetFingerUptoRow.holds Try.pinned (OpenSpec.upto fnExactSetFingerSpec)

/-- 'laws.FnExactNearestShape', WHERE WHAT IT READS IS OF BULK AT MOST 1048576: true; the input reads as it did. -/
def fnExactNearestShapeUptoRow : OpenClaim := { program := "ytaecjbhenknfkaa", sum := "d115971fcf31ab96941186cf7ad55cd733d9fb55d25e8aef8288f1f6713bf606", func := "loop.example/g01008/laws.FnExactNearestShape", spec := "fnExactNearestShape", unfollowed := true, recurses := true, apart := false, narrowed := true }
def FnExactNearestShapeUptoSaid : Prop := fnExactNearestShapeUptoRow.holds Try.pinned (OpenSpec.upto fnExactNearestShapeSpec)

/-- 'laws.FnExactShapeWay', WHERE WHAT IT READS IS OF BULK AT MOST 1048576: true; the input reads as it did. -/
def fnExactShapeWayUptoRow : OpenClaim := { program := "ytaecjbhenknfkaa", sum := "d115971fcf31ab96941186cf7ad55cd733d9fb55d25e8aef8288f1f6713bf606", func := "loop.example/g01008/laws.FnExactShapeWay", spec := "fnExactShapeWay", unfollowed := true, recurses := true, apart := false, narrowed := true }
def FnExactShapeWayUptoSaid : Prop := fnExactShapeWayUptoRow.holds Try.pinned (OpenSpec.upto fnExactShapeWaySpec)

/-- 'laws.FnFingers', WHERE WHAT IT READS IS OF BULK AT MOST 1048576: true; the input reads as it did. -/
def fnFingersUptoRow : OpenClaim := { program := "ytaecjbhenknfkaa", sum := "d115971fcf31ab96941186cf7ad55cd733d9fb55d25e8aef8288f1f6713bf606", func := "loop.example/g01008/laws.FnFingers", spec := "fnFingers", unfollowed := true, recurses := true, apart := false, narrowed := true }
def FnFingersUptoSaid : Prop := fnFingersUptoRow.holds Try.pinned (OpenSpec.upto fnFingersSpec)

/-- 'laws.FnExactIsPattern', WHERE WHAT IT READS IS OF BULK AT MOST 1048576: true; the input reads as it did. -/
def fnExactIsPatternUptoRow : OpenClaim := { program := "ytaecjbhenknfkaa", sum := "d115971fcf31ab96941186cf7ad55cd733d9fb55d25e8aef8288f1f6713bf606", func := "loop.example/g01008/laws.FnExactIsPattern", spec := "fnExactIsPattern", inPlace := ["internal/bytealg.IndexByteString"], apart := false, narrowed := true }
def FnExactIsPatternUptoSaid : Prop := fnExactIsPatternUptoRow.holds Try.pinned (OpenSpec.upto fnExactIsPatternSpec)

end Rows
end Go.Proofs.Ytaecjbhenknfkaa
