/-
  No cell of these rows narrows 'for every input' (looked for: loops, veiled, ifaces, maps, wideKeys, modest, calm, conditions, laid).
  DERIVED. THE GIVEN ROWS OF THIS SEAT. 12 by the template 'for every input the law returns true; each argument reads behind the call as it read before'; 0 by the template 'total and deterministic' (their statements: YtafpehjedkplpaaTotals.lean).
  GIVEN WITH THE SEED: the statements are not yours to turn. If you find one false, say at which input.
  Laid BY PROGRAM, IN A SANDBOX (cutbox-rows.mjs): the forced cells as the released guide's own fill.sh prints them over the translation e86aae653dea2991… (all of the seat's roots in one cut). By AI agents, Wed Nov 11 2026. No macro, syntax, notation, axiom, sorry.
-/
import Derived.Test.YtafpehjedkplpaaChecked
import GoSem.Claim
import GoSem.ClaimJoined
import GoSem.ClaimMapViews
import Derived.JoinedTies
import Derived.KernelRfl
namespace Go.Proofs.Ytafpehjedkplpaa
/- THE CELL 'sum', in the pinned program and in every row, IS THE sha256 OF THE DUMP (.gsa) THAT YtafpehjedkplpaaProg.lean LOADS. Nothing in Lean hashes anything: it is a label: what it is worth is what the hold of that sum in a sandbox is worth. -/
noncomputable def Try.pinned : Pinned := { name := "ytafpehjedkplpaa", sum := "e86aae653dea299100e6160333dc69bbe79c567974e846c1dadee1fab6b8b108", checked := Try.checked }
namespace Rows
def none {H : Type} : Left H := { results := [], args := [] }

/-- 'laws.FnExactOppositeDir': WHATEVER THE INPUT: true; the input reads as it did. -/
def fnExactOppositeDirSpec : ChangeSpec := { name := "fnExactOppositeDir", fn := fun _ => fun
  | [d] => { results := [.lit (.bool true)], args := [d] }
  | _ => none }
def fnExactOppositeDirRow : OpenClaim := { program := "ytafpehjedkplpaa", sum := "e86aae653dea299100e6160333dc69bbe79c567974e846c1dadee1fab6b8b108", func := "loop.example/g01008/laws.FnExactOppositeDir", spec := "fnExactOppositeDir", apart := false }
def FnExactOppositeDirSaid : Prop := fnExactOppositeDirRow.holds Try.pinned (OpenSpec.ofChange fnExactOppositeDirSpec)

/-- ITS FALSE NEIGHBOUR: 'it returns false'. Refute it at one input. -/
def fnExactOppositeDirWrong : ChangeSpec := { name := "fnExactOppositeDir", fn := fun _ => fun
  | [d] => { results := [.lit (.bool false)], args := [d] }
  | _ => none }
def FnExactOppositeDirWrongFalsely : Prop := fnExactOppositeDirRow.holds Try.pinned (OpenSpec.ofChange fnExactOppositeDirWrong)

/-- 'laws.FnExactIsOrient': WHATEVER THE INPUT: true; the input reads as it did. -/
def fnExactIsOrientSpec : ChangeSpec := { name := "fnExactIsOrient", fn := fun _ => fun
  | [d] => { results := [.lit (.bool true)], args := [d] }
  | _ => none }
def fnExactIsOrientRow : OpenClaim := { program := "ytafpehjedkplpaa", sum := "e86aae653dea299100e6160333dc69bbe79c567974e846c1dadee1fab6b8b108", func := "loop.example/g01008/laws.FnExactIsOrient", spec := "fnExactIsOrient", apart := false }
def FnExactIsOrientSaid : Prop := fnExactIsOrientRow.holds Try.pinned (OpenSpec.ofChange fnExactIsOrientSpec)

/-- ITS FALSE NEIGHBOUR: 'it returns false'. Refute it at one input. -/
def fnExactIsOrientWrong : ChangeSpec := { name := "fnExactIsOrient", fn := fun _ => fun
  | [d] => { results := [.lit (.bool false)], args := [d] }
  | _ => none }
def FnExactIsOrientWrongFalsely : Prop := fnExactIsOrientRow.holds Try.pinned (OpenSpec.ofChange fnExactIsOrientWrong)

/-- 'laws.FnExactPalmsMeet': WHATEVER THE INPUT: true; the input reads as it did. -/
def fnExactPalmsMeetSpec : ChangeSpec := { name := "fnExactPalmsMeet", fn := fun _ => fun
  | [d1, d2] => { results := [.lit (.bool true)], args := [d1, d2] }
  | _ => none }
def fnExactPalmsMeetRow : OpenClaim := { program := "ytafpehjedkplpaa", sum := "e86aae653dea299100e6160333dc69bbe79c567974e846c1dadee1fab6b8b108", func := "loop.example/g01008/laws.FnExactPalmsMeet", spec := "fnExactPalmsMeet", apart := false }
def FnExactPalmsMeetSaid : Prop := fnExactPalmsMeetRow.holds Try.pinned (OpenSpec.ofChange fnExactPalmsMeetSpec)

/-- ITS FALSE NEIGHBOUR: 'it returns false'. Refute it at one input. -/
def fnExactPalmsMeetWrong : ChangeSpec := { name := "fnExactPalmsMeet", fn := fun _ => fun
  | [d1, d2] => { results := [.lit (.bool false)], args := [d1, d2] }
  | _ => none }
def FnExactPalmsMeetWrongFalsely : Prop := fnExactPalmsMeetRow.holds Try.pinned (OpenSpec.ofChange fnExactPalmsMeetWrong)

/-- 'laws.FnExactSeenOrient': WHATEVER THE INPUT: true; the input reads as it did. -/
def fnExactSeenOrientSpec : ChangeSpec := { name := "fnExactSeenOrient", fn := fun _ => fun
  | [d] => { results := [.lit (.bool true)], args := [d] }
  | _ => none }
def fnExactSeenOrientRow : OpenClaim := { program := "ytafpehjedkplpaa", sum := "e86aae653dea299100e6160333dc69bbe79c567974e846c1dadee1fab6b8b108", func := "loop.example/g01008/laws.FnExactSeenOrient", spec := "fnExactSeenOrient", unfollowed := true, recurses := true, apart := false }
def FnExactSeenOrientSaid : Prop := fnExactSeenOrientRow.holds Try.pinned (OpenSpec.ofChange fnExactSeenOrientSpec)

/-- ITS FALSE NEIGHBOUR: 'it returns false'. Refute it at one input. -/
def fnExactSeenOrientWrong : ChangeSpec := { name := "fnExactSeenOrient", fn := fun _ => fun
  | [d] => { results := [.lit (.bool false)], args := [d] }
  | _ => none }
def FnExactSeenOrientWrongFalsely : Prop := fnExactSeenOrientRow.holds Try.pinned (OpenSpec.ofChange fnExactSeenOrientWrong)

/-- 'laws.FnExactParseOrient': WHATEVER THE INPUT: true; the input reads as it did. -/
def fnExactParseOrientSpec : ChangeSpec := { name := "fnExactParseOrient", fn := fun _ => fun
  | [d] => { results := [.lit (.bool true)], args := [d] }
  | _ => none }
def fnExactParseOrientRow : OpenClaim := { program := "ytafpehjedkplpaa", sum := "e86aae653dea299100e6160333dc69bbe79c567974e846c1dadee1fab6b8b108", func := "loop.example/g01008/laws.FnExactParseOrient", spec := "fnExactParseOrient", inPlace := ["internal/bytealg.IndexByteString"], apart := false }
def FnExactParseOrientSaid : Prop := fnExactParseOrientRow.holds Try.pinned (OpenSpec.ofChange fnExactParseOrientSpec)

/-- ITS FALSE NEIGHBOUR: 'it returns false'. Refute it at one input. -/
def fnExactParseOrientWrong : ChangeSpec := { name := "fnExactParseOrient", fn := fun _ => fun
  | [d] => { results := [.lit (.bool false)], args := [d] }
  | _ => none }
def FnExactParseOrientWrongFalsely : Prop := fnExactParseOrientRow.holds Try.pinned (OpenSpec.ofChange fnExactParseOrientWrong)

/-- 'laws.FnExactMirrorOrient': WHATEVER THE INPUT: true; the input reads as it did. -/
def fnExactMirrorOrientSpec : ChangeSpec := { name := "fnExactMirrorOrient", fn := fun _ => fun
  | [d] => { results := [.lit (.bool true)], args := [d] }
  | _ => none }
def fnExactMirrorOrientRow : OpenClaim := { program := "ytafpehjedkplpaa", sum := "e86aae653dea299100e6160333dc69bbe79c567974e846c1dadee1fab6b8b108", func := "loop.example/g01008/laws.FnExactMirrorOrient", spec := "fnExactMirrorOrient", unfollowed := true, recurses := true, apart := false }
def FnExactMirrorOrientSaid : Prop := fnExactMirrorOrientRow.holds Try.pinned (OpenSpec.ofChange fnExactMirrorOrientSpec)

/-- ITS FALSE NEIGHBOUR: 'it returns false'. Refute it at one input. -/
def fnExactMirrorOrientWrong : ChangeSpec := { name := "fnExactMirrorOrient", fn := fun _ => fun
  | [d] => { results := [.lit (.bool false)], args := [d] }
  | _ => none }
def FnExactMirrorOrientWrongFalsely : Prop := fnExactMirrorOrientRow.holds Try.pinned (OpenSpec.ofChange fnExactMirrorOrientWrong)

/-- 'laws.FnExactAllOrients': WHATEVER THE INPUT: true; the input reads as it did. -/
def fnExactAllOrientsSpec : ChangeSpec := { name := "fnExactAllOrients", fn := fun _ => fun
  | [] => { results := [.lit (.bool true)], args := [] }
  | _ => none }
def fnExactAllOrientsRow : OpenClaim := { program := "ytafpehjedkplpaa", sum := "e86aae653dea299100e6160333dc69bbe79c567974e846c1dadee1fab6b8b108", func := "loop.example/g01008/laws.FnExactAllOrients", spec := "fnExactAllOrients", apart := false }
def FnExactAllOrientsSaid : Prop := fnExactAllOrientsRow.holds Try.pinned (OpenSpec.ofChange fnExactAllOrientsSpec)

/-- ITS FALSE NEIGHBOUR: 'it returns false'. Refute it at one input. -/
def fnExactAllOrientsWrong : ChangeSpec := { name := "fnExactAllOrients", fn := fun _ => fun
  | [] => { results := [.lit (.bool false)], args := [] }
  | _ => none }
def FnExactAllOrientsWrongFalsely : Prop := fnExactAllOrientsRow.holds Try.pinned (OpenSpec.ofChange fnExactAllOrientsWrong)

/-- 'laws.FnExactThirdDir': WHATEVER THE INPUT: true; the input reads as it did. -/
def fnExactThirdDirSpec : ChangeSpec := { name := "fnExactThirdDir", fn := fun _ => fun
  | [d] => { results := [.lit (.bool true)], args := [d] }
  | _ => none }
def fnExactThirdDirRow : OpenClaim := { program := "ytafpehjedkplpaa", sum := "e86aae653dea299100e6160333dc69bbe79c567974e846c1dadee1fab6b8b108", func := "loop.example/g01008/laws.FnExactThirdDir", spec := "fnExactThirdDir", recurses := true, apart := false }
def FnExactThirdDirSaid : Prop := fnExactThirdDirRow.holds Try.pinned (OpenSpec.ofChange fnExactThirdDirSpec)

/-- ITS FALSE NEIGHBOUR: 'it returns false'. Refute it at one input. -/
def fnExactThirdDirWrong : ChangeSpec := { name := "fnExactThirdDir", fn := fun _ => fun
  | [d] => { results := [.lit (.bool false)], args := [d] }
  | _ => none }
def FnExactThirdDirWrongFalsely : Prop := fnExactThirdDirRow.holds Try.pinned (OpenSpec.ofChange fnExactThirdDirWrong)

/-- 'laws.FnExactTurnHand': WHATEVER THE INPUT: true; the input reads as it did. -/
def fnExactTurnHandSpec : ChangeSpec := { name := "fnExactTurnHand", fn := fun _ => fun
  | [d1, d2, d3] => { results := [.lit (.bool true)], args := [d1, d2, d3] }
  | _ => none }
def fnExactTurnHandRow : OpenClaim := { program := "ytafpehjedkplpaa", sum := "e86aae653dea299100e6160333dc69bbe79c567974e846c1dadee1fab6b8b108", func := "loop.example/g01008/laws.FnExactTurnHand", spec := "fnExactTurnHand", recurses := true, apart := false }
def FnExactTurnHandSaid : Prop := fnExactTurnHandRow.holds Try.pinned (OpenSpec.ofChange fnExactTurnHandSpec)

/-- ITS FALSE NEIGHBOUR: 'it returns false'. Refute it at one input. -/
def fnExactTurnHandWrong : ChangeSpec := { name := "fnExactTurnHand", fn := fun _ => fun
  | [d1, d2, d3] => { results := [.lit (.bool false)], args := [d1, d2, d3] }
  | _ => none }
def FnExactTurnHandWrongFalsely : Prop := fnExactTurnHandRow.holds Try.pinned (OpenSpec.ofChange fnExactTurnHandWrong)

/-- 'laws.FnExactLeastTurns': WHATEVER THE INPUT: true; the input reads as it did. -/
def fnExactLeastTurnsSpec : ChangeSpec := { name := "fnExactLeastTurns", fn := fun _ => fun
  | [d1, d2] => { results := [.lit (.bool true)], args := [d1, d2] }
  | _ => none }
def fnExactLeastTurnsRow : OpenClaim := { program := "ytafpehjedkplpaa", sum := "e86aae653dea299100e6160333dc69bbe79c567974e846c1dadee1fab6b8b108", func := "loop.example/g01008/laws.FnExactLeastTurns", spec := "fnExactLeastTurns", recurses := true, apart := false }
def FnExactLeastTurnsSaid : Prop := fnExactLeastTurnsRow.holds Try.pinned (OpenSpec.ofChange fnExactLeastTurnsSpec)

/-- ITS FALSE NEIGHBOUR: 'it returns false'. Refute it at one input. -/
def fnExactLeastTurnsWrong : ChangeSpec := { name := "fnExactLeastTurns", fn := fun _ => fun
  | [d1, d2] => { results := [.lit (.bool false)], args := [d1, d2] }
  | _ => none }
def FnExactLeastTurnsWrongFalsely : Prop := fnExactLeastTurnsRow.holds Try.pinned (OpenSpec.ofChange fnExactLeastTurnsWrong)

/-- 'laws.FnExactTurnWay': WHATEVER THE INPUT: true; the input reads as it did. -/
def fnExactTurnWaySpec : ChangeSpec := { name := "fnExactTurnWay", fn := fun _ => fun
  | [d1, d2] => { results := [.lit (.bool true)], args := [d1, d2] }
  | _ => none }
def fnExactTurnWayRow : OpenClaim := { program := "ytafpehjedkplpaa", sum := "e86aae653dea299100e6160333dc69bbe79c567974e846c1dadee1fab6b8b108", func := "loop.example/g01008/laws.FnExactTurnWay", spec := "fnExactTurnWay", recurses := true, apart := false }
def FnExactTurnWaySaid : Prop := fnExactTurnWayRow.holds Try.pinned (OpenSpec.ofChange fnExactTurnWaySpec)

/-- ITS FALSE NEIGHBOUR: 'it returns false'. Refute it at one input. -/
def fnExactTurnWayWrong : ChangeSpec := { name := "fnExactTurnWay", fn := fun _ => fun
  | [d1, d2] => { results := [.lit (.bool false)], args := [d1, d2] }
  | _ => none }
def FnExactTurnWayWrongFalsely : Prop := fnExactTurnWayRow.holds Try.pinned (OpenSpec.ofChange fnExactTurnWayWrong)

/-- 'laws.FnTurns': WHATEVER THE INPUT: true; the input reads as it did. -/
def fnTurnsSpec : ChangeSpec := { name := "fnTurns", fn := fun _ => fun
  | [d1, d2] => { results := [.lit (.bool true)], args := [d1, d2] }
  | _ => none }
def fnTurnsRow : OpenClaim := { program := "ytafpehjedkplpaa", sum := "e86aae653dea299100e6160333dc69bbe79c567974e846c1dadee1fab6b8b108", func := "loop.example/g01008/laws.FnTurns", spec := "fnTurns", recurses := true, apart := false }
def FnTurnsSaid : Prop := fnTurnsRow.holds Try.pinned (OpenSpec.ofChange fnTurnsSpec)

/-- ITS FALSE NEIGHBOUR: 'it returns false'. Refute it at one input. -/
def fnTurnsWrong : ChangeSpec := { name := "fnTurns", fn := fun _ => fun
  | [d1, d2] => { results := [.lit (.bool false)], args := [d1, d2] }
  | _ => none }
def FnTurnsWrongFalsely : Prop := fnTurnsRow.holds Try.pinned (OpenSpec.ofChange fnTurnsWrong)

/- THE SECOND FORM. 'bulk': how many values and letters a reading holds, each counted each time it is reached (what is shared counts as often as it is met; a slice's spare places count too). A statement '..UptoSaid' is the law's where the arguments, and the package variables that the reading takes, are together of bulk at most 1048576: NARROWER than '..Said'. Prove '..Said' where nothing that the law and all that it calls make is longer than what came in: it says more and counts as full. Else prove '..UptoSaid'. A law counts once. -/
mutual
def uptoBulk {H : Type} : DataW H → Nat
  | .lit (.string bytes) => bytes.length + 1
  | .lit _ => 1
  | .nil => 1
  | .ptr d => uptoBulk d + 1
  | .slice elems spare => uptoBulkAll elems + uptoBulkAll spare + 1
  | .agg parts => uptoBulkAll parts + 1
  | .iface _ d => uptoBulk d + 1
  | .map entries => uptoBulkEntries entries + 1
  | .held _ => 1
def uptoBulkAll {H : Type} : List (DataW H) → Nat
  | [] => 0
  | d :: r => uptoBulk d + uptoBulkAll r
def uptoBulkEntries {H : Type} : List (Lit × DataW H) → Nat
  | [] => 0
  | x :: r => uptoBulkEntry x + uptoBulkEntries r
def uptoBulkEntry {H : Type} : Lit × DataW H → Nat
  | (.string bytes, d) => bytes.length + uptoBulk d + 1
  | (_, d) => uptoBulk d + 1
 end
def uptoSmall : (H : Type) → List (DataW H) → Bool := fun _ ds => decide (uptoBulkAll ds ≤ 1048576)
def OpenSpec.upto (s : _root_.Go.ChangeSpec) : _root_.Go.OpenSpec := { _root_.Go.OpenSpec.ofChange s with cond := some uptoSmall }

/-- 'laws.FnExactOppositeDir', WHERE WHAT IT READS IS OF BULK AT MOST 1048576: true; the input reads as it did. -/
def fnExactOppositeDirUptoRow : OpenClaim := { program := "ytafpehjedkplpaa", sum := "e86aae653dea299100e6160333dc69bbe79c567974e846c1dadee1fab6b8b108", func := "loop.example/g01008/laws.FnExactOppositeDir", spec := "fnExactOppositeDir", apart := false, narrowed := true }
def FnExactOppositeDirUptoSaid : Prop := fnExactOppositeDirUptoRow.holds Try.pinned (OpenSpec.upto fnExactOppositeDirSpec)

/-- 'laws.FnExactIsOrient', WHERE WHAT IT READS IS OF BULK AT MOST 1048576: true; the input reads as it did. -/
def fnExactIsOrientUptoRow : OpenClaim := { program := "ytafpehjedkplpaa", sum := "e86aae653dea299100e6160333dc69bbe79c567974e846c1dadee1fab6b8b108", func := "loop.example/g01008/laws.FnExactIsOrient", spec := "fnExactIsOrient", apart := false, narrowed := true }
def FnExactIsOrientUptoSaid : Prop := fnExactIsOrientUptoRow.holds Try.pinned (OpenSpec.upto fnExactIsOrientSpec)

/-- 'laws.FnExactPalmsMeet', WHERE WHAT IT READS IS OF BULK AT MOST 1048576: true; the input reads as it did. -/
def fnExactPalmsMeetUptoRow : OpenClaim := { program := "ytafpehjedkplpaa", sum := "e86aae653dea299100e6160333dc69bbe79c567974e846c1dadee1fab6b8b108", func := "loop.example/g01008/laws.FnExactPalmsMeet", spec := "fnExactPalmsMeet", apart := false, narrowed := true }
def FnExactPalmsMeetUptoSaid : Prop := fnExactPalmsMeetUptoRow.holds Try.pinned (OpenSpec.upto fnExactPalmsMeetSpec)

/-- 'laws.FnExactSeenOrient', WHERE WHAT IT READS IS OF BULK AT MOST 1048576: true; the input reads as it did. -/
def fnExactSeenOrientUptoRow : OpenClaim := { program := "ytafpehjedkplpaa", sum := "e86aae653dea299100e6160333dc69bbe79c567974e846c1dadee1fab6b8b108", func := "loop.example/g01008/laws.FnExactSeenOrient", spec := "fnExactSeenOrient", unfollowed := true, recurses := true, apart := false, narrowed := true }
def FnExactSeenOrientUptoSaid : Prop := fnExactSeenOrientUptoRow.holds Try.pinned (OpenSpec.upto fnExactSeenOrientSpec)

/-- 'laws.FnExactParseOrient', WHERE WHAT IT READS IS OF BULK AT MOST 1048576: true; the input reads as it did. -/
def fnExactParseOrientUptoRow : OpenClaim := { program := "ytafpehjedkplpaa", sum := "e86aae653dea299100e6160333dc69bbe79c567974e846c1dadee1fab6b8b108", func := "loop.example/g01008/laws.FnExactParseOrient", spec := "fnExactParseOrient", inPlace := ["internal/bytealg.IndexByteString"], apart := false, narrowed := true }
def FnExactParseOrientUptoSaid : Prop := fnExactParseOrientUptoRow.holds Try.pinned (OpenSpec.upto fnExactParseOrientSpec)

/-- 'laws.FnExactMirrorOrient', WHERE WHAT IT READS IS OF BULK AT MOST 1048576: true; the input reads as it did. -/
def fnExactMirrorOrientUptoRow : OpenClaim := { program := "ytafpehjedkplpaa", sum := "e86aae653dea299100e6160333dc69bbe79c567974e846c1dadee1fab6b8b108", func := "loop.example/g01008/laws.FnExactMirrorOrient", spec := "fnExactMirrorOrient", unfollowed := true, recurses := true, apart := false, narrowed := true }
def FnExactMirrorOrientUptoSaid : Prop := fnExactMirrorOrientUptoRow.holds Try.pinned (OpenSpec.upto fnExactMirrorOrientSpec)

/-- 'laws.FnExactAllOrients', WHERE WHAT IT READS IS OF BULK AT MOST 1048576: true; the input reads as it did. -/
def fnExactAllOrientsUptoRow : OpenClaim := { program := "ytafpehjedkplpaa", sum := "e86aae653dea299100e6160333dc69bbe79c567974e846c1dadee1fab6b8b108", func := "loop.example/g01008/laws.FnExactAllOrients", spec := "fnExactAllOrients", apart := false, narrowed := true }
def FnExactAllOrientsUptoSaid : Prop := fnExactAllOrientsUptoRow.holds Try.pinned (OpenSpec.upto fnExactAllOrientsSpec)

/-- 'laws.FnExactThirdDir', WHERE WHAT IT READS IS OF BULK AT MOST 1048576: true; the input reads as it did. -/
def fnExactThirdDirUptoRow : OpenClaim := { program := "ytafpehjedkplpaa", sum := "e86aae653dea299100e6160333dc69bbe79c567974e846c1dadee1fab6b8b108", func := "loop.example/g01008/laws.FnExactThirdDir", spec := "fnExactThirdDir", recurses := true, apart := false, narrowed := true }
def FnExactThirdDirUptoSaid : Prop := fnExactThirdDirUptoRow.holds Try.pinned (OpenSpec.upto fnExactThirdDirSpec)

/-- 'laws.FnExactTurnHand', WHERE WHAT IT READS IS OF BULK AT MOST 1048576: true; the input reads as it did. -/
def fnExactTurnHandUptoRow : OpenClaim := { program := "ytafpehjedkplpaa", sum := "e86aae653dea299100e6160333dc69bbe79c567974e846c1dadee1fab6b8b108", func := "loop.example/g01008/laws.FnExactTurnHand", spec := "fnExactTurnHand", recurses := true, apart := false, narrowed := true }
def FnExactTurnHandUptoSaid : Prop := fnExactTurnHandUptoRow.holds Try.pinned (OpenSpec.upto fnExactTurnHandSpec)

/-- 'laws.FnExactLeastTurns', WHERE WHAT IT READS IS OF BULK AT MOST 1048576: true; the input reads as it did. -/
def fnExactLeastTurnsUptoRow : OpenClaim := { program := "ytafpehjedkplpaa", sum := "e86aae653dea299100e6160333dc69bbe79c567974e846c1dadee1fab6b8b108", func := "loop.example/g01008/laws.FnExactLeastTurns", spec := "fnExactLeastTurns", recurses := true, apart := false, narrowed := true }
def FnExactLeastTurnsUptoSaid : Prop := fnExactLeastTurnsUptoRow.holds Try.pinned (OpenSpec.upto fnExactLeastTurnsSpec)

/-- 'laws.FnExactTurnWay', WHERE WHAT IT READS IS OF BULK AT MOST 1048576: true; the input reads as it did. -/
def fnExactTurnWayUptoRow : OpenClaim := { program := "ytafpehjedkplpaa", sum := "e86aae653dea299100e6160333dc69bbe79c567974e846c1dadee1fab6b8b108", func := "loop.example/g01008/laws.FnExactTurnWay", spec := "fnExactTurnWay", recurses := true, apart := false, narrowed := true }
def FnExactTurnWayUptoSaid : Prop := fnExactTurnWayUptoRow.holds Try.pinned (OpenSpec.upto fnExactTurnWaySpec)

/-- 'laws.FnTurns', WHERE WHAT IT READS IS OF BULK AT MOST 1048576: true; the input reads as it did. -/
def fnTurnsUptoRow : OpenClaim := { program := "ytafpehjedkplpaa", sum := "e86aae653dea299100e6160333dc69bbe79c567974e846c1dadee1fab6b8b108", func := "loop.example/g01008/laws.FnTurns", spec := "fnTurns", recurses := true, apart := false, narrowed := true }
def FnTurnsUptoSaid : Prop := fnTurnsUptoRow.holds Try.pinned (OpenSpec.upto fnTurnsSpec)

end Rows
end Go.Proofs.Ytafpehjedkplpaa
