/-
  No cell of these rows narrows 'for every input' (looked for: loops, veiled, ifaces, maps, wideKeys, modest, calm, conditions, laid).
  DERIVED. THE GIVEN ROWS OF THIS SEAT. 11 by the template 'for every input the law returns true; each argument reads behind the call as it read before'; 0 by the template 'total and deterministic' (their statements: YtkhaofalaikegaaTotals.lean).
  GIVEN WITH THE SEED: the statements are not yours to turn. If you find one false, say at which input.
  Laid BY PROGRAM, IN A SANDBOX (cutbox-rows.mjs): the forced cells as the released guide's own fill.sh prints them over the translation aeb128b85702903f… (all of the seat's roots in one cut). By AI agents, Wed Nov 11 2026. No macro, syntax, notation, axiom, sorry.
-/
import Derived.Test.YtkhaofalaikegaaChecked
import GoSem.Claim
import GoSem.ClaimJoined
import GoSem.ClaimMapViews
import Derived.JoinedTies
import Derived.KernelRfl
namespace Go.Proofs.Ytkhaofalaikegaa
/- THE CELL 'sum', in the pinned program and in every row, IS THE sha256 OF THE DUMP (.gsa) THAT YtkhaofalaikegaaProg.lean LOADS. Nothing in Lean hashes anything: it is a label: what it is worth is what the hold of that sum in a sandbox is worth. -/
noncomputable def Try.pinned : Pinned := { name := "ytkhaofalaikegaa", sum := "aeb128b85702903ff94ccefae1f6b2c5269e3fd32a8bb9769a6421a734d5fb7b", checked := Try.checked }
namespace Rows
def none {H : Type} : Left H := { results := [], args := [] }

/-- 'laws.FnExactIsMove': WHATEVER THE INPUT: true; the input reads as it did. -/
def fnExactIsMoveSpec : ChangeSpec := { name := "fnExactIsMove", fn := fun _ => fun
  | [d] => { results := [.lit (.bool true)], args := [d] }
  | _ => none }
def fnExactIsMoveRow : OpenClaim := { program := "ytkhaofalaikegaa", sum := "aeb128b85702903ff94ccefae1f6b2c5269e3fd32a8bb9769a6421a734d5fb7b", func := "loop.example/g01008/laws.FnExactIsMove", spec := "fnExactIsMove", inPlace := ["internal/bytealg.IndexByteString"], apart := false }
def FnExactIsMoveSaid : Prop := fnExactIsMoveRow.holds Try.pinned (OpenSpec.ofChange fnExactIsMoveSpec)

/-- ITS FALSE NEIGHBOUR: 'it returns false'. Refute it at one input. -/
def fnExactIsMoveWrong : ChangeSpec := { name := "fnExactIsMove", fn := fun _ => fun
  | [d] => { results := [.lit (.bool false)], args := [d] }
  | _ => none }
def FnExactIsMoveWrongFalsely : Prop := fnExactIsMoveRow.holds Try.pinned (OpenSpec.ofChange fnExactIsMoveWrong)

/-- 'laws.FnExactReverseMove': WHATEVER THE INPUT: true; the input reads as it did. -/
def fnExactReverseMoveSpec : ChangeSpec := { name := "fnExactReverseMove", fn := fun _ => fun
  | [d] => { results := [.lit (.bool true)], args := [d] }
  | _ => none }
def fnExactReverseMoveRow : OpenClaim := { program := "ytkhaofalaikegaa", sum := "aeb128b85702903ff94ccefae1f6b2c5269e3fd32a8bb9769a6421a734d5fb7b", func := "loop.example/g01008/laws.FnExactReverseMove", spec := "fnExactReverseMove", inPlace := ["internal/bytealg.IndexByteString"], apart := false }
def FnExactReverseMoveSaid : Prop := fnExactReverseMoveRow.holds Try.pinned (OpenSpec.ofChange fnExactReverseMoveSpec)

/-- ITS FALSE NEIGHBOUR: 'it returns false'. Refute it at one input. -/
def fnExactReverseMoveWrong : ChangeSpec := { name := "fnExactReverseMove", fn := fun _ => fun
  | [d] => { results := [.lit (.bool false)], args := [d] }
  | _ => none }
def FnExactReverseMoveWrongFalsely : Prop := fnExactReverseMoveRow.holds Try.pinned (OpenSpec.ofChange fnExactReverseMoveWrong)

/-- 'laws.FnExactMirrorMove': WHATEVER THE INPUT: true; the input reads as it did. -/
def fnExactMirrorMoveSpec : ChangeSpec := { name := "fnExactMirrorMove", fn := fun _ => fun
  | [d] => { results := [.lit (.bool true)], args := [d] }
  | _ => none }
def fnExactMirrorMoveRow : OpenClaim := { program := "ytkhaofalaikegaa", sum := "aeb128b85702903ff94ccefae1f6b2c5269e3fd32a8bb9769a6421a734d5fb7b", func := "loop.example/g01008/laws.FnExactMirrorMove", spec := "fnExactMirrorMove", inPlace := ["internal/bytealg.IndexByteString", "sync/atomic.LoadUint32", "(*internal/sync.Mutex).Lock", "internal/race.Disable", "sync/atomic.CompareAndSwapInt32", "internal/race.Enable", "internal/race.Acquire", "(*internal/sync.Mutex).lockSlow", "internal/sync.runtime_canSpin", "internal/sync.runtime_doSpin", "internal/sync.throw", "internal/sync.runtime_nanotime", "internal/sync.runtime_SemacquireMutex", "sync/atomic.AddInt32", "(*internal/sync.Mutex).Unlock", "internal/race.ReleaseMerge", "(*internal/sync.Mutex).unlockSlow", "internal/sync.fatal", "internal/sync.runtime_Semrelease", "sync/atomic.StoreUint32"], unfollowed := true, recurses := true, apart := false }
def FnExactMirrorMoveSaid : Prop := fnExactMirrorMoveRow.holds Try.pinned (OpenSpec.ofChange fnExactMirrorMoveSpec)

/-- ITS FALSE NEIGHBOUR: 'it returns false'. Refute it at one input. -/
def fnExactMirrorMoveWrong : ChangeSpec := { name := "fnExactMirrorMove", fn := fun _ => fun
  | [d] => { results := [.lit (.bool false)], args := [d] }
  | _ => none }
def FnExactMirrorMoveWrongFalsely : Prop := fnExactMirrorMoveRow.holds Try.pinned (OpenSpec.ofChange fnExactMirrorMoveWrong)

/-- 'laws.FnExactLongestWithin': WHATEVER THE INPUT: true; the input reads as it did. -/
def fnExactLongestWithinSpec : ChangeSpec := { name := "fnExactLongestWithin", fn := fun _ => fun
  | [d1, d2, d3, d4, d5] => { results := [.lit (.bool true)], args := [d1, d2, d3, d4, d5] }
  | _ => none }
def fnExactLongestWithinRow : OpenClaim := { program := "ytkhaofalaikegaa", sum := "aeb128b85702903ff94ccefae1f6b2c5269e3fd32a8bb9769a6421a734d5fb7b", func := "loop.example/g01008/laws.FnExactLongestWithin", spec := "fnExactLongestWithin", inPlace := ["internal/bytealg.IndexByteString"], unfollowed := true, recurses := true, apart := false }
def FnExactLongestWithinSaid : Prop := fnExactLongestWithinRow.holds Try.pinned (OpenSpec.ofChange fnExactLongestWithinSpec)

/-- ITS FALSE NEIGHBOUR: 'it returns false'. Refute it at one input. -/
def fnExactLongestWithinWrong : ChangeSpec := { name := "fnExactLongestWithin", fn := fun _ => fun
  | [d1, d2, d3, d4, d5] => { results := [.lit (.bool false)], args := [d1, d2, d3, d4, d5] }
  | _ => none }
def FnExactLongestWithinWrongFalsely : Prop := fnExactLongestWithinRow.holds Try.pinned (OpenSpec.ofChange fnExactLongestWithinWrong)

/-- 'laws.FnExactIsHand': WHATEVER THE INPUT: true; the input reads as it did. -/
def fnExactIsHandSpec : ChangeSpec := { name := "fnExactIsHand", fn := fun _ => fun
  | [d] => { results := [.lit (.bool true)], args := [d] }
  | _ => none }
def fnExactIsHandRow : OpenClaim := { program := "ytkhaofalaikegaa", sum := "aeb128b85702903ff94ccefae1f6b2c5269e3fd32a8bb9769a6421a734d5fb7b", func := "loop.example/g01008/laws.FnExactIsHand", spec := "fnExactIsHand", inPlace := ["internal/bytealg.IndexByteString"], unfollowed := true, recurses := true, apart := false }
def FnExactIsHandSaid : Prop := fnExactIsHandRow.holds Try.pinned (OpenSpec.ofChange fnExactIsHandSpec)

/-- ITS FALSE NEIGHBOUR: 'it returns false'. Refute it at one input. -/
def fnExactIsHandWrong : ChangeSpec := { name := "fnExactIsHand", fn := fun _ => fun
  | [d] => { results := [.lit (.bool false)], args := [d] }
  | _ => none }
def FnExactIsHandWrongFalsely : Prop := fnExactIsHandRow.holds Try.pinned (OpenSpec.ofChange fnExactIsHandWrong)

/-- 'laws.FnExactOneHand': WHATEVER THE INPUT: true; the input reads as it did. -/
def fnExactOneHandSpec : ChangeSpec := { name := "fnExactOneHand", fn := fun _ => fun
  | [d] => { results := [.lit (.bool true)], args := [d] }
  | _ => none }
def fnExactOneHandRow : OpenClaim := { program := "ytkhaofalaikegaa", sum := "aeb128b85702903ff94ccefae1f6b2c5269e3fd32a8bb9769a6421a734d5fb7b", func := "loop.example/g01008/laws.FnExactOneHand", spec := "fnExactOneHand", inPlace := ["internal/bytealg.IndexByteString"], unfollowed := true, recurses := true, apart := false }
def FnExactOneHandSaid : Prop := fnExactOneHandRow.holds Try.pinned (OpenSpec.ofChange fnExactOneHandSpec)

/-- ITS FALSE NEIGHBOUR: 'it returns false'. Refute it at one input. -/
def fnExactOneHandWrong : ChangeSpec := { name := "fnExactOneHand", fn := fun _ => fun
  | [d] => { results := [.lit (.bool false)], args := [d] }
  | _ => none }
def FnExactOneHandWrongFalsely : Prop := fnExactOneHandRow.holds Try.pinned (OpenSpec.ofChange fnExactOneHandWrong)

/-- 'laws.FnExactIsWeaker': WHATEVER THE INPUT: true; the input reads as it did. -/
def fnExactIsWeakerSpec : ChangeSpec := { name := "fnExactIsWeaker", fn := fun _ => fun
  | [d1, d2] => { results := [.lit (.bool true)], args := [d1, d2] }
  | _ => none }
def fnExactIsWeakerRow : OpenClaim := { program := "ytkhaofalaikegaa", sum := "aeb128b85702903ff94ccefae1f6b2c5269e3fd32a8bb9769a6421a734d5fb7b", func := "loop.example/g01008/laws.FnExactIsWeaker", spec := "fnExactIsWeaker", inPlace := ["internal/bytealg.IndexByteString"], apart := false }
def FnExactIsWeakerSaid : Prop := fnExactIsWeakerRow.holds Try.pinned (OpenSpec.ofChange fnExactIsWeakerSpec)

/-- ITS FALSE NEIGHBOUR: 'it returns false'. Refute it at one input. -/
def fnExactIsWeakerWrong : ChangeSpec := { name := "fnExactIsWeaker", fn := fun _ => fun
  | [d1, d2] => { results := [.lit (.bool false)], args := [d1, d2] }
  | _ => none }
def FnExactIsWeakerWrongFalsely : Prop := fnExactIsWeakerRow.holds Try.pinned (OpenSpec.ofChange fnExactIsWeakerWrong)

/-- 'laws.FnExactNeedlessConstraints': WHATEVER THE INPUT: true; the input reads as it did. -/
def fnExactNeedlessConstraintsSpec : ChangeSpec := { name := "fnExactNeedlessConstraints", fn := fun _ => fun
  | [d] => { results := [.lit (.bool true)], args := [d] }
  | _ => none }
def fnExactNeedlessConstraintsRow : OpenClaim := { program := "ytkhaofalaikegaa", sum := "aeb128b85702903ff94ccefae1f6b2c5269e3fd32a8bb9769a6421a734d5fb7b", func := "loop.example/g01008/laws.FnExactNeedlessConstraints", spec := "fnExactNeedlessConstraints", unfollowed := true, recurses := true, apart := false }
def FnExactNeedlessConstraintsSaid : Prop := fnExactNeedlessConstraintsRow.holds Try.pinned (OpenSpec.ofChange fnExactNeedlessConstraintsSpec)

/-- ITS FALSE NEIGHBOUR: 'it returns false'. Refute it at one input. -/
def fnExactNeedlessConstraintsWrong : ChangeSpec := { name := "fnExactNeedlessConstraints", fn := fun _ => fun
  | [d] => { results := [.lit (.bool false)], args := [d] }
  | _ => none }
def FnExactNeedlessConstraintsWrongFalsely : Prop := fnExactNeedlessConstraintsRow.holds Try.pinned (OpenSpec.ofChange fnExactNeedlessConstraintsWrong)

/-- 'laws.FnExactIsGloss': WHATEVER THE INPUT: true; the input reads as it did. -/
def fnExactIsGlossSpec : ChangeSpec := { name := "fnExactIsGloss", fn := fun _ => fun
  | [d] => { results := [.lit (.bool true)], args := [d] }
  | _ => none }
def fnExactIsGlossRow : OpenClaim := { program := "ytkhaofalaikegaa", sum := "aeb128b85702903ff94ccefae1f6b2c5269e3fd32a8bb9769a6421a734d5fb7b", func := "loop.example/g01008/laws.FnExactIsGloss", spec := "fnExactIsGloss", inPlace := ["internal/bytealg.IndexByteString"], apart := false }
def FnExactIsGlossSaid : Prop := fnExactIsGlossRow.holds Try.pinned (OpenSpec.ofChange fnExactIsGlossSpec)

/-- ITS FALSE NEIGHBOUR: 'it returns false'. Refute it at one input. -/
def fnExactIsGlossWrong : ChangeSpec := { name := "fnExactIsGloss", fn := fun _ => fun
  | [d] => { results := [.lit (.bool false)], args := [d] }
  | _ => none }
def FnExactIsGlossWrongFalsely : Prop := fnExactIsGlossRow.holds Try.pinned (OpenSpec.ofChange fnExactIsGlossWrong)

/-- 'laws.FnExactIsPerson': WHATEVER THE INPUT: true; the input reads as it did. -/
def fnExactIsPersonSpec : ChangeSpec := { name := "fnExactIsPerson", fn := fun _ => fun
  | [d] => { results := [.lit (.bool true)], args := [d] }
  | _ => none }
def fnExactIsPersonRow : OpenClaim := { program := "ytkhaofalaikegaa", sum := "aeb128b85702903ff94ccefae1f6b2c5269e3fd32a8bb9769a6421a734d5fb7b", func := "loop.example/g01008/laws.FnExactIsPerson", spec := "fnExactIsPerson", inPlace := ["internal/bytealg.IndexByteString"], apart := false }
def FnExactIsPersonSaid : Prop := fnExactIsPersonRow.holds Try.pinned (OpenSpec.ofChange fnExactIsPersonSpec)

/-- ITS FALSE NEIGHBOUR: 'it returns false'. Refute it at one input. -/
def fnExactIsPersonWrong : ChangeSpec := { name := "fnExactIsPerson", fn := fun _ => fun
  | [d] => { results := [.lit (.bool false)], args := [d] }
  | _ => none }
def FnExactIsPersonWrongFalsely : Prop := fnExactIsPersonRow.holds Try.pinned (OpenSpec.ofChange fnExactIsPersonWrong)

/-- 'laws.FnExactArePeople': WHATEVER THE INPUT: true; the input reads as it did. -/
def fnExactArePeopleSpec : ChangeSpec := { name := "fnExactArePeople", fn := fun _ => fun
  | [d] => { results := [.lit (.bool true)], args := [d] }
  | _ => none }
def fnExactArePeopleRow : OpenClaim := { program := "ytkhaofalaikegaa", sum := "aeb128b85702903ff94ccefae1f6b2c5269e3fd32a8bb9769a6421a734d5fb7b", func := "loop.example/g01008/laws.FnExactArePeople", spec := "fnExactArePeople", inPlace := ["internal/bytealg.IndexByteString"], apart := false }
def FnExactArePeopleSaid : Prop := fnExactArePeopleRow.holds Try.pinned (OpenSpec.ofChange fnExactArePeopleSpec)

/-- ITS FALSE NEIGHBOUR: 'it returns false'. Refute it at one input. -/
def fnExactArePeopleWrong : ChangeSpec := { name := "fnExactArePeople", fn := fun _ => fun
  | [d] => { results := [.lit (.bool false)], args := [d] }
  | _ => none }
def FnExactArePeopleWrongFalsely : Prop := fnExactArePeopleRow.holds Try.pinned (OpenSpec.ofChange fnExactArePeopleWrong)

/- THE SECOND FORM. 'bulk': how many values and letters a reading holds, each counted each time it is reached (what is shared counts as often as it is met; a slice's spare places count too). A statement '..UptoSaid' is the law's where the arguments, and the package variables that the reading takes, are together of bulk at most 1048576: NARROWER than '..Said'. Prove '..Said' where nothing that the law and all that it calls make is longer than what came in: it says more and counts as full. Else prove '..UptoSaid'. A law counts once. -/
mutual
def uptoBulk {H : Type} : DataW H → Nat
  | .lit (.string bytes) => bytes.length + 1
  | .lit _ => 1
  | .nil => 1
  | .ptr d => uptoBulk d + 1
  | .slice elems spare => uptoBulkAll elems + uptoBulkAll spare + 1
  | .agg parts => uptoBulkAll parts + 1
  | .iface _ d => uptoBulk d + 1
  | .map entries => uptoBulkEntries entries + 1
  | .held _ => 1
def uptoBulkAll {H : Type} : List (DataW H) → Nat
  | [] => 0
  | d :: r => uptoBulk d + uptoBulkAll r
def uptoBulkEntries {H : Type} : List (Lit × DataW H) → Nat
  | [] => 0
  | x :: r => uptoBulkEntry x + uptoBulkEntries r
def uptoBulkEntry {H : Type} : Lit × DataW H → Nat
  | (.string bytes, d) => bytes.length + uptoBulk d + 1
  | (_, d) => uptoBulk d + 1
 end
def uptoSmall : (H : Type) → List (DataW H) → Bool := fun _ ds => decide (uptoBulkAll ds ≤ 1048576)
def OpenSpec.upto (s : _root_.Go.ChangeSpec) : _root_.Go.OpenSpec := { _root_.Go.OpenSpec.ofChange s with cond := some uptoSmall }

/-- 'laws.FnExactIsMove', WHERE WHAT IT READS IS OF BULK AT MOST 1048576: true; the input reads as it did. -/
def fnExactIsMoveUptoRow : OpenClaim := { program := "ytkhaofalaikegaa", sum := "aeb128b85702903ff94ccefae1f6b2c5269e3fd32a8bb9769a6421a734d5fb7b", func := "loop.example/g01008/laws.FnExactIsMove", spec := "fnExactIsMove", inPlace := ["internal/bytealg.IndexByteString"], apart := false, narrowed := true }
def FnExactIsMoveUptoSaid : Prop := fnExactIsMoveUptoRow.holds Try.pinned (OpenSpec.upto fnExactIsMoveSpec)

/-- 'laws.FnExactReverseMove', WHERE WHAT IT READS IS OF BULK AT MOST 1048576: true; the input reads as it did. -/
def fnExactReverseMoveUptoRow : OpenClaim := { program := "ytkhaofalaikegaa", sum := "aeb128b85702903ff94ccefae1f6b2c5269e3fd32a8bb9769a6421a734d5fb7b", func := "loop.example/g01008/laws.FnExactReverseMove", spec := "fnExactReverseMove", inPlace := ["internal/bytealg.IndexByteString"], apart := false, narrowed := true }
def FnExactReverseMoveUptoSaid : Prop := fnExactReverseMoveUptoRow.holds Try.pinned (OpenSpec.upto fnExactReverseMoveSpec)

/-- 'laws.FnExactMirrorMove', WHERE WHAT IT READS IS OF BULK AT MOST 1048576: true; the input reads as it did. -/
def fnExactMirrorMoveUptoRow : OpenClaim := { program := "ytkhaofalaikegaa", sum := "aeb128b85702903ff94ccefae1f6b2c5269e3fd32a8bb9769a6421a734d5fb7b", func := "loop.example/g01008/laws.FnExactMirrorMove", spec := "fnExactMirrorMove", inPlace := ["internal/bytealg.IndexByteString", "sync/atomic.LoadUint32", "(*internal/sync.Mutex).Lock", "internal/race.Disable", "sync/atomic.CompareAndSwapInt32", "internal/race.Enable", "internal/race.Acquire", "(*internal/sync.Mutex).lockSlow", "internal/sync.runtime_canSpin", "internal/sync.runtime_doSpin", "internal/sync.throw", "internal/sync.runtime_nanotime", "internal/sync.runtime_SemacquireMutex", "sync/atomic.AddInt32", "(*internal/sync.Mutex).Unlock", "internal/race.ReleaseMerge", "(*internal/sync.Mutex).unlockSlow", "internal/sync.fatal", "internal/sync.runtime_Semrelease", "sync/atomic.StoreUint32"], unfollowed := true, recurses := true, apart := false, narrowed := true }
def FnExactMirrorMoveUptoSaid : Prop := fnExactMirrorMoveUptoRow.holds Try.pinned (OpenSpec.upto fnExactMirrorMoveSpec)

/-- 'laws.FnExactLongestWithin', WHERE WHAT IT READS IS OF BULK AT MOST 1048576: true; the input reads as it did. -/
def fnExactLongestWithinUptoRow : OpenClaim := { program := "ytkhaofalaikegaa", sum := "aeb128b85702903ff94ccefae1f6b2c5269e3fd32a8bb9769a6421a734d5fb7b", func := "loop.example/g01008/laws.FnExactLongestWithin", spec := "fnExactLongestWithin", inPlace := ["internal/bytealg.IndexByteString"], unfollowed := true, recurses := true, apart := false, narrowed := true }
def FnExactLongestWithinUptoSaid : Prop := fnExactLongestWithinUptoRow.holds Try.pinned (OpenSpec.upto fnExactLongestWithinSpec)

/-- 'laws.FnExactIsHand', WHERE WHAT IT READS IS OF BULK AT MOST 1048576: true; the input reads as it did. -/
def fnExactIsHandUptoRow : OpenClaim := { program := "ytkhaofalaikegaa", sum := "aeb128b85702903ff94ccefae1f6b2c5269e3fd32a8bb9769a6421a734d5fb7b", func := "loop.example/g01008/laws.FnExactIsHand", spec := "fnExactIsHand", inPlace := ["internal/bytealg.IndexByteString"], unfollowed := true, recurses := true, apart := false, narrowed := true }
def FnExactIsHandUptoSaid : Prop := fnExactIsHandUptoRow.holds Try.pinned (OpenSpec.upto fnExactIsHandSpec)

/-- 'laws.FnExactOneHand', WHERE WHAT IT READS IS OF BULK AT MOST 1048576: true; the input reads as it did. -/
def fnExactOneHandUptoRow : OpenClaim := { program := "ytkhaofalaikegaa", sum := "aeb128b85702903ff94ccefae1f6b2c5269e3fd32a8bb9769a6421a734d5fb7b", func := "loop.example/g01008/laws.FnExactOneHand", spec := "fnExactOneHand", inPlace := ["internal/bytealg.IndexByteString"], unfollowed := true, recurses := true, apart := false, narrowed := true }
def FnExactOneHandUptoSaid : Prop := fnExactOneHandUptoRow.holds Try.pinned (OpenSpec.upto fnExactOneHandSpec)

/-- 'laws.FnExactIsWeaker', WHERE WHAT IT READS IS OF BULK AT MOST 1048576: true; the input reads as it did. -/
def fnExactIsWeakerUptoRow : OpenClaim := { program := "ytkhaofalaikegaa", sum := "aeb128b85702903ff94ccefae1f6b2c5269e3fd32a8bb9769a6421a734d5fb7b", func := "loop.example/g01008/laws.FnExactIsWeaker", spec := "fnExactIsWeaker", inPlace := ["internal/bytealg.IndexByteString"], apart := false, narrowed := true }
def FnExactIsWeakerUptoSaid : Prop := fnExactIsWeakerUptoRow.holds Try.pinned (OpenSpec.upto fnExactIsWeakerSpec)

/-- 'laws.FnExactNeedlessConstraints', WHERE WHAT IT READS IS OF BULK AT MOST 1048576: true; the input reads as it did. -/
def fnExactNeedlessConstraintsUptoRow : OpenClaim := { program := "ytkhaofalaikegaa", sum := "aeb128b85702903ff94ccefae1f6b2c5269e3fd32a8bb9769a6421a734d5fb7b", func := "loop.example/g01008/laws.FnExactNeedlessConstraints", spec := "fnExactNeedlessConstraints", unfollowed := true, recurses := true, apart := false, narrowed := true }
def FnExactNeedlessConstraintsUptoSaid : Prop := fnExactNeedlessConstraintsUptoRow.holds Try.pinned (OpenSpec.upto fnExactNeedlessConstraintsSpec)

/-- 'laws.FnExactIsGloss', WHERE WHAT IT READS IS OF BULK AT MOST 1048576: true; the input reads as it did. -/
def fnExactIsGlossUptoRow : OpenClaim := { program := "ytkhaofalaikegaa", sum := "aeb128b85702903ff94ccefae1f6b2c5269e3fd32a8bb9769a6421a734d5fb7b", func := "loop.example/g01008/laws.FnExactIsGloss", spec := "fnExactIsGloss", inPlace := ["internal/bytealg.IndexByteString"], apart := false, narrowed := true }
def FnExactIsGlossUptoSaid : Prop := fnExactIsGlossUptoRow.holds Try.pinned (OpenSpec.upto fnExactIsGlossSpec)

/-- 'laws.FnExactIsPerson', WHERE WHAT IT READS IS OF BULK AT MOST 1048576: true; the input reads as it did. -/
def fnExactIsPersonUptoRow : OpenClaim := { program := "ytkhaofalaikegaa", sum := "aeb128b85702903ff94ccefae1f6b2c5269e3fd32a8bb9769a6421a734d5fb7b", func := "loop.example/g01008/laws.FnExactIsPerson", spec := "fnExactIsPerson", inPlace := ["internal/bytealg.IndexByteString"], apart := false, narrowed := true }
def FnExactIsPersonUptoSaid : Prop := fnExactIsPersonUptoRow.holds Try.pinned (OpenSpec.upto fnExactIsPersonSpec)

/-- 'laws.FnExactArePeople', WHERE WHAT IT READS IS OF BULK AT MOST 1048576: true; the input reads as it did. -/
def fnExactArePeopleUptoRow : OpenClaim := { program := "ytkhaofalaikegaa", sum := "aeb128b85702903ff94ccefae1f6b2c5269e3fd32a8bb9769a6421a734d5fb7b", func := "loop.example/g01008/laws.FnExactArePeople", spec := "fnExactArePeople", inPlace := ["internal/bytealg.IndexByteString"], apart := false, narrowed := true }
def FnExactArePeopleUptoSaid : Prop := fnExactArePeopleUptoRow.holds Try.pinned (OpenSpec.upto fnExactArePeopleSpec)

end Rows
end Go.Proofs.Ytkhaofalaikegaa
