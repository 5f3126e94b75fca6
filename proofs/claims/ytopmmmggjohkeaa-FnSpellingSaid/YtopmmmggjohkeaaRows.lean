/-
  No cell of these rows narrows 'for every input' (looked for: loops, veiled, ifaces, maps, wideKeys, modest, calm, conditions, laid).
  DERIVED. THE GIVEN ROWS OF THIS SEAT. 9 by the template 'for every input the law returns true; each argument reads behind the call as it read before'; 0 by the template 'total and deterministic' (their statements: YtopmmmggjohkeaaTotals.lean).
  GIVEN WITH THE SEED: the statements are not yours to turn. If you find one false, say at which input.
  Laid BY PROGRAM, IN A SANDBOX (cutbox-rows.mjs): the forced cells as the released guide's own fill.sh prints them over the translation a0e44b33b1753d32… (all of the seat's roots in one cut). By AI agents, Wed Nov 11 2026. No macro, syntax, notation, axiom, sorry.
-/
import Derived.Test.YtopmmmggjohkeaaChecked
import GoSem.Claim
import GoSem.ClaimJoined
import GoSem.ClaimMapViews
import Derived.JoinedTies
import Derived.KernelRfl
namespace Go.Proofs.Ytopmmmggjohkeaa
/- THE CELL 'sum', in the pinned program and in every row, IS THE sha256 OF THE DUMP (.gsa) THAT YtopmmmggjohkeaaProg.lean LOADS. Nothing in Lean hashes anything: it is a label: what it is worth is what the hold of that sum in a sandbox is worth. -/
noncomputable def Try.pinned : Pinned := { name := "ytopmmmggjohkeaa", sum := "a0e44b33b1753d325df549c515b650475c4152d0adc10b6bf5b4f96fe5c83c45", checked := Try.checked }
namespace Rows
def none {H : Type} : Left H := { results := [], args := [] }

/-- 'laws.FnExactIsAlphabet': WHATEVER THE INPUT: true; the input reads as it did. -/
def fnExactIsAlphabetSpec : ChangeSpec := { name := "fnExactIsAlphabet", fn := fun _ => fun
  | [d] => { results := [.lit (.bool true)], args := [d] }
  | _ => none }
def fnExactIsAlphabetRow : OpenClaim := { program := "ytopmmmggjohkeaa", sum := "a0e44b33b1753d325df549c515b650475c4152d0adc10b6bf5b4f96fe5c83c45", func := "loop.example/g01008/laws.FnExactIsAlphabet", spec := "fnExactIsAlphabet", unfollowed := true, recurses := true, apart := false }
def FnExactIsAlphabetSaid : Prop := fnExactIsAlphabetRow.holds Try.pinned (OpenSpec.ofChange fnExactIsAlphabetSpec)

/-- ITS FALSE NEIGHBOUR: 'it returns false'. Refute it at one input. -/
def fnExactIsAlphabetWrong : ChangeSpec := { name := "fnExactIsAlphabet", fn := fun _ => fun
  | [d] => { results := [.lit (.bool false)], args := [d] }
  | _ => none }
def FnExactIsAlphabetWrongFalsely : Prop := fnExactIsAlphabetRow.holds Try.pinned (OpenSpec.ofChange fnExactIsAlphabetWrong)

/-- 'laws.FnExactSpellWord': WHATEVER THE INPUT: true; the input reads as it did. -/
def fnExactSpellWordSpec : ChangeSpec := { name := "fnExactSpellWord", fn := fun _ => fun
  | [d1, d2] => { results := [.lit (.bool true)], args := [d1, d2] }
  | _ => none }
def fnExactSpellWordRow : OpenClaim := { program := "ytopmmmggjohkeaa", sum := "a0e44b33b1753d325df549c515b650475c4152d0adc10b6bf5b4f96fe5c83c45", func := "loop.example/g01008/laws.FnExactSpellWord", spec := "fnExactSpellWord", inPlace := ["internal/bytealg.IndexByteString"], unfollowed := true, recurses := true, apart := false }
def FnExactSpellWordSaid : Prop := fnExactSpellWordRow.holds Try.pinned (OpenSpec.ofChange fnExactSpellWordSpec)

/-- ITS FALSE NEIGHBOUR: 'it returns false'. Refute it at one input. -/
def fnExactSpellWordWrong : ChangeSpec := { name := "fnExactSpellWord", fn := fun _ => fun
  | [d1, d2] => { results := [.lit (.bool false)], args := [d1, d2] }
  | _ => none }
def FnExactSpellWordWrongFalsely : Prop := fnExactSpellWordRow.holds Try.pinned (OpenSpec.ofChange fnExactSpellWordWrong)

/-- 'laws.FnExactSpellTime': WHATEVER THE INPUT: true; the input reads as it did. -/
def fnExactSpellTimeSpec : ChangeSpec := { name := "fnExactSpellTime", fn := fun _ => fun
  | [d1, d2, d3, d4] => { results := [.lit (.bool true)], args := [d1, d2, d3, d4] }
  | _ => none }
def fnExactSpellTimeRow : OpenClaim := { program := "ytopmmmggjohkeaa", sum := "a0e44b33b1753d325df549c515b650475c4152d0adc10b6bf5b4f96fe5c83c45", func := "loop.example/g01008/laws.FnExactSpellTime", spec := "fnExactSpellTime", inPlace := ["internal/bytealg.IndexByteString"], unfollowed := true, recurses := true, apart := false }
def FnExactSpellTimeSaid : Prop := fnExactSpellTimeRow.holds Try.pinned (OpenSpec.ofChange fnExactSpellTimeSpec)

/-- ITS FALSE NEIGHBOUR: 'it returns false'. Refute it at one input. -/
def fnExactSpellTimeWrong : ChangeSpec := { name := "fnExactSpellTime", fn := fun _ => fun
  | [d1, d2, d3, d4] => { results := [.lit (.bool false)], args := [d1, d2, d3, d4] }
  | _ => none }
def FnExactSpellTimeWrongFalsely : Prop := fnExactSpellTimeRow.holds Try.pinned (OpenSpec.ofChange fnExactSpellTimeWrong)

/-- 'laws.FnExactLookAlike': WHATEVER THE INPUT: true; the input reads as it did. -/
def fnExactLookAlikeSpec : ChangeSpec := { name := "fnExactLookAlike", fn := fun _ => fun
  | [d1, d2, d3] => { results := [.lit (.bool true)], args := [d1, d2, d3] }
  | _ => none }
def fnExactLookAlikeRow : OpenClaim := { program := "ytopmmmggjohkeaa", sum := "a0e44b33b1753d325df549c515b650475c4152d0adc10b6bf5b4f96fe5c83c45", func := "loop.example/g01008/laws.FnExactLookAlike", spec := "fnExactLookAlike", inPlace := ["internal/bytealg.IndexByteString"], unfollowed := true, recurses := true, apart := false }
def FnExactLookAlikeSaid : Prop := fnExactLookAlikeRow.holds Try.pinned (OpenSpec.ofChange fnExactLookAlikeSpec)

/-- ITS FALSE NEIGHBOUR: 'it returns false'. Refute it at one input. -/
def fnExactLookAlikeWrong : ChangeSpec := { name := "fnExactLookAlike", fn := fun _ => fun
  | [d1, d2, d3] => { results := [.lit (.bool false)], args := [d1, d2, d3] }
  | _ => none }
def FnExactLookAlikeWrongFalsely : Prop := fnExactLookAlikeRow.holds Try.pinned (OpenSpec.ofChange fnExactLookAlikeWrong)

/-- 'laws.FnExactAlikeLetters': WHATEVER THE INPUT: true; the input reads as it did. -/
def fnExactAlikeLettersSpec : ChangeSpec := { name := "fnExactAlikeLetters", fn := fun _ => fun
  | [d] => { results := [.lit (.bool true)], args := [d] }
  | _ => none }
def fnExactAlikeLettersRow : OpenClaim := { program := "ytopmmmggjohkeaa", sum := "a0e44b33b1753d325df549c515b650475c4152d0adc10b6bf5b4f96fe5c83c45", func := "loop.example/g01008/laws.FnExactAlikeLetters", spec := "fnExactAlikeLetters", unfollowed := true, recurses := true, apart := false }
def FnExactAlikeLettersSaid : Prop := fnExactAlikeLettersRow.holds Try.pinned (OpenSpec.ofChange fnExactAlikeLettersSpec)

/-- ITS FALSE NEIGHBOUR: 'it returns false'. Refute it at one input. -/
def fnExactAlikeLettersWrong : ChangeSpec := { name := "fnExactAlikeLetters", fn := fun _ => fun
  | [d] => { results := [.lit (.bool false)], args := [d] }
  | _ => none }
def FnExactAlikeLettersWrongFalsely : Prop := fnExactAlikeLettersRow.holds Try.pinned (OpenSpec.ofChange fnExactAlikeLettersWrong)

/-- 'laws.FnExactCountReadings': WHATEVER THE INPUT: true; the input reads as it did. -/
def fnExactCountReadingsSpec : ChangeSpec := { name := "fnExactCountReadings", fn := fun _ => fun
  | [d1, d2] => { results := [.lit (.bool true)], args := [d1, d2] }
  | _ => none }
def fnExactCountReadingsRow : OpenClaim := { program := "ytopmmmggjohkeaa", sum := "a0e44b33b1753d325df549c515b650475c4152d0adc10b6bf5b4f96fe5c83c45", func := "loop.example/g01008/laws.FnExactCountReadings", spec := "fnExactCountReadings", unfollowed := true, recurses := true, apart := false }
def FnExactCountReadingsSaid : Prop := fnExactCountReadingsRow.holds Try.pinned (OpenSpec.ofChange fnExactCountReadingsSpec)

/-- ITS FALSE NEIGHBOUR: 'it returns false'. Refute it at one input. -/
def fnExactCountReadingsWrong : ChangeSpec := { name := "fnExactCountReadings", fn := fun _ => fun
  | [d1, d2] => { results := [.lit (.bool false)], args := [d1, d2] }
  | _ => none }
def FnExactCountReadingsWrongFalsely : Prop := fnExactCountReadingsRow.holds Try.pinned (OpenSpec.ofChange fnExactCountReadingsWrong)

/-- 'laws.FnExactFirstReadings': WHATEVER THE INPUT: true; the input reads as it did. -/
def fnExactFirstReadingsSpec : ChangeSpec := { name := "fnExactFirstReadings", fn := fun _ => fun
  | [d1, d2] => { results := [.lit (.bool true)], args := [d1, d2] }
  | _ => none }
def fnExactFirstReadingsRow : OpenClaim := { program := "ytopmmmggjohkeaa", sum := "a0e44b33b1753d325df549c515b650475c4152d0adc10b6bf5b4f96fe5c83c45", func := "loop.example/g01008/laws.FnExactFirstReadings", spec := "fnExactFirstReadings", unfollowed := true, recurses := true, apart := false }
def FnExactFirstReadingsSaid : Prop := fnExactFirstReadingsRow.holds Try.pinned (OpenSpec.ofChange fnExactFirstReadingsSpec)

/-- ITS FALSE NEIGHBOUR: 'it returns false'. Refute it at one input. -/
def fnExactFirstReadingsWrong : ChangeSpec := { name := "fnExactFirstReadings", fn := fun _ => fun
  | [d1, d2] => { results := [.lit (.bool false)], args := [d1, d2] }
  | _ => none }
def FnExactFirstReadingsWrongFalsely : Prop := fnExactFirstReadingsRow.holds Try.pinned (OpenSpec.ofChange fnExactFirstReadingsWrong)

/-- 'laws.FnExactAlikeWords': WHATEVER THE INPUT: true; the input reads as it did. -/
def fnExactAlikeWordsSpec : ChangeSpec := { name := "fnExactAlikeWords", fn := fun _ => fun
  | [d1, d2] => { results := [.lit (.bool true)], args := [d1, d2] }
  | _ => none }
def fnExactAlikeWordsRow : OpenClaim := { program := "ytopmmmggjohkeaa", sum := "a0e44b33b1753d325df549c515b650475c4152d0adc10b6bf5b4f96fe5c83c45", func := "loop.example/g01008/laws.FnExactAlikeWords", spec := "fnExactAlikeWords", inPlace := ["internal/bytealg.IndexByteString"], unfollowed := true, recurses := true, apart := false }
def FnExactAlikeWordsSaid : Prop := fnExactAlikeWordsRow.holds Try.pinned (OpenSpec.ofChange fnExactAlikeWordsSpec)

/-- ITS FALSE NEIGHBOUR: 'it returns false'. Refute it at one input. -/
def fnExactAlikeWordsWrong : ChangeSpec := { name := "fnExactAlikeWords", fn := fun _ => fun
  | [d1, d2] => { results := [.lit (.bool false)], args := [d1, d2] }
  | _ => none }
def FnExactAlikeWordsWrongFalsely : Prop := fnExactAlikeWordsRow.holds Try.pinned (OpenSpec.ofChange fnExactAlikeWordsWrong)

/-- 'laws.FnSpelling': WHATEVER THE INPUT: true; the input reads as it did. -/
def fnSpellingSpec : ChangeSpec := { name := "fnSpelling", fn := fun _ => fun
  | [d1, d2] => { results := [.lit (.bool true)], args := [d1, d2] }
  | _ => none }
def fnSpellingRow : OpenClaim := { program := "ytopmmmggjohkeaa", sum := "a0e44b33b1753d325df549c515b650475c4152d0adc10b6bf5b4f96fe5c83c45", func := "loop.example/g01008/laws.FnSpelling", spec := "fnSpelling", inPlace := ["internal/bytealg.IndexByteString"], unfollowed := true, recurses := true, apart := false }
def FnSpellingSaid : Prop := fnSpellingRow.holds Try.pinned (OpenSpec.ofChange fnSpellingSpec)

/-- ITS FALSE NEIGHBOUR: 'it returns false'. Refute it at one input. -/
def fnSpellingWrong : ChangeSpec := { name := "fnSpelling", fn := fun _ => fun
  | [d1, d2] => { results := [.lit (.bool false)], args := [d1, d2] }
  | _ => none }
def FnSpellingWrongFalsely : Prop := fnSpellingRow.holds Try.pinned (OpenSpec.ofChange fnSpellingWrong)

/- THE SECOND FORM. 'bulk': how many values and letters a reading holds, each counted each time it is reached (what is shared counts as often as it is met; a slice's spare places count too). A statement '..UptoSaid' is the law's where the arguments, and the package variables that the reading takes, are together of bulk at most 1048576: NARROWER than '..Said'. Prove '..Said' where nothing that the law and all that it calls make is longer than what came in: it says more and counts as full. Else prove '..UptoSaid'. A law counts once. -/
mutual
def uptoBulk {H : Type} : DataW H → Nat
  | .lit (.string bytes) => bytes.length + 1
  | .lit _ => 1
  | .nil => 1
  | .ptr d => uptoBulk d + 1
  | .slice elems spare => uptoBulkAll elems + uptoBulkAll spare + 1
  | .agg parts => uptoBulkAll parts + 1
  | .iface _ d => uptoBulk d + 1
  | .map entries => uptoBulkEntries entries + 1
  | .held _ => 1
def uptoBulkAll {H : Type} : List (DataW H) → Nat
  | [] => 0
  | d :: r => uptoBulk d + uptoBulkAll r
def uptoBulkEntries {H : Type} : List (Lit × DataW H) → Nat
  | [] => 0
  | x :: r => uptoBulkEntry x + uptoBulkEntries r
def uptoBulkEntry {H : Type} : Lit × DataW H → Nat
  | (.string bytes, d) => bytes.length + uptoBulk d + 1
  | (_, d) => uptoBulk d + 1
 end
def uptoSmall : (H : Type) → List (DataW H) → Bool := fun _ ds => decide (uptoBulkAll ds ≤ 1048576)
def OpenSpec.upto (s : _root_.Go.ChangeSpec) : _root_.Go.OpenSpec := { _root_.Go.OpenSpec.ofChange s with cond := some uptoSmall }

/-- 'laws.FnExactIsAlphabet', WHERE WHAT IT READS IS OF BULK AT MOST 1048576: true; the input reads as it did. -/
def fnExactIsAlphabetUptoRow : OpenClaim := { program := "ytopmmmggjohkeaa", sum := "a0e44b33b1753d325df549c515b650475c4152d0adc10b6bf5b4f96fe5c83c45", func := "loop.example/g01008/laws.FnExactIsAlphabet", spec := "fnExactIsAlphabet", unfollowed := true, recurses := true, apart := false, narrowed := true }
def FnExactIsAlphabetUptoSaid : Prop := fnExactIsAlphabetUptoRow.holds Try.pinned (OpenSpec.upto fnExactIsAlphabetSpec)

/-- 'laws.FnExactSpellWord', WHERE WHAT IT READS IS OF BULK AT MOST 1048576: true; the input reads as it did. -/
def fnExactSpellWordUptoRow : OpenClaim := { program := "ytopmmmggjohkeaa", sum := "a0e44b33b1753d325df549c515b650475c4152d0adc10b6bf5b4f96fe5c83c45", func := "loop.example/g01008/laws.FnExactSpellWord", spec := "fnExactSpellWord", inPlace := ["internal/bytealg.IndexByteString"], unfollowed := true, recurses := true, apart := false, narrowed := true }
def FnExactSpellWordUptoSaid : Prop := fnExactSpellWordUptoRow.holds Try.pinned (OpenSpec.upto fnExactSpellWordSpec)

/-- 'laws.FnExactSpellTime', WHERE WHAT IT READS IS OF BULK AT MOST 1048576: true; the input reads as it did. -/
def fnExactSpellTimeUptoRow : OpenClaim := { program := "ytopmmmggjohkeaa", sum := "a0e44b33b1753d325df549c515b650475c4152d0adc10b6bf5b4f96fe5c83c45", func := "loop.example/g01008/laws.FnExactSpellTime", spec := "fnExactSpellTime", inPlace := ["internal/bytealg.IndexByteString"], unfollowed := true, recurses := true, apart := false, narrowed := true }
def FnExactSpellTimeUptoSaid : Prop := fnExactSpellTimeUptoRow.holds Try.pinned (OpenSpec.upto fnExactSpellTimeSpec)

/-- 'laws.FnExactLookAlike', WHERE WHAT IT READS IS OF BULK AT MOST 1048576: true; the input reads as it did. -/
def fnExactLookAlikeUptoRow : OpenClaim := { program := "ytopmmmggjohkeaa", sum := "a0e44b33b1753d325df549c515b650475c4152d0adc10b6bf5b4f96fe5c83c45", func := "loop.example/g01008/laws.FnExactLookAlike", spec := "fnExactLookAlike", inPlace := ["internal/bytealg.IndexByteString"], unfollowed := true, recurses := true, apart := false, narrowed := true }
def FnExactLookAlikeUptoSaid : Prop := fnExactLookAlikeUptoRow.holds Try.pinned (OpenSpec.upto fnExactLookAlikeSpec)

/-- 'laws.FnExactAlikeLetters', WHERE WHAT IT READS IS OF BULK AT MOST 1048576: true; the input reads as it did. -/
def fnExactAlikeLettersUptoRow : OpenClaim := { program := "ytopmmmggjohkeaa", sum := "a0e44b33b1753d325df549c515b650475c4152d0adc10b6bf5b4f96fe5c83c45", func := "loop.example/g01008/laws.FnExactAlikeLetters", spec := "fnExactAlikeLetters", unfollowed := true, recurses := true, apart := false, narrowed := true }
def FnExactAlikeLettersUptoSaid : Prop := fnExactAlikeLettersUptoRow.holds Try.pinned (OpenSpec.upto fnExactAlikeLettersSpec)

/-- 'laws.FnExactCountReadings', WHERE WHAT IT READS IS OF BULK AT MOST 1048576: true; the input reads as it did. -/
def fnExactCountReadingsUptoRow : OpenClaim := { program := "ytopmmmggjohkeaa", sum := "a0e44b33b1753d325df549c515b650475c4152d0adc10b6bf5b4f96fe5c83c45", func := "loop.example/g01008/laws.FnExactCountReadings", spec := "fnExactCountReadings", unfollowed := true, recurses := true, apart := false, narrowed := true }
def FnExactCountReadingsUptoSaid : Prop := fnExactCountReadingsUptoRow.holds Try.pinned (OpenSpec.upto fnExactCountReadingsSpec)

/-- 'laws.FnExactFirstReadings', WHERE WHAT IT READS IS OF BULK AT MOST 1048576: true; the input reads as it did. -/
def fnExactFirstReadingsUptoRow : OpenClaim := { program := "ytopmmmggjohkeaa", sum := "a0e44b33b1753d325df549c515b650475c4152d0adc10b6bf5b4f96fe5c83c45", func := "loop.example/g01008/laws.FnExactFirstReadings", spec := "fnExactFirstReadings", unfollowed := true, recurses := true, apart := false, narrowed := true }
def FnExactFirstReadingsUptoSaid : Prop := fnExactFirstReadingsUptoRow.holds Try.pinned (OpenSpec.upto fnExactFirstReadingsSpec)

/-- 'laws.FnExactAlikeWords', WHERE WHAT IT READS IS OF BULK AT MOST 1048576: true; the input reads as it did. -/
def fnExactAlikeWordsUptoRow : OpenClaim := { program := "ytopmmmggjohkeaa", sum := "a0e44b33b1753d325df549c515b650475c4152d0adc10b6bf5b4f96fe5c83c45", func := "loop.example/g01008/laws.FnExactAlikeWords", spec := "fnExactAlikeWords", inPlace := ["internal/bytealg.IndexByteString"], unfollowed := true, recurses := true, apart := false, narrowed := true }
def FnExactAlikeWordsUptoSaid : Prop := fnExactAlikeWordsUptoRow.holds Try.pinned (OpenSpec.upto fnExactAlikeWordsSpec)

/-- 'laws.FnSpelling', WHERE WHAT IT READS IS OF BULK AT MOST 1048576: true; the input reads as it did. -/
def fnSpellingUptoRow : OpenClaim := { program := "ytopmmmggjohkeaa", sum := "a0e44b33b1753d325df549c515b650475c4152d0adc10b6bf5b4f96fe5c83c45", func := "loop.example/g01008/laws.FnSpelling", spec := "fnSpelling", inPlace := ["internal/bytealg.IndexByteString"], unfollowed := true, recurses := true, apart := false, narrowed := true }
def FnSpellingUptoSaid : Prop := fnSpellingUptoRow.holds Try.pinned (OpenSpec.upto fnSpellingSpec)

end Rows
end Go.Proofs.Ytopmmmggjohkeaa
