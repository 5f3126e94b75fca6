/-
  DERIVED. GIVEN WITH THE SEED: THE CARDS: each row of YtopmmmggjohkeaaDoorRows.lean that lists a variable, with what it lists TIED to the program's text (the seventh form; the later family's looks); each row that meets fmt, with fmt's text TOLD by the authors' own Lean function (tested against real Go, not proved from fmt's source: count such statements apart). THE CARD IS WHAT COUNTS. Prove the row's statement (the work); the ties are given (YtopmmmggjohkeaaDoorTie.lean); close each card by the builder's one call (the guide's Derived/Test/ToyasCard.lean, 'card_holds'). Laid BY PROGRAM, IN A SANDBOX (cutbox-door.mjs). By AI agents, Wed Nov 11 2026. No macro, syntax, notation, axiom, sorry.
-/
import Derived.Test.YtopmmmggjohkeaaDoorRows
import GoSem.ClaimSeven
namespace Go.Proofs.YtopmmmggjohkeaaDoor
namespace Rows

/-- THE TIED CARD OF 'laws.FnAlphabets'. -/
def fnAlphabetsCard : Claim7 := { stood := { row := fnAlphabetsRow, standIns := [], harness := (true, "beba7f3de0c77ad99efadb93fd874c6087cfc66428695c4601030c86980a20ca"), looks := false }, kinds := [], alts := [], laidByText := true, laidKinds := [.data, .data, .data], laidTests := true, laidLooks := .later }
def FnAlphabetsCardSaid : Prop := Claim7.holds Tryd.pinned (.plain (OpenSpec.ofChange fnAlphabetsSpec)) fnAlphabetsCard

/-- THE SECOND FORM's CARD OF 'laws.FnAlphabets'. -/
def fnAlphabetsUptoCard : Claim7 := { stood := { row := fnAlphabetsUptoRow, standIns := [], harness := (true, "beba7f3de0c77ad99efadb93fd874c6087cfc66428695c4601030c86980a20ca"), looks := false }, kinds := [], alts := [], laidByText := true, laidKinds := [.data, .data, .data], laidTests := true, laidLooks := .later }
def FnAlphabetsUptoCardSaid : Prop := Claim7.holds Tryd.pinned (.plain (OpenSpec.upto fnAlphabetsSpec)) fnAlphabetsUptoCard
end Rows
end Go.Proofs.YtopmmmggjohkeaaDoor
