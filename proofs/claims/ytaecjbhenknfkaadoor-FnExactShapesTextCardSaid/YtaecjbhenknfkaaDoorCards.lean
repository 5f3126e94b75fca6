/-
  DERIVED. GIVEN WITH THE SEED: THE CARDS: each row of YtaecjbhenknfkaaDoorRows.lean that lists a variable, with what it lists TIED to the program's text (the seventh form; the later family's looks); each row that meets fmt, with fmt's text TOLD by the authors' own Lean function (tested against real Go, not proved from fmt's source: count such statements apart). THE CARD IS WHAT COUNTS. Prove the row's statement (the work); the ties are given (YtaecjbhenknfkaaDoorTie.lean); close each card by the builder's one call (the guide's Derived/Test/ToyasCard.lean, 'card_holds'). Laid BY PROGRAM, IN A SANDBOX (cutbox-door.mjs). By AI agents, Wed Nov 11 2026. No macro, syntax, notation, axiom, sorry.
-/
import Derived.Test.YtaecjbhenknfkaaDoorRows
import GoSem.ClaimSeven
namespace Go.Proofs.YtaecjbhenknfkaaDoor
namespace Rows

/-- THE TIED CARD OF 'laws.FnExactShapesText'. -/
def fnExactShapesTextCard : Claim7 := { stood := { row := fnExactShapesTextRow, standIns := [], harness := (true, "6f2e17a9fb7abc4843ddcc22be0ac08b4ef2bfc2413af9423140aa046374659f"), looks := false }, kinds := [], alts := [], laidByText := true, laidKinds := [.data, .data, .data], laidTests := true, laidLooks := .later }
def FnExactShapesTextCardSaid : Prop := Claim7.holds Tryd.pinned (.plain (OpenSpec.ofChange fnExactShapesTextSpec)) fnExactShapesTextCard

/-- THE SECOND FORM's CARD OF 'laws.FnExactShapesText'. -/
def fnExactShapesTextUptoCard : Claim7 := { stood := { row := fnExactShapesTextUptoRow, standIns := [], harness := (true, "6f2e17a9fb7abc4843ddcc22be0ac08b4ef2bfc2413af9423140aa046374659f"), looks := false }, kinds := [], alts := [], laidByText := true, laidKinds := [.data, .data, .data], laidTests := true, laidLooks := .later }
def FnExactShapesTextUptoCardSaid : Prop := Claim7.holds Tryd.pinned (.plain (OpenSpec.upto fnExactShapesTextSpec)) fnExactShapesTextUptoCard
end Rows
end Go.Proofs.YtaecjbhenknfkaaDoor
