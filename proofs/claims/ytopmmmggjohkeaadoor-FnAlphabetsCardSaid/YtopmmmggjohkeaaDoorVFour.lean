-- out of what the kit's print laid as words of this seat: those alone that this claim names (trimwords.py)
import Derived.Test.YtopmmmggjohkeaaDoorVTab
/-! ### 56. Four, five, six operations that may come up next, in any order -/
namespace Go.Proofs.YtopmmmggjohkeaaDoorW.PrintLast
section
variable {P : Program} {ops : Array Oper} {Q : Exit → Act → World → Prop} {md : Region.Mode} {S : World → Prop} {ds : List Nat} {T : Bool × List (List Nat × List Nat)}
end
end Go.Proofs.YtopmmmggjohkeaaDoorW.PrintLast
