-- out of what the kit's print laid as words of this seat: those alone that this claim names (trimwords.py)
import Derived.Test.YtopmmmggjohkeaaDoorVInv
import Derived.Test.YtopmmmggjohkeaaDoorVFootNe
namespace Go.Proofs.YtopmmmggjohkeaaDoorW.PrintWords
open Go.RowKit
end Go.Proofs.YtopmmmggjohkeaaDoorW.PrintWords
namespace Go.Proofs.YtopmmmggjohkeaaDoorW.PrintLast
section
variable {ops : Array Oper} {a : Act} {o og : Oper} {g : Nat} {t : Tmp} {u : Bool}
end
end Go.Proofs.YtopmmmggjohkeaaDoorW.PrintLast
