-- out of what the kit's print laid as words of this seat: those alone that this claim names (trimwords.py)
import Derived.Test.YtaecjbhenknfkaaVInv
import Derived.Test.YtaecjbhenknfkaaVFootNe
namespace Go.Proofs.YtaecjbhenknfkaaW.PrintWords
open Go.RowKit
end Go.Proofs.YtaecjbhenknfkaaW.PrintWords
namespace Go.Proofs.YtaecjbhenknfkaaW.PrintLast
section
variable {ops : Array Oper} {a : Act} {o og : Oper} {g : Nat} {t : Tmp} {u : Bool}
end
end Go.Proofs.YtaecjbhenknfkaaW.PrintLast
