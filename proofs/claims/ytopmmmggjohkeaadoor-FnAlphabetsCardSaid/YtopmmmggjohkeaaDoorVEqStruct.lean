-- out of what the kit's print laid as words of this seat: those alone that this claim names (trimwords.py)
import Derived.Test.YtopmmmggjohkeaaDoorVWords
import Derived.Laws.StructEq
/-! ### 53. '==' of structs as_ one Bool -/
namespace Go.Proofs.YtopmmmggjohkeaaDoorW.PrintWords
open Go.RowKit
section
variable {P : Program} {d : Nat} {xs ys : Array Value} {f : Field} {fs : List Field} {a b : Value} {r s : Bool} {w : World}
end
end Go.Proofs.YtopmmmggjohkeaaDoorW.PrintWords
