-- cut down by a program of this claim's session (shake.py) from what the kit's print wrote for this seat; what the claim does not use is left out; Lean checks it.
import Derived.Test.YtnickjlnaemjaaaWInv
import Derived.Test.YtnickjlnaemjaaaWFootNe
namespace Go.Proofs.YtnickjlnaemjaaaW.PrintWords
open Go.RowKit
end Go.Proofs.YtnickjlnaemjaaaW.PrintWords
namespace Go.Proofs.YtnickjlnaemjaaaW.PrintLast
section
variable {ops : Array Oper} {a : Act} {o og : Oper} {g : Nat} {t : Tmp} {u : Bool}
end
end Go.Proofs.YtnickjlnaemjaaaW.PrintLast
