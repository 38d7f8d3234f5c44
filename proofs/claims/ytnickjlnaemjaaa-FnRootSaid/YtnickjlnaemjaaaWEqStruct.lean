-- cut down by a program of this claim's session (shake.py) from what the kit's print wrote for this seat; what the claim does not use is left out; Lean checks it.
import Derived.Test.YtnickjlnaemjaaaWWords
import Derived.Laws.StructEq
namespace Go.Proofs.YtnickjlnaemjaaaW.PrintWords
open Go.RowKit
section
variable {P : Program} {d : Nat} {xs ys : Array Value} {f : Field} {fs : List Field} {a b : Value} {r s : Bool} {w : World}
end
end Go.Proofs.YtnickjlnaemjaaaW.PrintWords
