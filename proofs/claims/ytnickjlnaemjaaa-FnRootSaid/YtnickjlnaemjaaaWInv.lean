-- cut down by a program of this claim's session (shake.py) from what the kit's print wrote for this seat; what the claim does not use is left out; Lean checks it.
import Derived.Test.YtnickjlnaemjaaaWTab
namespace Go.Proofs.YtnickjlnaemjaaaW.PrintLast
section
variable {P : Program} {ops : Array Oper} {Q : Exit → Act → World → Prop} {md : Region.Mode} {T : Bool × List (List Nat × List Nat)} {B : List Nat} {O : List Nat} {b : Nat → Bool} {i j n : Nat}
end
end Go.Proofs.YtnickjlnaemjaaaW.PrintLast
