-- cut down by a program of this claim's session (shake.py) from what the kit's print wrote for this seat; what the claim does not use is left out; Lean checks it.
import Derived.Test.YtnickjlnaemjaaaWWords
import Derived.Test.YtnickjlnaemjaaaWLast
namespace Go.Proofs.YtnickjlnaemjaaaW.PrintWords
open Go.RowKit
namespace Kd
section
variable {α : Type} {d : Kd α} {e base g o n cap : Nat} {ok okp : Nat → Prop} {w W : World} {v : Value} {xs : List α}
end
section
variable {α : Type} {enc : α → Value} {h1 : ∀ x, (enc x).oneCell' = true} {e base g o n cap : Nat} {ok : Nat → Prop} {W : World} {xs : List α}
end
end Kd
end Go.Proofs.YtnickjlnaemjaaaW.PrintWords
