import Derived.Test.YtnickjlnaemjaaaPlM
import Derived.Test.YtnickjlnaemjaaaPlP
namespace Go.Proofs.Ytnickjlnaemjaaa.Pl
open Go.RowKit Go.Proofs.Ytnickjlnaemjaaa.Q Go.Proofs.Ytnickjlnaemjaaa.Pn Go.Proofs.YtnickjlnaemjaaaW.PrintWords Go.Proofs.YtnickjlnaemjaaaW.PrintLast
set_option linter.unusedVariables false
set_option linter.unusedSimpArgs false

theorem divN {a b : Int} (ha : 0 ≤ a ∧ a < 10000 ^ 40) (hb : 0 < b ∧ b < 10000 ^ 40) : divAns (nat a) (nat b) = (nat (a / b), nat (a % b), 0) := by
  unfold divAns
  rw [if_pos (ask_nat (natOK_nat ha.2) (natOK_nat hb.2)), if_neg (fun e => by have := nat_eq_nil e; omega), vl_nat a ha.1, vl_nat b (by omega)]

end Go.Proofs.Ytnickjlnaemjaaa.Pl
