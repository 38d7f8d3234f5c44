import Derived.Test.YtnickjlnaemjaaaPlA
import Derived.Test.YtnickjlnaemjaaaQxfit
namespace Go.Proofs.Ytnickjlnaemjaaa.Pl
open Go.RowKit Go.Proofs.Ytnickjlnaemjaaa.Q Go.Proofs.Ytnickjlnaemjaaa.Pn Go.Proofs.YtnickjlnaemjaaaW.PrintWords Go.Proofs.YtnickjlnaemjaaaW.PrintLast
set_option linter.unusedVariables false
set_option linter.unusedSimpArgs false

/-- What a call with naturals answers that may be too long. -/
def fit (l : List Int) : List Int × Int := if l.length > 40 then ([], 7) else (l, 0)
theorem implFit (l : List Int) : impl_fullNat.f l = some (fit l) := by
  unfold impl_fullNat.f fit
  by_cases h : l.length > 40
  · rw [if_pos (by omega), if_pos h]
  · rw [if_neg (by omega), if_neg h]
end Go.Proofs.Ytnickjlnaemjaaa.Pl
