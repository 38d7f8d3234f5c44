import Derived.Test.YtacdaijalkkogaaPlW
import Derived.Test.YtacdaijalkkogaaQxrim
import Derived.Test.YtacdaijalkkogaaQxrin
import Derived.Test.YtacdaijalkkogaaQxrsp
import Derived.Test.YtacdaijalkkogaaQxrsq
namespace Go.Proofs.Ytacdaijalkkogaa.Pl
open Go.RowKit Go.Proofs.Ytacdaijalkkogaa.Q Go.Proofs.Ytacdaijalkkogaa.Pn Go.Proofs.YtacdaijalkkogaaW.PrintWords Go.Proofs.YtacdaijalkkogaaW.PrintLast
set_option linter.unusedVariables false
set_option linter.unusedSimpArgs false

abbrev R3 := Bool × List Int × List Int
def negZ (r : R3) : R3 := (!r.1 && !decide (r.2.1 = []), r.2.1, r.2.2)
theorem negE {r : R3} (h1 : r.2.1.length ≤ 1000000) (h2 : r.2.2.length ≤ 1000000) : impl_Rat_neg.f r.1 r.2.1 r.2.2 = some (negZ r) := by
  unfold impl_Rat_neg.f negZ
  simp only [clone_nat h1, clone_nat h2, impl_Rat_isZero.f, Option.bind_some]
  cases r.1 with
  | true => simp
  | false =>
    simp only [Bool.false_eq_true, if_false, Bool.not_false, Bool.true_and]
    by_cases h : r.2.1 = []
    · simp [h]
    · have : ((r.2.1.length : Int) == 0) = false := beq_eq_false_iff_ne.2 (fun z => h ((len0' _).1 z))
      simp [h, this]
theorem negRE (r : R3) : spec_l02Neg.f r.1 r.2.1 r.2.2 = some (negZ r) := by
  unfold spec_l02Neg.f negZ
  cases r.1 with
  | true => simp
  | false =>
    simp only [Bool.false_eq_true, if_false, Bool.not_false, Bool.true_and]
    by_cases h : r.2.1 = []
    · simp [h]
    · have h2 : (r.2.1.length : Int) > 0 := by
        have : ¬ (r.2.1.length : Int) = 0 := fun z => h ((len0' _).1 z)
        omega
      have h3 : 0 < r.2.1.length := by omega
      simp [h, h3]
end Go.Proofs.Ytacdaijalkkogaa.Pl
