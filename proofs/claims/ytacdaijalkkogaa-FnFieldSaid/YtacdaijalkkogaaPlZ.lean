import Derived.Test.YtacdaijalkkogaaPl
import Derived.Test.YtacdaijalkkogaaQxNegRat
import Derived.Test.YtacdaijalkkogaaQxCmpRat
namespace Go.Proofs.Ytacdaijalkkogaa.Pl
open Go.RowKit Go.Proofs.Ytacdaijalkkogaa.Q Go.Proofs.Ytacdaijalkkogaa.Pn Go.Proofs.YtacdaijalkkogaaW.PrintWords Go.Proofs.YtacdaijalkkogaaW.PrintLast Go.Proofs.YtacdaijalkkogaaW.PrintMore
set_option linter.unusedVariables false
set_option linter.unusedSimpArgs false

def negAns (r : R3) : R4 := if ratOKB r = true then ok4 (negZ r) else bad4 1
theorem implNeg_ev (b : Bool) (n d : List Int) : Ev (fun k => impl_NegRat.f k b n d) (negAns (b, n, d)) := by
  obtain ⟨K, e⟩ := ratsCode1 b n d
  refine ⟨K, fun k hk => ?_⟩
  have e' := e k hk
  simp only at e'
  show impl_NegRat.f k b n d = _
  unfold impl_NegRat.f negAns
  rw [e', Option.bind_some]
  by_cases h : ratOKB (b, n, d) = true
  · have hl := ((ratOKB_iff _).1 h).2
    simp only at hl
    have hn := negE (r := (b, n, d)) (by simp only; omega) (by simp only; omega)
    simp only at hn
    generalize negZ (b, n, d) = p at hn ⊢
    rw [if_pos h, if_pos rfl, if_pos h, hn, Option.bind_some]; rfl
  · rw [if_neg h, if_neg (by omega), if_neg h]; rfl
end Go.Proofs.Ytacdaijalkkogaa.Pl
