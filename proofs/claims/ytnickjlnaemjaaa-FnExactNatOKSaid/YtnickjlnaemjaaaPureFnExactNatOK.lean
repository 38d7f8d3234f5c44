/-
The Go program's NatOK tells the same as the reference's, for every list of integers, and leaves the list alone: the law FnExactNatOK holds. Conditions: those of the given row alone.
-/
import Derived.Test.YtnickjlnaemjaaaPlA
namespace Go.Proofs.Ytnickjlnaemjaaa.Pure
open Go.RowKit Go.Proofs.Ytnickjlnaemjaaa.Q Go.Proofs.Ytnickjlnaemjaaa.Pn Go.Proofs.Ytnickjlnaemjaaa.Pl Go.Proofs.YtnickjlnaemjaaaW.PrintWords Go.Proofs.YtnickjlnaemjaaaW.PrintLast
set_option linter.unusedVariables false
set_option linter.unusedSimpArgs false

theorem FnExactNatOK : laws_FnExactNatOK.Pure := by
  intro a h1 h2 h3
  by_cases hbig : (a.length : Int) > 1048576
  · exact ⟨0, by unfold laws_FnExactNatOK.f; rw [if_pos hbig]⟩
  · obtain ⟨K1, e1⟩ := toIntS_ev a (by omega)
    obtain ⟨K2, e2⟩ := specNatOK_ev a (by omega)
    obtain ⟨K3, e3⟩ := eqIntS_ev a a (by omega)
    refine ⟨K1 + K2 + K3, ?_⟩
    have e1 := e1 (K1 + K2 + K3) (by omega)
    have e2 := e2 (K1 + K2 + K3) (by omega)
    have e3 := e3 (K1 + K2 + K3) (by omega)
    simp only at e1 e2 e3
    unfold laws_FnExactNatOK.f
    rw [if_neg hbig]
    simp only [e1, e2, e3, Option.bind_some, impl_NatOK.f, bne_self_eq_false, Bool.false_eq_true, if_false, decide_true, if_true]

end Go.Proofs.Ytnickjlnaemjaaa.Pure
