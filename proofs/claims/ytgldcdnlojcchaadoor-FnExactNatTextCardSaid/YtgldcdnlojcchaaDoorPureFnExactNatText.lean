/-
The Go program's NatText returns what the reference's returns, for all lists of integers; it leaves its argument alone: the law FnExactNatText holds. Conditions: those of the given row alone.
-/
import Derived.Test.YtgldcdnlojcchaaDoorPrT
import Derived.Test.YtgldcdnlojcchaaDoorQxlawsFnExactNatText
namespace Go.Proofs.YtgldcdnlojcchaaDoor.Pure
open Go.RowKit Go.Proofs.YtgldcdnlojcchaaDoor.Q Go.Proofs.YtgldcdnlojcchaaDoor.Pn Go.Proofs.YtgldcdnlojcchaaDoor.Pl Go.Proofs.YtgldcdnlojcchaaDoorW.PrintWords Go.Proofs.YtgldcdnlojcchaaDoorW.PrintLast
set_option linter.unusedVariables false
set_option linter.unusedSimpArgs false

theorem FnExactNatText : laws_FnExactNatText.Pure := by
  intro l h1 h2 h3
  by_cases hbig : (l.length : Int) > 1048576
  · exact ⟨0, by unfold laws_FnExactNatText.f; rw [if_pos hbig]⟩
  obtain ⟨K0, e0⟩ := toIntS_ev l (by omega)
  obtain ⟨K1, e1⟩ := specText_ev l (by omega)
  obtain ⟨K2, e2⟩ := implText_ev l
  obtain ⟨K3, e3⟩ := eqIntS_ev l l (by omega)
  generalize textAns l = p at e1 e2
  obtain ⟨K, hK⟩ : ∃ K, K = K0 + K1 + K2 + K3 := ⟨_, rfl⟩
  simp only at e0 e1 e2 e3
  refine ⟨K + 1, ?_⟩
  unfold laws_FnExactNatText.f
  rw [if_neg hbig]
  simp only [e0 (K + 1) (by omega), e1 (K + 1) (by omega), e2 (K + 1) (by omega), e0 K (by omega), e3 K (by omega), Option.bind_some, bne_self_eq_false, if_true, if_false, Bool.false_eq_true, decide_true, laws_FnExactNatText.j0]
end Go.Proofs.YtgldcdnlojcchaaDoor.Pure
