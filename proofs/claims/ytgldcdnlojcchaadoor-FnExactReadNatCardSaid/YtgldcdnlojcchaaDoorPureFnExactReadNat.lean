/-
The Go program's ReadNat returns what the reference's returns, for all texts; what it hands back is new memory: the law FnExactReadNat holds. Conditions: those of the given row alone.
-/
import Derived.Test.YtgldcdnlojcchaaDoorPrB
import Derived.Test.YtgldcdnlojcchaaDoorQxlawsFnExactReadNat
namespace Go.Proofs.YtgldcdnlojcchaaDoor.Pure
open Go.RowKit Go.Proofs.YtgldcdnlojcchaaDoor.Q Go.Proofs.YtgldcdnlojcchaaDoor.Pn Go.Proofs.YtgldcdnlojcchaaDoor.Pl Go.Proofs.YtgldcdnlojcchaaDoorW.PrintWords Go.Proofs.YtgldcdnlojcchaaDoorW.PrintLast
set_option linter.unusedVariables false
set_option linter.unusedSimpArgs false

theorem FnExactReadNat : laws_FnExactReadNat.Pure := by
  intro s hs
  by_cases hbig : (s.size : Int) > 1048576
  · exact ⟨0, by unfold laws_FnExactReadNat.f; rw [if_pos hbig]⟩
  have hl := rnAns_len s
  obtain ⟨K1, e1⟩ := specRN_ev s
  obtain ⟨K2, e2⟩ := implRN_ev s (by omega)
  generalize rnAns s = p at e1 e2 hl
  obtain ⟨K3, e3⟩ := eqIntS_ev p.1 p.1 (by omega)
  obtain ⟨K4, e4⟩ := mark_ev p.1 1 (by omega) (by omega) (by omega)
  obtain ⟨K5, e5⟩ := held_ev p.1.length 1 (by omega) (by omega) (by omega)
  obtain ⟨K, hK⟩ : ∃ K, K = K1 + K2 + K3 + K4 + K5 := ⟨_, rfl⟩
  simp only at e1 e2 e3 e4 e5
  refine ⟨K + 2, ?_⟩
  have n1 : ¬ (1 + (p.1.length : Int)) < 0 := by omega
  unfold laws_FnExactReadNat.f
  rw [if_neg hbig]
  simp only [e1 (K + 2) (by omega), e2 (K + 2) (by omega), e3 (K + 2) (by omega), e4 (K + 2) (by omega), e5 (K + 2) (by omega), e1 (K + 1) (by omega), e2 (K + 1) (by omega), e3 (K + 1) (by omega), e4 (K + 1) (by omega), e5 (K + 1) (by omega), e5 K (by omega), Option.bind_some, bne_self_eq_false, if_true, if_false, Bool.false_eq_true, decide_true, n1, laws_FnExactReadNat.j0, laws_FnExactReadNat.j1]

end Go.Proofs.YtgldcdnlojcchaaDoor.Pure
