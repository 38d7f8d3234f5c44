/-
The Go program's GcdNat returns what the reference's returns, for all lists of integers; it leaves its arguments alone and what it hands back is new memory: the law FnExactGcdNat holds. Conditions: those of the given row alone.
-/
import Derived.Test.YtnickjlnaemjaaaPlH
import Derived.Test.YtnickjlnaemjaaaQxlawsFnExactGcdNat
namespace Go.Proofs.Ytnickjlnaemjaaa.Pure
open Go.RowKit Go.Proofs.Ytnickjlnaemjaaa.Q Go.Proofs.Ytnickjlnaemjaaa.Pn Go.Proofs.Ytnickjlnaemjaaa.Pl Go.Proofs.YtnickjlnaemjaaaW.PrintWords Go.Proofs.YtnickjlnaemjaaaW.PrintLast
set_option linter.unusedVariables false
set_option linter.unusedSimpArgs false

set_option maxHeartbeats 2000000 in
theorem FnExactGcdNat : laws_FnExactGcdNat.Pure := by
  intro a b h1 h2 h3 g1 g2 g3
  by_cases hbig : (a.length : Int) > 1048576
  · exact ⟨0, by unfold laws_FnExactGcdNat.f; rw [if_pos hbig]⟩
  by_cases hbig2 : (b.length : Int) > 1048576
  · exact ⟨0, by unfold laws_FnExactGcdNat.f; rw [if_neg hbig, if_pos hbig2]⟩
  obtain ⟨p, hp⟩ : ∃ p, p = gcdAns a b := ⟨_, rfl⟩
  have hlen : p.1.length ≤ 40 := by rw [hp]; exact gcdAns_len a b
  obtain ⟨K0, e0⟩ := toIntS_ev a (by omega)
  obtain ⟨K1, e1⟩ := eqIntS_ev a a (by omega)
  obtain ⟨K2, e2⟩ := specGcd_ev a b (by omega) (by omega)
  obtain ⟨K3, e3⟩ := implGcd_ev a b
  obtain ⟨K4, e4⟩ := eqIntS_ev p.1 p.1 (by omega)
  obtain ⟨K5, e5⟩ := mark_ev a 1 (by omega) (by omega) (by omega)
  obtain ⟨K6, e6⟩ := mark_ev p.1 1 (by omega) (by omega) (by omega)
  obtain ⟨K7, e7⟩ := held_ev p.1.length 1 (by omega) (by omega) (by omega)
  obtain ⟨K8, e8⟩ := toIntS_ev b (by omega)
  obtain ⟨K9, e9⟩ := eqIntS_ev b b (by omega)
  obtain ⟨K10, e10⟩ := mark_ev b (1 + a.length) (by omega) (by omega) (by omega)
  rw [← hp] at e2 e3
  obtain ⟨K, hK⟩ : ∃ K, K = K0 + K1 + K2 + K3 + K4 + K5 + K6 + K7 + K8 + K9 + K10 := ⟨_, rfl⟩
  simp only at e0 e1 e2 e3 e4 e5 e6 e7 e8 e9 e10
  refine ⟨K + 4, ?_⟩
  unfold laws_FnExactGcdNat.f
  rw [if_neg hbig, if_neg hbig2]
  have n1 : ¬ (1 + (a.length : Int)) < 0 := by omega
  have n2 : ¬ (1 + (a.length : Int) + (b.length : Int)) < 0 := by omega
  have n3 : ¬ (1 + (p.1.length : Int)) < 0 := by omega
  simp only [e0 (K + 4) (by omega), e1 (K + 4) (by omega), e2 (K + 4) (by omega), e3 (K + 4) (by omega), e4 (K + 4) (by omega), e5 (K + 4) (by omega), e6 (K + 4) (by omega), e7 (K + 4) (by omega), e8 (K + 4) (by omega), e9 (K + 4) (by omega), e10 (K + 4) (by omega), e0 (K + 3) (by omega), e1 (K + 3) (by omega), e2 (K + 3) (by omega), e3 (K + 3) (by omega), e4 (K + 3) (by omega), e5 (K + 3) (by omega), e6 (K + 3) (by omega), e7 (K + 3) (by omega), e8 (K + 3) (by omega), e9 (K + 3) (by omega), e10 (K + 3) (by omega), e0 (K + 2) (by omega), e1 (K + 2) (by omega), e2 (K + 2) (by omega), e3 (K + 2) (by omega), e4 (K + 2) (by omega), e5 (K + 2) (by omega), e6 (K + 2) (by omega), e7 (K + 2) (by omega), e8 (K + 2) (by omega), e9 (K + 2) (by omega), e10 (K + 2) (by omega), e0 (K + 1) (by omega), e1 (K + 1) (by omega), e2 (K + 1) (by omega), e3 (K + 1) (by omega), e4 (K + 1) (by omega), e5 (K + 1) (by omega), e6 (K + 1) (by omega), e7 (K + 1) (by omega), e8 (K + 1) (by omega), e9 (K + 1) (by omega), e10 (K + 1) (by omega), Option.bind_some, bne_self_eq_false, if_true, if_false, Bool.false_eq_true, decide_true, n1, n2, n3, laws_FnExactGcdNat.j0, laws_FnExactGcdNat.j1, laws_FnExactGcdNat.j2]

end Go.Proofs.Ytnickjlnaemjaaa.Pure
