/-
The Go program's RootNat returns what the reference's returns, for all lists of integers; it leaves its arguments alone and what it hands back is new memory: the law FnExactRootNat holds. Conditions: those of the given row alone.
-/
import Derived.Test.YtnickjlnaemjaaaPlR
import Derived.Test.YtnickjlnaemjaaaQxlawsFnExactRootNat
namespace Go.Proofs.Ytnickjlnaemjaaa.Pure
open Go.RowKit Go.Proofs.Ytnickjlnaemjaaa.Q Go.Proofs.Ytnickjlnaemjaaa.Pn Go.Proofs.Ytnickjlnaemjaaa.Pl Go.Proofs.YtnickjlnaemjaaaW.PrintWords Go.Proofs.YtnickjlnaemjaaaW.PrintLast
set_option linter.unusedVariables false
set_option linter.unusedSimpArgs false

set_option maxHeartbeats 2000000 in
theorem FnExactRootNat : laws_FnExactRootNat.Pure := by
  intro a h1 h2 h3
  by_cases hbig : (a.length : Int) > 1048576
  · exact ⟨0, by unfold laws_FnExactRootNat.f; rw [if_pos hbig]⟩
  obtain ⟨p, hp⟩ : ∃ p, p = rootAns a := ⟨_, rfl⟩
  have hlen : p.1.length ≤ 40 := by rw [hp]; exact rootAns_len a
  obtain ⟨K0, e0⟩ := toIntS_ev a (by omega)
  obtain ⟨K1, e1⟩ := eqIntS_ev a a (by omega)
  obtain ⟨K2, e2⟩ := specRoot_ev a (by omega)
  obtain ⟨K3, e3⟩ := implRoot_ev a
  obtain ⟨K4, e4⟩ := eqIntS_ev p.1 p.1 (by omega)
  obtain ⟨K5, e5⟩ := mark_ev a 1 (by omega) (by omega) (by omega)
  obtain ⟨K6, e6⟩ := mark_ev p.1 1 (by omega) (by omega) (by omega)
  obtain ⟨K7, e7⟩ := held_ev p.1.length 1 (by omega) (by omega) (by omega)
  rw [← hp] at e2 e3
  obtain ⟨K, hK⟩ : ∃ K, K = K0 + K1 + K2 + K3 + K4 + K5 + K6 + K7 := ⟨_, rfl⟩
  simp only at e0 e1 e2 e3 e4 e5 e6 e7
  refine ⟨K + 4, ?_⟩
  unfold laws_FnExactRootNat.f
  rw [if_neg hbig]
  have n1 : ¬ (1 + (a.length : Int)) < 0 := by omega
  have n3 : ¬ (1 + (p.1.length : Int)) < 0 := by omega
  simp only [e0 (K + 4) (by omega), e1 (K + 4) (by omega), e2 (K + 4) (by omega), e3 (K + 4) (by omega), e4 (K + 4) (by omega), e5 (K + 4) (by omega), e6 (K + 4) (by omega), e7 (K + 4) (by omega), e0 (K + 3) (by omega), e1 (K + 3) (by omega), e2 (K + 3) (by omega), e3 (K + 3) (by omega), e4 (K + 3) (by omega), e5 (K + 3) (by omega), e6 (K + 3) (by omega), e7 (K + 3) (by omega), e0 (K + 2) (by omega), e1 (K + 2) (by omega), e2 (K + 2) (by omega), e3 (K + 2) (by omega), e4 (K + 2) (by omega), e5 (K + 2) (by omega), e6 (K + 2) (by omega), e7 (K + 2) (by omega), e0 (K + 1) (by omega), e1 (K + 1) (by omega), e2 (K + 1) (by omega), e3 (K + 1) (by omega), e4 (K + 1) (by omega), e5 (K + 1) (by omega), e6 (K + 1) (by omega), e7 (K + 1) (by omega), Option.bind_some, bne_self_eq_false, if_true, if_false, Bool.false_eq_true, decide_true, n1, n3, laws_FnExactRootNat.j0, laws_FnExactRootNat.j1, laws_FnExactRootNat.j2]

end Go.Proofs.Ytnickjlnaemjaaa.Pure
