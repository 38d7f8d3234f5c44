/-
The Go program's PowRat returns what the reference's returns, for all arguments; it leaves its argument alone and what it hands back is new memory: the law FnExactPowRat holds. Conditions: those of the given row alone.
-/
import Derived.Test.YtacdaijalkkogaaPlZp
import Derived.Test.YtacdaijalkkogaaQxlawsFnExactPowRat
namespace Go.Proofs.Ytacdaijalkkogaa.Pure
open Go.RowKit Go.Proofs.Ytacdaijalkkogaa.Q Go.Proofs.Ytacdaijalkkogaa.Pn Go.Proofs.Ytacdaijalkkogaa.Pl Go.Proofs.YtacdaijalkkogaaW.PrintWords Go.Proofs.YtacdaijalkkogaaW.PrintLast
set_option linter.unusedVariables false
set_option linter.unusedSimpArgs false

set_option maxHeartbeats 2000000 in
theorem FnExactPowRat : laws_FnExactPowRat.Pure := by
  intro b n d m ⟨_, ⟨h1, _⟩, ⟨h2, _⟩⟩ _
  have hz := szRat_f b n d 1048576 (by omega) h1 h2
  by_cases hbig : szR n d 1048576 < 0
  · exact ⟨0, by unfold laws_FnExactPowRat.f; rw [hz, Option.bind_some, if_pos hbig]⟩
  have hl : n.length ≤ 1048576 ∧ d.length ≤ 1048576 := by unfold szR at hbig; split at hbig <;> omega
  obtain ⟨p, hp⟩ : ∃ p, p = powAns (b, n, d) m := ⟨_, rfl⟩
  have hlen : p.2.1.length ≤ 40 ∧ p.2.2.1.length ≤ 40 := by rw [hp]; exact powAns_len _ _
  obtain ⟨K0, e0⟩ := toRat_ev b n d hl.1 hl.2
  obtain ⟨K1, e1⟩ := specPow_ev b n d m hl.1 hl.2
  obtain ⟨K2, e2⟩ := implPow_ev b n d m
  obtain ⟨K3, e3⟩ := eqRat_self (p.1, p.2.1, p.2.2.1) (by simp only; omega) (by simp only; omega)
  obtain ⟨K4, e4⟩ := eqRat_self (b, n, d) (by simp only; omega) (by simp only; omega)
  obtain ⟨K5, e5⟩ := markRat_ev b n d 1 (by omega) (by omega) (by omega) (by omega)
  obtain ⟨K6, e6⟩ := markRat_ev p.1 p.2.1 p.2.2.1 1 (by omega) (by omega) (by omega) (by omega)
  obtain ⟨K7, e7⟩ := heldRat_ev p.1 p.2.1.length p.2.2.1.length 1 (by omega) (by omega) (by omega) (by omega)
  rw [← hp] at e1 e2
  obtain ⟨K, hK⟩ : ∃ K, K = K0 + K1 + K2 + K3 + K4 + K5 + K6 + K7 := ⟨_, rfl⟩
  simp only at e0 e1 e2 e3 e4 e5 e6 e7
  have n1 : ¬ (1 + (n.length : Int) + (d.length : Int)) < 0 := by omega
  have n2 : ¬ (1 + (p.2.1.length : Int) + (p.2.2.1.length : Int)) < 0 := by omega
  clear hp
  refine ⟨K + 4, ?_⟩
  unfold laws_FnExactPowRat.f
  rw [hz, Option.bind_some, if_neg hbig]
  simp only [e0 (K + 4) (by omega), e1 (K + 4) (by omega), e2 (K + 4) (by omega), e3 (K + 4) (by omega), e4 (K + 4) (by omega), e5 (K + 4) (by omega), e6 (K + 4) (by omega), e7 (K + 4) (by omega), e0 (K + 3) (by omega), e1 (K + 3) (by omega), e2 (K + 3) (by omega), e3 (K + 3) (by omega), e4 (K + 3) (by omega), e5 (K + 3) (by omega), e6 (K + 3) (by omega), e7 (K + 3) (by omega), e0 (K + 2) (by omega), e1 (K + 2) (by omega), e2 (K + 2) (by omega), e3 (K + 2) (by omega), e4 (K + 2) (by omega), e5 (K + 2) (by omega), e6 (K + 2) (by omega), e7 (K + 2) (by omega), e0 (K + 1) (by omega), e1 (K + 1) (by omega), e2 (K + 1) (by omega), e3 (K + 1) (by omega), e4 (K + 1) (by omega), e5 (K + 1) (by omega), e6 (K + 1) (by omega), e7 (K + 1) (by omega), Option.bind_some, bne_self_eq_false, if_true, if_false, Bool.false_eq_true, n1, n2, laws_FnExactPowRat.j0, laws_FnExactPowRat.j1, laws_FnExactPowRat.j2]

end Go.Proofs.Ytacdaijalkkogaa.Pure
