/-
The Go program's RatOK returns what the reference's returns, for all rationals; it leaves its argument alone: the law FnExactRatOK holds. Conditions: those of the given row alone.
-/
import Derived.Test.YtacdaijalkkogaaPlW
import Derived.Test.YtacdaijalkkogaaQxlawsFnExactRatOK
namespace Go.Proofs.Ytacdaijalkkogaa.Pure
open Go.RowKit Go.Proofs.Ytacdaijalkkogaa.Q Go.Proofs.Ytacdaijalkkogaa.Pn Go.Proofs.Ytacdaijalkkogaa.Pl Go.Proofs.YtacdaijalkkogaaW.PrintWords Go.Proofs.YtacdaijalkkogaaW.PrintLast
set_option linter.unusedVariables false
set_option linter.unusedSimpArgs false

theorem FnExactRatOK : laws_FnExactRatOK.Pure := by
  intro b n d ⟨_, ⟨h1, _⟩, ⟨h2, _⟩⟩
  have hz := szRat_f b n d 1048576 (by omega) h1 h2
  by_cases hbig : szR n d 1048576 < 0
  · exact ⟨0, by unfold laws_FnExactRatOK.f; rw [hz, Option.bind_some, if_pos hbig]⟩
  have hl : n.length ≤ 1048576 ∧ d.length ≤ 1048576 := by unfold szR at hbig; split at hbig <;> omega
  obtain ⟨K1, e1⟩ := toRat_ev b n d hl.1 hl.2
  obtain ⟨K2, e2⟩ := specRatOK_ev b n d hl.1 hl.2
  obtain ⟨K3, e3⟩ := implRatOK_ev b n d
  obtain ⟨K4, e4⟩ := eqRat_self (b, n, d) (by simp only; omega) (by simp only; omega)
  obtain ⟨K, hK⟩ : ∃ K, K = K1 + K2 + K3 + K4 := ⟨_, rfl⟩
  refine ⟨K, ?_⟩
  simp only at e1 e2 e3 e4
  unfold laws_FnExactRatOK.f
  rw [hz, Option.bind_some, if_neg hbig]
  simp only [e1 K (by omega), e2 K (by omega), e3 K (by omega), e4 K (by omega), Option.bind_some, bne_self_eq_false, Bool.false_eq_true, if_false, if_true]

end Go.Proofs.Ytacdaijalkkogaa.Pure
