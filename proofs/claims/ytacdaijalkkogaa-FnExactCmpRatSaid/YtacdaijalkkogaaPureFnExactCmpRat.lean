/-
The Go program's CmpRat returns what the reference's returns, for all rationals; it leaves its arguments alone: the law FnExactCmpRat holds. Conditions: those of the given row alone.
-/
import Derived.Test.YtacdaijalkkogaaPlZ
import Derived.Test.YtacdaijalkkogaaQxlawsFnExactCmpRat
namespace Go.Proofs.Ytacdaijalkkogaa.Pure
open Go.RowKit Go.Proofs.Ytacdaijalkkogaa.Q Go.Proofs.Ytacdaijalkkogaa.Pn Go.Proofs.Ytacdaijalkkogaa.Pl Go.Proofs.YtacdaijalkkogaaW.PrintWords Go.Proofs.YtacdaijalkkogaaW.PrintLast
set_option linter.unusedVariables false
set_option linter.unusedSimpArgs false

theorem FnExactCmpRat : laws_FnExactCmpRat.Pure := by
  intro b n d b' n' d' ⟨_, ⟨h1, _⟩, ⟨h2, _⟩⟩ ⟨_, ⟨h3, _⟩, ⟨h4, _⟩⟩
  have hz := szRat_f b n d 1048576 (by omega) h1 h2
  by_cases hbig : szR n d 1048576 < 0
  · exact ⟨0, by unfold laws_FnExactCmpRat.f; rw [hz, Option.bind_some, if_pos hbig]⟩
  have hl : n.length ≤ 1048576 ∧ d.length ≤ 1048576 ∧ szR n d 1048576 ≤ 1048576 := by unfold szR at hbig ⊢; split at hbig <;> (rename_i q; simp only [q, if_true, if_false]; omega)
  have hz2 := szRat_f b' n' d' (szR n d 1048576) (by omega) h3 h4
  by_cases hbig2 : szR n' d' (szR n d 1048576) < 0
  · exact ⟨0, by unfold laws_FnExactCmpRat.f; rw [hz, Option.bind_some, if_neg hbig, hz2, Option.bind_some, if_pos hbig2]⟩
  have hl2 : n'.length ≤ 1048576 ∧ d'.length ≤ 1048576 := by
    generalize szR n d 1048576 = q at *
    unfold szR at hbig2; split at hbig2 <;> omega
  obtain ⟨p, hp⟩ : ∃ p, p = cmpAns (b, n, d) (b', n', d') := ⟨_, rfl⟩
  obtain ⟨K0, e0⟩ := toRat_ev b n d hl.1 hl.2.1
  obtain ⟨K1, e1⟩ := toRat_ev b' n' d' hl2.1 hl2.2
  obtain ⟨K2, e2⟩ := specCmpR_ev b n d b' n' d' hl.1 hl.2.1 hl2.1 hl2.2
  obtain ⟨K3, e3⟩ := implCmpR_ev b n d b' n' d'
  obtain ⟨K4, e4⟩ := eqRat_self (b, n, d) (by simp only; omega) (by simp only; omega)
  obtain ⟨K5, e5⟩ := eqRat_self (b', n', d') (by simp only; omega) (by simp only; omega)
  rw [← hp] at e2 e3
  clear hp
  obtain ⟨K, hK⟩ : ∃ K, K = K0 + K1 + K2 + K3 + K4 + K5 := ⟨_, rfl⟩
  simp only at e0 e1 e2 e3 e4 e5
  refine ⟨K + 2, ?_⟩
  unfold laws_FnExactCmpRat.f
  rw [hz, Option.bind_some, if_neg hbig, hz2, Option.bind_some, if_neg hbig2]
  simp only [e0 (K + 2) (by omega), e1 (K + 2) (by omega), e2 (K + 2) (by omega), e3 (K + 2) (by omega), e0 (K + 1) (by omega), e1 (K + 1) (by omega), e4 (K + 1) (by omega), e5 (K + 1) (by omega), Option.bind_some, bne_self_eq_false, if_true, if_false, Bool.false_eq_true, laws_FnExactCmpRat.j0]

end Go.Proofs.Ytacdaijalkkogaa.Pure
