/-
The Go program's SubRat returns what the reference's returns, for all rationals; it leaves its arguments alone and what it hands back is new memory: the law FnExactSubRat holds. Conditions: those of the given row alone.
-/
import Derived.Test.YtacdaijalkkogaaPlZSub
import Derived.Test.YtacdaijalkkogaaQxlawsFnExactSubRat
namespace Go.Proofs.Ytacdaijalkkogaa.Pure
open Go.RowKit Go.Proofs.Ytacdaijalkkogaa.Q Go.Proofs.Ytacdaijalkkogaa.Pn Go.Proofs.Ytacdaijalkkogaa.Pl Go.Proofs.YtacdaijalkkogaaW.PrintWords Go.Proofs.YtacdaijalkkogaaW.PrintLast
set_option linter.unusedVariables false
set_option linter.unusedSimpArgs false

set_option maxHeartbeats 4000000 in
theorem FnExactSubRat : laws_FnExactSubRat.Pure := by
  intro b n d b' n' d' ⟨_, ⟨h1, _⟩, ⟨h2, _⟩⟩ ⟨_, ⟨h3, _⟩, ⟨h4, _⟩⟩
  have hz := szRat_f b n d 1048576 (by omega) h1 h2
  by_cases hbig : szR n d 1048576 < 0
  · exact ⟨0, by unfold laws_FnExactSubRat.f; rw [hz, Option.bind_some, if_pos hbig]⟩
  have hl : n.length ≤ 1048576 ∧ d.length ≤ 1048576 ∧ szR n d 1048576 ≤ 1048576 := by unfold szR at hbig ⊢; split at hbig <;> (rename_i q; simp only [q, if_true, if_false]; omega)
  have hz2 := szRat_f b' n' d' (szR n d 1048576) (by omega) h3 h4
  by_cases hbig2 : szR n' d' (szR n d 1048576) < 0
  · exact ⟨0, by unfold laws_FnExactSubRat.f; rw [hz, Option.bind_some, if_neg hbig, hz2, Option.bind_some, if_pos hbig2]⟩
  have hl2 : n'.length ≤ 1048576 ∧ d'.length ≤ 1048576 := by
    generalize szR n d 1048576 = q at *
    unfold szR at hbig2; split at hbig2 <;> omega
  obtain ⟨p, hp⟩ : ∃ p, p = twoAns (fun r s => addZ r (negZ s)) (b, n, d) (b', n', d') := ⟨_, rfl⟩
  have hlen : p.2.1.length ≤ 40 ∧ p.2.2.1.length ≤ 40 := by rw [hp]; exact twoAns_len _ _ _
  obtain ⟨K0, e0⟩ := toRat_ev b n d hl.1 hl.2.1
  obtain ⟨K1, e1⟩ := toRat_ev b' n' d' hl2.1 hl2.2
  obtain ⟨K2, e2⟩ := specSub_ev b n d b' n' d' hl.1 hl.2.1 hl2.1 hl2.2
  obtain ⟨K3, e3⟩ := implSub_ev b n d b' n' d'
  obtain ⟨K4, e4⟩ := eqRat_self (p.1, p.2.1, p.2.2.1) (by simp only; omega) (by simp only; omega)
  obtain ⟨K5, e5⟩ := eqRat_self (b, n, d) (by simp only; omega) (by simp only; omega)
  obtain ⟨K6, e6⟩ := eqRat_self (b', n', d') (by simp only; omega) (by simp only; omega)
  obtain ⟨K7, e7⟩ := markRat_ev b n d 1 (by omega) (by omega) (by omega) (by omega)
  obtain ⟨K8, e8⟩ := markRat_ev b' n' d' (1 + (n.length : Int) + (d.length : Int)) (by omega) (by omega) (by omega) (by omega)
  obtain ⟨K9, e9⟩ := markRat_ev p.1 p.2.1 p.2.2.1 1 (by omega) (by omega) (by omega) (by omega)
  obtain ⟨K10, e10⟩ := heldRat_ev p.1 p.2.1.length p.2.2.1.length 1 (by omega) (by omega) (by omega) (by omega)
  rw [← hp] at e2 e3
  clear hp
  obtain ⟨K, hK⟩ : ∃ K, K = K0 + K1 + K2 + K3 + K4 + K5 + K6 + K7 + K8 + K9 + K10 := ⟨_, rfl⟩
  simp only at e0 e1 e2 e3 e4 e5 e6 e7 e8 e9 e10
  have n1 : ¬ (1 + (n.length : Int) + (d.length : Int) + (n'.length : Int) + (d'.length : Int)) < 0 := by omega
  have n2 : ¬ (1 + (p.2.1.length : Int) + (p.2.2.1.length : Int)) < 0 := by omega
  refine ⟨K + 4, ?_⟩
  have f0_4 := e0 (K + 4) (by omega)
  have f1_4 := e1 (K + 4) (by omega)
  have f2_4 := e2 (K + 4) (by omega)
  have f3_4 := e3 (K + 4) (by omega)
  have f4_4 := e4 (K + 4) (by omega)
  have f5_4 := e5 (K + 4) (by omega)
  have f6_4 := e6 (K + 4) (by omega)
  have f7_4 := e7 (K + 4) (by omega)
  have f8_4 := e8 (K + 4) (by omega)
  have f9_4 := e9 (K + 4) (by omega)
  have f10_4 := e10 (K + 4) (by omega)
  have f0_3 := e0 (K + 3) (by omega)
  have f1_3 := e1 (K + 3) (by omega)
  have f2_3 := e2 (K + 3) (by omega)
  have f3_3 := e3 (K + 3) (by omega)
  have f4_3 := e4 (K + 3) (by omega)
  have f5_3 := e5 (K + 3) (by omega)
  have f6_3 := e6 (K + 3) (by omega)
  have f7_3 := e7 (K + 3) (by omega)
  have f8_3 := e8 (K + 3) (by omega)
  have f9_3 := e9 (K + 3) (by omega)
  have f10_3 := e10 (K + 3) (by omega)
  have f0_2 := e0 (K + 2) (by omega)
  have f1_2 := e1 (K + 2) (by omega)
  have f2_2 := e2 (K + 2) (by omega)
  have f3_2 := e3 (K + 2) (by omega)
  have f4_2 := e4 (K + 2) (by omega)
  have f5_2 := e5 (K + 2) (by omega)
  have f6_2 := e6 (K + 2) (by omega)
  have f7_2 := e7 (K + 2) (by omega)
  have f8_2 := e8 (K + 2) (by omega)
  have f9_2 := e9 (K + 2) (by omega)
  have f10_2 := e10 (K + 2) (by omega)
  have f0_1 := e0 (K + 1) (by omega)
  have f1_1 := e1 (K + 1) (by omega)
  have f2_1 := e2 (K + 1) (by omega)
  have f3_1 := e3 (K + 1) (by omega)
  have f4_1 := e4 (K + 1) (by omega)
  have f5_1 := e5 (K + 1) (by omega)
  have f6_1 := e6 (K + 1) (by omega)
  have f7_1 := e7 (K + 1) (by omega)
  have f8_1 := e8 (K + 1) (by omega)
  have f9_1 := e9 (K + 1) (by omega)
  have f10_1 := e10 (K + 1) (by omega)
  unfold laws_FnExactSubRat.f
  rw [hz, Option.bind_some, if_neg hbig, hz2, Option.bind_some, if_neg hbig2]
  simp only [f0_4, f1_4, f2_4, f3_4, f4_4, f5_4, f6_4, f7_4, f8_4, f9_4, f10_4, f0_3, f1_3, f2_3, f3_3, f4_3, f5_3, f6_3, f7_3, f8_3, f9_3, f10_3, f0_2, f1_2, f2_2, f3_2, f4_2, f5_2, f6_2, f7_2, f8_2, f9_2, f10_2, f0_1, f1_1, f2_1, f3_1, f4_1, f5_1, f6_1, f7_1, f8_1, f9_1, f10_1, Option.bind_some, bne_self_eq_false, if_true, if_false, Bool.false_eq_true, n1, n2, laws_FnExactSubRat.j0, laws_FnExactSubRat.j1, laws_FnExactSubRat.j2]

end Go.Proofs.Ytacdaijalkkogaa.Pure
