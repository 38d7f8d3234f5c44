/-
What the Go program divides is the quotient's product and the rest, which is smaller than the divisor; both are the reference's: the law FnDiv holds. Conditions: those of the given row alone.
-/
import Derived.Test.YtnickjlnaemjaaaPlG
import Derived.Test.YtnickjlnaemjaaaPlO
import Derived.Test.YtnickjlnaemjaaaQxlawsFnDiv
namespace Go.Proofs.Ytnickjlnaemjaaa.Pure
open Go.RowKit Go.Proofs.Ytnickjlnaemjaaa.Q Go.Proofs.Ytnickjlnaemjaaa.Pn Go.Proofs.Ytnickjlnaemjaaa.Pl Go.Proofs.YtnickjlnaemjaaaW.PrintWords Go.Proofs.YtnickjlnaemjaaaW.PrintLast
set_option linter.unusedVariables false
set_option linter.unusedSimpArgs false

theorem FnDiv : laws_FnDiv.Pure := by
  intro l0 l1 h1 h2 h3 g1 g2 g3
  by_cases hbig : (l0.length : Int) > 1048576
  · exact ⟨1, by unfold laws_FnDiv.f; rw [if_pos hbig]; rfl⟩
  by_cases hbig2 : (l1.length : Int) > 1048576
  · exact ⟨1, by unfold laws_FnDiv.f; rw [if_neg hbig, decide_eq_true hbig2]; rfl⟩
  obtain ⟨A, ⟨K1, e1⟩, hA⟩ := drawnN (by_wf h3) (by omega)
  obtain ⟨B, ⟨K2, e2⟩, hB⟩ := drawnN (by_wf g3) (by omega)
  have p4 : (10000 : Int) ^ 4 = 10000000000000000 := by decide
  have p40 : (100000000000000000000000000000000000000000000000000 : Int) < 10000 ^ 40 := by decide
  rw [p4] at hA hB
  generalize hP : (10000 : Int) ^ 40 = P at p40
  have bA : 0 ≤ A ∧ A < 10000 ^ 40 := by rw [hP]; omega
  have bB : 0 ≤ B ∧ B < 10000 ^ 40 := by rw [hP]; omega
  have l7 := nat_len40 bA.2
  have l8 := nat_len40 bB.2
  obtain ⟨K3, e3⟩ := implDiv_ev (nat A) (nat B)
  obtain ⟨K4, e4⟩ := specDiv_ev (nat A) (nat B) (by omega) (by omega)
  by_cases hB0 : B = 0
  · have hd : divAns (nat A) (nat B) = ([], [], 9) := by
      unfold divAns
      rw [if_pos (ask_nat (natOK_nat bA.2) (natOK_nat bB.2)), if_pos (by rw [hB0, nat_zero])]
    rw [hd] at e3
    refine ⟨K1 + K2 + K3 + 1, ?_⟩
    have hl : ((nat B).length : Int) = 0 := by rw [hB0, nat_zero]; rfl
    unfold laws_FnDiv.f
    rw [if_neg hbig, decide_eq_false hbig2]
    simp only at e1 e2 e3
    simp only [laws_FnDiv.j0, Bool.false_eq_true, if_false, Option.bind_some, e1 (K1 + K2 + K3) (by omega), e2 (K1 + K2 + K3) (by omega), e3 (K1 + K2 + K3) (by omega), hl, if_true]; rfl
  · have hp : 0 < B := by omega
    have q0 : 0 ≤ A / B := Int.ediv_nonneg bA.1 (by omega)
    have q1 : A / B ≤ A := Int.ediv_le_self _ bA.1
    have q2 : 0 ≤ A % B := Int.emod_nonneg _ (by omega)
    have q3 : A % B < B := Int.emod_lt_of_pos _ hp
    have q4 : A / B * B + A % B = A := by have := Int.emod_add_mul_ediv A B; rw [Int.mul_comm]; omega
    have q5 : 0 ≤ A / B * B := Int.mul_nonneg q0 (by omega)
    rw [divN bA ⟨hp, bB.2⟩] at e3 e4
    have bQ : 0 ≤ A / B ∧ A / B < 10000 ^ 40 := ⟨q0, by omega⟩
    have bR : 0 ≤ A % B ∧ A % B < 10000 ^ 40 := ⟨q2, by omega⟩
    have bM : 0 ≤ A / B * B ∧ A / B * B < 10000 ^ 40 := ⟨q5, by omega⟩
    obtain ⟨K5, e5⟩ := implMul_ev (nat (A / B)) (nat B)
    rw [mulN bQ bB bM.2] at e5
    obtain ⟨K6, e6⟩ := implAdd_ev (nat (A / B * B)) (nat (A % B))
    rw [addN bM bR (by rw [q4]; exact bA.2), q4] at e6
    obtain ⟨K7, e7⟩ := cmpN bR bB
    have l9 := nat_len40 bQ.2
    have l10 := nat_len40 bR.2
    obtain ⟨K8, e8⟩ := sameInts_ev (nat A) (nat A) (by omega)
    obtain ⟨K9, e9⟩ := sameInts_ev (nat (A / B)) (nat (A / B)) (by omega)
    obtain ⟨K10, e10⟩ := sameInts_ev (nat (A % B)) (nat (A % B)) (by omega)
    rw [decide_eq_true rfl] at e8 e9 e10
    have hc : cmpI (A % B) B = -1 := by unfold cmpI; rw [if_pos q3]
    rw [hc] at e7
    have hl : ¬ ((nat B).length : Int) = 0 := fun e => by have := nat_eq_nil (List.length_eq_zero_iff.1 (by omega : (nat B).length = 0)); omega
    obtain ⟨K, hK⟩ : ∃ K, K = K1 + K2 + K3 + K4 + K5 + K6 + K7 + K8 + K9 + K10 := ⟨_, rfl⟩
    refine ⟨K + 1, ?_⟩
    unfold laws_FnDiv.f
    rw [if_neg hbig, decide_eq_false hbig2]
    simp only at e1 e2 e3 e4 e5 e6 e7 e8 e9 e10
    simp only [laws_FnDiv.j0, Bool.false_eq_true, if_false, if_true, Option.bind_some, e1 K (by omega), e2 K (by omega), e3 K (by omega), e4 K (by omega), e5 K (by omega), e6 K (by omega), e7 K (by omega), e8 K (by omega), e9 K (by omega), e10 K (by omega), if_neg hl]

end Go.Proofs.Ytnickjlnaemjaaa.Pure
