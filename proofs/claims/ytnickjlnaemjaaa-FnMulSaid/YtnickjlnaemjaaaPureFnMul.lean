/-
The Go program's products go over sums, in any order, for all that is drawn: the law FnMul holds. Conditions: those of the given row alone.
-/
import Derived.Test.YtnickjlnaemjaaaPlM
import Derived.Test.YtnickjlnaemjaaaQxlawsFnMul
namespace Go.Proofs.Ytnickjlnaemjaaa.Pure
open Go.RowKit Go.Proofs.Ytnickjlnaemjaaa.Q Go.Proofs.Ytnickjlnaemjaaa.Pn Go.Proofs.Ytnickjlnaemjaaa.Pl Go.Proofs.YtnickjlnaemjaaaW.PrintWords Go.Proofs.YtnickjlnaemjaaaW.PrintLast
set_option linter.unusedVariables false
set_option linter.unusedSimpArgs false

theorem FnMul : laws_FnMul.Pure := by
  intro l0 l1 h1 h2 h3 g1 g2 g3
  by_cases hbig : (l0.length : Int) > 1048576
  · exact ⟨1, by unfold laws_FnMul.f; rw [if_pos hbig]; rfl⟩
  by_cases hbig2 : (l1.length : Int) > 1048576
  · exact ⟨1, by unfold laws_FnMul.f; rw [if_neg hbig, decide_eq_true hbig2]; rfl⟩
  have b0 := by_wf h3
  have b1 := by_wf g3
  have b2 : By ([7] ++ l1) := by
    intro x hx
    rcases List.mem_append.1 hx with hx | hx
    · simp at hx; subst hx; omega
    · exact b1 x hx
  obtain ⟨A, ⟨K1, e1⟩, hA⟩ := drawnN b0 (by omega)
  obtain ⟨B, ⟨K2, e2⟩, hB⟩ := drawnN b1 (by omega)
  obtain ⟨C, ⟨K3, e3⟩, hC⟩ := drawnN b2 (by simp; omega)
  have p4 : (10000 : Int) ^ 4 = 10000000000000000 := by decide
  have p40 : (100000000000000000000000000000000000000000000000000 : Int) < 10000 ^ 40 := by decide
  rw [p4] at hA hB hC
  generalize hP : (10000 : Int) ^ 40 = P at p40
  have mAB := mul_lt' hA hB
  have mCA := mul_lt' hC hA
  have eS : A * (B + C) = A * B + C * A := by rw [Int.mul_add, Int.mul_comm A C]
  obtain ⟨K4, e4⟩ := implAdd_ev (nat B) (nat C)
  rw [addN (by rw [hP]; omega) (by rw [hP]; omega) (by rw [hP]; omega)] at e4
  obtain ⟨K5, e5⟩ := implMul_ev (nat A) (nat (B + C))
  rw [mulN (by rw [hP]; omega) (by rw [hP]; omega) (by rw [hP, eS]; omega)] at e5
  obtain ⟨K6, e6⟩ := implMul_ev (nat A) (nat B)
  rw [mulN (by rw [hP]; omega) (by rw [hP]; omega) (by rw [hP]; omega)] at e6
  have l7 := nat_len40 (n := A) (by rw [hP]; omega)
  have l8 := nat_len40 (n := B) (by rw [hP]; omega)
  have l9 := nat_len40 (n := A * B) (by rw [hP]; omega)
  have l10 := nat_len40 (n := A * (B + C)) (by rw [hP, eS]; omega)
  obtain ⟨K7, e7⟩ := specMul_ev (nat A) (nat B) (by omega) (by omega)
  rw [mulN (by rw [hP]; omega) (by rw [hP]; omega) (by rw [hP]; omega)] at e7
  obtain ⟨K8, e8⟩ := implMul_ev (nat C) (nat A)
  rw [mulN (by rw [hP]; omega) (by rw [hP]; omega) (by rw [hP]; omega)] at e8
  obtain ⟨K9, e9⟩ := implAdd_ev (nat (A * B)) (nat (C * A))
  rw [addN (by rw [hP]; omega) (by rw [hP]; omega) (by rw [hP]; omega)] at e9
  obtain ⟨K10, e10⟩ := sameInts_ev (nat (A * B)) (nat (A * B)) (by omega)
  obtain ⟨K11, e11⟩ := sameInts_ev (nat (A * (B + C))) (nat (A * B + C * A)) (by omega)
  have e12 : impl_NatOK.f (nat (A * (B + C))) = some true := by
    unfold impl_NatOK.f; rw [natOK_nat (by rw [hP, eS]; omega)]
  rw [eS] at e11 e12 e5
  rw [decide_eq_true rfl] at e10 e11
  obtain ⟨K, hK⟩ : ∃ K, K = K1 + K2 + K3 + K4 + K5 + K6 + K7 + K8 + K9 + K10 + K11 := ⟨_, rfl⟩
  refine ⟨K + 1, ?_⟩
  unfold laws_FnMul.f
  rw [if_neg hbig, decide_eq_false hbig2]
  have n1 : ([7] : List Int).length + l1.length < 140737488355328 := by simp; omega
  simp only at e1 e2 e3 e4 e5 e6 e7 e8 e9 e10 e11
  simp only [laws_FnMul.j0, Bool.false_eq_true, if_false, if_true, Option.bind_some, e1 K (by omega), e2 K (by omega), e3 K (by omega), e4 K (by omega), e5 K (by omega), e6 K (by omega), e7 K (by omega), e8 K (by omega), e9 K (by omega), e10 K (by omega), e11 K (by omega), e12, if_pos n1]

end Go.Proofs.Ytnickjlnaemjaaa.Pure
