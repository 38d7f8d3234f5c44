/-
A root's square is not greater than the number, and the next one's is; the root is the reference's: the law FnRoot holds. Conditions: those of the given row alone.
-/
import Derived.Test.YtnickjlnaemjaaaPlG
import Derived.Test.YtnickjlnaemjaaaPlR
import Derived.Test.YtnickjlnaemjaaaQxlawsFnRoot
namespace Go.Proofs.Ytnickjlnaemjaaa.Pure
open Go.RowKit Go.Proofs.Ytnickjlnaemjaaa.Q Go.Proofs.Ytnickjlnaemjaaa.Pn Go.Proofs.Ytnickjlnaemjaaa.Pl Go.Proofs.YtnickjlnaemjaaaW.PrintWords Go.Proofs.YtnickjlnaemjaaaW.PrintLast
set_option linter.unusedVariables false
set_option linter.unusedSimpArgs false

theorem FnRoot : laws_FnRoot.Pure := by
  intro l0 h1 h2 h3
  by_cases hbig : (l0.length : Int) > 1048576
  · exact ⟨1, by unfold laws_FnRoot.f; rw [if_pos hbig]⟩
  obtain ⟨A, ⟨K1, e1⟩, hA⟩ := drawnN (by_wf h3) (by omega)
  have p4 : (10000 : Int) ^ 4 = 10000000000000000 := by decide
  have p40 : (100000000000000000000000000000000000000000000000000 : Int) < 10000 ^ 40 := by decide
  rw [p4] at hA
  generalize hP : (10000 : Int) ^ 40 = P at p40
  have bA : 0 ≤ A ∧ A < 10000 ^ 40 := by rw [hP]; omega
  have l7 := nat_len40 bA.2
  obtain ⟨s, hs⟩ : ∃ s, s = rootI A := ⟨_, rfl⟩
  have hr := rootI_rt hA.1
  have hle := rootI_le hA.1
  rw [← hs] at hr hle
  have hd : rootAns (nat A) = (nat s, 0) := by
    unfold rootAns
    rw [if_pos (ask_nat (natOK_nat bA.2) (by rw [← nat_zero]; exact natOK_nat (by rw [hP]; omega))), vl_nat A hA.1, hs]
  have hm1 := mul_lt2 (a := s) (b := s) (X := 100000000000000000) (Y := 100000000000000000) ⟨hr.1, by omega⟩ ⟨hr.1, by omega⟩
  have hm2 := mul_lt2 (a := s + 1) (b := s + 1) (X := 100000000000000000) (Y := 100000000000000000) ⟨by have := hr.1; omega, by omega⟩ ⟨by have := hr.1; omega, by omega⟩
  have bS : 0 ≤ s ∧ s < 10000 ^ 40 := ⟨hr.1, by rw [hP]; omega⟩
  have bT : 0 ≤ s + 1 ∧ s + 1 < 10000 ^ 40 := ⟨by have := hr.1; omega, by rw [hP]; omega⟩
  have bM : 0 ≤ s * s ∧ s * s < 10000 ^ 40 := ⟨hm1.1, by rw [hP]; omega⟩
  have bN : 0 ≤ (s + 1) * (s + 1) ∧ (s + 1) * (s + 1) < 10000 ^ 40 := ⟨hm2.1, by rw [hP]; omega⟩
  obtain ⟨K2, e2⟩ := implRoot_ev (nat A)
  obtain ⟨K3, e3⟩ := specRoot_ev (nat A) (by omega)
  rw [hd] at e2 e3
  obtain ⟨K4, e4⟩ := implMul_ev (nat s) (nat s)
  rw [mulN bS bS bM.2] at e4
  obtain ⟨K5, e5⟩ := cmpN bM bA
  obtain ⟨K6, e6⟩ := implAdd_ev (nat s) (nat 1)
  rw [addN bS ⟨by omega, by rw [hP]; omega⟩ bT.2, nat_one] at e6
  obtain ⟨K7, e7⟩ := implMul_ev (nat (s + 1)) (nat (s + 1))
  rw [mulN bT bT bN.2] at e7
  obtain ⟨K8, e8⟩ := cmpN bN bA
  have l9 := nat_len40 bS.2
  obtain ⟨K9, e9⟩ := sameInts_ev (nat s) (nat s) (by omega)
  rw [decide_eq_true rfl] at e9
  have c1 : cmpI (s * s) A ≤ 0 := (cmpI_le _ _).2 hr.2.1
  have c2 : cmpI ((s + 1) * (s + 1)) A = 1 := by
    have := hr.2.2
    unfold cmpI; rw [if_neg (by omega), if_neg (by omega)]
  rw [c2] at e8
  obtain ⟨K, hK⟩ : ∃ K, K = K1 + K2 + K3 + K4 + K5 + K6 + K7 + K8 + K9 := ⟨_, rfl⟩
  refine ⟨K, ?_⟩
  unfold laws_FnRoot.f
  rw [if_neg hbig]
  simp only at e1 e2 e3 e4 e5 e6 e7 e8 e9
  simp only [Bool.false_eq_true, if_false, if_true, Option.bind_some, e1 K (by omega), e2 K (by omega), e3 K (by omega), e4 K (by omega), e5 K (by omega), e6 K (by omega), e7 K (by omega), e8 K (by omega), e9 K (by omega), if_pos c1]; rfl

end Go.Proofs.Ytnickjlnaemjaaa.Pure
