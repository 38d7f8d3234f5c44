/-
What the Go program adds it takes away again, in any order, and of two naturals the greater is the longer way from 0: the law FnNat holds. Conditions: those of the given row alone.
-/
import Derived.Test.YtnickjlnaemjaaaPlG
import Derived.Test.YtnickjlnaemjaaaQxlawsFnNat
namespace Go.Proofs.Ytnickjlnaemjaaa.Pure
open Go.RowKit Go.Proofs.Ytnickjlnaemjaaa.Q Go.Proofs.Ytnickjlnaemjaaa.Pn Go.Proofs.Ytnickjlnaemjaaa.Pl Go.Proofs.YtnickjlnaemjaaaW.PrintWords Go.Proofs.YtnickjlnaemjaaaW.PrintLast
set_option linter.unusedVariables false
set_option linter.unusedSimpArgs false

theorem FnNat : laws_FnNat.Pure := by
  intro l0 l1 h1 h2 h3 g1 g2 g3
  by_cases hbig : (l0.length : Int) > 1048576
  · exact ⟨1, by unfold laws_FnNat.f; rw [if_pos hbig]; rfl⟩
  by_cases hbig2 : (l1.length : Int) > 1048576
  · exact ⟨1, by unfold laws_FnNat.f; rw [if_neg hbig, decide_eq_true hbig2]; rfl⟩
  obtain ⟨A, ⟨K1, e1⟩, hA⟩ := drawnN (by_wf h3) (by omega)
  obtain ⟨B, ⟨K2, e2⟩, hB⟩ := drawnN (by_wf g3) (by omega)
  have p4 : (10000 : Int) ^ 4 = 10000000000000000 := by decide
  have p40 : (100000000000000000000000000000000000000000000000000 : Int) < 10000 ^ 40 := by decide
  rw [p4] at hA hB
  generalize hP : (10000 : Int) ^ 40 = P at p40
  have bA : 0 ≤ A ∧ A < 10000 ^ 40 := by rw [hP]; omega
  have bB : 0 ≤ B ∧ B < 10000 ^ 40 := by rw [hP]; omega
  have bS : 0 ≤ A + B ∧ A + B < 10000 ^ 40 := by rw [hP]; omega
  have l7 := nat_len40 bA.2
  have l8 := nat_len40 bB.2
  have l9 := nat_len40 bS.2
  obtain ⟨K3, e3⟩ := implAdd_ev (nat A) (nat B)
  obtain ⟨K4, e4⟩ := specAdd_ev (nat A) (nat B) (by omega) (by omega)
  rw [addN bA bB bS.2] at e3 e4
  obtain ⟨K5, e5⟩ := implAdd_ev (nat B) (nat A)
  rw [addN bB bA (by rw [Int.add_comm]; exact bS.2), Int.add_comm B A] at e5
  obtain ⟨K6, e6⟩ := implSub_ev (nat (A + B)) (nat B)
  rw [subN bS bB, if_neg (by omega), Int.add_sub_cancel] at e6
  obtain ⟨K7, e7⟩ := cmpN bS bA
  obtain ⟨K8, e8⟩ := cmpN bA bB
  obtain ⟨K9, e9⟩ := cmpN bB bA
  obtain ⟨K10, e10⟩ := implSub_ev (nat A) (nat B)
  rw [subN bA bB] at e10
  obtain ⟨K11, e11⟩ := sameInts_ev (nat (A + B)) (nat (A + B)) (by omega)
  obtain ⟨K12, e12⟩ := sameInts_ev (nat A) (nat A) (by omega)
  rw [decide_eq_true rfl] at e11 e12
  have e13 : impl_NatOK.f (nat (A + B)) = some true := by
    unfold impl_NatOK.f; rw [natOK_nat bS.2]
  have hl : (nat B).length = 0 ↔ B = 0 := by
    constructor
    · intro h
      have := nat_eq_nil (List.length_eq_zero_iff.1 h)
      omega
    · intro h; rw [h, nat_zero]; rfl
  have c1 : ((cmpI (A + B) A == 0) == (((nat B).length : Int) == 0)) = true := by
    by_cases h : B = 0
    · have h5 : (nat B).length = 0 := hl.2 h
      have h6 : cmpI (A + B) A = 0 := by unfold cmpI; rw [if_neg (by omega), if_pos (by omega)]
      rw [h5, h6]; rfl
    · have h5 : (nat B).length ≠ 0 := fun e => h (hl.1 e)
      have h6 : cmpI (A + B) A = 1 := by unfold cmpI; rw [if_neg (by omega), if_neg (by omega)]
      have h7 : (((nat B).length : Int) == 0) = false := by simpa using h5
      rw [h6, h7]; rfl
  have c2 : cmpI (A + B) A ≥ 0 := by unfold cmpI; rw [if_neg (by omega)]; split <;> omega
  have c3 : cmpI A B = wrap64 (-(cmpI B A)) := by
    unfold cmpI wrap64
    rcases Int.lt_trichotomy A B with h | h | h
    · rw [if_pos h, if_neg (by omega), if_neg (by omega)]; rfl
    · rw [if_neg (by omega), if_pos h, if_neg (by omega), if_pos (by omega)]; rfl
    · rw [if_neg (by omega), if_neg (by omega), if_pos h]; rfl
  have c4 : (((if A < B then (([] : List Int), (11 : Int)) else (nat (A - B), 0)).2 == 11) == decide (cmpI A B < 0)) = true := by
    by_cases h : A < B
    · have h6 : cmpI A B = -1 := by unfold cmpI; rw [if_pos h]
      rw [if_pos h, h6]; rfl
    · have h6 : ¬ cmpI A B < 0 := fun e => h ((cmpI_neg A B).1 e)
      rw [if_neg h, decide_eq_false h6]; rfl
  generalize (if A < B then (([] : List Int), (11 : Int)) else (nat (A - B), 0)) = R at *
  generalize cmpI (A + B) A = X at *
  generalize cmpI A B = Y at *
  generalize cmpI B A = Z at *
  obtain ⟨K, hK⟩ : ∃ K, K = K1 + K2 + K3 + K4 + K5 + K6 + K7 + K8 + K9 + K10 + K11 + K12 := ⟨_, rfl⟩
  refine ⟨K + 1, ?_⟩
  unfold laws_FnNat.f
  rw [if_neg hbig, decide_eq_false hbig2]
  simp only at e1 e2 e3 e4 e5 e6 e7 e8 e9 e10 e11 e12
  simp only [laws_FnNat.j0, Bool.false_eq_true, if_false, if_true, Option.bind_some, e1 K (by omega), e2 K (by omega), e3 K (by omega), e4 K (by omega), e5 K (by omega), e6 K (by omega), e7 K (by omega), e8 K (by omega), e9 K (by omega), e10 K (by omega), e11 K (by omega), e12 K (by omega), e13, if_pos c1, if_pos c2, if_pos c3, if_pos c4]

end Go.Proofs.Ytnickjlnaemjaaa.Pure
