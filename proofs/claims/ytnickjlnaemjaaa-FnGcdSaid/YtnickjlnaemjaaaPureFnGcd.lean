/-
What divides both numbers is found and is the reference's; what is left of both has nothing in common: the law FnGcd holds. Conditions: those of the given row alone.
-/
import Derived.Test.YtnickjlnaemjaaaPlO
import Derived.Test.YtnickjlnaemjaaaPlH
import Derived.Test.YtnickjlnaemjaaaQxlawsFnGcd
namespace Go.Proofs.Ytnickjlnaemjaaa.Pure
open Go.RowKit Go.Proofs.Ytnickjlnaemjaaa.Q Go.Proofs.Ytnickjlnaemjaaa.Pn Go.Proofs.Ytnickjlnaemjaaa.Pl Go.Proofs.YtnickjlnaemjaaaW.PrintWords Go.Proofs.YtnickjlnaemjaaaW.PrintLast
set_option linter.unusedVariables false
set_option linter.unusedSimpArgs false

theorem gcd_facts {A B : Int} (hA : 0 ≤ A) (hB : 0 ≤ B) (h : ¬ (A = 0 ∧ B = 0)) : 0 < gcdI A B ∧ A % gcdI A B = 0 ∧ B % gcdI A B = 0 ∧ gcdI (A / gcdI A B) (B / gcdI A B) = 1 := by
  obtain ⟨m, rfl⟩ := Int.eq_ofNat_of_zero_le hA
  obtain ⟨n, rfl⟩ := Int.eq_ofNat_of_zero_le hB
  unfold gcdI
  simp only [Int.toNat_natCast]
  have hp : 0 < Nat.gcd m n := by
    rcases Nat.eq_zero_or_pos (Nat.gcd m n) with h0 | h0
    · exfalso
      have := Nat.gcd_eq_zero_iff.1 h0
      omega
    · exact h0
  refine ⟨by omega, ?_, ?_, ?_⟩
  · have := Nat.mod_eq_zero_of_dvd (Nat.gcd_dvd_left m n); exact_mod_cast this
  · have := Nat.mod_eq_zero_of_dvd (Nat.gcd_dvd_right m n); exact_mod_cast this
  · have e := Nat.gcd_div (Nat.gcd_dvd_left m n) (Nat.gcd_dvd_right m n)
    rw [Nat.div_self hp] at e
    have e1 : ((m : Int) / ((Nat.gcd m n : Nat) : Int)).toNat = m / Nat.gcd m n := by rw [← Int.natCast_ediv, Int.toNat_natCast]
    have e2 : ((n : Int) / ((Nat.gcd m n : Nat) : Int)).toNat = n / Nat.gcd m n := by rw [← Int.natCast_ediv, Int.toNat_natCast]
    rw [e1, e2, e]; rfl
theorem gcdN {a b : Int} (ha : 0 ≤ a ∧ a < 10000 ^ 40) (hb : 0 ≤ b ∧ b < 10000 ^ 40) : gcdAns (nat a) (nat b) = (nat (gcdI a b), 0) := by
  unfold gcdAns
  rw [if_pos (ask_nat (natOK_nat ha.2) (natOK_nat hb.2)), vl_nat a ha.1, vl_nat b hb.1]
theorem nat_zl {x : Int} (h : 0 ≤ x) : (((nat x).length : Int) = 0) ↔ x = 0 := by
  constructor
  · intro e
    have := nat_eq_nil (List.length_eq_zero_iff.1 (by omega : (nat x).length = 0)); omega
  · intro e; rw [e, nat_zero]; rfl
theorem nat_1 : nat 1 = [1] := by rw [nat_pos (by omega), show (1 : Int) % 10000 = 1 by rfl, show (1 : Int) / 10000 = 0 by rfl, nat_zero]
theorem FnGcd : laws_FnGcd.Pure := by
  intro l0 l1 h1 h2 h3 g1 g2 g3
  by_cases hbig : (l0.length : Int) > 1048576
  · exact ⟨1, by unfold laws_FnGcd.f; rw [if_pos hbig]; rfl⟩
  by_cases hbig2 : (l1.length : Int) > 1048576
  · exact ⟨1, by unfold laws_FnGcd.f; rw [if_neg hbig, decide_eq_true hbig2]; rfl⟩
  obtain ⟨A, ⟨K1, e1⟩, hA⟩ := drawnN (by_wf h3) (by omega)
  obtain ⟨B, ⟨K2, e2⟩, hB⟩ := drawnN (by_wf g3) (by omega)
  have p4 : (10000 : Int) ^ 4 = 10000000000000000 := by decide
  have p40 : (100000000000000000000000000000000000000000000000000 : Int) < 10000 ^ 40 := by decide
  rw [p4] at hA hB
  generalize hP : (10000 : Int) ^ 40 = P at p40
  have bA : 0 ≤ A ∧ A < 10000 ^ 40 := by rw [hP]; omega
  have bB : 0 ≤ B ∧ B < 10000 ^ 40 := by rw [hP]; omega
  have l7 := nat_len40 bA.2
  have l8 := nat_len40 bB.2
  obtain ⟨K3, e3⟩ := implGcd_ev (nat A) (nat B)
  obtain ⟨K4, e4⟩ := specGcd_ev (nat A) (nat B) (by omega) (by omega)
  rw [gcdN bA bB] at e3 e4
  have bG := gcdI_le hA.1 hB.1 bA.2 bB.2
  have l9 := nat_len40 bG.2
  obtain ⟨K5, e5⟩ := sameInts_ev (nat (gcdI A B)) (nat (gcdI A B)) (by omega)
  rw [decide_eq_true rfl] at e5
  by_cases hz : A = 0 ∧ B = 0
  · obtain ⟨K, hK⟩ : ∃ K, K = K1 + K2 + K3 + K4 + K5 := ⟨_, rfl⟩
    refine ⟨K + 3, ?_⟩
    unfold laws_FnGcd.f
    rw [if_neg hbig, decide_eq_false hbig2]
    simp only at e1 e2 e3 e4 e5
    have c1 : ((nat A).length : Int) = 0 := (nat_zl hA.1).2 hz.1
    have c2 : (((nat B).length : Int) == 0) = true := beq_iff_eq.2 ((nat_zl hB.1).2 hz.2)
    have c3 : (((nat (gcdI A B)).length : Int) == 0) = true := beq_iff_eq.2 ((nat_zl bG.1).2 (by rw [hz.1, hz.2]; exact gcdI_zero (by omega)))
    simp only [laws_FnGcd.j0, laws_FnGcd.j1, laws_FnGcd.j2, Bool.false_eq_true, if_false, if_true, Option.bind_some, Bool.not_true, e1 (K + 2) (by omega), e2 (K + 2) (by omega), e3 (K + 2) (by omega), e4 (K + 2) (by omega), e5 (K + 2) (by omega), if_pos c1, c2, c3]
  · obtain ⟨f1, f2, f3, f4⟩ := gcd_facts hA.1 hB.1 hz
    have q0 : 0 ≤ A / gcdI A B := Int.ediv_nonneg hA.1 (by omega)
    have q1 : A / gcdI A B ≤ A := Int.ediv_le_self _ hA.1
    have q2 : 0 ≤ B / gcdI A B := Int.ediv_nonneg hB.1 (by omega)
    have q3 : B / gcdI A B ≤ B := Int.ediv_le_self _ hB.1
    obtain ⟨K6, e6⟩ := implDiv_ev (nat A) (nat (gcdI A B))
    rw [divN bA ⟨f1, bG.2⟩, f2] at e6
    obtain ⟨K7, e7⟩ := implDiv_ev (nat B) (nat (gcdI A B))
    rw [divN bB ⟨f1, bG.2⟩, f3] at e7
    obtain ⟨K8, e8⟩ := implGcd_ev (nat (A / gcdI A B)) (nat (B / gcdI A B))
    rw [gcdN ⟨q0, by omega⟩ ⟨q2, by omega⟩, f4, nat_1] at e8
    obtain ⟨K9, e9⟩ := sameInts_ev [1] [1] (by simp)
    rw [decide_eq_true rfl] at e9
    obtain ⟨K, hK⟩ : ∃ K, K = K1 + K2 + K3 + K4 + K5 + K6 + K7 + K8 + K9 := ⟨_, rfl⟩
    refine ⟨K + 3, ?_⟩
    unfold laws_FnGcd.f
    rw [if_neg hbig, decide_eq_false hbig2]
    simp only at e1 e2 e3 e4 e5 e6 e7 e8 e9
    have c1 : (((nat 0).length : Int) = 0) := by rw [nat_zero]; rfl
    have key : laws_FnGcd.j1 (K + 2) (nat A) (nat B) (nat (gcdI A B)) false = some true := by
      have j2 : laws_FnGcd.j2 (K + 1) (nat A) (nat B) (nat (gcdI A B)) false = some true := by
        simp only [laws_FnGcd.j2, Bool.false_eq_true, if_false, if_true, Option.bind_some, e6 K (by omega), e7 K (by omega), e8 K (by omega), e9 K (by omega), if_pos c1]
      simp only [laws_FnGcd.j1, Bool.false_eq_true, if_false]
      by_cases ha : ((nat A).length : Int) = 0
      · have hb : (((nat B).length : Int) == 0) = false := beq_eq_false_iff_ne.2 (fun e => hz ⟨(nat_zl hA.1).1 ha, (nat_zl hB.1).1 e⟩)
        rw [if_pos ha, hb]; exact j2
      · rw [if_neg ha]; exact j2
    simp only [laws_FnGcd.j0, Bool.false_eq_true, if_false, if_true, Option.bind_some, Bool.not_true, e1 (K + 2) (by omega), e2 (K + 2) (by omega), e3 (K + 2) (by omega), e4 (K + 2) (by omega), e5 (K + 2) (by omega), key]

end Go.Proofs.Ytnickjlnaemjaaa.Pure
