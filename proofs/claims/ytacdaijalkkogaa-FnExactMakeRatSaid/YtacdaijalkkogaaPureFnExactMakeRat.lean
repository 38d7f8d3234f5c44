/-
The Go program's MakeRat returns what the reference's returns, for all whole numbers; what it hands back is new memory: the law FnExactMakeRat holds. Conditions: those of the given row alone.
-/
import Derived.Test.YtacdaijalkkogaaPlX
import Derived.Test.YtacdaijalkkogaaQxlawsFnExactMakeRat
namespace Go.Proofs.Ytacdaijalkkogaa.Pure
open Go.RowKit Go.Proofs.Ytacdaijalkkogaa.Q Go.Proofs.Ytacdaijalkkogaa.Pn Go.Proofs.Ytacdaijalkkogaa.Pl Go.Proofs.YtacdaijalkkogaaW.PrintWords Go.Proofs.YtacdaijalkkogaaW.PrintLast
set_option linter.unusedVariables false
set_option linter.unusedSimpArgs false

def makeAns (a b : Int) : Bool × List Int × List Int × Int :=
  if -1000000000 ≤ a ∧ a ≤ 1000000000 ∧ -1000000000 ≤ b ∧ b ≤ 1000000000 then (if b = 0 then (false, [], [], 9) else ((low (decide (a < 0) != decide (b < 0)) (absI a) (absI b)).1, (low (decide (a < 0) != decide (b < 0)) (absI a) (absI b)).2.1, (low (decide (a < 0) != decide (b < 0)) (absI a) (absI b)).2.2, 0)) else (false, [], [], 4)
theorem small9 {a : Int} (h : -1000000000 ≤ a ∧ a ≤ 1000000000) : 0 ≤ absI a ∧ absI a < 10000 ^ 3 := by unfold absI; omega
theorem specMake_ev (a b : Int) : Ev (fun k => spec_MakeRat.f k a b) (makeAns a b) := by
  by_cases h : -1000000000 ≤ a ∧ a ≤ 1000000000 ∧ -1000000000 ≤ b ∧ b ≤ 1000000000
  · obtain ⟨h1, h2, h3, h4⟩ := h
    by_cases hb : b = 0
    · refine ⟨1, fun k hk => ?_⟩
      obtain ⟨k, rfl⟩ : ∃ m, k = m + 1 := ⟨k - 1, by omega⟩
      show spec_MakeRat.f (k + 1) a b = _
      unfold spec_MakeRat.f makeAns
      simp only [in_some, Option.bind_some, decide_eq_true (show -1000000000 ≤ a ∧ a ≤ 1000000000 from ⟨h1, h2⟩), decide_eq_true (show -1000000000 ≤ b ∧ b ≤ 1000000000 from ⟨h3, h4⟩), if_true, spec_MakeRat.j0, Bool.not_true, Bool.false_eq_true, if_false]
      rw [if_pos hb, if_pos ⟨h1, h2, h3, h4⟩, if_pos hb]
    · obtain ⟨K1, e1⟩ := l02IntE h1 h2
      obtain ⟨K2, e2⟩ := l02IntE h3 h4
      have s1 := small9 ⟨h1, h2⟩
      have s2 := small9 ⟨h3, h4⟩
      have p2 : 0 < absI b := by
        have : absI b ≠ 0 := fun z => hb (absI_eq0.1 z)
        omega
      have u1 : absI a < 10000 ^ 900 := Int.lt_of_lt_of_le s1.2 (pow_mono' (by omega))
      have u2 : absI b < 10000 ^ 900 := Int.lt_of_lt_of_le s2.2 (pow_mono' (by omega))
      obtain ⟨K3, e3⟩ := makeE (neg := decide (a < 0) != decide (b < 0)) s1.1 p2 u1 u2
      unfold makeAns
      generalize low (decide (a < 0) != decide (b < 0)) (absI a) (absI b) = L at e3 ⊢
      refine ⟨K1 + K2 + K3 + 1, fun k hk => ?_⟩
      obtain ⟨k, rfl⟩ : ∃ m, k = m + 1 := ⟨k - 1, by omega⟩
      have e1' := e1 k (by omega)
      have e2' := e2 k (by omega)
      have e3' := e3 k (by omega)
      simp only at e1' e2' e3'
      show spec_MakeRat.f (k + 1) a b = _
      unfold spec_MakeRat.f
      simp only [in_some, Option.bind_some, decide_eq_true (show -1000000000 ≤ a ∧ a ≤ 1000000000 from ⟨h1, h2⟩), decide_eq_true (show -1000000000 ≤ b ∧ b ≤ 1000000000 from ⟨h3, h4⟩), if_true, spec_MakeRat.j0, Bool.not_true, Bool.false_eq_true, if_false, e1', e2', wholeR]
      rw [if_neg hb, if_pos ⟨h1, h2, h3, h4⟩, if_neg hb, e3', Option.bind_some]
  · refine ⟨1, fun k hk => ?_⟩
    obtain ⟨k, rfl⟩ : ∃ m, k = m + 1 := ⟨k - 1, by omega⟩
    show spec_MakeRat.f (k + 1) a b = _
    unfold spec_MakeRat.f makeAns
    rw [if_neg h]
    by_cases h1 : -1000000000 ≤ a ∧ a ≤ 1000000000
    · have h2 : ¬ (-1000000000 ≤ b ∧ b ≤ 1000000000) := fun z => h ⟨h1.1, h1.2, z.1, z.2⟩
      simp only [in_some, Option.bind_some, decide_eq_true h1, decide_eq_false h2, if_true, spec_MakeRat.j0, Bool.not_false]
    · simp only [in_some, Option.bind_some, decide_eq_false h1, Bool.false_eq_true, if_false, if_true, spec_MakeRat.j0]
theorem implMake_ev (a b : Int) : Ev (fun k => impl_MakeRat.f k a b) (makeAns a b) := by
  by_cases h : -1000000000 ≤ a ∧ a ≤ 1000000000 ∧ -1000000000 ≤ b ∧ b ≤ 1000000000
  · obtain ⟨h1, h2, h3, h4⟩ := h
    by_cases hb : b = 0
    · refine ⟨1, fun k hk => ?_⟩
      obtain ⟨k, rfl⟩ : ∃ m, k = m + 1 := ⟨k - 1, by omega⟩
      show impl_MakeRat.f (k + 1) a b = _
      unfold impl_MakeRat.f makeAns
      rw [if_neg (by omega), if_neg (by omega), if_neg (by omega), decide_eq_false (by omega), if_pos ⟨h1, h2, h3, h4⟩, if_pos hb]
      simp only [impl_MakeRat.j0, Bool.false_eq_true, if_false]
      rw [if_pos hb]
    · obtain ⟨K1, e1⟩ := wholeE h1 h2
      obtain ⟨K2, e2⟩ := wholeE h3 h4
      have s1 := small9 ⟨h1, h2⟩
      have s2 := small9 ⟨h3, h4⟩
      have p2 : 0 < absI b := by
        have : absI b ≠ 0 := fun z => hb (absI_eq0.1 z)
        omega
      have u1 : absI a < 10000 ^ 900 := Int.lt_of_lt_of_le s1.2 (pow_mono' (by omega))
      have u2 : absI b < 10000 ^ 900 := Int.lt_of_lt_of_le s2.2 (pow_mono' (by omega))
      have v1 : vl [1] = 1 := by simp [vl]
      have la := nat_len _ 3 s1.2
      have lb := nat_len _ 3 s2.2
      have hs0 : (wholeR b).2.1 ≠ [] := fun z => by have := nat_eq_nil z; omega
      obtain ⟨K3, e3⟩ := overE (n := 3) ((wholeR_ro a).1.sm la (by simp [wholeR])) ((wholeR_ro b).1.sm lb (by simp [wholeR])) hs0 (by omega)
      have hd : divZ (wholeR a) (wholeR b) = low (decide (a < 0) != decide (b < 0)) (absI a) (absI b) := by
        unfold divZ wholeR
        simp only
        rw [v1, vl_nat _ s1.1, vl_nat _ s2.1, Int.mul_one, Int.one_mul]
      rw [hd] at e3
      unfold makeAns
      rw [if_pos ⟨h1, h2, h3, h4⟩, if_neg hb]
      clear hd u1 u2 hs0 la lb s1 s2
      generalize low (decide (a < 0) != decide (b < 0)) (absI a) (absI b) = L at e3 ⊢
      generalize wholeR a = R at e1 e3
      generalize wholeR b = S at e2 e3
      have hf : ∀ k, impl_MakeRat.f k a b = impl_MakeRat.j0 k a b false := fun k => by
        unfold impl_MakeRat.f
        rw [if_neg (by omega), if_neg (by omega), if_neg (by omega), decide_eq_false (by omega)]
      have hj : ∀ k, impl_MakeRat.j0 (k + 1) a b false = (impl_whole.f k a).bind fun x => (impl_whole.f k b).bind fun y => (impl_Rat_over.f k x.1 x.2.1 x.2.2 y.1 y.2.1 y.2.2).bind fun z => some (z.1, z.2.1, z.2.2, 0) := fun k => by
        simp only [impl_MakeRat.j0, Bool.false_eq_true, if_false]
        rw [if_neg hb]
      refine ⟨K1 + K2 + K3 + 1, fun k hk => ?_⟩
      obtain ⟨k, rfl⟩ : ∃ m, k = m + 1 := ⟨k - 1, by omega⟩
      have e1' := e1 k (by omega)
      have e2' := e2 k (by omega)
      have e3' := e3 k (by omega)
      simp only at e1' e2' e3'
      show impl_MakeRat.f (k + 1) a b = _
      rw [hf, hj, e1', Option.bind_some, e2', Option.bind_some, e3', Option.bind_some]
  · refine ⟨1, fun k hk => ?_⟩
    obtain ⟨k, rfl⟩ : ∃ m, k = m + 1 := ⟨k - 1, by omega⟩
    show impl_MakeRat.f (k + 1) a b = _
    unfold impl_MakeRat.f makeAns
    rw [if_neg h]
    by_cases c1 : a < -1000000000
    · rw [if_pos c1]; simp only [impl_MakeRat.j0, if_true]
    · rw [if_neg c1]
      by_cases c2 : a > 1000000000
      · rw [if_pos c2]; simp only [impl_MakeRat.j0, if_true]
      · rw [if_neg c2]
        by_cases c3 : b < -1000000000
        · rw [if_pos c3]; simp only [impl_MakeRat.j0, if_true]
        · rw [if_neg c3, decide_eq_true (by omega)]; simp only [impl_MakeRat.j0, if_true]
theorem makeAns_len (a b : Int) : (makeAns a b).2.1.length ≤ 40 ∧ (makeAns a b).2.2.1.length ≤ 40 := by
  unfold makeAns
  split
  · rename_i h
    split
    · simp
    · rename_i hb
      have s1 := small9 ⟨h.1, h.2.1⟩
      have s2 := small9 ⟨h.2.2.1, h.2.2.2⟩
      have p2 : 0 < absI b := by
        have : absI b ≠ 0 := fun z => hb (absI_eq0.1 z)
        omega
      have q1 := Int.ediv_le_self (gcdI (absI a) (absI b)) s1.1
      have q2 := Int.ediv_le_self (gcdI (absI a) (absI b)) s2.1
      have r1 := nat_len (absI a / gcdI (absI a) (absI b)) 3 (by omega)
      have r2 := nat_len (absI b / gcdI (absI a) (absI b)) 3 (by omega)
      unfold low
      simp only
      omega
  · simp
theorem FnExactMakeRat : laws_FnExactMakeRat.Pure := by
  intro a b _ _
  obtain ⟨p, hp⟩ : ∃ p, p = makeAns a b := ⟨_, rfl⟩
  have hlen : p.2.1.length ≤ 40 ∧ p.2.2.1.length ≤ 40 := by rw [hp]; exact makeAns_len a b
  obtain ⟨K1, e1⟩ := specMake_ev a b
  obtain ⟨K2, e2⟩ := implMake_ev a b
  rw [← hp] at e1 e2
  obtain ⟨K3, e3⟩ := eqRat_self (p.1, p.2.1, p.2.2.1) (by simp only; omega) (by simp only; omega)
  obtain ⟨K4, e4⟩ := markRat_ev p.1 p.2.1 p.2.2.1 1 (by omega) (by omega) (by omega) (by omega)
  obtain ⟨K5, e5⟩ := heldRat_ev p.1 p.2.1.length p.2.2.1.length 1 (by omega) (by omega) (by omega) (by omega)
  obtain ⟨K, hK⟩ : ∃ K, K = K1 + K2 + K3 + K4 + K5 := ⟨_, rfl⟩
  simp only at e1 e2 e3 e4 e5
  have n1 : ¬ (1 + (p.2.1.length : Int) + (p.2.2.1.length : Int)) < 0 := by omega
  refine ⟨K + 4, ?_⟩
  unfold laws_FnExactMakeRat.f
  simp only [e1 (K + 4) (by omega), e2 (K + 4) (by omega), e3 (K + 4) (by omega), e3 (K + 3) (by omega), e2 (K + 3) (by omega), e4 (K + 3) (by omega), e5 (K + 3) (by omega), e5 (K + 2) (by omega), Option.bind_some, bne_self_eq_false, if_true, if_false, Bool.false_eq_true, n1, laws_FnExactMakeRat.j0, laws_FnExactMakeRat.j1]

end Go.Proofs.Ytacdaijalkkogaa.Pure
