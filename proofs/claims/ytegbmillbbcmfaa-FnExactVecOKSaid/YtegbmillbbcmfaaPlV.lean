import Derived.Test.YtegbmillbbcmfaaPlQ
import Derived.Test.YtegbmillbbcmfaaPlB
import Derived.Test.YtegbmillbbcmfaaQxrmk
/-! Lowest terms and whole numbers, by the program and by the reference. -/
namespace Go.Proofs.Ytegbmillbbcmfaa.Pl
open Go.RowKit Go.Proofs.Ytegbmillbbcmfaa.Q Go.Proofs.Ytegbmillbbcmfaa.Pn Go.Proofs.YtegbmillbbcmfaaW.PrintWords Go.Proofs.YtegbmillbbcmfaaW.PrintLast
set_option linter.unusedVariables false
set_option linter.unusedSimpArgs false

theorem one_f : impl_one.f = some [1] := rfl
theorem nat_1 : nat 1 = [1] := by rw [nat_pos (by omega), show (1 : Int) % 10000 = 1 by rfl, show (1 : Int) / 10000 = 0 by rfl, nat_zero]
theorem clone_nat {l : List Int} (h : l.length ≤ 1000000) : slices_Clone_int_int.f l = some l := by unfold slices_Clone_int_int.f; rw [if_pos (by omega)]
theorem nat_lp {x : Int} (h : 0 ≤ x) : decide (((nat x).length : Int) > 0) = decide (0 < x) := by
  by_cases h0 : 0 < x
  · rw [decide_eq_true h0, decide_eq_true (len_pos h0)]
  · rw [decide_eq_false h0, nat_neg h0]; rfl
theorem p1000' {x : Int} (h : x < 10000 ^ 900) : x < 10000 ^ 1000 := Int.lt_of_lt_of_le h (pow_mono' (by omega))
theorem lowestE {neg : Bool} {a d : Int} (ha : 0 ≤ a) (hd : 0 < d) (hab : a < 10000 ^ 900) (hdb : d < 10000 ^ 900) : Ev (fun k => impl_lowest.f k neg (nat a) (nat d)) (low neg a d) := by
  obtain ⟨g1, g2, g3, g4, g5⟩ := gcdI_pos ha hd
  obtain ⟨K, h⟩ := gcdI_ev _ a d (Nat.le_refl _) ha (p1000' hab) (by omega) (p1000' hdb)
  have q0 : 0 ≤ a / gcdI a d := Int.ediv_nonneg ha (by omega)
  have q1 : a / gcdI a d ≤ a := Int.ediv_le_self _ ha
  have q2 : 0 ≤ d / gcdI a d := Int.ediv_nonneg (by omega) (by omega)
  have q3 : d / gcdI a d ≤ d := Int.ediv_le_self _ (by omega)
  have hl1 := nat_len a 900 hab
  have hl2 := nat_len d 900 hdb
  have hl3 := nat_len (a / gcdI a d) 900 (by omega)
  have hl4 := nat_len (d / gcdI a d) 900 (by omega)
  have e1 := divI (A := a) (B := gcdI a d) ha g1 hab (by omega)
  have e2 := divI (A := d) (B := gcdI a d) (by omega) g1 hdb (by omega)
  have hc : impl_natCmp.f (nat (gcdI a d)) [1] = some (cmpI (gcdI a d) 1) := by
    unfold impl_natCmp.f
    rw [← nat_1, ncmp_vl (nm_nat _) (nm_nat _), vl_nat _ (by omega), vl_nat 1 (by omega)]
  refine ⟨K, fun k hk => ?_⟩
  have h' := h k hk
  simp only at h'
  show impl_lowest.f k neg (nat a) (nat d) = _
  unfold impl_lowest.f
  simp only [impl_natGcd.f, h', one_f, Option.bind_some, hc]
  by_cases h1 : gcdI a d = 1
  · rw [if_pos ((cmpI_eq _ _).2 h1)]
    simp only [clone_nat (show (nat a).length ≤ 1000000 by omega), clone_nat (show (nat d).length ≤ 1000000 by omega), Option.bind_some, nat_lp ha, low, h1, Int.ediv_one]
    cases neg <;> simp
  · rw [if_neg (fun e => h1 ((cmpI_eq _ _).1 e))]
    simp only [e1, e2, clone_nat (show (nat (a / gcdI a d)).length ≤ 1000000 by omega), clone_nat (show (nat (d / gcdI a d)).length ≤ 1000000 by omega), Option.bind_some, nat_lp q0, low]
    have hp : decide (0 < a / gcdI a d) = decide (0 < a) := by
      have e := Int.emod_add_mul_ediv a (gcdI a d)
      rw [g2] at e
      by_cases h0 : 0 < a
      · have : 0 < a / gcdI a d := by
          rcases Int.lt_or_le 0 (a / gcdI a d) with h2 | h2
          · exact h2
          · have h3 : a / gcdI a d = 0 := by omega
            rw [h3] at e; omega
        rw [decide_eq_true h0, decide_eq_true this]
      · rw [decide_eq_false h0, decide_eq_false (by omega)]
    rw [hp]
    cases neg <;> simp
theorem makeE {neg : Bool} {a d : Int} (ha : 0 ≤ a) (hd : 0 < d) (hab : a < 10000 ^ 900) (hdb : d < 10000 ^ 900) : Ev (fun k => spec_l02Make.f k neg (nat a) (nat d)) (low neg a d) := by
  obtain ⟨g1, g2, g3, g4, g5⟩ := gcdI_pos ha hd
  obtain ⟨K, h⟩ := gcdS_ev _ a d (Nat.le_refl _) ha (p1000' hab) (by omega) (p1000' hdb)
  have q1 : a / gcdI a d ≤ a := Int.ediv_le_self _ ha
  have q0 : 0 ≤ a / gcdI a d := Int.ediv_nonneg ha (by omega)
  have hgb : gcdI a d < 10000 ^ 900 := by omega
  obtain ⟨K1, e1⟩ := divE (A := a) (B := gcdI a d) ha g1 hab hgb (by omega) (by omega)
  obtain ⟨K2, e2⟩ := divE (A := d) (B := gcdI a d) (by omega) g1 hdb hgb (by omega) (by omega)
  refine ⟨K + K1 + K2, fun k hk => ?_⟩
  have h' := h k (by omega)
  have e1' := e1 k (by omega)
  have e2' := e2 k (by omega)
  simp only at h' e1' e2'
  show spec_l02Make.f k neg (nat a) (nat d) = _
  unfold spec_l02Make.f
  simp only [spec_l01Gcd.f, h', e1', e2', Option.bind_some, nat_lp q0, low]
  have hp : decide (0 < a / gcdI a d) = decide (0 < a) := by
    have e := Int.emod_add_mul_ediv a (gcdI a d)
    rw [g2] at e
    by_cases h0 : 0 < a
    · have : 0 < a / gcdI a d := by
        rcases Int.lt_or_le 0 (a / gcdI a d) with h2 | h2
        · exact h2
        · have h3 : a / gcdI a d = 0 := by omega
          rw [h3] at e; omega
      rw [decide_eq_true h0, decide_eq_true this]
    · rw [decide_eq_false h0, decide_eq_false (by omega)]
  rw [hp]
  cases neg <;> simp
theorem natOf_loop : ∀ (d : Nat) (a : Int) (out : List Int), 0 ≤ a → a < 10000 ^ d → a ≤ 9223372036854775807 → out.length + d ≤ 1000 → Ev (fun k => impl_natOf.l0 k a out) (out ++ nat a)
  | 0, a, out, h0, h1, h2, h3 => by
    have : a = 0 := by simp at h1; omega
    subst this
    refine Ev.step (f := fun _ => some out) (fun k => ?_) (by rw [nat_zero, List.append_nil]; exact Ev.now _)
    simp only [impl_natOf.l0]; rw [if_neg (by omega)]
  | d + 1, a, out, h0, h1, h2, h3 => by
    by_cases h : a > 0
    · have e1 : wrap64 (Int.tdiv a 10000) = a / 10000 := by rw [tdiv_pos h0, wrap_in (by omega) (by omega)]
      have ih := natOf_loop d (a / 10000) (out ++ [a % 10000]) (by omega) (Int.ediv_lt_of_lt_mul (by omega) (by rw [Int.pow_succ] at h1; exact h1)) (by omega) (by simp; omega)
      have ih' : Ev (fun k => impl_natOf.l0 k (a / 10000) (out ++ [a % 10000])) (out ++ nat a) := by
        rw [nat_pos h]; rw [List.append_assoc] at ih; exact ih
      refine Ev.step (fun k => ?_) ih'
      simp only [impl_natOf.l0]; rw [if_pos h, if_pos (by omega), e1, tmod_pos h0]
    · refine Ev.step (f := fun _ => some out) (fun k => ?_) (by rw [nat_neg h, List.append_nil]; exact Ev.now _)
      simp only [impl_natOf.l0]; rw [if_neg h]
/-- A whole number as a rational. -/
def wholeR (n : Int) : Bool × List Int × List Int := (decide (n < 0), nat (absI n), [1])
theorem wholeE {n : Int} (h : -1000000000 ≤ n) (h2 : n ≤ 1000000000) : Ev (fun k => impl_whole.f k n) (wholeR n) := by
  obtain ⟨K, e⟩ := natOf_loop 3 (absI n) [] (absI_nonneg n) (by unfold absI; omega) (by unfold absI; omega) (by simp)
  refine ⟨K, fun k hk => ?_⟩
  have e' := e k hk
  simp only [List.nil_append] at e'
  show impl_whole.f k n = _
  unfold impl_whole.f wholeR
  by_cases h0 : n < 0
  · rw [if_pos h0, wrap_in (by omega) (by omega), ← absI_neg (by omega)]
    simp only [impl_natOf.f, e', one_f, Option.bind_some, decide_eq_true h0]
  · rw [if_neg h0]
    rw [absI_pos (by omega)] at e' ⊢
    simp only [impl_natOf.f, e', one_f, Option.bind_some, decide_eq_false h0]
theorem l02IntE {n : Int} (h : -1000000000 ≤ n) (h2 : n ≤ 1000000000) : Ev (fun k => spec_l02Int.f k n) (wholeR n) := by
  obtain ⟨K, e⟩ := small_loop 3 (absI n) [] (absI_nonneg n) (by unfold absI; omega) (by unfold absI; omega) (by simp)
  refine ⟨K, fun k hk => ?_⟩
  have e' := e k hk
  simp only [List.nil_append] at e'
  show spec_l02Int.f k n = _
  unfold spec_l02Int.f wholeR
  by_cases h0 : n < 0
  · rw [if_pos h0, wrap_in (by omega) (by omega), ← absI_neg (by omega)]
    simp only [spec_l01Small.f, e', Option.bind_some, decide_eq_true h0]
  · rw [if_neg h0]
    rw [absI_pos (by omega)] at e' ⊢
    simp only [spec_l01Small.f, e', Option.bind_some, decide_eq_false h0]
theorem wholeR_ro (n : Int) : RO (wholeR n) ∧ tp (wholeR n) = n ∧ bt (wholeR n) = 1 := by
  have h := nm_nat 1
  rw [nat_1] at h
  have hv : vl [1] = 1 := by simp [vl]
  have hn := vl_nat (absI n) (absI_nonneg n)
  refine ⟨⟨nm_nat _, h, by simp [wholeR], fun e => ?_, ?_⟩, ?_, hv⟩
  · have h0 := nat_eq_nil e
    unfold wholeR
    simp only [decide_eq_false_iff_not]
    unfold absI at h0; omega
  · show gcdI (vl (nat (absI n))) (vl [1]) = 1
    rw [hn, hv]; exact gcdI_one (absI_nonneg n)
  · unfold tp wholeR
    simp only [decide_eq_true_eq]
    rw [hn]; unfold absI
    split <;> omega

end Go.Proofs.Ytegbmillbbcmfaa.Pl
