import Derived.Test.YtegbmillbbcmfaaPlQ
import Derived.Test.YtegbmillbbcmfaaPlB
import Derived.Test.YtegbmillbbcmfaaQxrmk
namespace Go.Proofs.Ytegbmillbbcmfaa.Pl
open Go.RowKit Go.Proofs.Ytegbmillbbcmfaa.Q Go.Proofs.Ytegbmillbbcmfaa.Pn Go.Proofs.YtegbmillbbcmfaaW.PrintWords Go.Proofs.YtegbmillbbcmfaaW.PrintLast
set_option linter.unusedVariables false
set_option linter.unusedSimpArgs false

theorem one_f : impl_one.f = some [1] := rfl
theorem nat_1 : nat 1 = [1] := by rw [nat_pos (by omega), show (1 : Int) % 10000 = 1 by rfl, show (1 : Int) / 10000 = 0 by rfl, nat_zero]
theorem nat_lp {x : Int} (h : 0 ≤ x) : decide (((nat x).length : Int) > 0) = decide (0 < x) := by
  by_cases h0 : 0 < x
  · rw [decide_eq_true h0, decide_eq_true (len_pos h0)]
  · rw [decide_eq_false h0, nat_neg h0]; rfl
theorem p1000' {x : Int} (h : x < 10000 ^ 900) : x < 10000 ^ 1000 := Int.lt_of_lt_of_le h (pow_mono' (by omega))
theorem makeE {neg : Bool} {a d : Int} (ha : 0 ≤ a) (hd : 0 < d) (hab : a < 10000 ^ 900) (hdb : d < 10000 ^ 900) : Ev (fun k => spec_l02Make.f k neg (nat a) (nat d)) (low neg a d) := by
  obtain ⟨g1, g2, g3, g4, g5⟩ := gcdI_pos ha hd
  obtain ⟨K, h⟩ := gcdS_ev _ a d (Nat.le_refl _) ha (p1000' hab) (by omega) (p1000' hdb)
  have q1 : a / gcdI a d ≤ a := Int.ediv_le_self _ ha
  have q0 : 0 ≤ a / gcdI a d := Int.ediv_nonneg ha (by omega)
  have hgb : gcdI a d < 10000 ^ 900 := by omega
  obtain ⟨K1, e1⟩ := divE (A := a) (B := gcdI a d) ha g1 hab hgb (by omega) (by omega)
  obtain ⟨K2, e2⟩ := divE (A := d) (B := gcdI a d) (by omega) g1 hdb hgb (by omega) (by omega)
  refine ⟨K + K1 + K2, fun k hk => ?_⟩
  have h' := h k (by omega)
  have e1' := e1 k (by omega)
  have e2' := e2 k (by omega)
  simp only at h' e1' e2'
  show spec_l02Make.f k neg (nat a) (nat d) = _
  unfold spec_l02Make.f
  simp only [spec_l01Gcd.f, h', e1', e2', Option.bind_some, nat_lp q0, low]
  have hp : decide (0 < a / gcdI a d) = decide (0 < a) := by
    have e := Int.emod_add_mul_ediv a (gcdI a d)
    rw [g2] at e
    by_cases h0 : 0 < a
    · have : 0 < a / gcdI a d := by
        rcases Int.lt_or_le 0 (a / gcdI a d) with h2 | h2
        · exact h2
        · have h3 : a / gcdI a d = 0 := by omega
          rw [h3] at e; omega
      rw [decide_eq_true h0, decide_eq_true this]
    · rw [decide_eq_false h0, decide_eq_false (by omega)]
  rw [hp]
  cases neg <;> simp
end Go.Proofs.Ytegbmillbbcmfaa.Pl
