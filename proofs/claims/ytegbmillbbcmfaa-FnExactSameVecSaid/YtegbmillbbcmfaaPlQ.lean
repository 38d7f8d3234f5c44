import Derived.Test.YtegbmillbbcmfaaPlGc
namespace Go.Proofs.Ytegbmillbbcmfaa.Pl
open Go.RowKit Go.Proofs.Ytegbmillbbcmfaa.Q Go.Proofs.Ytegbmillbbcmfaa.Pn Go.Proofs.YtegbmillbbcmfaaW.PrintWords Go.Proofs.YtegbmillbbcmfaaW.PrintLast
set_option linter.unusedVariables false
set_option linter.unusedSimpArgs false

def absI (x : Int) : Int := (x.natAbs : Int)
theorem absI_nonneg (x : Int) : 0 ≤ absI x := by unfold absI; omega
theorem absI_pos {x : Int} (h : 0 ≤ x) : absI x = x := by unfold absI; omega
theorem absI_neg {x : Int} (h : x ≤ 0) : absI x = -x := by unfold absI; omega
theorem absI_eq0 {x : Int} : absI x = 0 ↔ x = 0 := by unfold absI; omega
theorem gcdI_pos {a d : Int} (ha : 0 ≤ a) (hd : 0 < d) : 0 < gcdI a d ∧ a % gcdI a d = 0 ∧ d % gcdI a d = 0 ∧ gcdI (a / gcdI a d) (d / gcdI a d) = 1 ∧ gcdI a d ≤ d := by
  obtain ⟨m, rfl⟩ := Int.eq_ofNat_of_zero_le ha
  obtain ⟨n, rfl⟩ := Int.eq_ofNat_of_zero_le (Int.le_of_lt hd)
  unfold gcdI
  simp only [Int.toNat_natCast]
  have hn : 0 < n := by omega
  have hp : 0 < Nat.gcd m n := Nat.gcd_pos_of_pos_right m hn
  refine ⟨by omega, ?_, ?_, ?_, ?_⟩
  · have := Nat.mod_eq_zero_of_dvd (Nat.gcd_dvd_left m n); exact_mod_cast this
  · have := Nat.mod_eq_zero_of_dvd (Nat.gcd_dvd_right m n); exact_mod_cast this
  · have e := Nat.gcd_div (Nat.gcd_dvd_left m n) (Nat.gcd_dvd_right m n)
    rw [Nat.div_self hp] at e
    have e1 : ((m : Int) / ((Nat.gcd m n : Nat) : Int)).toNat = m / Nat.gcd m n := by rw [← Int.natCast_ediv, Int.toNat_natCast]
    have e2 : ((n : Int) / ((Nat.gcd m n : Nat) : Int)).toNat = n / Nat.gcd m n := by rw [← Int.natCast_ediv, Int.toNat_natCast]
    rw [e1, e2, e]; rfl
  · have := Nat.gcd_le_right m hn; omega
/-- N over D in lowest terms. -/
def lowZ (N D : Int) : Bool × List Int × List Int := (decide (N < 0), nat (absI N / gcdI (absI N) D), nat (D / gcdI (absI N) D))
/-- A right rational, of whatever length. -/
def RO (r : Bool × List Int × List Int) : Prop := Nm r.2.1 ∧ Nm r.2.2 ∧ r.2.2 ≠ [] ∧ (r.2.1 = [] → r.1 = false) ∧ gcdI (vl r.2.1) (vl r.2.2) = 1
/-- Its numerator with its sign. -/
def tp (r : Bool × List Int × List Int) : Int := if r.1 = true then -vl r.2.1 else vl r.2.1
def bt (r : Bool × List Int × List Int) : Int := vl r.2.2
theorem RO.bt {r : Bool × List Int × List Int} (h : RO r) : 0 < bt r := vl_pos h.2.1 h.2.2.1
theorem RO.abs {r : Bool × List Int × List Int} (h : RO r) : absI (tp r) = vl r.2.1 := by
  have := vl_nonneg h.1.1
  unfold tp
  split
  · rw [absI_neg (by omega)]; omega
  · exact absI_pos this
theorem RO.low {r : Bool × List Int × List Int} (h : RO r) : r = lowZ (tp r) (Pl.bt r) := by
  obtain ⟨b, n, d⟩ := r
  have ha := h.abs
  obtain ⟨h1, h2, h3, h4, h5⟩ := h
  unfold lowZ
  rw [ha]
  simp only [Pl.bt] at *
  rw [h5, Int.ediv_one, Int.ediv_one, nat_vl h1, nat_vl h2]
  congr 1
  unfold tp
  cases b with
  | false =>
    have := vl_nonneg h1.1
    simp; exact this
  | true =>
    have hne : n ≠ [] := fun e => by have := h4 e; cases this
    have := vl_pos h1 hne
    simp; exact this
theorem lowZ_ro {N D : Int} (hD : 0 < D) : RO (lowZ N D) := by
  obtain ⟨g1, g2, g3, g4, g5⟩ := gcdI_pos (absI_nonneg N) hD
  have q0 : 0 ≤ absI N / gcdI (absI N) D := Int.ediv_nonneg (absI_nonneg N) (by omega)
  have q1 : 0 < D / gcdI (absI N) D := by
    have := Int.le_ediv_of_mul_le g1 (show 1 * gcdI (absI N) D ≤ D by omega)
    omega
  unfold lowZ RO
  refine ⟨nm_nat _, nm_nat _, fun e => by have h0 := nat_eq_nil e; omega, fun e => ?_, ?_⟩
  · have h0 := nat_eq_nil e
    have h1 : absI N / gcdI (absI N) D = 0 := by omega
    have h2 := Int.emod_add_mul_ediv (absI N) (gcdI (absI N) D)
    rw [g2, h1] at h2
    have h3 : N = 0 := absI_eq0.1 (by omega)
    rw [h3]; rfl
  · simp only
    rw [vl_nat _ q0, vl_nat _ (by omega)]; exact g4
theorem lowZ_tp {N D : Int} (hD : 0 < D) : tp (lowZ N D) * D = N * bt (lowZ N D) ∧ 0 < bt (lowZ N D) := by
  obtain ⟨g1, g2, g3, g4, g5⟩ := gcdI_pos (absI_nonneg N) hD
  have q0 : 0 ≤ absI N / gcdI (absI N) D := Int.ediv_nonneg (absI_nonneg N) (by omega)
  have q1 : 0 < D / gcdI (absI N) D := by
    have := Int.le_ediv_of_mul_le g1 (show 1 * gcdI (absI N) D ≤ D by omega)
    omega
  have e1 := Int.emod_add_mul_ediv (absI N) (gcdI (absI N) D)
  have e2 := Int.emod_add_mul_ediv D (gcdI (absI N) D)
  rw [g2] at e1
  rw [g3] at e2
  have hb : bt (lowZ N D) = D / gcdI (absI N) D := by unfold bt lowZ; exact vl_nat _ (by omega)
  refine ⟨?_, by rw [hb]; exact q1⟩
  rw [hb]
  have ht : tp (lowZ N D) = if N < 0 then -(absI N / gcdI (absI N) D) else absI N / gcdI (absI N) D := by
    unfold tp lowZ
    simp only [decide_eq_true_eq]
    rw [vl_nat _ q0]
  rw [ht]
  generalize gcdI (absI N) D = G at *
  generalize absI N / G = A at *
  generalize D / G = B at *
  split
  · rename_i h
    have h2 := absI_neg (by omega : N ≤ 0)
    have e3 : N = -(G * A) := by omega
    rw [e3, ← e2]
    simp only [Int.zero_add, Int.neg_mul]
    rw [Int.mul_comm A (G * B), Int.mul_assoc, Int.mul_comm B A, ← Int.mul_assoc]
  · rename_i h
    have h2 := absI_pos (by omega : 0 ≤ N)
    have e3 : N = G * A := by omega
    rw [e3, ← e2]
    simp only [Int.zero_add]
    rw [Int.mul_comm A (G * B), Int.mul_assoc, Int.mul_comm B A, ← Int.mul_assoc]
/-- Lowest terms out of a sign and two numbers that are not below 0. -/
def low (neg : Bool) (a d : Int) : Bool × List Int × List Int := (neg && decide (0 < a), nat (a / gcdI a d), nat (d / gcdI a d))
theorem low_eq {neg : Bool} {a d : Int} (ha : 0 ≤ a) : low neg a d = lowZ (if neg = true then -a else a) d := by
  unfold low lowZ
  cases neg with
  | false =>
    simp only [Bool.false_and, Bool.false_eq_true, if_false, absI_pos ha]
    rw [decide_eq_false (by omega)]
  | true =>
    simp only [Bool.true_and, if_true]
    rw [absI_neg (by omega), Int.neg_neg]
    congr 1
    by_cases h : 0 < a
    · rw [decide_eq_true h, decide_eq_true (by omega)]
    · rw [decide_eq_false h, decide_eq_false (by omega)]

end Go.Proofs.Ytegbmillbbcmfaa.Pl
