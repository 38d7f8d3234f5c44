import Derived.Test.YtacdaijalkkogaaPlGc
namespace Go.Proofs.Ytacdaijalkkogaa.Pl
open Go.RowKit Go.Proofs.Ytacdaijalkkogaa.Q Go.Proofs.Ytacdaijalkkogaa.Pn Go.Proofs.YtacdaijalkkogaaW.PrintWords Go.Proofs.YtacdaijalkkogaaW.PrintLast
set_option linter.unusedVariables false
set_option linter.unusedSimpArgs false

theorem gcdI_pos {a d : Int} (ha : 0 ≤ a) (hd : 0 < d) : 0 < gcdI a d ∧ a % gcdI a d = 0 ∧ d % gcdI a d = 0 ∧ gcdI (a / gcdI a d) (d / gcdI a d) = 1 ∧ gcdI a d ≤ d := by
  obtain ⟨m, rfl⟩ := Int.eq_ofNat_of_zero_le ha
  obtain ⟨n, rfl⟩ := Int.eq_ofNat_of_zero_le (Int.le_of_lt hd)
  unfold gcdI
  simp only [Int.toNat_natCast]
  have hn : 0 < n := by omega
  have hp : 0 < Nat.gcd m n := Nat.gcd_pos_of_pos_right m hn
  refine ⟨by omega, ?_, ?_, ?_, ?_⟩
  · have := Nat.mod_eq_zero_of_dvd (Nat.gcd_dvd_left m n); exact_mod_cast this
  · have := Nat.mod_eq_zero_of_dvd (Nat.gcd_dvd_right m n); exact_mod_cast this
  · have e := Nat.gcd_div (Nat.gcd_dvd_left m n) (Nat.gcd_dvd_right m n)
    rw [Nat.div_self hp] at e
    have e1 : ((m : Int) / ((Nat.gcd m n : Nat) : Int)).toNat = m / Nat.gcd m n := by rw [← Int.natCast_ediv, Int.toNat_natCast]
    have e2 : ((n : Int) / ((Nat.gcd m n : Nat) : Int)).toNat = n / Nat.gcd m n := by rw [← Int.natCast_ediv, Int.toNat_natCast]
    rw [e1, e2, e]; rfl
  · have := Nat.gcd_le_right m hn; omega
/-- A right rational, of whatever length. -/
def RO (r : Bool × List Int × List Int) : Prop := Nm r.2.1 ∧ Nm r.2.2 ∧ r.2.2 ≠ [] ∧ (r.2.1 = [] → r.1 = false) ∧ gcdI (vl r.2.1) (vl r.2.2) = 1
end Go.Proofs.Ytacdaijalkkogaa.Pl
