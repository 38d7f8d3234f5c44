import Derived.Test.YtacdaijalkkogaaPlGc
namespace Go.Proofs.Ytacdaijalkkogaa.Pl
open Go.RowKit Go.Proofs.Ytacdaijalkkogaa.Q Go.Proofs.Ytacdaijalkkogaa.Pn Go.Proofs.YtacdaijalkkogaaW.PrintWords Go.Proofs.YtacdaijalkkogaaW.PrintLast
set_option linter.unusedVariables false
set_option linter.unusedSimpArgs false

def absI (x : Int) : Int := (x.natAbs : Int)
theorem absI_pos {x : Int} (h : 0 ≤ x) : absI x = x := by unfold absI; omega
theorem absI_neg {x : Int} (h : x ≤ 0) : absI x = -x := by unfold absI; omega
theorem gcdI_pos {a d : Int} (ha : 0 ≤ a) (hd : 0 < d) : 0 < gcdI a d ∧ a % gcdI a d = 0 ∧ d % gcdI a d = 0 ∧ gcdI (a / gcdI a d) (d / gcdI a d) = 1 ∧ gcdI a d ≤ d := by
 obtain ⟨m, rfl⟩ := Int.eq_ofNat_of_zero_le ha
 obtain ⟨n, rfl⟩ := Int.eq_ofNat_of_zero_le (Int.le_of_lt hd)
 unfold gcdI
 simp only [Int.toNat_natCast]
 have hn : 0 < n := by omega
 have hp : 0 < Nat.gcd m n := Nat.gcd_pos_of_pos_right m hn
 refine ⟨by omega, ?_, ?_, ?_, ?_⟩
 ·
  have := Nat.mod_eq_zero_of_dvd (Nat.gcd_dvd_left m n); exact_mod_cast this
 ·
  have := Nat.mod_eq_zero_of_dvd (Nat.gcd_dvd_right m n); exact_mod_cast this
 ·
  have e := Nat.gcd_div (Nat.gcd_dvd_left m n) (Nat.gcd_dvd_right m n)
  rw [Nat.div_self hp] at e
  have e1 : ((m : Int) / ((Nat.gcd m n : Nat) : Int)).toNat = m / Nat.gcd m n := by rw [← Int.natCast_ediv, Int.toNat_natCast]
  have e2 : ((n : Int) / ((Nat.gcd m n : Nat) : Int)).toNat = n / Nat.gcd m n := by rw [← Int.natCast_ediv, Int.toNat_natCast]
  rw [e1, e2, e]; rfl
 ·
  have := Nat.gcd_le_right m hn; omega
/-- N over D in lowest terms. -/
def lowZ (N D : Int) : Bool × List Int × List Int := (decide (N < 0), nat (absI N / gcdI (absI N) D), nat (D / gcdI (absI N) D))
/-- A right rational, of whatever length. -/
def RO (r : Bool × List Int × List Int) : Prop := Nm r.2.1 ∧ Nm r.2.2 ∧ r.2.2 ≠ [] ∧ (r.2.1 = [] → r.1 = false) ∧ gcdI (vl r.2.1) (vl r.2.2) = 1
/-- Its numerator with its sign. -/
def tp (r : Bool × List Int × List Int) : Int := if r.1 = true then -vl r.2.1 else vl r.2.1
def bt (r : Bool × List Int × List Int) : Int := vl r.2.2
theorem RO.bt {r : Bool × List Int × List Int} (h : RO r) : 0 < bt r := vl_pos h.2.1 h.2.2.1
theorem RO.abs {r : Bool × List Int × List Int} (h : RO r) : absI (tp r) = vl r.2.1 := by
 have := vl_nonneg h.1.1
 unfold tp
 split
 ·
  rw [absI_neg (by omega)]; omega
 ·
  exact absI_pos this
theorem RO.low {r : Bool × List Int × List Int} (h : RO r) : r = lowZ (tp r) (Pl.bt r) := by
 obtain ⟨b, n, d⟩ := r
 have ha := h.abs
 obtain ⟨h1, h2, h3, h4, h5⟩ := h
 unfold lowZ
 rw [ha]
 simp only [Pl.bt] at *
 rw [h5, Int.ediv_one, Int.ediv_one, nat_vl h1, nat_vl h2]
 congr 1
 unfold tp
 cases b with
 | false =>
  have := vl_nonneg h1.1
  simp; exact this
 | true =>
  have hne : n ≠ [] := fun e => by have := h4 e; cases this
  have := vl_pos h1 hne
  simp; exact this
/-- Lowest terms out of a sign and two numbers that are not below 0. -/
def low (neg : Bool) (a d : Int) : Bool × List Int × List Int := (neg && decide (0 < a), nat (a / gcdI a d), nat (d / gcdI a d))
end Go.Proofs.Ytacdaijalkkogaa.Pl
