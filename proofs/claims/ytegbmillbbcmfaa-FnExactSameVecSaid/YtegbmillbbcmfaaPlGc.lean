import Derived.Test.YtegbmillbbcmfaaPlN
import Derived.Test.YtegbmillbbcmfaaQxgcd
namespace Go.Proofs.Ytegbmillbbcmfaa.Pl
open Go.RowKit Go.Proofs.Ytegbmillbbcmfaa.Q Go.Proofs.Ytegbmillbbcmfaa.Pn Go.Proofs.YtegbmillbbcmfaaW.PrintWords Go.Proofs.YtegbmillbbcmfaaW.PrintLast
set_option linter.unusedVariables false
set_option linter.unusedSimpArgs false

/-- The greatest common divisor of two numbers that are not below 0. -/
def gcdI (x y : Int) : Int := ((Nat.gcd x.toNat y.toNat : Nat) : Int)
theorem gcdI_step {x y : Int} (hx : 0 ≤ x) (hy : 0 < y) : gcdI y (x % y) = gcdI x y := by
  obtain ⟨m, rfl⟩ := Int.eq_ofNat_of_zero_le hx
  obtain ⟨n, rfl⟩ := Int.eq_ofNat_of_zero_le (Int.le_of_lt hy)
  unfold gcdI
  have e : ((m : Int) % (n : Int)) = ((m % n : Nat) : Int) := by omega
  rw [e, Int.toNat_natCast, Int.toNat_natCast, Int.toNat_natCast, Nat.gcd_comm n, ← Nat.gcd_rec, Nat.gcd_comm]
theorem gcdI_zero {x : Int} (hx : 0 ≤ x) : gcdI x 0 = x := by
  unfold gcdI; simp; omega
theorem len_pos {y : Int} (hy : 0 < y) : ((nat y).length : Int) > 0 := by
  have : (nat y).length ≠ 0 := fun e => by have := nat_eq_nil (List.length_eq_zero_iff.1 e); omega
  omega
theorem gcdI_ev : ∀ (n : Nat) (x y : Int), y.toNat ≤ n → 0 ≤ x → x < 10000 ^ 1000 → 0 ≤ y → y < 10000 ^ 1000 → Ev (fun k => impl_natGcd.l0 k (nat x) (nat y)) (nat (gcdI x y)) := by
  intro n
  induction n with
  | zero =>
    intro x y h0 hx hxb hy hyb
    have : y = 0 := by omega
    subst this
    rw [gcdI_zero hx, nat_zero]
    refine Ev.step (f := fun _ => some (nat x)) (fun k => ?_) (Ev.now _)
    simp only [impl_natGcd.l0, List.length_nil]; rw [if_neg (by omega)]
  | succ n ih =>
    intro x y h0 hx hxb hy hyb
    by_cases hy0 : y = 0
    · subst hy0
      rw [gcdI_zero hx, nat_zero]
      refine Ev.step (f := fun _ => some (nat x)) (fun k => ?_) (Ev.now _)
      simp only [impl_natGcd.l0, List.length_nil]; rw [if_neg (by omega)]
    · have hp : 0 < y := by omega
      have q2 : 0 ≤ x % y := Int.emod_nonneg _ (by omega)
      have q3 : x % y < y := Int.emod_lt_of_pos _ hp
      have s := ih y (x % y) (by omega) hy hyb q2 (by omega)
      rw [gcdI_step hx hp] at s
      refine Ev.step (fun k => ?_) s
      simp only [impl_natGcd.l0]
      rw [if_pos (len_pos hp), divI hx hp hxb (by omega)]; rfl
theorem gcdS_ev : ∀ (n : Nat) (x y : Int), y.toNat ≤ n → 0 ≤ x → x < 10000 ^ 1000 → 0 ≤ y → y < 10000 ^ 1000 → Ev (fun k => spec_l01Gcd.l0 k (nat x) (nat y)) (nat (gcdI x y)) := by
  have fin : ∀ x : Int, 0 ≤ x → x < 10000 ^ 1000 → Ev (fun k => spec_l01Gcd.l0 k (nat x) (nat 0)) (nat (gcdI x 0)) := by
    intro x hx hxb
    rw [gcdI_zero hx, nat_zero]
    refine Ev.step (f := fun _ => some (nat x)) (fun k => ?_) (Ev.now _)
    have := nat_len x 1000 hxb
    simp only [spec_l01Gcd.l0, List.length_nil, Option.bind_some, List.nil_append]; rw [if_neg (by omega), if_pos (by omega)]
  intro n
  induction n with
  | zero =>
    intro x y h0 hx hxb hy hyb
    have : y = 0 := by omega
    subst this
    exact fin x hx hxb
  | succ n ih =>
    intro x y h0 hx hxb hy hyb
    by_cases hy0 : y = 0
    · subst hy0
      exact fin x hx hxb
    · have hp : 0 < y := by omega
      have q2 : 0 ≤ x % y := Int.emod_nonneg _ (by omega)
      have q3 : x % y < y := Int.emod_lt_of_pos _ hp
      have s := ih y (x % y) (by omega) hy hyb q2 (by omega)
      rw [gcdI_step hx hp] at s
      refine Ev.step (f := fun k => (spec_l01Div.f k (nat x) (nat y)).bind fun bt759 => (spec_l01Gcd.l0 k (nat y) bt759.2)) (fun k => ?_) (Ev.bind (divE hx hp hxb hyb (by omega) (by omega)) s)
      simp only [spec_l01Gcd.l0]
      rw [if_pos (len_pos hp)]
end Go.Proofs.Ytegbmillbbcmfaa.Pl
