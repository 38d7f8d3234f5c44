/-
Which of two rationals is the greater one, by the program and by the reference.
-/
import Derived.Test.YtegbmillbbcmfaaPl
import Derived.Test.YtegbmillbbcmfaaQxrin
import Derived.Test.YtegbmillbbcmfaaQxrsq
namespace Go.Proofs.Ytegbmillbbcmfaa.Pl
open Go.RowKit Go.Proofs.Ytegbmillbbcmfaa.Q Go.Proofs.Ytegbmillbbcmfaa.Pn Go.Proofs.YtegbmillbbcmfaaW.PrintWords Go.Proofs.YtegbmillbbcmfaaW.PrintLast Go.Proofs.YtegbmillbbcmfaaW.PrintMore
set_option linter.unusedVariables false
set_option linter.unusedSimpArgs false

abbrev R3 := Bool × List Int × List Int
def Sm (n : Nat) (r : R3) : Prop := Nm r.2.1 ∧ Nm r.2.2 ∧ r.2.2 ≠ [] ∧ r.2.1.length ≤ n ∧ r.2.2.length ≤ n
theorem RO.sm {r : R3} (h : RO r) {n : Nat} (h1 : r.2.1.length ≤ n) (h2 : r.2.2.length ≤ n) : Sm n r := ⟨h.1, h.2.1, h.2.2.1, h1, h2⟩
theorem mulIE {a b : List Int} (ha : Nm a) (hb : Nm b) (hla : a.length ≤ 1000000) (hlb : b.length ≤ 1000000) : Ev (fun k => impl_natMul.f k a b) (nat (vl a * vl b)) := impl_natMul_ev ha.1 hb.1 (by omega) (by omega)
theorem mulSE {a b : List Int} (ha : Nm a) (hb : Nm b) (hla : a.length ≤ 1000000) (hlb : b.length ≤ 1000000) : Ev (fun k => spec_l01Mul.f k a b) (nat (vl a * vl b)) := spec_l01Mul_ev ha.1 hb.1 (by omega) (by omega)
theorem pw_mul {n : Nat} {a b : Int} (ha : 0 ≤ a ∧ a < 10000 ^ n) (hb : 0 ≤ b ∧ b < 10000 ^ n) : 0 ≤ a * b ∧ a * b < 10000 ^ (n + n) := by
  rw [Int.pow_add]; exact mul_lt2 ha hb
theorem nm_bd {l : List Int} (h : Nm l) {n : Nat} (hl : l.length ≤ n) : 0 ≤ vl l ∧ vl l < 10000 ^ n := ⟨vl_nonneg h.1, Int.lt_of_lt_of_le (vl_lt h.1) (pow_mono' hl)⟩
theorem pw_up {n m : Nat} {a : Int} (h : a < 10000 ^ n) (hm : n ≤ m) : a < 10000 ^ m := Int.lt_of_lt_of_le h (pow_mono' hm)
def addZ (r s : R3) : R3 :=
  if r.1 = s.1 then low r.1 (vl r.2.1 * vl s.2.2 + vl s.2.1 * vl r.2.2) (vl r.2.2 * vl s.2.2)
  else if vl s.2.1 * vl r.2.2 ≤ vl r.2.1 * vl s.2.2 then low r.1 (vl r.2.1 * vl s.2.2 - vl s.2.1 * vl r.2.2) (vl r.2.2 * vl s.2.2)
  else low s.1 (vl s.2.1 * vl r.2.2 - vl r.2.1 * vl s.2.2) (vl r.2.2 * vl s.2.2)
theorem natCmp_nat {x y : Int} (hx : 0 ≤ x) (hy : 0 ≤ y) : impl_natCmp.f (nat x) (nat y) = some (cmpI x y) := by
  unfold impl_natCmp.f
  rw [ncmp_vl (nm_nat x) (nm_nat y), vl_nat x hx, vl_nat y hy]
theorem addE {x y : Int} (hx : 0 ≤ x) (hy : 0 ≤ y) {n m : Nat} (hn : x < 10000 ^ n) (hm : y < 10000 ^ m) (hb : n ≤ 1000000000) (hb' : m ≤ 1000000000) : Ev (fun k => spec_l01Add.f k (nat x) (nat y)) (nat (x + y)) := by
  have h := spec_l01Add_ev (nm_nat x) (nm_nat y) (by have := nat_len x n hn; omega) (by have := nat_len y m hm; omega)
  rw [vl_nat x hx, vl_nat y hy] at h
  exact h
theorem addRE {r s : R3} {n : Nat} (hr : Sm n r) (hs : Sm n s) (hn : n ≤ 400) : Ev (fun k => spec_l02Add.f k r.1 r.2.1 r.2.2 s.1 s.2.1 s.2.2) (addZ r s) := by
  obtain ⟨r1, r2, r3, r4, r5⟩ := hr
  obtain ⟨s1, s2, s3, s4, s5⟩ := hs
  obtain ⟨K1, e1⟩ := mulSE r1 s2 (by omega) (by omega)
  obtain ⟨K2, e2⟩ := mulSE s1 r2 (by omega) (by omega)
  obtain ⟨K3, e3⟩ := mulSE r2 s2 (by omega) (by omega)
  have b1 := pw_mul (nm_bd r1 r4) (nm_bd s2 s5)
  have b2 := pw_mul (nm_bd s1 s4) (nm_bd r2 r5)
  have b3 := pw_mul (nm_bd r2 r5) (nm_bd s2 s5)
  have hd : 0 < vl r.2.2 * vl s.2.2 := Int.mul_pos (vl_pos r2 r3) (vl_pos s2 s3)
  obtain ⟨K6, e6⟩ := cmpE b1.1 b2.1 b1.2 (by omega)
  have p1 := pow_pos' (n + n)
  have p2 : (10000 : Int) ^ (n + n + 1) = 10000 ^ (n + n) * 10000 := Int.pow_succ _ _
  have u3 := pw_up b3.2 (show n + n ≤ 900 by omega)
  unfold addZ
  generalize vl r.2.1 * vl s.2.2 = A at *
  generalize vl s.2.1 * vl r.2.2 = B at *
  generalize vl r.2.2 * vl s.2.2 = D at *
  by_cases h1 : r.1 = s.1
  · rw [if_pos h1]
    obtain ⟨K4, e4⟩ := addE b1.1 b2.1 b1.2 b2.2 (by omega) (by omega)
    obtain ⟨K5, e5⟩ := makeE (neg := r.1) (a := A + B) (d := D) (by omega) hd (pw_up (n := n + n + 1) (by omega) (by omega)) u3
    refine ⟨K1 + K2 + K3 + K4 + K5, fun k hk => ?_⟩
    have e1' := e1 k (by omega)
    have e2' := e2 k (by omega)
    have e3' := e3 k (by omega)
    have e4' := e4 k (by omega)
    have e5' := e5 k (by omega)
    simp only at e1' e2' e3' e4' e5'
    show spec_l02Add.f k _ _ _ _ _ _ = _
    unfold spec_l02Add.f
    simp only [e1', e2', e3', Option.bind_some]
    rw [if_pos (beq_iff_eq.2 h1)]
    simp only [e4', e5', Option.bind_some]
  · rw [if_neg h1]
    by_cases h2 : B ≤ A
    · rw [if_pos h2]
      obtain ⟨K4, e4⟩ := subE b1.1 b2.1 h2 b1.2 (by omega)
      obtain ⟨K5, e5⟩ := makeE (neg := r.1) (a := A - B) (d := D) (by omega) hd (pw_up (n := n + n) (by omega) (by omega)) u3
      refine ⟨K1 + K2 + K3 + K4 + K5 + K6, fun k hk => ?_⟩
      have e1' := e1 k (by omega)
      have e2' := e2 k (by omega)
      have e3' := e3 k (by omega)
      have e4' := e4 k (by omega)
      have e5' := e5 k (by omega)
      have e6' := e6 k (by omega)
      simp only at e1' e2' e3' e4' e5' e6'
      show spec_l02Add.f k _ _ _ _ _ _ = _
      unfold spec_l02Add.f
      simp only [e1', e2', e3', Option.bind_some]
      rw [if_neg (fun z => h1 (beq_iff_eq.1 z))]
      simp only [e6', Option.bind_some]
      rw [if_pos ((cmpI_ge _ _).2 h2)]
      simp only [e4', e5', Option.bind_some]
    · rw [if_neg h2]
      obtain ⟨K4, e4⟩ := subE b2.1 b1.1 (by omega) b2.2 (by omega)
      obtain ⟨K5, e5⟩ := makeE (neg := s.1) (a := B - A) (d := D) (by omega) hd (pw_up (n := n + n) (by omega) (by omega)) u3
      refine ⟨K1 + K2 + K3 + K4 + K5 + K6, fun k hk => ?_⟩
      have e1' := e1 k (by omega)
      have e2' := e2 k (by omega)
      have e3' := e3 k (by omega)
      have e4' := e4 k (by omega)
      have e5' := e5 k (by omega)
      have e6' := e6 k (by omega)
      simp only at e1' e2' e3' e4' e5' e6'
      show spec_l02Add.f k _ _ _ _ _ _ = _
      unfold spec_l02Add.f
      simp only [e1', e2', e3', Option.bind_some]
      rw [if_neg (fun z => h1 (beq_iff_eq.1 z))]
      simp only [e6', Option.bind_some]
      rw [if_neg (fun z => h2 ((cmpI_ge _ _).1 z))]
      simp only [e4', e5', Option.bind_some]
def negZ (r : R3) : R3 := (!r.1 && !decide (r.2.1 = []), r.2.1, r.2.2)
end Go.Proofs.Ytegbmillbbcmfaa.Pl
