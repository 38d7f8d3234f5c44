/-
Products, sums, fits and marks of rationals, for vectors.
-/
import Derived.Test.YtegbmillbbcmfaaPvA
import Derived.Test.YtegbmillbbcmfaaPvB
import Derived.Test.YtegbmillbbcmfaaPl
import Derived.Test.YtegbmillbbcmfaaMkR
import Derived.Test.YtegbmillbbcmfaaQxrsp
namespace Go.Proofs.Ytegbmillbbcmfaa.Pl
open Go.RowKit Go.Proofs.Ytegbmillbbcmfaa.Q Go.Proofs.Ytegbmillbbcmfaa.Pn Go.Proofs.YtegbmillbbcmfaaW.PrintWords Go.Proofs.YtegbmillbbcmfaaW.PrintLast Go.Proofs.YtegbmillbbcmfaaW.PrintMore
set_option linter.unusedVariables false
set_option linter.unusedSimpArgs false

def mulZ (r s : R3) : R3 := low (r.1 != s.1) (vl r.2.1 * vl s.2.1) (vl r.2.2 * vl s.2.2)
theorem timesE {r s : R3} {n : Nat} (hr : Sm n r) (hs : Sm n s) (hn : n ≤ 400) : Ev (fun k => impl_Rat_times.f k r.1 r.2.1 r.2.2 s.1 s.2.1 s.2.2) (mulZ r s) := by
  obtain ⟨r1, r2, r3, r4, r5⟩ := hr
  obtain ⟨s1, s2, s3, s4, s5⟩ := hs
  obtain ⟨K1, e1⟩ := mulIE r1 s1 (by omega) (by omega)
  obtain ⟨K2, e2⟩ := mulIE r2 s2 (by omega) (by omega)
  have b1 := pw_mul (nm_bd r1 r4) (nm_bd s1 s4)
  have b2 := pw_mul (nm_bd r2 r5) (nm_bd s2 s5)
  obtain ⟨K3, e3⟩ := lowestE (neg := r.1 != s.1) b1.1 (Int.mul_pos (vl_pos r2 r3) (vl_pos s2 s3)) (pw_up b1.2 (by omega)) (pw_up b2.2 (by omega))
  refine ⟨K1 + K2 + K3, fun k hk => ?_⟩
  have e1' := e1 k (by omega)
  have e2' := e2 k (by omega)
  have e3' := e3 k (by omega)
  simp only at e1' e2' e3'
  show impl_Rat_times.f k _ _ _ _ _ _ = _
  unfold impl_Rat_times.f mulZ
  simp only [e1', e2', e3', Option.bind_some]
theorem mulRE {r s : R3} {n : Nat} (hr : Sm n r) (hs : Sm n s) (hn : n ≤ 400) : Ev (fun k => spec_l02Mul.f k r.1 r.2.1 r.2.2 s.1 s.2.1 s.2.2) (mulZ r s) := by
  obtain ⟨r1, r2, r3, r4, r5⟩ := hr
  obtain ⟨s1, s2, s3, s4, s5⟩ := hs
  obtain ⟨K1, e1⟩ := mulSE r1 s1 (by omega) (by omega)
  obtain ⟨K2, e2⟩ := mulSE r2 s2 (by omega) (by omega)
  have b1 := pw_mul (nm_bd r1 r4) (nm_bd s1 s4)
  have b2 := pw_mul (nm_bd r2 r5) (nm_bd s2 s5)
  obtain ⟨K3, e3⟩ := makeE (neg := r.1 != s.1) b1.1 (Int.mul_pos (vl_pos r2 r3) (vl_pos s2 s3)) (pw_up b1.2 (by omega)) (pw_up b2.2 (by omega))
  refine ⟨K1 + K2 + K3, fun k hk => ?_⟩
  have e1' := e1 k (by omega)
  have e2' := e2 k (by omega)
  have e3' := e3 k (by omega)
  simp only at e1' e2' e3'
  show spec_l02Mul.f k _ _ _ _ _ _ = _
  unfold spec_l02Mul.f mulZ
  simp only [e1', e2', e3', Option.bind_some]
theorem subIE {x y : Int} (hx : 0 ≤ x) (hy : 0 ≤ y) (hle : y ≤ x) {n : Nat} (hn : x < 10000 ^ n) (hb : n ≤ 1000000000) : Ev (fun k => impl_natSub.f k (nat x) (nat y)) (nat (x - y)) := by
  have h := impl_natSub_ev (lm_nat x) (lm_nat y) (by have := nat_len x n hn; omega) (by rw [vl_nat x hx, vl_nat y hy]; exact hle)
  rw [vl_nat x hx, vl_nat y hy] at h
  exact h
theorem addIE {x y : Int} (hx : 0 ≤ x) (hy : 0 ≤ y) {n m : Nat} (hn : x < 10000 ^ n) (hm : y < 10000 ^ m) (hb : n ≤ 1000000000) (hb' : m ≤ 1000000000) : Ev (fun k => impl_natAdd.f k (nat x) (nat y)) (nat (x + y)) := by
  have h := impl_natAdd_ev (nm_nat x) (nm_nat y) (by have := nat_len x n hn; omega) (by have := nat_len y m hm; omega)
  rw [vl_nat x hx, vl_nat y hy] at h
  exact h
theorem plusE {r s : R3} {n : Nat} (hr : Sm n r) (hs : Sm n s) (hn : n ≤ 400) : Ev (fun k => impl_Rat_plus.f k r.1 r.2.1 r.2.2 s.1 s.2.1 s.2.2) (addZ r s) := by
  obtain ⟨r1, r2, r3, r4, r5⟩ := hr
  obtain ⟨s1, s2, s3, s4, s5⟩ := hs
  obtain ⟨K1, e1⟩ := mulIE r1 s2 (by omega) (by omega)
  obtain ⟨K2, e2⟩ := mulIE s1 r2 (by omega) (by omega)
  obtain ⟨K3, e3⟩ := mulIE r2 s2 (by omega) (by omega)
  have b1 := pw_mul (nm_bd r1 r4) (nm_bd s2 s5)
  have b2 := pw_mul (nm_bd s1 s4) (nm_bd r2 r5)
  have b3 := pw_mul (nm_bd r2 r5) (nm_bd s2 s5)
  have hd : 0 < vl r.2.2 * vl s.2.2 := Int.mul_pos (vl_pos r2 r3) (vl_pos s2 s3)
  have hc := natCmp_nat b1.1 b2.1
  have p1 := pow_pos' (n + n)
  have p2 : (10000 : Int) ^ (n + n + 1) = 10000 ^ (n + n) * 10000 := Int.pow_succ _ _
  have u3 := pw_up b3.2 (show n + n ≤ 900 by omega)
  unfold addZ
  generalize vl r.2.1 * vl s.2.2 = A at *
  generalize vl s.2.1 * vl r.2.2 = B at *
  generalize vl r.2.2 * vl s.2.2 = D at *
  by_cases h1 : r.1 = s.1
  · rw [if_pos h1]
    obtain ⟨K4, e4⟩ := addIE b1.1 b2.1 b1.2 b2.2 (by omega) (by omega)
    obtain ⟨K5, e5⟩ := lowestE (neg := r.1) (a := A + B) (d := D) (by omega) hd (pw_up (n := n + n + 1) (by omega) (by omega)) u3
    refine ⟨K1 + K2 + K3 + K4 + K5, fun k hk => ?_⟩
    have e1' := e1 k (by omega)
    have e2' := e2 k (by omega)
    have e3' := e3 k (by omega)
    have e4' := e4 k (by omega)
    have e5' := e5 k (by omega)
    simp only at e1' e2' e3' e4' e5'
    show impl_Rat_plus.f k _ _ _ _ _ _ = _
    unfold impl_Rat_plus.f
    simp only [e1', e2', e3', Option.bind_some]
    rw [if_pos (beq_iff_eq.2 h1)]
    simp only [e4', e5', Option.bind_some]
  · rw [if_neg h1]
    by_cases h2 : B ≤ A
    · rw [if_pos h2]
      obtain ⟨K4, e4⟩ := subIE b1.1 b2.1 h2 b1.2 (by omega)
      obtain ⟨K5, e5⟩ := lowestE (neg := r.1) (a := A - B) (d := D) (by omega) hd (pw_up (n := n + n) (by omega) (by omega)) u3
      refine ⟨K1 + K2 + K3 + K4 + K5, fun k hk => ?_⟩
      have e1' := e1 k (by omega)
      have e2' := e2 k (by omega)
      have e3' := e3 k (by omega)
      have e4' := e4 k (by omega)
      have e5' := e5 k (by omega)
      simp only at e1' e2' e3' e4' e5'
      show impl_Rat_plus.f k _ _ _ _ _ _ = _
      unfold impl_Rat_plus.f
      simp only [e1', e2', e3', Option.bind_some]
      rw [if_neg (fun z => h1 (beq_iff_eq.1 z))]
      simp only [hc, Option.bind_some]
      rw [if_pos ((cmpI_ge _ _).2 h2)]
      simp only [e4', e5', Option.bind_some]
    · rw [if_neg h2]
      obtain ⟨K4, e4⟩ := subIE b2.1 b1.1 (by omega) b2.2 (by omega)
      obtain ⟨K5, e5⟩ := lowestE (neg := s.1) (a := B - A) (d := D) (by omega) hd (pw_up (n := n + n) (by omega) (by omega)) u3
      refine ⟨K1 + K2 + K3 + K4 + K5, fun k hk => ?_⟩
      have e1' := e1 k (by omega)
      have e2' := e2 k (by omega)
      have e3' := e3 k (by omega)
      have e4' := e4 k (by omega)
      have e5' := e5 k (by omega)
      simp only at e1' e2' e3' e4' e5'
      show impl_Rat_plus.f k _ _ _ _ _ _ = _
      unfold impl_Rat_plus.f
      simp only [e1', e2', e3', Option.bind_some]
      rw [if_neg (fun z => h1 (beq_iff_eq.1 z))]
      simp only [hc, Option.bind_some]
      rw [if_neg (fun z => h2 ((cmpI_ge _ _).1 z))]
      simp only [e4', e5', Option.bind_some]
abbrev R4 := Bool × List Int × List Int × Int
def bad4 (c : Int) : R4 := (false, [], [], c)
def ok4 (r : R3) : R4 := (r.1, r.2.1, r.2.2, 0)
def fit4 (r : R3) : R4 := if r.2.1.length ≤ 40 ∧ r.2.2.length ≤ 40 then ok4 r else bad4 7
theorem fullRat_f (r : R3) : impl_fullRat.f r.1 r.2.1 r.2.2 = some (fit4 r) := by
  unfold impl_fullRat.f impl_Rat_fits.f fit4
  by_cases h1 : (r.2.1.length : Int) ≤ 40
  · rw [if_pos h1]
    by_cases h2 : (r.2.2.length : Int) ≤ 40
    · rw [decide_eq_true h2, if_pos ⟨by omega, by omega⟩]; rfl
    · rw [decide_eq_false h2, if_neg (by omega)]; rfl
  · rw [if_neg h1, if_neg (by omega)]; rfl
theorem own_f (r : R3) (h1 : r.2.1.length ≤ 1000000) (h2 : r.2.2.length ≤ 1000000) : spec_l02Own.f r.1 r.2.1 r.2.2 = some r := by
  unfold spec_l02Own.f
  simp only [Option.bind_some, List.length_nil, Nat.zero_add, List.nil_append]
  rw [if_pos (by omega), if_pos (by omega)]
theorem l02Fit_f (r : R3) : spec_l02Fit.f r.1 r.2.1 r.2.2 = some (fit4 r) := by
  unfold spec_l02Fit.f spec_l02Fits.f fit4
  by_cases h1 : (r.2.1.length : Int) ≤ 40
  · rw [if_pos h1]
    by_cases h2 : (r.2.2.length : Int) ≤ 40
    · rw [decide_eq_true h2, if_pos ⟨by omega, by omega⟩]
      simp only [Option.bind_some, if_true, own_f r (by omega) (by omega)]; rfl
    · rw [decide_eq_false h2, if_neg (by omega)]; rfl
  · rw [if_neg h1, if_neg (by omega)]; rfl
theorem fit4_len (r : R3) : (fit4 r).2.1.length ≤ 40 ∧ (fit4 r).2.2.1.length ≤ 40 := by
  unfold fit4
  split
  · assumption
  · simp [bad4]
theorem fit_tail (z : R3) : ((impl_fullRat.f z.1 z.2.1 z.2.2).bind fun t => some (t.1, t.2.1, t.2.2.1, t.2.2.2)) = some (fit4 z) := by rw [fullRat_f, Option.bind_some]
theorem fitR_tail (z : R3) : ((spec_l02Fit.f z.1 z.2.1 z.2.2).bind fun t => some (t.1, t.2.1, t.2.2.1, t.2.2.2)) = some (fit4 z) := by rw [l02Fit_f, Option.bind_some]
theorem low_len {neg : Bool} {a d : Int} (ha : 0 ≤ a) (hd : 0 < d) {n : Nat} (h1 : a < 10000 ^ n) (h2 : d < 10000 ^ n) : (low neg a d).2.1.length ≤ n ∧ (low neg a d).2.2.length ≤ n := by
  have q1 := Int.ediv_le_self (gcdI a d) ha
  have q2 := Int.ediv_le_self (gcdI a d) (Int.le_of_lt hd)
  exact ⟨nat_len _ n (by omega), nat_len _ n (by omega)⟩
theorem low_ro {neg : Bool} {a d : Int} (ha : 0 ≤ a) (hd : 0 < d) : RO (low neg a d) := by
  rw [low_eq ha]; exact lowZ_ro hd
theorem markRat_ev (b : Bool) (n d : List Int) (k0 : Int) (h0 : 0 ≤ k0) (hk : k0 ≤ 1000000000000) (hn : n.length ≤ 1000000000000) (hd : d.length ≤ 1000000000000) :
    Ev (fun k => laws_markRat.f k b n d k0) (k0 + n.length + d.length, marks k0 n.length, marks (k0 + n.length) d.length) := by
  obtain ⟨K1, e1⟩ := mark_ev n k0 h0 (by omega) (by omega)
  obtain ⟨K2, e2⟩ := mark_ev d (k0 + n.length) (by omega) (by omega) (by omega)
  refine ⟨K1 + K2, fun k hk => ?_⟩
  have e1' := e1 k (by omega)
  have e2' := e2 k (by omega)
  simp only at e1' e2'
  show laws_markRat.f k b n d k0 = _
  unfold laws_markRat.f
  simp only [e1', e2', Option.bind_some]
theorem heldRat_ev (b : Bool) (n d : Nat) (k0 : Int) (h0 : 0 ≤ k0) (hk : k0 ≤ 1000000000000) (hn : n ≤ 1000000000000) (hd : d ≤ 1000000000000) :
    Ev (fun k => laws_heldRat.f k b (marks k0 n) (marks (k0 + n) d) k0) (k0 + n + d) := by
  obtain ⟨K1, e1⟩ := held_ev n k0 h0 (by omega) (by omega)
  obtain ⟨K2, e2⟩ := held_ev d (k0 + n) (by omega) (by omega) (by omega)
  refine ⟨K1 + K2, fun k hk => ?_⟩
  have e1' := e1 k (by omega)
  have e2' := e2 k (by omega)
  simp only at e1' e2'
  show laws_heldRat.f k b _ _ k0 = _
  unfold laws_heldRat.f
  simp only [e1', e2', Option.bind_some]
  rw [if_neg (by omega), if_neg (by omega)]
end Go.Proofs.Ytegbmillbbcmfaa.Pl
