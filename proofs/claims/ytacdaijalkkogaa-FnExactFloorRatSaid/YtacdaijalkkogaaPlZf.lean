import Derived.Test.YtacdaijalkkogaaPlY
import Derived.Test.YtacdaijalkkogaaQxFloorRat
namespace Go.Proofs.Ytacdaijalkkogaa.Pl
open Go.RowKit Go.Proofs.Ytacdaijalkkogaa.Q Go.Proofs.Ytacdaijalkkogaa.Pn Go.Proofs.YtacdaijalkkogaaW.PrintWords Go.Proofs.YtacdaijalkkogaaW.PrintLast Go.Proofs.YtacdaijalkkogaaW.PrintMore
set_option linter.unusedVariables false
set_option linter.unusedSimpArgs false

/-- A floor. -/
def flZ (r : R3) : R3 := if r.1 = true ∧ 0 < vl r.2.1 % vl r.2.2 then (true, nat (vl r.2.1 / vl r.2.2 + 1), [1]) else (r.1 && decide (0 < vl r.2.1 / vl r.2.2), nat (vl r.2.1 / vl r.2.2), [1])
def flAns (r : R3) : R4 := if ratOKB r = true then fit4 (flZ r) else bad4 1
theorem flAns_len (r : R3) : (flAns r).2.1.length ≤ 40 ∧ (flAns r).2.2.1.length ≤ 40 := by
  unfold flAns
  split
  · exact fit4_len _
  · simp [bad4]
theorem low_one {neg : Bool} {q : Int} (h : 0 ≤ q) : low neg q 1 = (neg && decide (0 < q), nat q, [1]) := by
  unfold low
  rw [gcdI_one h, Int.ediv_one, Int.ediv_one, nat_1]
theorem implFl_ev (b : Bool) (n d : List Int) : Ev (fun k => impl_FloorRat.f k b n d) (flAns (b, n, d)) := by
  obtain ⟨K, e⟩ := ratsCode1 b n d
  by_cases h : ratOKB (b, n, d) = true
  · have h1 := (ratOKB_iff _).1 h
    have m1 : Nm n := h1.1.1
    have m2 : Nm d := h1.1.2.1
    have hl1 : n.length ≤ 40 := h1.2.1
    have hl2 : d.length ≤ 40 := h1.2.2
    have a1 := vl_nonneg m1.1
    have d1 := vl_pos m2 h1.1.2.2.1
    have q0 : 0 ≤ vl n / vl d := Int.ediv_nonneg a1 (by omega)
    have q1 : vl n / vl d ≤ vl n := Int.ediv_le_self _ a1
    have r0 : 0 ≤ vl n % vl d := Int.emod_nonneg _ (by omega)
    have hb := (nm_bd m1 hl1).2
    have hd := divI (A := vl n) (B := vl d) a1 d1 hb (by omega)
    rw [nat_vl m1, nat_vl m2] at hd
    obtain ⟨K1, e1⟩ := addIE (x := vl n / vl d) (y := 1) q0 (by omega) (n := 41) (m := 1) (by have := pw_up hb (show 40 ≤ 41 by omega); omega) (by omega) (by omega) (by omega)
    rw [nat_1] at e1
    have lp := nat_lp r0
    have lq := nat_lp q0
    have lq1 := nat_lp (show 0 ≤ vl n / vl d + 1 by omega)
    rw [decide_eq_true (show 0 < vl n / vl d + 1 by omega)] at lq1
    have f1 := fullRat_f (true, nat (vl n / vl d + 1), [1])
    have f2 := fullRat_f (b && decide (0 < vl n / vl d), nat (vl n / vl d), [1])
    simp only at f1 f2
    have hz : flZ (b, n, d) = if b = true ∧ 0 < vl n % vl d then (true, nat (vl n / vl d + 1), [1]) else (b && decide (0 < vl n / vl d), nat (vl n / vl d), [1]) := rfl
    unfold flAns
    rw [if_pos h, hz]
    clear hz
    generalize nat (vl n % vl d) = M at *
    generalize vl n % vl d = R at *
    generalize nat (vl n / vl d + 1) = X at *
    generalize nat (vl n / vl d) = Y at *
    generalize vl n / vl d = Q at *
    refine ⟨K + K1 + 1, fun k hk => ?_⟩
    obtain ⟨k, rfl⟩ : ∃ m, k = m + 1 := ⟨k - 1, by omega⟩
    have e' := e (k + 1) (by omega)
    have e1' := e1 k (by omega)
    simp only at e' e1'
    rw [if_pos h] at e'
    show impl_FloorRat.f (k + 1) b n d = _
    unfold impl_FloorRat.f
    rw [e', Option.bind_some, if_pos rfl, hd, Option.bind_some]
    cases b with
    | true =>
      rw [if_pos rfl]
      simp only
      rw [lp]
      by_cases hr : 0 < R
      · rw [decide_eq_true hr, if_pos ⟨trivial, hr⟩]
        simp only [impl_FloorRat.j0, if_true]
        rw [one_f, Option.bind_some, e1', Option.bind_some, Option.bind_some, lq1, f1, Option.bind_some]
      · rw [decide_eq_false hr, if_neg (fun z => hr z.2)]
        simp only [impl_FloorRat.j0, if_true, Bool.false_eq_true, if_false]
        rw [one_f, Option.bind_some, lq]
        simp only [Bool.true_and] at f2 ⊢
        rw [f2, Option.bind_some]
    | false =>
      rw [if_neg (by simp), if_neg (fun z => by simp at z)]
      simp only [impl_FloorRat.j0, Bool.false_eq_true, if_false]
      rw [one_f, Option.bind_some]
      simp only [Bool.false_and] at f2 ⊢
      rw [f2, Option.bind_some]
  · refine ⟨K, fun k hk => ?_⟩
    have e' := e k (by omega)
    simp only at e'
    show impl_FloorRat.f k b n d = _
    unfold impl_FloorRat.f flAns
    rw [e', Option.bind_some, if_neg h, if_neg (by omega), if_neg h]; rfl
theorem specFl_ev (b : Bool) (n d : List Int) (l1 : n.length ≤ 1048576) (l2 : d.length ≤ 1048576) : Ev (fun k => spec_FloorRat.f k b n d) (flAns (b, n, d)) := by
  obtain ⟨K, e⟩ := specRatOK_ev b n d l1 l2
  by_cases h : ratOKB (b, n, d) = true
  · have h1 := (ratOKB_iff _).1 h
    have m1 : Nm n := h1.1.1
    have m2 : Nm d := h1.1.2.1
    have hl1 : n.length ≤ 40 := h1.2.1
    have hl2 : d.length ≤ 40 := h1.2.2
    have a1 := vl_nonneg m1.1
    have d1 := vl_pos m2 h1.1.2.2.1
    have q0 : 0 ≤ vl n / vl d := Int.ediv_nonneg a1 (by omega)
    have q1 : vl n / vl d ≤ vl n := Int.ediv_le_self _ a1
    have r0 : 0 ≤ vl n % vl d := Int.emod_nonneg _ (by omega)
    have hb := (nm_bd m1 hl1).2
    have hb2 := (nm_bd m2 hl2).2
    obtain ⟨K2, e2⟩ := divE (A := vl n) (B := vl d) a1 d1 hb hb2 (by omega) (by omega)
    rw [nat_vl m1, nat_vl m2] at e2
    have u0 := pw_up hb (show 40 ≤ 41 by omega)
    have u1 : vl n / vl d < 10000 ^ 41 := by omega
    have u2 : vl n / vl d + 1 < 10000 ^ 42 := by
      have := pow_pos' 41
      have e : (10000 : Int) ^ 42 = 10000 ^ 41 * 10000 := Int.pow_succ _ _
      omega
    obtain ⟨K1, e1⟩ := addE (x := vl n / vl d) (y := 1) q0 (by omega) (n := 41) (m := 1) u1 (by omega) (by omega) (by omega)
    rw [nat_1] at e1
    have o1 : (1 : Int) < 10000 ^ 900 := Int.lt_of_lt_of_le (show (1 : Int) < 10000 ^ 1 by omega) (pow_mono' (by omega))
    obtain ⟨K3, e3⟩ := makeE (neg := b) (a := vl n / vl d) (d := 1) q0 (by omega) (pw_up u1 (by omega)) o1
    obtain ⟨K4, e4⟩ := makeE (neg := b) (a := vl n / vl d + 1) (d := 1) (by omega) (by omega) (pw_up u2 (by omega)) o1
    rw [nat_1, low_one q0] at e3
    rw [nat_1, low_one (by omega), decide_eq_true (show 0 < vl n / vl d + 1 by omega), Bool.and_true] at e4
    have lp := nat_lp r0
    have f1 := l02Fit_f (b, nat (vl n / vl d + 1), [1])
    have f2 := l02Fit_f (b && decide (0 < vl n / vl d), nat (vl n / vl d), [1])
    simp only at f1 f2
    have hz : flZ (b, n, d) = if b = true ∧ 0 < vl n % vl d then (true, nat (vl n / vl d + 1), [1]) else (b && decide (0 < vl n / vl d), nat (vl n / vl d), [1]) := rfl
    unfold flAns
    rw [if_pos h, hz]
    clear hz u0 u1 u2 o1 hb hb2
    generalize nat (vl n % vl d) = M at *
    generalize vl n % vl d = R at *
    generalize nat (vl n / vl d + 1) = X at *
    generalize nat (vl n / vl d) = Y at *
    generalize vl n / vl d = Q at *
    refine ⟨K + K1 + K2 + K3 + K4 + 1, fun k hk => ?_⟩
    obtain ⟨k, rfl⟩ : ∃ m, k = m + 1 := ⟨k - 1, by omega⟩
    have e' := e (k + 1) (by omega)
    have e2' := e2 (k + 1) (by omega)
    have e1' := e1 k (by omega)
    have e3' := e3 k (by omega)
    have e4' := e4 k (by omega)
    simp only at e' e1' e2' e3' e4'
    rw [h] at e'
    show spec_FloorRat.f (k + 1) b n d = _
    unfold spec_FloorRat.f spec_l02Floor.f
    rw [e', Option.bind_some, if_pos rfl, e2', Option.bind_some]
    cases b with
    | true =>
      rw [if_pos rfl]
      simp only
      rw [lp]
      by_cases hr : 0 < R
      · rw [decide_eq_true hr, if_pos ⟨trivial, hr⟩]
        simp only [spec_l02Floor.j0, if_true]
        rw [e1', Option.bind_some, e4', Option.bind_some, Option.bind_some, f1, Option.bind_some]
      · rw [decide_eq_false hr, if_neg (fun z => hr z.2)]
        simp only [spec_l02Floor.j0, Bool.false_eq_true, if_false]
        rw [e3', Option.bind_some, Option.bind_some, f2, Option.bind_some]
    | false =>
      rw [if_neg (by simp), if_neg (fun z => by simp at z)]
      simp only [spec_l02Floor.j0, Bool.false_eq_true, if_false]
      rw [e3', Option.bind_some, Option.bind_some, f2, Option.bind_some]
  · refine ⟨K, fun k hk => ?_⟩
    have e' := e k (by omega)
    simp only at e'
    show spec_FloorRat.f k b n d = _
    unfold spec_FloorRat.f flAns
    rw [e', Option.bind_some, if_neg h, if_neg h]; rfl

end Go.Proofs.Ytacdaijalkkogaa.Pl
