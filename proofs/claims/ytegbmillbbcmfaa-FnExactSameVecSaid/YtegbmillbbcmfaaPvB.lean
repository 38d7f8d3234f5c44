/-
Which of two rationals is the greater one, by the program and by the reference.
-/
import Derived.Test.YtegbmillbbcmfaaPlW
import Derived.Test.YtegbmillbbcmfaaQxrin
import Derived.Test.YtegbmillbbcmfaaQxrsq
namespace Go.Proofs.Ytegbmillbbcmfaa.Pl
open Go.RowKit Go.Proofs.Ytegbmillbbcmfaa.Q Go.Proofs.Ytegbmillbbcmfaa.Pn Go.Proofs.YtegbmillbbcmfaaW.PrintWords Go.Proofs.YtegbmillbbcmfaaW.PrintLast Go.Proofs.YtegbmillbbcmfaaW.PrintMore
set_option linter.unusedVariables false
set_option linter.unusedSimpArgs false

abbrev R3 := Bool × List Int × List Int
def Sm (n : Nat) (r : R3) : Prop := Nm r.2.1 ∧ Nm r.2.2 ∧ r.2.2 ≠ [] ∧ r.2.1.length ≤ n ∧ r.2.2.length ≤ n
theorem RO.sm {r : R3} (h : RO r) {n : Nat} (h1 : r.2.1.length ≤ n) (h2 : r.2.2.length ≤ n) : Sm n r := ⟨h.1, h.2.1, h.2.2.1, h1, h2⟩
theorem mulIE {a b : List Int} (ha : Nm a) (hb : Nm b) (hla : a.length ≤ 1000000) (hlb : b.length ≤ 1000000) : Ev (fun k => impl_natMul.f k a b) (nat (vl a * vl b)) := impl_natMul_ev ha.1 hb.1 (by omega) (by omega)
theorem mulSE {a b : List Int} (ha : Nm a) (hb : Nm b) (hla : a.length ≤ 1000000) (hlb : b.length ≤ 1000000) : Ev (fun k => spec_l01Mul.f k a b) (nat (vl a * vl b)) := spec_l01Mul_ev ha.1 hb.1 (by omega) (by omega)
theorem pw_mul {n : Nat} {a b : Int} (ha : 0 ≤ a ∧ a < 10000 ^ n) (hb : 0 ≤ b ∧ b < 10000 ^ n) : 0 ≤ a * b ∧ a * b < 10000 ^ (n + n) := by
  rw [Int.pow_add]; exact mul_lt2 ha hb
theorem nm_bd {l : List Int} (h : Nm l) {n : Nat} (hl : l.length ≤ n) : 0 ≤ vl l ∧ vl l < 10000 ^ n := ⟨vl_nonneg h.1, Int.lt_of_lt_of_le (vl_lt h.1) (pow_mono' hl)⟩
theorem pw_up {n m : Nat} {a : Int} (h : a < 10000 ^ n) (hm : n ≤ m) : a < 10000 ^ m := Int.lt_of_lt_of_le h (pow_mono' hm)
def addZ (r s : R3) : R3 :=
  if r.1 = s.1 then low r.1 (vl r.2.1 * vl s.2.2 + vl s.2.1 * vl r.2.2) (vl r.2.2 * vl s.2.2)
  else if vl s.2.1 * vl r.2.2 ≤ vl r.2.1 * vl s.2.2 then low r.1 (vl r.2.1 * vl s.2.2 - vl s.2.1 * vl r.2.2) (vl r.2.2 * vl s.2.2)
  else low s.1 (vl s.2.1 * vl r.2.2 - vl r.2.1 * vl s.2.2) (vl r.2.2 * vl s.2.2)
theorem natCmp_nat {x y : Int} (hx : 0 ≤ x) (hy : 0 ≤ y) : impl_natCmp.f (nat x) (nat y) = some (cmpI x y) := by
  unfold impl_natCmp.f
  rw [ncmp_vl (nm_nat x) (nm_nat y), vl_nat x hx, vl_nat y hy]
theorem addE {x y : Int} (hx : 0 ≤ x) (hy : 0 ≤ y) {n m : Nat} (hn : x < 10000 ^ n) (hm : y < 10000 ^ m) (hb : n ≤ 1000000000) (hb' : m ≤ 1000000000) : Ev (fun k => spec_l01Add.f k (nat x) (nat y)) (nat (x + y)) := by
  have h := spec_l01Add_ev (nm_nat x) (nm_nat y) (by have := nat_len x n hn; omega) (by have := nat_len y m hm; omega)
  rw [vl_nat x hx, vl_nat y hy] at h
  exact h
theorem addRE {r s : R3} {n : Nat} (hr : Sm n r) (hs : Sm n s) (hn : n ≤ 400) : Ev (fun k => spec_l02Add.f k r.1 r.2.1 r.2.2 s.1 s.2.1 s.2.2) (addZ r s) := by
  obtain ⟨r1, r2, r3, r4, r5⟩ := hr
  obtain ⟨s1, s2, s3, s4, s5⟩ := hs
  obtain ⟨K1, e1⟩ := mulSE r1 s2 (by omega) (by omega)
  obtain ⟨K2, e2⟩ := mulSE s1 r2 (by omega) (by omega)
  obtain ⟨K3, e3⟩ := mulSE r2 s2 (by omega) (by omega)
  have b1 := pw_mul (nm_bd r1 r4) (nm_bd s2 s5)
  have b2 := pw_mul (nm_bd s1 s4) (nm_bd r2 r5)
  have b3 := pw_mul (nm_bd r2 r5) (nm_bd s2 s5)
  have hd : 0 < vl r.2.2 * vl s.2.2 := Int.mul_pos (vl_pos r2 r3) (vl_pos s2 s3)
  obtain ⟨K6, e6⟩ := cmpE b1.1 b2.1 b1.2 (by omega)
  have p1 := pow_pos' (n + n)
  have p2 : (10000 : Int) ^ (n + n + 1) = 10000 ^ (n + n) * 10000 := Int.pow_succ _ _
  have u3 := pw_up b3.2 (show n + n ≤ 900 by omega)
  unfold addZ
  generalize vl r.2.1 * vl s.2.2 = A at *
  generalize vl s.2.1 * vl r.2.2 = B at *
  generalize vl r.2.2 * vl s.2.2 = D at *
  by_cases h1 : r.1 = s.1
  · rw [if_pos h1]
    obtain ⟨K4, e4⟩ := addE b1.1 b2.1 b1.2 b2.2 (by omega) (by omega)
    obtain ⟨K5, e5⟩ := makeE (neg := r.1) (a := A + B) (d := D) (by omega) hd (pw_up (n := n + n + 1) (by omega) (by omega)) u3
    refine ⟨K1 + K2 + K3 + K4 + K5, fun k hk => ?_⟩
    have e1' := e1 k (by omega)
    have e2' := e2 k (by omega)
    have e3' := e3 k (by omega)
    have e4' := e4 k (by omega)
    have e5' := e5 k (by omega)
    simp only at e1' e2' e3' e4' e5'
    show spec_l02Add.f k _ _ _ _ _ _ = _
    unfold spec_l02Add.f
    simp only [e1', e2', e3', Option.bind_some]
    rw [if_pos (beq_iff_eq.2 h1)]
    simp only [e4', e5', Option.bind_some]
  · rw [if_neg h1]
    by_cases h2 : B ≤ A
    · rw [if_pos h2]
      obtain ⟨K4, e4⟩ := subE b1.1 b2.1 h2 b1.2 (by omega)
      obtain ⟨K5, e5⟩ := makeE (neg := r.1) (a := A - B) (d := D) (by omega) hd (pw_up (n := n + n) (by omega) (by omega)) u3
      refine ⟨K1 + K2 + K3 + K4 + K5 + K6, fun k hk => ?_⟩
      have e1' := e1 k (by omega)
      have e2' := e2 k (by omega)
      have e3' := e3 k (by omega)
      have e4' := e4 k (by omega)
      have e5' := e5 k (by omega)
      have e6' := e6 k (by omega)
      simp only at e1' e2' e3' e4' e5' e6'
      show spec_l02Add.f k _ _ _ _ _ _ = _
      unfold spec_l02Add.f
      simp only [e1', e2', e3', Option.bind_some]
      rw [if_neg (fun z => h1 (beq_iff_eq.1 z))]
      simp only [e6', Option.bind_some]
      rw [if_pos ((cmpI_ge _ _).2 h2)]
      simp only [e4', e5', Option.bind_some]
    · rw [if_neg h2]
      obtain ⟨K4, e4⟩ := subE b2.1 b1.1 (by omega) b2.2 (by omega)
      obtain ⟨K5, e5⟩ := makeE (neg := s.1) (a := B - A) (d := D) (by omega) hd (pw_up (n := n + n) (by omega) (by omega)) u3
      refine ⟨K1 + K2 + K3 + K4 + K5 + K6, fun k hk => ?_⟩
      have e1' := e1 k (by omega)
      have e2' := e2 k (by omega)
      have e3' := e3 k (by omega)
      have e4' := e4 k (by omega)
      have e5' := e5 k (by omega)
      have e6' := e6 k (by omega)
      simp only at e1' e2' e3' e4' e5' e6'
      show spec_l02Add.f k _ _ _ _ _ _ = _
      unfold spec_l02Add.f
      simp only [e1', e2', e3', Option.bind_some]
      rw [if_neg (fun z => h1 (beq_iff_eq.1 z))]
      simp only [e6', Option.bind_some]
      rw [if_neg (fun z => h2 ((cmpI_ge _ _).1 z))]
      simp only [e4', e5', Option.bind_some]
def negZ (r : R3) : R3 := (!r.1 && !decide (r.2.1 = []), r.2.1, r.2.2)
theorem Sm.neg {r : R3} {n : Nat} (h : Sm n r) : Sm n (negZ r) := h
theorem negRE (r : R3) : spec_l02NegC.f r.1 r.2.1 r.2.2 = some (negZ r) := by
  unfold spec_l02NegC.f negZ
  cases r.1 with
  | true => simp
  | false =>
    simp only [Bool.false_eq_true, if_false, Bool.not_false, Bool.true_and]
    by_cases h : r.2.1 = []
    · simp [h]
    · have h2 : (r.2.1.length : Int) > 0 := by
        have : ¬ (r.2.1.length : Int) = 0 := fun z => h ((len0' _).1 z)
        omega
      have h3 : 0 < r.2.1.length := by omega
      simp [h, h3]
theorem bind_eta {α β γ : Type} (x : Option (α × β × γ)) : (x.bind fun p => some (p.1, p.2.1, p.2.2)) = x := by cases x <;> rfl
theorem subRE {r s : R3} {n : Nat} (hr : Sm n r) (hs : Sm n s) (hn : n ≤ 400) : Ev (fun k => spec_l02SubC.f k r.1 r.2.1 r.2.2 s.1 s.2.1 s.2.2) (addZ r (negZ s)) := by
  have h := negRE s
  have e := addRE hr hs.neg hn
  generalize addZ r (negZ s) = p at e
  generalize negZ s = q at e h
  refine Ev.congr (fun k => ?_) e
  unfold spec_l02SubC.f
  rw [h, Option.bind_some, bind_eta]
theorem tp_neg (s : R3) : tp (negZ s) = -tp s := by
  obtain ⟨b, n, d⟩ := s
  unfold tp negZ
  by_cases h : n = []
  · subst h; cases b <;> simp [vl]
  · cases b <;> simp [h]
theorem addZ_eq {r s : R3} (hr : RO r) (hs : RO s) : addZ r s = lowZ (tp r * bt s + tp s * bt r) (bt r * bt s) := by
  have h1 := vl_nonneg hr.1.1
  have h2 := vl_nonneg hs.1.1
  have h3 := vl_pos hr.2.1 hr.2.2.1
  have h4 := vl_pos hs.2.1 hs.2.2.1
  have p1 := Int.mul_nonneg h1 (Int.le_of_lt h4)
  have p2 := Int.mul_nonneg h2 (Int.le_of_lt h3)
  unfold addZ tp bt
  cases hb : r.1 <;> cases hc : s.1 <;> simp only [Bool.false_eq_true, if_false, if_true, Int.neg_mul, reduceCtorEq]
  · rw [low_eq (by omega)]; simp
  · split
    · rw [low_eq (by omega)]; simp; congr 1
    · rw [low_eq (by omega)]; simp; congr 1; omega
  · split
    · rw [low_eq (by omega)]; simp; congr 1; omega
    · rw [low_eq (by omega)]; simp; congr 1; omega
  · rw [low_eq (by omega)]; simp; congr 1; omega
def sgI (x : Int) : Int := if x < 0 then -1 else if x = 0 then 0 else 1
def sgR (r : R3) : Int := if r.2.1 = [] then 0 else if r.1 = true then -1 else 1
theorem sign_f (r : R3) : impl_Rat_sign.f r.1 r.2.1 r.2.2 = some (sgR r) := by
  unfold impl_Rat_sign.f impl_Rat_isZero.f sgR
  by_cases h : r.2.1 = []
  · simp [h]
  · have : ((r.2.1.length : Int) == 0) = false := beq_eq_false_iff_ne.2 (fun z => h ((len0' _).1 z))
    simp only [this, Option.bind_some, h]
    cases r.1 <;> simp
theorem l02Sign_f (r : R3) : spec_l02Sign.f r.1 r.2.1 r.2.2 = some (sgR r) := by
  unfold spec_l02Sign.f spec_l02Zero.f sgR
  by_cases h : r.2.1 = []
  · simp [h]
  · have : ((r.2.1.length : Int) == 0) = false := beq_eq_false_iff_ne.2 (fun z => h ((len0' _).1 z))
    simp only [this, Option.bind_some, h]
    cases r.1 <;> simp
theorem sgR_tp {r : R3} (h : RO r) : sgR r = sgI (tp r) := by
  unfold sgR sgI tp
  by_cases h0 : r.2.1 = []
  · rw [if_pos h0, h.2.2.2.1 h0, h0]; simp [vl]
  · have := vl_pos h.1 h0
    rw [if_neg h0]
    cases r.1 with
    | true => simp; omega
    | false => simp; omega
theorem sgI_mul {x d : Int} (hd : 0 < d) : sgI (x * d) = sgI x := by
  unfold sgI
  rcases Int.lt_trichotomy x 0 with h | h | h
  · rw [if_pos h, if_pos (Int.mul_neg_of_neg_of_pos h hd)]
  · rw [h]; simp
  · have := Int.mul_pos h hd
    rw [if_neg (by omega), if_neg (by omega), if_neg (by omega), if_neg (by omega)]
theorem sgI_lowZ {N D : Int} (hD : 0 < D) : sgR (lowZ N D) = sgI N := by
  have h := lowZ_tp (N := N) hD
  rw [sgR_tp (lowZ_ro hD), ← sgI_mul hD, h.1, sgI_mul h.2]
theorem cmp_sg (x y : Int) : cmpI x y = sgI (x - y) := by
  unfold cmpI sgI
  rcases Int.lt_trichotomy x y with h | h | h
  · rw [if_pos h, if_pos (by omega)]
  · rw [if_neg (by omega), if_pos h, if_neg (by omega), if_pos (by omega)]
  · rw [if_neg (by omega), if_neg (by omega), if_neg (by omega), if_neg (by omega)]
theorem sgI_bd (x : Int) : -1 ≤ sgI x ∧ sgI x ≤ 1 := by unfold sgI; split <;> (try split) <;> omega
theorem mnmx {x : Int} (h : -1 ≤ x ∧ x ≤ 1) : mn (mx x (-1)) 1 = x := by unfold mn mx; split <;> split <;> omega
theorem cmpI_bd (x y : Int) : -1 ≤ cmpI x y ∧ cmpI x y ≤ 1 := by unfold cmpI; split <;> (try split) <;> omega
theorem cmp_step {r s : R3} (hr : RO r) (hs : RO s) (h1 : r.2.1.length ≤ 40) (h2 : r.2.2.length ≤ 40) (h3 : s.2.1.length ≤ 40) (h4 : s.2.2.length ≤ 40) :
    ∃ c, Ev (fun k => impl_Rat_cmp.f k r.1 r.2.1 r.2.2 s.1 s.2.1 s.2.2) c ∧ mn (mx c (-1)) 1 = sgI (tp r * bt s - tp s * bt r) := by
  have a1 := vl_nonneg hr.1.1
  have a2 := vl_nonneg hs.1.1
  have d1 := vl_pos hr.2.1 hr.2.2.1
  have d2 := vl_pos hs.2.1 hs.2.2.1
  have g1 := sign_f r
  have g2 := sign_f s
  by_cases hc : sgR r = sgR s
  · obtain ⟨K1, e1⟩ := mulIE hr.1 hs.2.1 (by omega) (by omega)
    obtain ⟨K2, e2⟩ := mulIE hs.1 hr.2.1 (by omega) (by omega)
    have p1 := Int.mul_nonneg a1 (Int.le_of_lt d2)
    have p2 := Int.mul_nonneg a2 (Int.le_of_lt d1)
    have hn := natCmp_nat p1 p2
    have hb := cmpI_bd (vl r.2.1 * vl s.2.2) (vl s.2.1 * vl r.2.2)
    refine ⟨if r.1 = true then wrap64 (-(cmpI (vl r.2.1 * vl s.2.2) (vl s.2.1 * vl r.2.2))) else cmpI (vl r.2.1 * vl s.2.2) (vl s.2.1 * vl r.2.2), ⟨K1 + K2, fun k hk => ?_⟩, ?_⟩
    · have e1' := e1 k (by omega)
      have e2' := e2 k (by omega)
      simp only at e1' e2'
      show impl_Rat_cmp.f k _ _ _ _ _ _ = _
      unfold impl_Rat_cmp.f
      rw [g1, Option.bind_some, g2, Option.bind_some, if_pos hc, e1', Option.bind_some, e2', Option.bind_some, hn, Option.bind_some]
      cases r.1 <;> simp
    · have sr := sgR_tp hr
      have ss := sgR_tp hs
      rw [sr, ss] at hc
      unfold tp bt at *
      cases hb1 : r.1 with
      | false =>
        simp only [hb1, Bool.false_eq_true, if_false] at hc ⊢
        rw [mnmx hb]
        cases hb2 : s.1 with
        | false => simp only [hb2, Bool.false_eq_true, if_false]; exact cmp_sg _ _
        | true =>
          simp only [hb2, if_true] at hc ⊢
          have z1 : vl r.2.1 = 0 := by unfold sgI at hc; split at hc <;> split at hc <;> (try split at hc) <;> (try split at hc) <;> omega
          have z2 : vl s.2.1 = 0 := by unfold sgI at hc; split at hc <;> split at hc <;> (try split at hc) <;> (try split at hc) <;> omega
          rw [z1, z2]; simp [cmpI, sgI]
      | true =>
        simp only [hb1, if_true] at hc ⊢
        rw [wrap_in (by omega) (by omega), mnmx (by omega)]
        cases hb2 : s.1 with
        | true =>
          simp only [hb2, if_true, Int.neg_mul]
          rw [cmp_sg]
          generalize vl r.2.1 * vl s.2.2 = A
          generalize vl s.2.1 * vl r.2.2 = B
          unfold sgI
          split <;> split <;> (try split) <;> (try split) <;> omega
        | false =>
          simp only [hb2, Bool.false_eq_true, if_false] at hc ⊢
          have z1 : vl r.2.1 = 0 := by unfold sgI at hc; split at hc <;> split at hc <;> (try split at hc) <;> (try split at hc) <;> omega
          have z2 : vl s.2.1 = 0 := by unfold sgI at hc; split at hc <;> split at hc <;> (try split at hc) <;> (try split at hc) <;> omega
          rw [z1, z2]; simp [cmpI, sgI]
  · refine ⟨wrap64 (sgR r - sgR s), ⟨0, fun k hk => ?_⟩, ?_⟩
    · show impl_Rat_cmp.f k _ _ _ _ _ _ = _
      unfold impl_Rat_cmp.f
      rw [g1, Option.bind_some, g2, Option.bind_some, if_neg hc, Option.bind_some, Option.bind_some]
    · have sr := sgR_tp hr
      have ss := sgR_tp hs
      have b1 := sgI_bd (tp r)
      have b2 := sgI_bd (tp s)
      rw [← sr] at b1
      rw [← ss] at b2
      rw [wrap_in (by omega) (by omega)]
      have db : 0 < bt r := d1
      have dc : 0 < bt s := d2
      have m1 := sgI_mul (x := tp r) dc
      have m2 := sgI_mul (x := tp s) db
      rw [← sr] at m1
      rw [← ss] at m2
      generalize tp r * bt s = A at *
      generalize tp s * bt r = B at *
      generalize sgR r = P at *
      generalize sgR s = Q at *
      subst m1 m2
      unfold sgI mn mx at *
      split <;> split <;> (try split) <;> (try split) <;> (try split) <;> (try split) <;> (try split) <;> omega
theorem implCmp_zero {r s : R3} (hr : RO r) (hs : RO s) (h1 : r.2.1.length ≤ 40) (h2 : r.2.2.length ≤ 40) (h3 : s.2.1.length ≤ 40) (h4 : s.2.2.length ≤ 40) : ∃ c, Ev (fun k => impl_Rat_cmp.f k r.1 r.2.1 r.2.2 s.1 s.2.1 s.2.2) c ∧ (c == 0) = (sgI (tp r * bt s - tp s * bt r) == 0) := by
  obtain ⟨c, e, h⟩ := cmp_step hr hs h1 h2 h3 h4
  refine ⟨c, e, ?_⟩
  rw [← h]
  unfold mn mx
  rw [Bool.eq_iff_iff, beq_iff_eq, beq_iff_eq]
  split <;> split <;> omega
theorem specCmp_ev {r s : R3} (hr : RO r) (hs : RO s) (h1 : r.2.1.length ≤ 40) (h2 : r.2.2.length ≤ 40) (h3 : s.2.1.length ≤ 40) (h4 : s.2.2.length ≤ 40) : Ev (fun k => spec_l02Cmp.f k r.1 r.2.1 r.2.2 s.1 s.2.1 s.2.2) (sgI (tp r * bt s - tp s * bt r)) := by
  obtain ⟨K1, e1⟩ := subRE (n := 40) (hr.sm h1 h2) (hs.sm h3 h4) (by omega)
  have hv : sgR (addZ r (negZ s)) = sgI (tp r * bt s - tp s * bt r) := by
    have hro : RO (negZ s) := by
      obtain ⟨q1, q2, q3, q4, q5⟩ := hs
      refine ⟨q1, q2, q3, fun z => ?_, q5⟩
      unfold negZ at z ⊢
      simp only at z ⊢
      simp [z]
    have hbt : bt (negZ s) = bt s := rfl
    rw [addZ_eq hr hro, sgI_lowZ (Int.mul_pos hr.bt hro.bt), tp_neg, hbt, Int.neg_mul]
    rfl
  generalize addZ r (negZ s) = p at e1 hv
  have hg := l02Sign_f p
  refine ⟨K1, fun k hk => ?_⟩
  have e1' := e1 k (by omega)
  simp only at e1'
  show spec_l02Cmp.f k _ _ _ _ _ _ = _
  unfold spec_l02Cmp.f
  rw [e1', Option.bind_some, hg, Option.bind_some, hv]
end Go.Proofs.Ytegbmillbbcmfaa.Pl
