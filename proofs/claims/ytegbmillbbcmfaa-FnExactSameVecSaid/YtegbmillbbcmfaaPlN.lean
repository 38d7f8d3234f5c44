import Derived.Test.YtegbmillbbcmfaaPlC
import Derived.Test.YtegbmillbbcmfaaPlD
import Derived.Test.YtegbmillbbcmfaaQxdiv
namespace Go.Proofs.Ytegbmillbbcmfaa.Pl
open Go.RowKit Go.Proofs.Ytegbmillbbcmfaa.Q Go.Proofs.Ytegbmillbbcmfaa.Pn Go.Proofs.YtegbmillbbcmfaaW.PrintWords Go.Proofs.YtegbmillbbcmfaaW.PrintLast
set_option linter.unusedVariables false
set_option linter.unusedSimpArgs false

theorem small_loop : ∀ (d : Nat) (a : Int) (out : List Int), 0 ≤ a → a < 10000 ^ d → a ≤ 9223372036854775807 → out.length + d ≤ 1000 → Ev (fun k => spec_l01Small.l0 k a out) (out ++ nat a)
  | 0, a, out, h0, h1, h2, h3 => by
    have : a = 0 := by simp at h1; omega
    subst this
    refine Ev.step (f := fun _ => some out) (fun k => ?_) (by rw [nat_zero, List.append_nil]; exact Ev.now _)
    simp only [spec_l01Small.l0]; rw [if_neg (by omega)]
  | d + 1, a, out, h0, h1, h2, h3 => by
    by_cases h : a > 0
    · have e1 : wrap64 (Int.tdiv a 10000) = a / 10000 := by rw [tdiv_pos h0, wrap_in (by omega) (by omega)]
      have ih := small_loop d (a / 10000) (out ++ [a % 10000]) (by omega) (Int.ediv_lt_of_lt_mul (by omega) (by rw [Int.pow_succ] at h1; exact h1)) (by omega) (by simp; omega)
      have ih' : Ev (fun k => spec_l01Small.l0 k (a / 10000) (out ++ [a % 10000])) (out ++ nat a) := by
        rw [nat_pos h]; rw [List.append_assoc] at ih; exact ih
      refine Ev.step (fun k => ?_) ih'
      simp only [spec_l01Small.l0]; rw [if_pos h, if_pos (by omega), e1, tmod_pos h0]
    · refine Ev.step (f := fun _ => some out) (fun k => ?_) (by rw [nat_neg h, List.append_nil]; exact Ev.now _)
      simp only [spec_l01Small.l0]; rw [if_neg h]
theorem small_ev {a : Int} (h0 : 0 ≤ a) (h1 : a ≤ 10000) : Ev (fun k => spec_l01Small.f k a) (nat a) :=
  small_loop 2 a [] h0 (by simp; omega) (by omega) (by simp)

theorem cmpI_le (x y : Int) : (cmpI x y ≤ 0) ↔ x ≤ y := by unfold cmpI; split <;> (try split) <;> omega
theorem cmpI_ge (x y : Int) : (cmpI x y ≥ 0) ↔ y ≤ x := by unfold cmpI; split <;> (try split) <;> omega
theorem cmpI_eq (x y : Int) : (cmpI x y = 0) ↔ x = y := by unfold cmpI; split <;> (try split) <;> omega
theorem cmpE {x y : Int} (hx : 0 ≤ x) (hy : 0 ≤ y) {n : Nat} (hn : x < 10000 ^ n) (hb : n ≤ 1000000000) : Ev (fun k => spec_l01Cmp.f k (nat x) (nat y)) (cmpI x y) := by
  have h := l01Cmp_ev (nat x) (nat y) (by have := nat_len x n hn; omega)
  rw [ncmp_vl (nm_nat x) (nm_nat y), vl_nat x hx, vl_nat y hy] at h
  exact h
theorem mulE {x y : Int} (hx : 0 ≤ x) (hy : 0 ≤ y) {n m : Nat} (hn : x < 10000 ^ n) (hm : y < 10000 ^ m) (hb : n ≤ 1000000000) (hb' : m ≤ 1000000000) : Ev (fun k => spec_l01Mul.f k (nat x) (nat y)) (nat (x * y)) := by
  have h := spec_l01Mul_ev (lm_nat x) (lm_nat y) (by have := nat_len x n hn; omega) (by have := nat_len y m hm; omega)
  rw [vl_nat x hx, vl_nat y hy] at h
  exact h
theorem subE {x y : Int} (hx : 0 ≤ x) (hy : 0 ≤ y) (hle : y ≤ x) {n : Nat} (hn : x < 10000 ^ n) (hb : n ≤ 1000000000) : Ev (fun k => spec_l01Sub.f k (nat x) (nat y)) (nat (x - y)) := by
  have h := spec_l01Sub_ev (lm_nat x) (lm_nat y) (by have := nat_len x n hn; omega) (by rw [vl_nat x hx, vl_nat y hy]; exact hle)
  rw [vl_nat x hx, vl_nat y hy] at h
  exact h
theorem mul_lt2 {a b X Y : Int} (ha : 0 ≤ a ∧ a < X) (hb : 0 ≤ b ∧ b < Y) : 0 ≤ a * b ∧ a * b < X * Y := by
  refine ⟨Int.mul_nonneg ha.1 hb.1, ?_⟩
  have h1 : a * b ≤ a * (Y - 1) := Int.mul_le_mul_of_nonneg_left (by omega) ha.1
  have h2 : a * Y < X * Y := Int.mul_lt_mul_of_pos_right ha.2 (by omega)
  have h3 : a * (Y - 1) = a * Y - a := by rw [Int.mul_sub, Int.mul_one]
  omega

/-- One digit, by halving: B the divisor's number, R the rest's. -/
theorem div_inner {a out : List Int} {B R i : Int} {n : Nat} {res : List Int × List Int} (hB0 : 0 < B) (hBn : B < 10000 ^ n) (hn : n ≤ 1000000) (hR0 : 0 ≤ R) (hR1 : R < 10000 * B) (hi : 0 ≤ i ∧ i < out.length)
    (hres : Ev (fun k => spec_l01Div.l0 k a (nat B) (out.set i.toNat (R / B)) (nat (R % B)) (wrap64 (i - 1))) res) :
    ∀ (d : Nat) (lo hi : Int), 0 ≤ lo → lo < hi → hi ≤ 10000 → hi - lo ≤ d + 1 → lo * B ≤ R → R < hi * B → Ev (fun k => spec_l01Div.l1 k a (nat B) out (nat R) i lo hi) res := by
  have hRn : R < 10000 ^ (n + 1) := by
    have e : (10000 : Int) ^ (n + 1) = 10000 * 10000 ^ n := by rw [Int.pow_succ, Int.mul_comm]
    omega
  have base : ∀ (lo hi : Int), 0 ≤ lo → lo < hi → hi ≤ 10000 → hi - lo ≤ 1 → lo * B ≤ R → R < hi * B → Ev (fun k => spec_l01Div.l1 k a (nat B) out (nat R) i lo hi) res := by
    intro lo hi h0 h1 h2 h3 h4 h5
    have eh : hi = lo + 1 := by omega
    subst eh
    have q : lo = R / B := by
      have a1 : lo ≤ R / B := Int.le_ediv_of_mul_le hB0 h4
      have a2 : R / B < lo + 1 := Int.ediv_lt_of_lt_mul hB0 h5
      omega
    have hm0 : B * lo ≤ R := by rw [Int.mul_comm]; exact h4
    have hmm : 0 ≤ B * lo := Int.mul_nonneg (by omega) h0
    have em : R - B * lo = R % B := by rw [Int.emod_def, q]
    have s1 := small_ev h0 (by omega : lo ≤ 10000)
    have s2 := mulE (x := B) (y := lo) (by omega) h0 hBn (m := 1) (by simp; omega) (by omega) (by omega)
    have s3 := subE (x := R) (y := B * lo) hR0 hmm hm0 hRn (by omega)
    rw [em] at s3
    rw [← q] at hres
    refine Ev.step (f := fun k => (spec_l01Small.f k lo).bind fun t637 => ((spec_l01Mul.f k (nat B) t637).bind fun t640 => ((spec_l01Sub.f k (nat R) t640).bind fun t643 => spec_l01Div.l0 k a (nat B) (out.set i.toNat lo) t643 (wrap64 (i - 1))))) (fun k => ?_) (Ev.bind s1 (Ev.bind s2 (Ev.bind s3 hres)))
    simp only [spec_l01Div.l1]; rw [wrap_in (by omega) (by omega), if_neg (by omega), if_pos hi.1, if_pos hi.2]
  intro d
  induction d with
  | zero => intro lo hi h0 h1 h2 h3 h4 h5; exact base lo hi h0 h1 h2 (by omega) h4 h5
  | succ d ih =>
    intro lo hi' h0 h1 h2 h3 h4 h5
    by_cases hc : hi' - lo ≤ 1
    · exact base lo hi' h0 h1 h2 hc h4 h5
    obtain ⟨m, hm⟩ : ∃ m, m = (lo + hi') / 2 := ⟨_, rfl⟩
    have em : wrap64 (Int.tdiv (wrap64 (lo + hi')) 2) = m := by
      rw [wrap_in (x := lo + hi') (by omega) (by omega), Int.tdiv_eq_ediv_of_nonneg (by omega), wrap_in (by omega) (by omega), hm]
    have m0 : lo < m := by omega
    have m1 : m < hi' := by omega
    have s1 := small_ev (a := m) (by omega) (by omega)
    have s2 := mulE (x := B) (y := m) (by omega) (by omega) hBn (m := 1) (by simp; omega) (by omega) (by omega)
    have hmm : 0 ≤ B * m := Int.mul_nonneg (by omega) (by omega)
    have hmb : B * m < 10000 ^ (n + 1) := by
      have e : (10000 : Int) ^ (n + 1) = 10000 ^ n * 10000 := Int.pow_succ _ _
      have := (mul_lt2 (a := B) (b := m) (X := 10000 ^ n) (Y := 10000) ⟨by omega, hBn⟩ ⟨by omega, by omega⟩).2
      omega
    have s3 := cmpE (x := B * m) (y := R) hmm hR0 hmb (by omega)
    by_cases hle : B * m ≤ R
    · have s4 := ih m hi' (by omega) m1 h2 (by omega) (by rw [Int.mul_comm]; exact hle) h5
      refine Ev.step (f := fun k => (spec_l01Small.f k m).bind fun t646 => ((spec_l01Mul.f k (nat B) t646).bind fun t649 => ((spec_l01Cmp.f k t649 (nat R)).bind fun t652 => (if t652 ≤ 0 then (spec_l01Div.l1 k a (nat B) out (nat R) i m hi') else (spec_l01Div.l1 k a (nat B) out (nat R) i lo m))))) (fun k => ?_) (Ev.bind s1 (Ev.bind s2 (Ev.bind s3 (Ev.congr (fun k => if_pos ((cmpI_le _ _).2 hle)) s4))))
      simp only [spec_l01Div.l1]; rw [wrap_in (x := hi' - lo) (by omega) (by omega), if_pos (by omega), em]
    · have s4 := ih lo m h0 m0 (by omega) (by omega) h4 (by rw [Int.mul_comm]; omega)
      refine Ev.step (f := fun k => (spec_l01Small.f k m).bind fun t646 => ((spec_l01Mul.f k (nat B) t646).bind fun t649 => ((spec_l01Cmp.f k t649 (nat R)).bind fun t652 => (if t652 ≤ 0 then (spec_l01Div.l1 k a (nat B) out (nat R) i m hi') else (spec_l01Div.l1 k a (nat B) out (nat R) i lo m))))) (fun k => ?_) (Ev.bind s1 (Ev.bind s2 (Ev.bind s3 (Ev.congr (fun k => if_neg (fun h => hle ((cmpI_le _ _).1 h))) s4))))
      simp only [spec_l01Div.l1]; rw [wrap_in (x := hi' - lo) (by omega) (by omega), if_pos (by omega), em]

theorem div_loop {a : List Int} {B : Int} {n : Nat} (la : Lm a) (hla : a.length ≤ 1000000) (hB0 : 0 < B) (hBn : B < 10000 ^ n) (hn : n ≤ 1000000) :
    ∀ (d : Nat) (D : List Int) (r : Int), d ≤ a.length → Lm D → D.length = a.length - d → 0 ≤ r → r < B → vl (a.drop d) = vl D * B + r →
    Ev (fun k => spec_l01Div.l0 k a (nat B) (List.replicate d 0 ++ D) (nat r) ((d : Int) - 1)) (nat (vl a / B), nat (vl a % B)) := by
  intro d
  induction d with
  | zero =>
    intro D r hd lD hl h0 h1 hv
    rw [List.drop_zero] at hv
    have q : vl a / B = vl D := by
      rw [hv, Int.add_comm, Int.add_mul_ediv_right _ _ (by omega), Int.ediv_eq_zero_of_lt h0 h1]; omega
    have q2 : vl a % B = r := by rw [hv, Int.add_comm, Int.add_mul_emod_self_right, Int.emod_eq_of_lt h0 h1]
    rw [q, q2]
    have e : D.take (tlen D D.length) = nat (vl D) := take_tlen lD
    refine Ev.step (f := fun _ => some (nat (vl D), nat r)) (fun k => ?_) (Ev.now _)
    simp only [spec_l01Div.l0, List.replicate_zero, List.nil_append]; rw [if_neg (by omega), specTrim _ (by omega), e]; rfl
  | succ d ih =>
    intro D r hd lD hl h0 h1 hv
    have hi : d < a.length := by omega
    obtain ⟨y, hy, hy0⟩ : ∃ y, rd a (d : Int) = y ∧ 0 ≤ y ∧ y < 10000 := ⟨_, rfl, rd_lm la _⟩
    have hdr : a.drop d = y :: a.drop (d + 1) := by rw [drop_cons hi, hy]
    obtain ⟨R, hR⟩ : ∃ R, R = y + 10000 * r := ⟨_, rfl⟩
    have hR0 : 0 ≤ R := by omega
    have hR1 : R < 10000 * B := by omega
    have hvd : vl (a.drop d) = (10000 * vl D) * B + R := by
      rw [hdr, vl, hv, hR, Int.mul_add, Int.mul_assoc]; omega
    have hrn : r < 10000 ^ n := by omega
    have hlr : (nat r).length ≤ n := nat_len r n hrn
    have l1 : Lm ([y] ++ nat r) := Lm.append (Lm.cons hy0.1 hy0.2 Lm.nil) (lm_nat r)
    have e1 : spec_l01Trim.f ([y] ++ nat r) = some (nat R) := by
      rw [specTrim _ (by simp; omega), take_tlen l1, vl_append]; simp only [vl, List.length_singleton]
      rw [vl_nat r h0, hR]; congr 2; omega
    have hRn : R < 10000 ^ (n + 1) := by
      have e : (10000 : Int) ^ (n + 1) = 10000 * 10000 ^ n := by rw [Int.pow_succ, Int.mul_comm]
      omega
    have s1 := cmpE (x := R) (y := B) hR0 (by omega) hRn (by omega)
    have ew : wrap64 ((d : Int) - 1) = (d : Int) - 1 := by rw [wrap_in (by omega) (by omega)]
    have ei : (((d + 1 : Nat) : Int) - 1) = (d : Int) := by omega
    have eo : List.replicate (d + 1) 0 ++ D = List.replicate d 0 ++ (0 :: D) := by rw [List.replicate_succ', List.append_assoc]; rfl
    have hol : (List.replicate (d + 1) (0 : Int) ++ D).length = a.length := by simp; omega
    by_cases hlt : R < B
    · have s2 := ih (0 :: D) R (by omega) (Lm.cons (by omega) (by omega) lD) (by simp; omega) hR0 hlt (by rw [hvd]; simp only [vl]; congr 2; omega)
      refine Ev.step (f := fun k => (spec_l01Cmp.f k (nat R) (nat B)).bind fun t635 => (if t635 < 0 then (spec_l01Div.l0 k a (nat B) (List.replicate (d + 1) 0 ++ D) (nat R) ((d : Int) - 1)) else (spec_l01Div.l1 k a (nat B) (List.replicate (d + 1) 0 ++ D) (nat R) d 0 10000))) (fun k => ?_) (Ev.bind s1 (Ev.congr (fun k => if_pos ((cmpI_neg _ _).2 hlt)) (by rw [eo]; exact s2)))
      simp only [spec_l01Div.l0, ei, ew]; rw [if_pos (by omega), if_pos (by omega), if_pos (by omega), hy]
      simp only [Option.bind_some]
      rw [if_pos (by simp; omega), e1]; rfl
    · have q0 : 0 ≤ R / B := Int.ediv_nonneg hR0 (by omega)
      have q1 : R / B < 10000 := Int.ediv_lt_of_lt_mul hB0 (by omega)
      have eset : (List.replicate (d + 1) 0 ++ D).set ((d : Int)).toNat (R / B) = List.replicate d 0 ++ (R / B :: D) := by
        rw [eo, Int.toNat_natCast, List.set_append_right _ _ (by simp)]; simp
      have s2 := ih (R / B :: D) (R % B) (by omega) (Lm.cons q0 q1 lD) (by simp; omega) (Int.emod_nonneg _ (by omega)) (Int.emod_lt_of_pos _ hB0) (by
        rw [hvd]; simp only [vl]
        have := Int.emod_add_mul_ediv R B
        rw [Int.add_mul, Int.mul_comm (R / B) B]; omega)
      have s3 := div_inner (a := a) (out := List.replicate (d + 1) 0 ++ D) (i := (d : Int)) hB0 hBn hn hR0 hR1 ⟨by omega, by rw [hol]; omega⟩ (res := (nat (vl a / B), nat (vl a % B))) (by rw [eset, ew]; exact s2) 10000 0 10000 (by omega) (by omega) (by omega) (by omega) (by omega) hR1
      refine Ev.step (f := fun k => (spec_l01Cmp.f k (nat R) (nat B)).bind fun t635 => (if t635 < 0 then (spec_l01Div.l0 k a (nat B) (List.replicate (d + 1) 0 ++ D) (nat R) ((d : Int) - 1)) else (spec_l01Div.l1 k a (nat B) (List.replicate (d + 1) 0 ++ D) (nat R) d 0 10000))) (fun k => ?_) (Ev.bind s1 (Ev.congr (fun k => if_neg (fun h => hlt ((cmpI_neg _ _).1 h))) s3))
      simp only [spec_l01Div.l0, ei, ew]; rw [if_pos (by omega), if_pos (by omega), if_pos (by omega), hy]
      simp only [Option.bind_some]
      rw [if_pos (by simp; omega), e1]; rfl
theorem divE {A B : Int} (hA : 0 ≤ A) (hB : 0 < B) {n m : Nat} (hn : A < 10000 ^ n) (hm : B < 10000 ^ m) (hn' : n ≤ 1000000) (hm' : m ≤ 1000000) : Ev (fun k => spec_l01Div.f k (nat A) (nat B)) (nat (A / B), nat (A % B)) := by
  have hl := nat_len A n hn
  have h := div_loop (a := nat A) (lm_nat A) (by omega) hB hm hm' (nat A).length [] 0 (by omega) Lm.nil (by simp) (by omega) hB (by rw [List.drop_length]; simp [vl])
  rw [vl_nat A hA, nat_zero, List.append_nil] at h
  refine Ev.congr (fun k => ?_) h
  unfold spec_l01Div.f
  rw [if_pos (by omega), if_pos (by omega), Int.toNat_natCast, wrap_in (by omega) (by omega)]
theorem divI {A B : Int} (hA : 0 ≤ A) (hB : 0 < B) {n : Nat} (hn : A < 10000 ^ n) (hn' : n ≤ 1000000) : impl_natDiv.f (nat A) (nat B) = some (nat (A / B), nat (A % B)) := by
  have hl := nat_len A n hn
  unfold impl_natDiv.f
  rw [if_pos ⟨(impl_natDiv.okB_iff _).2 (nm_nat A), (impl_natDiv.okB_iff _).2 (nm_nat B), fun e => by have := nat_eq_nil e; omega, by omega⟩, vl_nat A hA, vl_nat B (by omega)]

end Go.Proofs.Ytegbmillbbcmfaa.Pl
