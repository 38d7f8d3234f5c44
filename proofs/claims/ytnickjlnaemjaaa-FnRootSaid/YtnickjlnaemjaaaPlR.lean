import Derived.Test.YtnickjlnaemjaaaPlB
import Derived.Test.YtnickjlnaemjaaaPlN
import Derived.Test.YtnickjlnaemjaaaQxRootNat
namespace Go.Proofs.Ytnickjlnaemjaaa.Pl
open Go.RowKit Go.Proofs.Ytnickjlnaemjaaa.Q Go.Proofs.Ytnickjlnaemjaaa.Pn Go.Proofs.YtnickjlnaemjaaaW.PrintWords Go.Proofs.YtnickjlnaemjaaaW.PrintLast
set_option linter.unusedVariables false
set_option linter.unusedSimpArgs false

def isq : Nat → Nat
  | 0 => 0
  | n + 1 => if (isq n + 1) * (isq n + 1) ≤ n + 1 then isq n + 1 else isq n
theorem isq_spec : ∀ n : Nat, isq n * isq n ≤ n ∧ n < (isq n + 1) * (isq n + 1)
  | 0 => by simp [isq]
  | n + 1 => by
    obtain ⟨h1, h2⟩ := isq_spec n
    unfold isq
    split
    · rename_i h
      refine ⟨h, ?_⟩
      have e : (isq n + 1 + 1) * (isq n + 1 + 1) = (isq n + 1) * (isq n + 1) + 2 * (isq n + 1) + 1 := by rw [Nat.add_mul, Nat.mul_add, Nat.one_mul, Nat.mul_one]; omega
      omega
    · rename_i h
      omega
/-- The root of a number, rounded down. -/
def rootI (A : Int) : Int := (isq A.toNat : Int)
def Rt (A s : Int) : Prop := 0 ≤ s ∧ s * s ≤ A ∧ A < (s + 1) * (s + 1)
theorem rootI_rt {A : Int} (h : 0 ≤ A) : Rt A (rootI A) := by
  obtain ⟨n, rfl⟩ := Int.eq_ofNat_of_zero_le h
  obtain ⟨h1, h2⟩ := isq_spec n
  unfold rootI Rt
  rw [Int.toNat_natCast]
  refine ⟨by omega, by exact_mod_cast h1, by exact_mod_cast h2⟩
theorem sq_le {a b : Int} (h0 : 0 ≤ a) (h : a ≤ b) : a * a ≤ b * b := Int.mul_le_mul h h h0 (by omega)
theorem Rt.ge {A s x : Int} (h : Rt A s) (hx : x * x ≤ A) (hx0 : 0 ≤ x) : x ≤ s := by
  rcases Int.lt_or_le s x with h1 | h1
  · have := sq_le (a := s + 1) (b := x) (by have := h.1; omega) (by omega)
    have := h.2.2
    omega
  · exact h1
theorem Rt.lt {A s x : Int} (h : Rt A s) (hx : A < x * x) (hx0 : 0 ≤ x) : s < x := by
  rcases Int.lt_or_le s x with h1 | h1
  · exact h1
  · have := sq_le hx0 h1
    have := h.2.1
    omega
theorem newton {A s x : Int} (hs : s * s ≤ A) (hs0 : 0 ≤ s) (hx : 0 < x) : s ≤ (x + A / x) / 2 := by
  rcases Int.lt_or_le ((x + A / x) / 2) s with h | h
  · exfalso
    have e := Int.emod_add_mul_ediv A x
    have hr := Int.emod_lt_of_pos A hx
    have h1 : A / x ≤ 2 * s - x - 1 := by omega
    have h2 : x * (A / x) ≤ x * (2 * s - x - 1) := Int.mul_le_mul_of_nonneg_left h1 (by omega)
    have h3 : x * (2 * s - x - 1) = 2 * (x * s) - x * x - x := by rw [Int.mul_sub, Int.mul_sub, Int.mul_one, Int.mul_left_comm]
    have h4 : 0 ≤ (s - x) * (s - x) := by
      rcases Int.le_total 0 (s - x) with h | h
      · exact Int.mul_nonneg h h
      · exact Int.mul_nonneg_of_nonpos_of_nonpos h h
    have h5 : (s - x) * (s - x) = s * s - x * s - (x * s - x * x) := by rw [Int.sub_mul, Int.mul_sub, Int.mul_sub, Int.mul_comm s x]
    generalize x * (A / x) = U at *
    generalize s * s = S at *
    generalize x * s = V at *
    generalize x * x = W at *
    generalize A % x = R at *
    omega
  · exact h
theorem nat_one : nat 1 = [1] := by rw [nat_pos (by omega), show (1 : Int) % 10000 = 1 by rfl, show (1 : Int) / 10000 = 0 by rfl, nat_zero]
theorem nat_two : nat 2 = [2] := by rw [nat_pos (by omega), show (2 : Int) % 10000 = 2 by rfl, show (2 : Int) / 10000 = 0 by rfl, nat_zero]
theorem addE {x y : Int} (hx : 0 ≤ x) (hy : 0 ≤ y) {n m : Nat} (hn : x < 10000 ^ n) (hm : y < 10000 ^ m) (hb : n ≤ 1000000000) (hb' : m ≤ 1000000000) : Ev (fun k => spec_l01Add.f k (nat x) (nat y)) (nat (x + y)) := by
  have h := spec_l01Add_ev (nm_nat x) (nm_nat y) (by have := nat_len x n hn; omega) (by have := nat_len y m hm; omega)
  rw [vl_nat x hx, vl_nat y hy] at h
  exact h
theorem addIE {x y : Int} (hx : 0 ≤ x) (hy : 0 ≤ y) {n m : Nat} (hn : x < 10000 ^ n) (hm : y < 10000 ^ m) (hb : n ≤ 1000000000) (hb' : m ≤ 1000000000) : Ev (fun k => impl_natAdd.f k (nat x) (nat y)) (nat (x + y)) := by
  have h := impl_natAdd_ev (nm_nat x) (nm_nat y) (by have := nat_len x n hn; omega) (by have := nat_len y m hm; omega)
  rw [vl_nat x hx, vl_nat y hy] at h
  exact h
def rtF (x0 x3 x4 : List Int) (k : Nat) (bt898 : List Int × List Int) : Option (List Int) := (spec_l01Cmp.f k bt898.1 x3).bind fun t904 => (if t904 = 0 then (some x3) else ((spec_l01Mul.f k bt898.1 bt898.1).bind fun t905 => ((spec_l01Cmp.f k t905 x0).bind fun t908 => (if t908 ≤ 0 then (spec_l01Root.l0 k x0 bt898.1 x4) else (spec_l01Root.l0 k x0 x3 bt898.1)))))
theorem rt_step (x0 x3 x4 : List Int) (k : Nat) : spec_l01Root.l0 (k + 1) x0 x3 x4 = (spec_l01Add.f k x3 x4).bind fun t => (spec_l01Div.f k t ([2] : List Int)).bind (rtF x0 x3 x4 k) := by
  simp only [spec_l01Root.l0]; rfl
theorem rt_ev {x0 x3 x4 t : List Int} {bt : List Int × List Int} {r : List Int} (s1 : Ev (fun k => spec_l01Add.f k x3 x4) t) (s2 : Ev (fun k => spec_l01Div.f k t ([2] : List Int)) bt) (s3 : Ev (fun k => rtF x0 x3 x4 k bt) r) : Ev (fun k => spec_l01Root.l0 k x0 x3 x4) r :=
  Ev.step (fun k => rt_step x0 x3 x4 k) (Ev.bind (f := fun k t => (spec_l01Div.f k t ([2] : List Int)).bind (rtF x0 x3 x4 k)) s1 (Ev.bind (f := fun k => rtF x0 x3 x4 k) s2 s3))
theorem rt_eq {x0 x3 x4 m : List Int} {y : List Int} {c : Int} (s : Ev (fun k => spec_l01Cmp.f k m x3) c) (hc : c = 0) : Ev (fun k => rtF x0 x3 x4 k (m, y)) x3 := by
  obtain ⟨K, h⟩ := s
  refine ⟨K, fun k hk => ?_⟩
  have h' := h k hk
  simp only at h'
  simp only [rtF, h', Option.bind_some, if_pos hc]
theorem rt_go {x0 x3 x4 m mm r : List Int} {y : List Int} {c c2 : Int} (s : Ev (fun k => spec_l01Cmp.f k m x3) c) (hc : ¬ c = 0) (s1 : Ev (fun k => spec_l01Mul.f k m m) mm) (s2 : Ev (fun k => spec_l01Cmp.f k mm x0) c2) (s3 : Ev (fun k => if c2 ≤ 0 then spec_l01Root.l0 k x0 m x4 else spec_l01Root.l0 k x0 x3 m) r) : Ev (fun k => rtF x0 x3 x4 k (m, y)) r := by
  obtain ⟨K, h⟩ := s
  obtain ⟨K1, h1⟩ := s1
  obtain ⟨K2, h2⟩ := s2
  obtain ⟨K3, h3⟩ := s3
  refine ⟨K + K1 + K2 + K3, fun k hk => ?_⟩
  have h' := h k (by omega)
  have h1' := h1 k (by omega)
  have h2' := h2 k (by omega)
  have h3' := h3 k (by omega)
  simp only at h' h1' h2' h3'
  simp only [rtF, h', Option.bind_some, if_neg hc, h1', h2', h3']
theorem rootS_loop {A s : Int} (hA : 0 ≤ A) (hA1 : A < 10000 ^ 40) (hs : Rt A s) : ∀ (n : Nat) (lo hi : Int), (hi - lo).toNat ≤ n → 0 ≤ lo → lo < hi → hi ≤ A + 1 → lo * lo ≤ A → A < hi * hi → Ev (fun k => spec_l01Root.l0 k (nat A) (nat lo) (nat hi)) (nat s) := by
  intro n
  induction n with
  | zero => intro lo hi h0 h1 h2; omega
  | succ n ih =>
    intro lo hi h0 h1 h2 h3 h4 h5
    obtain ⟨m, hm⟩ : ∃ m, m = (lo + hi) / 2 := ⟨_, rfl⟩
    have s1 := addE (x := lo) (y := hi) h1 (by omega) (n := 41) (m := 41) (by omega) (by omega) (by omega) (by omega)
    have s2 := divE (A := lo + hi) (B := 2) (by omega) (by omega) (n := 42) (m := 1) (by omega) (by omega) (by omega) (by omega)
    rw [nat_two, ← hm] at s2
    have s3 := cmpE (x := m) (y := lo) (by omega) h1 (n := 41) (by omega) (by omega)
    by_cases hc : m = lo
    · have he : hi = lo + 1 := by omega
      subst he
      have hsl : s = lo := by
        have := hs.ge h4 h1
        have := hs.lt h5 (by omega)
        omega
      rw [hsl]
      exact rt_ev s1 s2 (rt_eq s3 ((cmpI_eq _ _).2 hc))
    · have s4 := mulE (x := m) (y := m) (by omega) (by omega) (n := 41) (m := 41) (by omega) (by omega) (by omega) (by omega)
      have hm2 := (mul_lt2 (a := m) (b := m) (X := 10000 ^ 41) (Y := 10000 ^ 41) ⟨by omega, by omega⟩ ⟨by omega, by omega⟩)
      have s5 := cmpE (x := m * m) (y := A) hm2.1 hA (n := 82) (by rw [show (82 : Nat) = 41 + 41 from rfl, Int.pow_add]; exact hm2.2) (by omega)
      by_cases hle : m * m ≤ A
      · have s6 := ih m hi (by omega) (by omega) (by omega) h3 hle h5
        exact rt_ev s1 s2 (rt_go s3 (fun h => hc ((cmpI_eq _ _).1 h)) s4 s5 (Ev.congr (fun k => if_pos ((cmpI_le _ _).2 hle)) s6))
      · have s6 := ih lo m (by omega) h1 (by omega) (by omega) h4 (by omega)
        exact rt_ev s1 s2 (rt_go s3 (fun h => hc ((cmpI_eq _ _).1 h)) s4 s5 (Ev.congr (fun k => if_neg (fun h => hle ((cmpI_le _ _).1 h))) s6))
theorem rootS_ev {A : Int} (hA : 0 ≤ A) (hA1 : A < 10000 ^ 40) : Ev (fun k => spec_l01Root.f k (nat A)) (nat (rootI A)) := by
  have s1 := addE (x := A) (y := 1) hA (by omega) (n := 41) (m := 1) (by omega) (by omega) (by omega) (by omega)
  have s2 := rootS_loop hA hA1 (rootI_rt hA) (A + 1).toNat 0 (A + 1) (by omega) (by omega) (by omega) (by omega) (by omega) (by
    have : (A + 1) * (A + 1) = A * A + A + (A + 1) := by rw [Int.add_mul, Int.mul_add, Int.one_mul, Int.mul_one]
    have := Int.mul_nonneg hA hA
    omega)
  rw [nat_one] at s1
  rw [nat_zero] at s2
  refine Ev.congr (fun k => ?_) (Ev.bind s1 s2)
  rfl
theorem rootI_loop {A s : Int} (hA : 0 < A) (hA1 : A < 10000 ^ 40) (hs : Rt A s) : ∀ (n : Nat) (x : Int), (x - s).toNat ≤ n → s ≤ x → 0 < x → x < 10000 ^ 40 → Ev (fun k => impl_natRoot.l0 k (nat A) (nat x)) (nat s) := by
  have hs1 : 0 < s := by
    rcases Int.lt_or_le 0 s with h | h
    · exact h
    · exfalso
      have h0 : s = 0 := by have := hs.1; omega
      have := hs.2.2
      rw [h0] at this
      omega
  intro n
  induction n with
  | zero => 
    intro x h0 h1 h2 h3
    have hx : x = s := by omega
    subst hx
    have q0 : 0 ≤ A / x := Int.ediv_nonneg (by omega) (by omega)
    have q1 : A / x ≤ A := Int.ediv_le_self _ (by omega)
    have s1 := addIE (x := x) (y := A / x) (by omega) q0 (n := 41) (m := 41) (by omega) (by omega) (by omega) (by omega)
    have e1 := divI (A := A) (B := x) (by omega) h2 hA1 (by omega)
    have e2 := divI (A := x + A / x) (B := 2) (by omega) (by omega) (n := 42) (by omega) (by omega)
    rw [nat_two] at e2
    have e3 : ncmp (nat ((x + A / x) / 2)) (nat x) ≥ 0 := by
      rw [ncmp_vl (nm_nat _) (nm_nat _), vl_nat _ (by omega), vl_nat _ (by omega)]
      exact (cmpI_ge _ _).2 (newton hs.2.1 hs.1 h2)
    refine Ev.step (fun k => ?_) (Ev.bind s1 (f := fun k t937 => (impl_natDiv.f t937 ([2] : List Int)).bind fun bt943 => ((impl_natCmp.f bt943.1 (nat x)).bind fun t949 => (if t949 ≥ 0 then (some (nat x)) else (impl_natRoot.l0 k (nat A) bt943.1)))) (Ev.congr (fun k => ?_) (Ev.now (nat x))))
    · simp only [impl_natRoot.l0, e1, Option.bind_some]
    · simp only [e2, Option.bind_some, impl_natCmp.f, if_pos e3]
  | succ n ih =>
    intro x h0 h1 h2 h3
    have q0 : 0 ≤ A / x := Int.ediv_nonneg (by omega) (by omega)
    have q1 : A / x ≤ A := Int.ediv_le_self _ (by omega)
    have s1 := addIE (x := x) (y := A / x) (by omega) q0 (n := 41) (m := 41) (by omega) (by omega) (by omega) (by omega)
    have e1 := divI (A := A) (B := x) (by omega) h2 hA1 (by omega)
    have e2 := divI (A := x + A / x) (B := 2) (by omega) (by omega) (n := 42) (by omega) (by omega)
    rw [nat_two] at e2
    have hnx := newton hs.2.1 hs.1 h2
    have ec : ncmp (nat ((x + A / x) / 2)) (nat x) = cmpI ((x + A / x) / 2) x := by
      rw [ncmp_vl (nm_nat _) (nm_nat _), vl_nat _ (by omega), vl_nat _ (by omega)]
    by_cases hc : x ≤ (x + A / x) / 2
    · have hx : x = s := by
        have h4 : x ≤ A / x := by omega
        have h5 : x * x ≤ A := Int.mul_le_of_le_ediv h2 h4
        have := hs.ge h5 (by omega)
        omega
      have e3 : ncmp (nat ((x + A / x) / 2)) (nat x) ≥ 0 := by rw [ec]; exact (cmpI_ge _ _).2 hc
      rw [← hx]
      refine Ev.step (fun k => ?_) (Ev.bind s1 (f := fun k t937 => (impl_natDiv.f t937 ([2] : List Int)).bind fun bt943 => ((impl_natCmp.f bt943.1 (nat x)).bind fun t949 => (if t949 ≥ 0 then (some (nat x)) else (impl_natRoot.l0 k (nat A) bt943.1)))) (Ev.congr (fun k => ?_) (Ev.now (nat x))))
      · simp only [impl_natRoot.l0, e1, Option.bind_some]
      · simp only [e2, Option.bind_some, impl_natCmp.f, if_pos e3]
    · have e3 : ¬ ncmp (nat ((x + A / x) / 2)) (nat x) ≥ 0 := by rw [ec]; exact fun h => hc ((cmpI_ge _ _).1 h)
      have s2 := ih ((x + A / x) / 2) (by omega) hnx (by omega) (by omega)
      refine Ev.step (fun k => ?_) (Ev.bind s1 (f := fun k t937 => (impl_natDiv.f t937 ([2] : List Int)).bind fun bt943 => ((impl_natCmp.f bt943.1 (nat x)).bind fun t949 => (if t949 ≥ 0 then (some (nat x)) else (impl_natRoot.l0 k (nat A) bt943.1)))) (Ev.congr (fun k => ?_) s2))
      · simp only [impl_natRoot.l0, e1, Option.bind_some]
      · simp only [e2, Option.bind_some, impl_natCmp.f, if_neg e3]
theorem start_nat (m : Nat) : List.replicate m (0 : Int) ++ [1] = nat (10000 ^ m) := by
  refine nat_of ⟨(lm_zeros m).append (Lm.cons (by omega) (by omega) Lm.nil), by simp⟩ ?_
  rw [vl_append, vl_zeros, List.length_replicate]; simp [vl]
theorem rootI_ev {A : Int} (hA : 0 ≤ A) (hA1 : A < 10000 ^ 40) : Ev (fun k => impl_natRoot.f k (nat A)) (nat (rootI A)) := by
  have hr := rootI_rt hA
  have hl := nat_len A 40 hA1
  by_cases h0 : A = 0
  · have : rootI A = 0 := by
      have h1 := hr.1; have h2 := hr.2.1
      rcases Int.lt_or_le 0 (rootI A) with h | h
      · have := Int.mul_pos h h; omega
      · omega
    rw [this, h0, nat_zero]
    refine Ev.congr (fun k => ?_) (Ev.now [])
    unfold impl_natRoot.f; rw [if_pos (by simp)]
  · have hA0 : 0 < A := by omega
    have hne : ¬ ((nat A).length : Int) = 0 := fun e => by have := nat_eq_nil (List.length_eq_zero_iff.1 (by omega : (nat A).length = 0)); omega
    obtain ⟨m, hm⟩ : ∃ m : Nat, m = ((nat A).length + 1) / 2 := ⟨_, rfl⟩
    have ew : wrap64 (Int.tdiv (wrap64 (((nat A).length : Int) + 1)) 2) = (m : Int) := by
      rw [wrap_in (x := ((nat A).length : Int) + 1) (by omega) (by omega), Int.tdiv_eq_ediv_of_nonneg (by omega), wrap_in (by omega) (by omega)]; omega
    have hX := pow_pos' m
    have hXb : (10000 : Int) ^ m < 10000 ^ 40 := by
      have h1 := pow_mono' (a := m) (b := 20) (by omega)
      have h2 : (10000 : Int) ^ 20 < 10000 ^ 40 := by decide
      omega
    have hlt : A < 10000 ^ m * 10000 ^ m := by
      have h1 := vl_lt (lm_nat A)
      rw [vl_nat A hA] at h1
      have h2 := pow_mono' (a := (nat A).length) (b := m + m) (by omega)
      rw [Int.pow_add] at h2
      omega
    have s := rootI_loop hA0 hA1 hr ((10000 : Int) ^ m - rootI A).toNat ((10000 : Int) ^ m) (Nat.le_refl _) (by have := hr.lt hlt (by omega); omega) hX hXb
    refine Ev.congr (fun k => ?_) s
    unfold impl_natRoot.f
    rw [if_neg hne, ew, if_pos (by omega), if_pos (by omega), Option.bind_some, if_pos (by simp; omega), Int.toNat_natCast, start_nat]

/-- What RootNat answers. -/
def rootAns (a : List Int) : List Int × Int := if askCode a [] = 0 then (nat (rootI (vl a)), 0) else ([], askCode a [])
theorem nm_lt4 {l : List Int} (h : Nm l) (hl : l.length ≤ 40) : vl l < 10000 ^ 40 := Int.lt_of_lt_of_le (vl_lt h.1) (pow_mono' hl)
theorem specRoot_ev (a : List Int) (ha : a.length ≤ 1048576) : Ev (fun k => spec_RootNat.f k a) (rootAns a) := by
  obtain ⟨K1, h1⟩ := l01Ask_ev a [] (by omega) (by simp)
  by_cases hc : askCode a [] = 0
  · obtain ⟨la, lb, na, nb⟩ := ask_small hc
    obtain ⟨K2, h2⟩ := rootS_ev (A := vl a) (vl_nonneg na.1) (nm_lt4 na la)
    rw [nat_vl na] at h2
    refine ⟨K1 + K2, fun k hk => ?_⟩
    have h1' := h1 k (by omega)
    have h2' := h2 k (by omega)
    simp only at h1' h2'
    show spec_RootNat.f k a = _
    unfold spec_RootNat.f rootAns
    rw [if_neg (by omega)]
    simp only [h1', h2', Option.bind_some, hc, if_true]
  · refine ⟨K1, fun k hk => ?_⟩
    have h1' := h1 k (by omega)
    simp only at h1'
    show spec_RootNat.f k a = _
    unfold spec_RootNat.f rootAns
    rw [if_neg hc]
    by_cases c1 : (a.length : Int) > 4096
    · have e : askCode a [] = 2 := by unfold askCode; rw [if_pos (.inl (by omega))]
      rw [if_pos c1, e]
    · rw [if_neg c1]
      simp only [h1', Option.bind_some, hc, if_false]
theorem implRoot_ev (a : List Int) : Ev (fun k => impl_RootNat.f k a) (rootAns a) := by
  obtain ⟨K1, h1⟩ := natsCode_ev1 a
  by_cases hc : askCode a [] = 0
  · obtain ⟨la, lb, na, nb⟩ := ask_small hc
    obtain ⟨K2, h2⟩ := rootI_ev (A := vl a) (vl_nonneg na.1) (nm_lt4 na la)
    rw [nat_vl na] at h2
    refine ⟨K1 + K2, fun k hk => ?_⟩
    have h1' := h1 k (by omega)
    have h2' := h2 k (by omega)
    simp only at h1' h2'
    show impl_RootNat.f k a = _
    unfold impl_RootNat.f rootAns
    simp only [h1', h2', Option.bind_some, hc, if_true]
  · refine ⟨K1, fun k hk => ?_⟩
    have h1' := h1 k (by omega)
    simp only at h1'
    show impl_RootNat.f k a = _
    unfold impl_RootNat.f rootAns
    simp only [h1', Option.bind_some, hc, if_false]
theorem rootI_le {A : Int} (h : 0 ≤ A) : rootI A ≤ A := by
  have hr := rootI_rt h
  rcases Int.lt_or_le A (rootI A) with h1 | h1
  · have h2 := sq_le (a := A + 1) (b := rootI A) (by omega) (by omega)
    have h3 : (A + 1) * (A + 1) = A * A + A + (A + 1) := by rw [Int.add_mul, Int.mul_add, Int.one_mul, Int.mul_one]
    have := Int.mul_nonneg h h
    have := hr.2.1
    omega
  · exact h1
theorem rootAns_len (a : List Int) : (rootAns a).1.length ≤ 40 := by
  unfold rootAns
  split
  · rename_i hc
    obtain ⟨la, lb, na, nb⟩ := ask_small hc
    have := rootI_le (vl_nonneg na.1)
    have := nm_lt4 na la
    exact nat_len _ _ (by omega)
  · simp

end Go.Proofs.Ytnickjlnaemjaaa.Pl
