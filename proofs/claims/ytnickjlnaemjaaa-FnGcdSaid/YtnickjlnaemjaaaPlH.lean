import Derived.Test.YtnickjlnaemjaaaPlN
import Derived.Test.YtnickjlnaemjaaaQxGcdNat
namespace Go.Proofs.Ytnickjlnaemjaaa.Pl
open Go.RowKit Go.Proofs.Ytnickjlnaemjaaa.Q Go.Proofs.Ytnickjlnaemjaaa.Pn Go.Proofs.YtnickjlnaemjaaaW.PrintWords Go.Proofs.YtnickjlnaemjaaaW.PrintLast
set_option linter.unusedVariables false
set_option linter.unusedSimpArgs false

/-- The greatest common divisor of two numbers that are not below 0. -/
def gcdI (x y : Int) : Int := ((Nat.gcd x.toNat y.toNat : Nat) : Int)
theorem gcdI_step {x y : Int} (hx : 0 ≤ x) (hy : 0 < y) : gcdI y (x % y) = gcdI x y := by
  obtain ⟨m, rfl⟩ := Int.eq_ofNat_of_zero_le hx
  obtain ⟨n, rfl⟩ := Int.eq_ofNat_of_zero_le (Int.le_of_lt hy)
  unfold gcdI
  have e : ((m : Int) % (n : Int)) = ((m % n : Nat) : Int) := by omega
  rw [e, Int.toNat_natCast, Int.toNat_natCast, Int.toNat_natCast, Nat.gcd_comm n, ← Nat.gcd_rec, Nat.gcd_comm]
theorem gcdI_zero {x : Int} (hx : 0 ≤ x) : gcdI x 0 = x := by
  unfold gcdI; simp; omega
theorem len_pos {y : Int} (hy : 0 < y) : ((nat y).length : Int) > 0 := by
  have : (nat y).length ≠ 0 := fun e => by have := nat_eq_nil (List.length_eq_zero_iff.1 e); omega
  omega
theorem gcdI_ev : ∀ (n : Nat) (x y : Int), y.toNat ≤ n → 0 ≤ x → x < 10000 ^ 1000 → 0 ≤ y → y < 10000 ^ 1000 → Ev (fun k => impl_natGcd.l0 k (nat x) (nat y)) (nat (gcdI x y)) := by
  intro n
  induction n with
  | zero =>
    intro x y h0 hx hxb hy hyb
    have : y = 0 := by omega
    subst this
    rw [gcdI_zero hx, nat_zero]
    refine Ev.step (f := fun _ => some (nat x)) (fun k => ?_) (Ev.now _)
    simp only [impl_natGcd.l0, List.length_nil]; rw [if_neg (by omega)]
  | succ n ih =>
    intro x y h0 hx hxb hy hyb
    by_cases hy0 : y = 0
    · subst hy0
      rw [gcdI_zero hx, nat_zero]
      refine Ev.step (f := fun _ => some (nat x)) (fun k => ?_) (Ev.now _)
      simp only [impl_natGcd.l0, List.length_nil]; rw [if_neg (by omega)]
    · have hp : 0 < y := by omega
      have q2 : 0 ≤ x % y := Int.emod_nonneg _ (by omega)
      have q3 : x % y < y := Int.emod_lt_of_pos _ hp
      have s := ih y (x % y) (by omega) hy hyb q2 (by omega)
      rw [gcdI_step hx hp] at s
      refine Ev.step (fun k => ?_) s
      simp only [impl_natGcd.l0]
      rw [if_pos (len_pos hp), divI hx hp hxb (by omega)]; rfl
theorem gcdS_ev : ∀ (n : Nat) (x y : Int), y.toNat ≤ n → 0 ≤ x → x < 10000 ^ 1000 → 0 ≤ y → y < 10000 ^ 1000 → Ev (fun k => spec_l01Gcd.l0 k (nat x) (nat y)) (nat (gcdI x y)) := by
  have fin : ∀ x : Int, 0 ≤ x → x < 10000 ^ 1000 → Ev (fun k => spec_l01Gcd.l0 k (nat x) (nat 0)) (nat (gcdI x 0)) := by
    intro x hx hxb
    rw [gcdI_zero hx, nat_zero]
    refine Ev.step (f := fun _ => some (nat x)) (fun k => ?_) (Ev.now _)
    have := nat_len x 1000 hxb
    simp only [spec_l01Gcd.l0, List.length_nil, Option.bind_some, List.nil_append]; rw [if_neg (by omega), if_pos (by omega)]
  intro n
  induction n with
  | zero =>
    intro x y h0 hx hxb hy hyb
    have : y = 0 := by omega
    subst this
    exact fin x hx hxb
  | succ n ih =>
    intro x y h0 hx hxb hy hyb
    by_cases hy0 : y = 0
    · subst hy0
      exact fin x hx hxb
    · have hp : 0 < y := by omega
      have q2 : 0 ≤ x % y := Int.emod_nonneg _ (by omega)
      have q3 : x % y < y := Int.emod_lt_of_pos _ hp
      have s := ih y (x % y) (by omega) hy hyb q2 (by omega)
      rw [gcdI_step hx hp] at s
      refine Ev.step (f := fun k => (spec_l01Div.f k (nat x) (nat y)).bind fun bt759 => (spec_l01Gcd.l0 k (nat y) bt759.2)) (fun k => ?_) (Ev.bind (divE hx hp hxb hyb (by omega) (by omega)) s)
      simp only [spec_l01Gcd.l0]
      rw [if_pos (len_pos hp)]
theorem gcdI_le {x y : Int} (hx : 0 ≤ x) (hy : 0 ≤ y) {M : Int} (hxm : x < M) (hym : y < M) : 0 ≤ gcdI x y ∧ gcdI x y < M := by
  unfold gcdI
  refine ⟨by omega, ?_⟩
  by_cases h : y.toNat = 0
  · rw [h, Nat.gcd_zero_right]; omega
  · have := Nat.gcd_le_right x.toNat (Nat.pos_of_ne_zero h)
    omega
/-- What GcdNat answers. -/
def gcdAns (a b : List Int) : List Int × Int := if askCode a b = 0 then (nat (gcdI (vl a) (vl b)), 0) else ([], askCode a b)
theorem nm_lt3 {l : List Int} (h : Nm l) (hl : l.length ≤ 40) : vl l < 10000 ^ 40 := Int.lt_of_lt_of_le (vl_lt h.1) (pow_mono' hl)
theorem p1000 {x : Int} (h : x < 10000 ^ 40) : x < 10000 ^ 1000 := Int.lt_of_lt_of_le h (pow_mono' (by omega))
theorem specGcd_ev (a b : List Int) (ha : a.length ≤ 1048576) (hb : b.length ≤ 1048576) : Ev (fun k => spec_GcdNat.f k a b) (gcdAns a b) := by
  obtain ⟨K1, h1⟩ := l01Ask_ev a b (by omega) (by omega)
  by_cases hc : askCode a b = 0
  · obtain ⟨la, lb, na, nb⟩ := ask_small hc
    obtain ⟨K2, h2⟩ := gcdS_ev _ (vl a) (vl b) (Nat.le_refl _) (vl_nonneg na.1) (p1000 (nm_lt3 na la)) (vl_nonneg nb.1) (p1000 (nm_lt3 nb lb))
    rw [nat_vl na, nat_vl nb] at h2
    refine ⟨K1 + K2 + 1, fun k hk => ?_⟩
    obtain ⟨k, rfl⟩ : ∃ m, k = m + 1 := ⟨k - 1, by omega⟩
    have h1' := h1 k (by omega)
    have h2' := h2 k (by omega)
    simp only at h1' h2'
    show spec_GcdNat.f (k + 1) a b = _
    unfold spec_GcdNat.f gcdAns
    rw [if_neg (by omega), decide_eq_false (by omega)]
    simp only [spec_GcdNat.j0, spec_l01Gcd.f, Bool.false_eq_true, if_false, h1', h2', Option.bind_some, hc, if_true]
  · refine ⟨K1 + 1, fun k hk => ?_⟩
    obtain ⟨k, rfl⟩ : ∃ m, k = m + 1 := ⟨k - 1, by omega⟩
    have h1' := h1 k (by omega)
    simp only at h1'
    show spec_GcdNat.f (k + 1) a b = _
    unfold spec_GcdNat.f gcdAns
    rw [if_neg hc]
    by_cases c1 : (a.length : Int) > 4096
    · have e : askCode a b = 2 := by unfold askCode; rw [if_pos (.inl (by omega))]
      rw [if_pos c1, e]; simp only [spec_GcdNat.j0, if_true]
    · rw [if_neg c1]
      by_cases c2 : (b.length : Int) > 4096
      · have e : askCode a b = 2 := by unfold askCode; rw [if_pos (.inr (by omega))]
        rw [decide_eq_true c2, e]; simp only [spec_GcdNat.j0, if_true]
      · rw [decide_eq_false c2]
        simp only [spec_GcdNat.j0, Bool.false_eq_true, if_false, h1', Option.bind_some, hc]
theorem implGcd_ev (a b : List Int) : Ev (fun k => impl_GcdNat.f k a b) (gcdAns a b) := by
  obtain ⟨K1, h1⟩ := natsCode_ev2 a b
  by_cases hc : askCode a b = 0
  · obtain ⟨la, lb, na, nb⟩ := ask_small hc
    obtain ⟨K2, h2⟩ := gcdI_ev _ (vl a) (vl b) (Nat.le_refl _) (vl_nonneg na.1) (p1000 (nm_lt3 na la)) (vl_nonneg nb.1) (p1000 (nm_lt3 nb lb))
    rw [nat_vl na, nat_vl nb] at h2
    have hg := gcdI_le (vl_nonneg na.1) (vl_nonneg nb.1) (nm_lt3 na la) (nm_lt3 nb lb)
    have hcl : slices_Clone_int_int.f (nat (gcdI (vl a) (vl b))) = some (nat (gcdI (vl a) (vl b))) := by
      have := nat_len _ _ hg.2
      unfold slices_Clone_int_int.f; rw [if_pos (by omega)]
    refine ⟨K1 + K2, fun k hk => ?_⟩
    have h1' := h1 k (by omega)
    have h2' := h2 k (by omega)
    simp only at h1' h2'
    show impl_GcdNat.f k a b = _
    unfold impl_GcdNat.f gcdAns
    simp only [impl_natGcd.f, h1', h2', Option.bind_some, hc, if_true, hcl]
  · refine ⟨K1, fun k hk => ?_⟩
    have h1' := h1 k (by omega)
    simp only at h1'
    show impl_GcdNat.f k a b = _
    unfold impl_GcdNat.f gcdAns
    simp only [h1', Option.bind_some, hc, if_false]
end Go.Proofs.Ytnickjlnaemjaaa.Pl
