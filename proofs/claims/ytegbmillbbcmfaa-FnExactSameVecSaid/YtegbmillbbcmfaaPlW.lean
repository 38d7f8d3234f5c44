import Derived.Test.YtegbmillbbcmfaaPlV
import Derived.Test.YtegbmillbbcmfaaQxrk
import Derived.Test.YtegbmillbbcmfaaQxrlaw
namespace Go.Proofs.Ytegbmillbbcmfaa.Pl
open Go.RowKit Go.Proofs.Ytegbmillbbcmfaa.Q Go.Proofs.Ytegbmillbbcmfaa.Pn Go.Proofs.YtegbmillbbcmfaaW.PrintWords Go.Proofs.YtegbmillbbcmfaaW.PrintLast
set_option linter.unusedVariables false
set_option linter.unusedSimpArgs false

theorem len0' (b : List Int) : ((b.length : Int) = 0) ↔ b = [] := by
  rw [← List.length_eq_zero_iff]; omega
def ratOKB (r : Bool × List Int × List Int) : Bool := natOKB r.2.1 && (natOKB r.2.2 && (!decide (r.2.2 = []) && (!(r.1 && decide (r.2.1 = [])) && decide (gcdI (vl r.2.1) (vl r.2.2) = 1))))
theorem ratOKB_iff (r : Bool × List Int × List Int) : ratOKB r = true ↔ RO r ∧ r.2.1.length ≤ 40 ∧ r.2.2.length ≤ 40 := by
  unfold ratOKB RO
  simp only [Bool.and_eq_true, natOKB_iff, Bool.not_eq_true', decide_eq_false_iff_not, decide_eq_true_eq, Bool.and_eq_false_iff]
  constructor
  · rintro ⟨⟨a1, a2⟩, ⟨b1, b2⟩, c, d, e⟩
    exact ⟨⟨a2, b2, c, fun h => d.elim (fun z => z) (fun z => absurd h z), e⟩, a1, b1⟩
  · rintro ⟨⟨a2, b2, c, d, e⟩, a1, b1⟩
    exact ⟨⟨a1, a2⟩, ⟨b1, b2⟩, c, by
      by_cases h : r.2.1 = []
      · exact .inl (d h)
      · exact .inr h, e⟩
theorem nm_b {l : List Int} (h : Nm l) (hl : l.length ≤ 40) : vl l < 10000 ^ 1000 := Int.lt_of_lt_of_le (vl_lt h.1) (pow_mono' (by omega))
theorem implRatOK_ev (b : Bool) (n d : List Int) : Ev (fun k => impl_RatOK.f k b n d) (ratOKB (b, n, d)) := by
  by_cases h1 : natOKB n = true
  · by_cases h2 : natOKB d = true
    · by_cases h3 : d = []
      · refine ⟨1, fun k hk => ?_⟩
        obtain ⟨k, rfl⟩ : ∃ m, k = m + 1 := ⟨k - 1, by omega⟩
        show impl_RatOK.f (k + 1) b n d = _
        unfold impl_RatOK.f ratOKB
        simp only [impl_NatOK.f, h1, h2, Option.bind_some, if_true, impl_RatOK.j0]
        rw [if_pos ((len0' d).2 h3)]; simp [h3]
      · have m1 := natOKB_nm h1
        have m2 := natOKB_nm h2
        have hp := vl_pos m2 h3
        obtain ⟨K, e⟩ := gcdI_ev _ (vl n) (vl d) (Nat.le_refl _) (vl_nonneg m1.1) (nm_b m1 (natOKB_len h1)) (by omega) (nm_b m2 (natOKB_len h2))
        rw [nat_vl m1, nat_vl m2] at e
        have g := gcdI_pos (vl_nonneg m1.1) hp
        have hc : impl_natCmp.f (nat (gcdI (vl n) (vl d))) [1] = some (cmpI (gcdI (vl n) (vl d)) 1) := by
          unfold impl_natCmp.f
          rw [← nat_1, ncmp_vl (nm_nat _) (nm_nat _), vl_nat _ (by omega), vl_nat 1 (by omega)]
        have key : ∀ k, K ≤ k → impl_RatOK.j0 (k + 1) false b n d = some (decide (gcdI (vl n) (vl d) = 1)) := fun k hk => by
          have e' := e k hk
          simp only at e'
          simp only [impl_RatOK.j0, Bool.false_eq_true, if_false, impl_natGcd.f, e', one_f, Option.bind_some, hc]
          congr 1
          by_cases q : gcdI (vl n) (vl d) = 1
          · rw [decide_eq_true q]; exact beq_iff_eq.2 ((cmpI_eq _ _).2 q)
          · rw [decide_eq_false q]; exact beq_eq_false_iff_ne.2 (fun z => q ((cmpI_eq _ _).1 z))
        refine ⟨K + 1, fun k hk => ?_⟩
        obtain ⟨k, rfl⟩ : ∃ m, k = m + 1 := ⟨k - 1, by omega⟩
        have kk := key k (by omega)
        show impl_RatOK.f (k + 1) b n d = _
        unfold impl_RatOK.f ratOKB
        simp only [impl_NatOK.f, h1, h2, Option.bind_some, if_true, impl_Rat_isZero.f]
        rw [if_neg (fun z => h3 ((len0' d).1 z))]
        cases b with
        | false => simp [kk, h3]
        | true =>
          by_cases h4 : n = []
          · subst h4; simp [impl_RatOK.j0]
          · have : ((n.length : Int) == 0) = false := beq_eq_false_iff_ne.2 (fun z => h4 ((len0' n).1 z))
            simp [this, kk, h3, h4]
    · refine ⟨1, fun k hk => ?_⟩
      obtain ⟨k, rfl⟩ : ∃ m, k = m + 1 := ⟨k - 1, by omega⟩
      show impl_RatOK.f (k + 1) b n d = _
      unfold impl_RatOK.f ratOKB
      simp only [impl_NatOK.f, h1, Bool.eq_false_iff.2 h2, Option.bind_some, if_true, impl_RatOK.j0]; simp
  · refine ⟨1, fun k hk => ?_⟩
    obtain ⟨k, rfl⟩ : ∃ m, k = m + 1 := ⟨k - 1, by omega⟩
    show impl_RatOK.f (k + 1) b n d = _
    unfold impl_RatOK.f ratOKB
    simp only [impl_NatOK.f, Bool.eq_false_iff.2 h1, Option.bind_some, impl_RatOK.j0]; simp
theorem specRatOK_ev (b : Bool) (n d : List Int) (hn : n.length ≤ 1048576) (hd : d.length ≤ 1048576) : Ev (fun k => spec_RatOK.f k b n d) (ratOKB (b, n, d)) := by
  obtain ⟨K1, s1⟩ := specNatOK_ev n (by omega)
  obtain ⟨K2, s2⟩ := specNatOK_ev d (by omega)
  by_cases h1 : natOKB n = true
  · by_cases h2 : natOKB d = true
    · by_cases h3 : d = []
      · refine ⟨K1 + K2 + 1, fun k hk => ?_⟩
        obtain ⟨k, rfl⟩ : ∃ m, k = m + 1 := ⟨k - 1, by omega⟩
        have s1' := s1 (k + 1) (by omega)
        have s2' := s2 (k + 1) (by omega)
        simp only at s1' s2'
        show spec_RatOK.f (k + 1) b n d = _
        unfold spec_RatOK.f ratOKB
        simp only [s1', s2', h1, h2, Option.bind_some, if_true, spec_RatOK.j0]
        rw [if_pos ((len0' d).2 h3)]; simp [h3]
      · have m1 := natOKB_nm h1
        have m2 := natOKB_nm h2
        have hp := vl_pos m2 h3
        obtain ⟨K, e⟩ := gcdS_ev _ (vl n) (vl d) (Nat.le_refl _) (vl_nonneg m1.1) (nm_b m1 (natOKB_len h1)) (by omega) (nm_b m2 (natOKB_len h2))
        rw [nat_vl m1, nat_vl m2] at e
        have g := gcdI_pos (vl_nonneg m1.1) hp
        obtain ⟨K3, e3⟩ := cmpE (x := gcdI (vl n) (vl d)) (y := 1) (by omega) (by omega) (n := 1000) (by have := nm_b m2 (natOKB_len h2); omega) (by omega)
        rw [nat_1] at e3
        have key : ∀ k, K + K3 ≤ k → spec_RatOK.j0 (k + 1) false b n d = some (decide (gcdI (vl n) (vl d) = 1)) := fun k hk => by
          have e' := e k (by omega)
          have e3' := e3 k (by omega)
          simp only at e' e3'
          simp only [spec_RatOK.j0, Bool.false_eq_true, if_false, spec_l01Gcd.f, e', e3', Option.bind_some]
          congr 1
          by_cases q : gcdI (vl n) (vl d) = 1
          · rw [decide_eq_true q]; exact beq_iff_eq.2 ((cmpI_eq _ _).2 q)
          · rw [decide_eq_false q]; exact beq_eq_false_iff_ne.2 (fun z => q ((cmpI_eq _ _).1 z))
        refine ⟨K1 + K2 + K + K3 + 1, fun k hk => ?_⟩
        obtain ⟨k, rfl⟩ : ∃ m, k = m + 1 := ⟨k - 1, by omega⟩
        have s1' := s1 (k + 1) (by omega)
        have s2' := s2 (k + 1) (by omega)
        simp only at s1' s2'
        have kk := key k (by omega)
        show spec_RatOK.f (k + 1) b n d = _
        unfold spec_RatOK.f ratOKB
        simp only [s1', s2', h1, h2, Option.bind_some, if_true]
        rw [if_neg (fun z => h3 ((len0' d).1 z))]
        by_cases h4 : n = []
        · rw [if_pos ((len0' n).2 h4)]
          cases b with
          | false => simp [kk, h3]
          | true => subst h4; simp [spec_RatOK.j0]
        · rw [if_neg (fun z => h4 ((len0' n).1 z))]
          simp [kk, h3, h4]
    · refine ⟨K1 + K2 + 1, fun k hk => ?_⟩
      obtain ⟨k, rfl⟩ : ∃ m, k = m + 1 := ⟨k - 1, by omega⟩
      have s1' := s1 (k + 1) (by omega)
      have s2' := s2 (k + 1) (by omega)
      simp only at s1' s2'
      show spec_RatOK.f (k + 1) b n d = _
      unfold spec_RatOK.f ratOKB
      simp only [s1', s2', h1, Bool.eq_false_iff.2 h2, Option.bind_some, if_true, spec_RatOK.j0]; simp
  · refine ⟨K1 + 1, fun k hk => ?_⟩
    obtain ⟨k, rfl⟩ : ∃ m, k = m + 1 := ⟨k - 1, by omega⟩
    have s1' := s1 (k + 1) (by omega)
    simp only at s1'
    show spec_RatOK.f (k + 1) b n d = _
    unfold spec_RatOK.f ratOKB
    simp only [s1', Bool.eq_false_iff.2 h1, Option.bind_some, spec_RatOK.j0]; simp

/-- What is left of a size behind a rational. -/
def szR (n d : List Int) (left : Int) : Int := if left - n.length - d.length < 0 then -1 else left - n.length - d.length
theorem szRat_f (b : Bool) (n d : List Int) (left : Int) (hl : 0 ≤ left ∧ left ≤ 1048576) (hn : n.length ≤ maxLen) (hd : d.length ≤ maxLen) : laws_szRat.f b n d left = some (szR n d left) := by
  simp only [maxLen] at hn hd
  unfold laws_szRat.f laws_szIntS.f szR
  rw [wrap_in (x := left - n.length) (by omega) (by omega)]
  by_cases h1 : left - (n.length : Int) < 0
  · rw [if_pos h1, if_pos (by omega)]; rfl
  · rw [if_neg h1]
    simp only [Option.bind_some]
    rw [if_neg h1, wrap_in (by omega) (by omega)]
    by_cases h2 : left - (n.length : Int) - d.length < 0
    · rw [if_pos h2, if_pos h2]; rfl
    · rw [if_neg h2, if_neg h2]
      simp only [Option.bind_some]
      rw [if_neg h2]
theorem toRat_ev (b : Bool) (n d : List Int) (hn : n.length ≤ 1048576) (hd : d.length ≤ 1048576) : Ev (fun k => laws_toRat.f k b n d) (b, n, d) := by
  obtain ⟨K1, e1⟩ := toIntS_ev n hn
  obtain ⟨K2, e2⟩ := toIntS_ev d hd
  refine ⟨K1 + K2, fun k hk => ?_⟩
  have e1' := e1 k (by omega)
  have e2' := e2 k (by omega)
  simp only at e1' e2'
  show laws_toRat.f k b n d = _
  unfold laws_toRat.f
  simp only [e1', e2', Option.bind_some]
theorem eqRat_ev (r s : Bool × List Int × List Int) (hn : r.2.1.length ≤ 9223372036854775806) (hd : r.2.2.length ≤ 9223372036854775806) : Ev (fun k => laws_eqRat.f k r.1 r.2.1 r.2.2 s.1 s.2.1 s.2.2) (decide (r = s)) := by
  obtain ⟨b, n, d⟩ := r
  obtain ⟨b', n', d'⟩ := s
  obtain ⟨K1, e1⟩ := eqIntS_ev n n' hn
  obtain ⟨K2, e2⟩ := eqIntS_ev d d' hd
  refine ⟨K1 + K2, fun k hk => ?_⟩
  have e1' := e1 k (by omega)
  have e2' := e2 k (by omega)
  simp only at e1' e2'
  show laws_eqRat.f k b n d b' n' d' = _
  unfold laws_eqRat.f
  simp only [e1', e2', Option.bind_some]
  by_cases h1 : b = b'
  · by_cases h2 : n = n'
    · by_cases h3 : d = d' <;> simp [h1, h2, h3]
    · simp [h1, h2]
  · simp [h1]
theorem eqRat_self (r : Bool × List Int × List Int) (hn : r.2.1.length ≤ 9223372036854775806) (hd : r.2.2.length ≤ 9223372036854775806) : Ev (fun k => laws_eqRat.f k r.1 r.2.1 r.2.2 r.1 r.2.1 r.2.2) true := by
  have := eqRat_ev r r hn hd
  rw [decide_eq_true rfl] at this
  exact this

end Go.Proofs.Ytegbmillbbcmfaa.Pl
