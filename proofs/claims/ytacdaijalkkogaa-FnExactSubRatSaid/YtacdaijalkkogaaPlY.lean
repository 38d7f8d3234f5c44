import Derived.Test.YtacdaijalkkogaaPlX
namespace Go.Proofs.Ytacdaijalkkogaa.Pl
open Go.RowKit Go.Proofs.Ytacdaijalkkogaa.Q Go.Proofs.Ytacdaijalkkogaa.Pn Go.Proofs.YtacdaijalkkogaaW.PrintWords Go.Proofs.YtacdaijalkkogaaW.PrintLast Go.Proofs.YtacdaijalkkogaaW.PrintMore
set_option linter.unusedVariables false
set_option linter.unusedSimpArgs false

abbrev R4 := Bool × List Int × List Int × Int
def bad4 (c : Int) : R4 := (false, [], [], c)
def ok4 (r : R3) : R4 := (r.1, r.2.1, r.2.2, 0)
def fit4 (r : R3) : R4 := if r.2.1.length ≤ 40 ∧ r.2.2.length ≤ 40 then ok4 r else bad4 7
theorem fullRat_f (r : R3) : impl_fullRat.f r.1 r.2.1 r.2.2 = some (fit4 r) := by
 unfold impl_fullRat.f impl_Rat_fits.f fit4
 by_cases h1 : (r.2.1.length : Int) ≤ 40
 ·
  rw [if_pos h1]
  by_cases h2 : (r.2.2.length : Int) ≤ 40
  ·
   rw [decide_eq_true h2, if_pos ⟨by omega, by omega⟩]; rfl
  ·
   rw [decide_eq_false h2, if_neg (by omega)]; rfl
 ·
  rw [if_neg h1, if_neg (by omega)]; rfl
theorem own_f (r : R3) (h1 : r.2.1.length ≤ 1000000) (h2 : r.2.2.length ≤ 1000000) : spec_l02Own.f r.1 r.2.1 r.2.2 = some r := by
 unfold spec_l02Own.f
 simp only [Option.bind_some, List.length_nil, Nat.zero_add, List.nil_append]
 rw [if_pos (by omega), if_pos (by omega)]
theorem l02Fit_f (r : R3) : spec_l02Fit.f r.1 r.2.1 r.2.2 = some (fit4 r) := by
 unfold spec_l02Fit.f spec_l02Fits.f fit4
 by_cases h1 : (r.2.1.length : Int) ≤ 40
 ·
  rw [if_pos h1]
  by_cases h2 : (r.2.2.length : Int) ≤ 40
  ·
   rw [decide_eq_true h2, if_pos ⟨by omega, by omega⟩]
   simp only [Option.bind_some, if_true, own_f r (by omega) (by omega)]; rfl
  ·
   rw [decide_eq_false h2, if_neg (by omega)]; rfl
 ·
  rw [if_neg h1, if_neg (by omega)]; rfl
theorem fit4_len (r : R3) : (fit4 r).2.1.length ≤ 40 ∧ (fit4 r).2.2.1.length ≤ 40 := by
 unfold fit4
 split
 ·
  assumption
 ·
  simp [bad4]
theorem badR_ev (b : Bool) (n d : List Int) : Ev (fun k => impl_ratsCode_1.f k b n d) (!ratOKB (b, n, d)) := by
 obtain ⟨K, e⟩ := implRatOK_ev b n d
 refine ⟨K, fun k hk => ?_⟩
 have e' := e k hk
 simp only at e'
 show impl_ratsCode_1.f k b n d = _
 unfold impl_ratsCode_1.f
 simp only [e', Option.bind_some]
theorem ratsCode2 (b : Bool) (n d : List Int) (b' : Bool) (n' d' : List Int) : Ev (fun k => impl_ratsCode.f k [(⟨b, n, d⟩ : S24), (⟨b', n', d'⟩ : S24)]) (if ratOKB (b, n, d) = true ∧ ratOKB (b', n', d') = true then 0 else 1) := by
 obtain ⟨K, e⟩ := badR_ev b n d
 obtain ⟨K1, e1⟩ := badR_ev b' n' d'
 refine ⟨K + K1 + 3, fun k hk => ?_⟩
 obtain ⟨k, rfl⟩ : ∃ m, k = m + 3 := ⟨k - 3, by omega⟩
 have e' := e (k + 2) (by omega)
 have e1' := e1 (k + 1) (by omega)
 simp only at e' e1'
 have w1 : wrap64 (0 + 1) = 1 := by rw [wrap_in (by omega) (by omega)]; rfl
 have w2 : wrap64 (1 + 1) = 2 := by rw [wrap_in (by omega) (by omega)]; rfl
 have r0 : rd_T24 [(⟨b, n, d⟩ : S24), (⟨b', n', d'⟩ : S24)] 0 = ⟨b, n, d⟩ := rfl
 have r1 : rd_T24 [(⟨b, n, d⟩ : S24), (⟨b', n', d'⟩ : S24)] 1 = ⟨b', n', d'⟩ := rfl
 show impl_ratsCode.f (k + 3) _ = _
 unfold impl_ratsCode.f impl_Rat_100.f impl_Rat_119.f impl_unless.f
 simp only [impl_Rat_119.l0, List.length_cons, List.length_nil, r0, r1, e', e1', w1, w2, Option.bind_some]
 cases ratOKB (b, n, d) <;> cases ratOKB (b', n', d') <;> simp
end Go.Proofs.Ytacdaijalkkogaa.Pl
