import Derived.Test.YtacdaijalkkogaaPlX
namespace Go.Proofs.Ytacdaijalkkogaa.Pl
open Go.RowKit Go.Proofs.Ytacdaijalkkogaa.Q Go.Proofs.Ytacdaijalkkogaa.Pn Go.Proofs.YtacdaijalkkogaaW.PrintWords Go.Proofs.YtacdaijalkkogaaW.PrintLast Go.Proofs.YtacdaijalkkogaaW.PrintMore
set_option linter.unusedVariables false
set_option linter.unusedSimpArgs false

theorem badR_ev (b : Bool) (n d : List Int) : Ev (fun k => impl_ratsCode_1.f k b n d) (!ratOKB (b, n, d)) := by
  obtain ⟨K, e⟩ := implRatOK_ev b n d
  refine ⟨K, fun k hk => ?_⟩
  have e' := e k hk
  simp only at e'
  show impl_ratsCode_1.f k b n d = _
  unfold impl_ratsCode_1.f
  simp only [e', Option.bind_some]
theorem ratsCode2 (b : Bool) (n d : List Int) (b' : Bool) (n' d' : List Int) : Ev (fun k => impl_ratsCode.f k [(⟨b, n, d⟩ : S24), (⟨b', n', d'⟩ : S24)]) (if ratOKB (b, n, d) = true ∧ ratOKB (b', n', d') = true then 0 else 1) := by
  obtain ⟨K, e⟩ := badR_ev b n d
  obtain ⟨K1, e1⟩ := badR_ev b' n' d'
  refine ⟨K + K1 + 3, fun k hk => ?_⟩
  obtain ⟨k, rfl⟩ : ∃ m, k = m + 3 := ⟨k - 3, by omega⟩
  have e' := e (k + 2) (by omega)
  have e1' := e1 (k + 1) (by omega)
  simp only at e' e1'
  have w1 : wrap64 (0 + 1) = 1 := by rw [wrap_in (by omega) (by omega)]; rfl
  have w2 : wrap64 (1 + 1) = 2 := by rw [wrap_in (by omega) (by omega)]; rfl
  have r0 : rd_T24 [(⟨b, n, d⟩ : S24), (⟨b', n', d'⟩ : S24)] 0 = ⟨b, n, d⟩ := rfl
  have r1 : rd_T24 [(⟨b, n, d⟩ : S24), (⟨b', n', d'⟩ : S24)] 1 = ⟨b', n', d'⟩ := rfl
  show impl_ratsCode.f (k + 3) _ = _
  unfold impl_ratsCode.f impl_Rat_100.f impl_Rat_119.f impl_unless.f
  simp only [impl_Rat_119.l0, List.length_cons, List.length_nil, r0, r1, e', e1', w1, w2, Option.bind_some]
  cases ratOKB (b, n, d) <;> cases ratOKB (b', n', d') <;> simp
theorem tp_neg (s : R3) : tp (negZ s) = -tp s := by
  obtain ⟨b, n, d⟩ := s
  unfold tp negZ
  by_cases h : n = []
  · subst h; cases b <;> simp [vl]
  · cases b <;> simp [h]
theorem addZ_eq {r s : R3} (hr : RO r) (hs : RO s) : addZ r s = lowZ (tp r * bt s + tp s * bt r) (bt r * bt s) := by
  have h1 := vl_nonneg hr.1.1
  have h2 := vl_nonneg hs.1.1
  have h3 := vl_pos hr.2.1 hr.2.2.1
  have h4 := vl_pos hs.2.1 hs.2.2.1
  have p1 := Int.mul_nonneg h1 (Int.le_of_lt h4)
  have p2 := Int.mul_nonneg h2 (Int.le_of_lt h3)
  unfold addZ tp bt
  cases hb : r.1 <;> cases hc : s.1 <;> simp only [Bool.false_eq_true, if_false, if_true, Int.neg_mul, reduceCtorEq]
  · rw [low_eq (by omega)]; simp
  · split
    · rw [low_eq (by omega)]; simp; congr 1
    · rw [low_eq (by omega)]; simp; congr 1; omega
  · split
    · rw [low_eq (by omega)]; simp; congr 1; omega
    · rw [low_eq (by omega)]; simp; congr 1; omega
  · rw [low_eq (by omega)]; simp; congr 1; omega
def sgI (x : Int) : Int := if x < 0 then -1 else if x = 0 then 0 else 1
def sgR (r : R3) : Int := if r.2.1 = [] then 0 else if r.1 = true then -1 else 1
theorem sign_f (r : R3) : impl_Rat_sign.f r.1 r.2.1 r.2.2 = some (sgR r) := by
  unfold impl_Rat_sign.f impl_Rat_isZero.f sgR
  by_cases h : r.2.1 = []
  · simp [h]
  · have : ((r.2.1.length : Int) == 0) = false := beq_eq_false_iff_ne.2 (fun z => h ((len0' _).1 z))
    simp only [this, Option.bind_some, h]
    cases r.1 <;> simp
theorem l02Sign_f (r : R3) : spec_l02Sign.f r.1 r.2.1 r.2.2 = some (sgR r) := by
  unfold spec_l02Sign.f spec_l02Zero.f sgR
  by_cases h : r.2.1 = []
  · simp [h]
  · have : ((r.2.1.length : Int) == 0) = false := beq_eq_false_iff_ne.2 (fun z => h ((len0' _).1 z))
    simp only [this, Option.bind_some, h]
    cases r.1 <;> simp
theorem sgR_tp {r : R3} (h : RO r) : sgR r = sgI (tp r) := by
  unfold sgR sgI tp
  by_cases h0 : r.2.1 = []
  · rw [if_pos h0, h.2.2.2.1 h0, h0]; simp [vl]
  · have := vl_pos h.1 h0
    rw [if_neg h0]
    cases r.1 with
    | true => simp; omega
    | false => simp; omega
theorem sgI_mul {x d : Int} (hd : 0 < d) : sgI (x * d) = sgI x := by
  unfold sgI
  rcases Int.lt_trichotomy x 0 with h | h | h
  · rw [if_pos h, if_pos (Int.mul_neg_of_neg_of_pos h hd)]
  · rw [h]; simp
  · have := Int.mul_pos h hd
    rw [if_neg (by omega), if_neg (by omega), if_neg (by omega), if_neg (by omega)]
theorem sgI_lowZ {N D : Int} (hD : 0 < D) : sgR (lowZ N D) = sgI N := by
  have h := lowZ_tp (N := N) hD
  rw [sgR_tp (lowZ_ro hD), ← sgI_mul hD, h.1, sgI_mul h.2]
theorem cmp_sg (x y : Int) : cmpI x y = sgI (x - y) := by
  unfold cmpI sgI
  rcases Int.lt_trichotomy x y with h | h | h
  · rw [if_pos h, if_pos (by omega)]
  · rw [if_neg (by omega), if_pos h, if_neg (by omega), if_pos (by omega)]
  · rw [if_neg (by omega), if_neg (by omega), if_neg (by omega), if_neg (by omega)]

end Go.Proofs.Ytacdaijalkkogaa.Pl
