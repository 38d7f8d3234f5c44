import Derived.Test.YtacdaijalkkogaaPl
import Derived.Test.YtacdaijalkkogaaQd
namespace Go.Proofs.Ytacdaijalkkogaa.Pl
open Go.RowKit Go.Proofs.Ytacdaijalkkogaa.Q Go.Proofs.Ytacdaijalkkogaa.Pn Go.Proofs.YtacdaijalkkogaaW.PrintWords Go.Proofs.YtacdaijalkkogaaW.PrintLast Go.Proofs.YtacdaijalkkogaaW.PrintMore
set_option linter.unusedVariables false
set_option linter.unusedSimpArgs false

def cmpAns (r s : R3) : Int × Int := if ratOKB r = true ∧ ratOKB s = true then (sgI (tp r * bt s - tp s * bt r), 0) else (0, 1)
theorem sgI_bd (x : Int) : -1 ≤ sgI x ∧ sgI x ≤ 1 := by unfold sgI; split <;> (try split) <;> omega
theorem mnmx {x : Int} (h : -1 ≤ x ∧ x ≤ 1) : mn (mx x (-1)) 1 = x := by unfold mn mx; split <;> split <;> omega
theorem cmpI_bd (x y : Int) : -1 ≤ cmpI x y ∧ cmpI x y ≤ 1 := by unfold cmpI; split <;> (try split) <;> omega
theorem cmp_step {r s : R3} (hr : RO r) (hs : RO s) (h1 : r.2.1.length ≤ 40) (h2 : r.2.2.length ≤ 40) (h3 : s.2.1.length ≤ 40) (h4 : s.2.2.length ≤ 40) :
    ∃ c, Ev (fun k => impl_Rat_cmp.f k r.1 r.2.1 r.2.2 s.1 s.2.1 s.2.2) c ∧ mn (mx c (-1)) 1 = sgI (tp r * bt s - tp s * bt r) := by
  have a1 := vl_nonneg hr.1.1
  have a2 := vl_nonneg hs.1.1
  have d1 := vl_pos hr.2.1 hr.2.2.1
  have d2 := vl_pos hs.2.1 hs.2.2.1
  have g1 := sign_f r
  have g2 := sign_f s
  by_cases hc : sgR r = sgR s
  · obtain ⟨K1, e1⟩ := mulIE hr.1 hs.2.1 (by omega) (by omega)
    obtain ⟨K2, e2⟩ := mulIE hs.1 hr.2.1 (by omega) (by omega)
    have p1 := Int.mul_nonneg a1 (Int.le_of_lt d2)
    have p2 := Int.mul_nonneg a2 (Int.le_of_lt d1)
    have hn := natCmp_nat p1 p2
    have hb := cmpI_bd (vl r.2.1 * vl s.2.2) (vl s.2.1 * vl r.2.2)
    refine ⟨if r.1 = true then wrap64 (-(cmpI (vl r.2.1 * vl s.2.2) (vl s.2.1 * vl r.2.2))) else cmpI (vl r.2.1 * vl s.2.2) (vl s.2.1 * vl r.2.2), ⟨K1 + K2, fun k hk => ?_⟩, ?_⟩
    · have e1' := e1 k (by omega)
      have e2' := e2 k (by omega)
      simp only at e1' e2'
      show impl_Rat_cmp.f k _ _ _ _ _ _ = _
      unfold impl_Rat_cmp.f
      rw [g1, Option.bind_some, g2, Option.bind_some, if_pos hc, e1', Option.bind_some, e2', Option.bind_some, hn, Option.bind_some]
      cases r.1 <;> simp
    · have sr := sgR_tp hr
      have ss := sgR_tp hs
      rw [sr, ss] at hc
      unfold tp bt at *
      cases hb1 : r.1 with
      | false =>
        simp only [hb1, Bool.false_eq_true, if_false] at hc ⊢
        rw [mnmx hb]
        cases hb2 : s.1 with
        | false => simp only [hb2, Bool.false_eq_true, if_false]; exact cmp_sg _ _
        | true =>
          simp only [hb2, if_true] at hc ⊢
          have z1 : vl r.2.1 = 0 := by unfold sgI at hc; split at hc <;> split at hc <;> (try split at hc) <;> (try split at hc) <;> omega
          have z2 : vl s.2.1 = 0 := by unfold sgI at hc; split at hc <;> split at hc <;> (try split at hc) <;> (try split at hc) <;> omega
          rw [z1, z2]; simp [cmpI, sgI]
      | true =>
        simp only [hb1, if_true] at hc ⊢
        rw [wrap_in (by omega) (by omega), mnmx (by omega)]
        cases hb2 : s.1 with
        | true =>
          simp only [hb2, if_true, Int.neg_mul]
          rw [cmp_sg]
          generalize vl r.2.1 * vl s.2.2 = A
          generalize vl s.2.1 * vl r.2.2 = B
          unfold sgI
          split <;> split <;> (try split) <;> (try split) <;> omega
        | false =>
          simp only [hb2, Bool.false_eq_true, if_false] at hc ⊢
          have z1 : vl r.2.1 = 0 := by unfold sgI at hc; split at hc <;> split at hc <;> (try split at hc) <;> (try split at hc) <;> omega
          have z2 : vl s.2.1 = 0 := by unfold sgI at hc; split at hc <;> split at hc <;> (try split at hc) <;> (try split at hc) <;> omega
          rw [z1, z2]; simp [cmpI, sgI]
  · refine ⟨wrap64 (sgR r - sgR s), ⟨0, fun k hk => ?_⟩, ?_⟩
    · show impl_Rat_cmp.f k _ _ _ _ _ _ = _
      unfold impl_Rat_cmp.f
      rw [g1, Option.bind_some, g2, Option.bind_some, if_neg hc, Option.bind_some, Option.bind_some]
    · have sr := sgR_tp hr
      have ss := sgR_tp hs
      have b1 := sgI_bd (tp r)
      have b2 := sgI_bd (tp s)
      rw [← sr] at b1
      rw [← ss] at b2
      rw [wrap_in (by omega) (by omega)]
      have db : 0 < bt r := d1
      have dc : 0 < bt s := d2
      have m1 := sgI_mul (x := tp r) dc
      have m2 := sgI_mul (x := tp s) db
      rw [← sr] at m1
      rw [← ss] at m2
      generalize tp r * bt s = A at *
      generalize tp s * bt r = B at *
      generalize sgR r = P at *
      generalize sgR s = Q at *
      subst m1 m2
      unfold sgI mn mx at *
      split <;> split <;> (try split) <;> (try split) <;> (try split) <;> (try split) <;> (try split) <;> omega
theorem implCmpR_ev (b : Bool) (n d : List Int) (b' : Bool) (n' d' : List Int) : Ev (fun k => impl_CmpRat.f k b n d b' n' d') (cmpAns (b, n, d) (b', n', d')) := by
  obtain ⟨K, e⟩ := ratsCode2 b n d b' n' d'
  by_cases h : ratOKB (b, n, d) = true ∧ ratOKB (b', n', d') = true
  · have h1 := (ratOKB_iff _).1 h.1
    have h2 := (ratOKB_iff _).1 h.2
    obtain ⟨c, ⟨K1, e1⟩, hc⟩ := cmp_step h1.1 h2.1 h1.2.1 h1.2.2 h2.2.1 h2.2.2
    refine ⟨K + K1, fun k hk => ?_⟩
    have e' := e k (by omega)
    have e1' := e1 k (by omega)
    simp only at e' e1'
    show impl_CmpRat.f k b n d b' n' d' = _
    unfold impl_CmpRat.f cmpAns
    rw [e', Option.bind_some, if_pos h, if_pos rfl, if_pos h, e1', Option.bind_some, hc]
  · refine ⟨K, fun k hk => ?_⟩
    have e' := e k (by omega)
    simp only at e'
    show impl_CmpRat.f k b n d b' n' d' = _
    unfold impl_CmpRat.f cmpAns
    rw [e', Option.bind_some, if_neg h, if_neg (by omega), if_neg h]
end Go.Proofs.Ytacdaijalkkogaa.Pl
