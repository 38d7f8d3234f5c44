import Derived.Test.YtnickjlnaemjaaaPlN
import Derived.Test.YtnickjlnaemjaaaQxDivNat
namespace Go.Proofs.Ytnickjlnaemjaaa.Pl
open Go.RowKit Go.Proofs.Ytnickjlnaemjaaa.Q Go.Proofs.Ytnickjlnaemjaaa.Pn Go.Proofs.YtnickjlnaemjaaaW.PrintWords Go.Proofs.YtnickjlnaemjaaaW.PrintLast
set_option linter.unusedVariables false
set_option linter.unusedSimpArgs false

/-- What DivNat answers. -/
def divAns (a b : List Int) : List Int × List Int × Int := if askCode a b = 0 then (if b = [] then ([], [], 9) else (nat (vl a / vl b), nat (vl a % vl b), 0)) else ([], [], askCode a b)
theorem len0 (b : List Int) : ((b.length : Int) = 0) ↔ b = [] := by
  rw [← List.length_eq_zero_iff]; omega
theorem specDiv_ev (a b : List Int) (ha : a.length ≤ 1048576) (hb : b.length ≤ 1048576) : Ev (fun k => spec_DivNat.f k a b) (divAns a b) := by
  obtain ⟨K1, h1⟩ := l01Ask_ev a b (by omega) (by omega)
  by_cases hc : askCode a b = 0
  · obtain ⟨la, lb, na, nb⟩ := ask_small hc
    by_cases hb0 : b = []
    · subst hb0
      refine ⟨K1 + 1, fun k hk => ?_⟩
      obtain ⟨k, rfl⟩ : ∃ m, k = m + 1 := ⟨k - 1, by omega⟩
      have h1' := h1 k (by omega)
      simp only at h1'
      show spec_DivNat.f (k + 1) a [] = _
      unfold spec_DivNat.f divAns
      rw [if_neg (by omega), decide_eq_false (by omega)]
      simp [spec_DivNat.j0, h1', hc]
    · have hp := vl_pos nb hb0
      obtain ⟨K2, h2⟩ := divE (A := vl a) (B := vl b) (vl_nonneg na.1) hp (vl_lt na.1) (vl_lt nb.1) (by omega) (by omega)
      rw [nat_vl na, nat_vl nb] at h2
      refine ⟨K1 + K2 + 1, fun k hk => ?_⟩
      obtain ⟨k, rfl⟩ : ∃ m, k = m + 1 := ⟨k - 1, by omega⟩
      have h1' := h1 k (by omega)
      have h2' := h2 k (by omega)
      simp only at h1' h2'
      show spec_DivNat.f (k + 1) a b = _
      unfold spec_DivNat.f divAns
      rw [if_neg (by omega), decide_eq_false (by omega)]
      simp only [spec_DivNat.j0, Bool.false_eq_true, if_false, h1', h2', Option.bind_some, hc, if_true, fun h => hb0 ((len0 b).1 h), hb0]
      rw [if_neg (fun h => hb0 ((len0 b).1 h))]
  · refine ⟨K1 + 1, fun k hk => ?_⟩
    obtain ⟨k, rfl⟩ : ∃ m, k = m + 1 := ⟨k - 1, by omega⟩
    have h1' := h1 k (by omega)
    simp only at h1'
    show spec_DivNat.f (k + 1) a b = _
    unfold spec_DivNat.f divAns
    rw [if_neg hc]
    by_cases c1 : (a.length : Int) > 4096
    · have e : askCode a b = 2 := by unfold askCode; rw [if_pos (.inl (by omega))]
      rw [if_pos c1, e]; simp only [spec_DivNat.j0, if_true]
    · rw [if_neg c1]
      by_cases c2 : (b.length : Int) > 4096
      · have e : askCode a b = 2 := by unfold askCode; rw [if_pos (.inr (by omega))]
        rw [decide_eq_true c2, e]; simp only [spec_DivNat.j0, if_true]
      · rw [decide_eq_false c2]
        simp only [spec_DivNat.j0, Bool.false_eq_true, if_false, h1', Option.bind_some, hc]
theorem implDiv_ev (a b : List Int) : Ev (fun k => impl_DivNat.f k a b) (divAns a b) := by
  obtain ⟨K1, h1⟩ := natsCode_ev2 a b
  refine ⟨K1, fun k hk => ?_⟩
  have h1' := h1 k (by omega)
  simp only at h1'
  show impl_DivNat.f k a b = _
  unfold impl_DivNat.f divAns
  by_cases hc : askCode a b = 0
  · obtain ⟨la, lb, na, nb⟩ := ask_small hc
    by_cases hb0 : b = []
    · subst hb0
      simp [h1', hc]
    · have h2 := divI (A := vl a) (B := vl b) (vl_nonneg na.1) (vl_pos nb hb0) (vl_lt na.1) (by omega)
      rw [nat_vl na, nat_vl nb] at h2
      simp only [h1', Option.bind_some, hc, if_true, hb0, if_false, h2]
      rw [if_neg (fun h => hb0 ((len0 b).1 h))]
  · simp only [h1', Option.bind_some, hc, if_false]
end Go.Proofs.Ytnickjlnaemjaaa.Pl
