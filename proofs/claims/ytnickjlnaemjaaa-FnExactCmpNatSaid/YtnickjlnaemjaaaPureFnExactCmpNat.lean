/-
The Go program's CmpNat returns what the reference's returns, for all lists of integers, and leaves them alone: the law FnExactCmpNat holds. Conditions: those of the given row alone.
-/
import Derived.Test.YtnickjlnaemjaaaPlA
import Derived.Test.YtnickjlnaemjaaaQx3
namespace Go.Proofs.Ytnickjlnaemjaaa.Pure
open Go.RowKit Go.Proofs.Ytnickjlnaemjaaa.Q Go.Proofs.Ytnickjlnaemjaaa.Pn Go.Proofs.Ytnickjlnaemjaaa.Pl Go.Proofs.YtnickjlnaemjaaaW.PrintWords Go.Proofs.YtnickjlnaemjaaaW.PrintLast
set_option linter.unusedVariables false
set_option linter.unusedSimpArgs false

theorem specCmp_ev (a b : List Int) (ha : a.length ≤ 1048576) (hb : b.length ≤ 1048576) : Ev (fun k => spec_CmpNat.f k a b) (if askCode a b = 0 then ncmp a b else 0, askCode a b) := by
  obtain ⟨K1, h1⟩ := l01Ask_ev a b (by omega) (by omega)
  obtain ⟨K2, h2⟩ := l01Cmp_ev a b (by omega)
  refine ⟨K1 + K2 + 1, fun k hk => ?_⟩
  obtain ⟨k, rfl⟩ : ∃ m, k = m + 1 := ⟨k - 1, by omega⟩
  have h1' := h1 k (by omega)
  have h2' := h2 k (by omega)
  simp only at h1' h2'
  show spec_CmpNat.f (k + 1) a b = _
  unfold spec_CmpNat.f
  by_cases c1 : (a.length : Int) > 4096
  · have e : askCode a b = 2 := by unfold askCode; rw [if_pos (.inl (by omega))]
    rw [if_pos c1, e]; simp [spec_CmpNat.j0]
  · rw [if_neg c1]
    by_cases c2 : (b.length : Int) > 4096
    · have e : askCode a b = 2 := by unfold askCode; rw [if_pos (.inr (by omega))]
      rw [decide_eq_true c2, e]; simp [spec_CmpNat.j0]
    · rw [decide_eq_false c2]
      simp only [spec_CmpNat.j0, Bool.false_eq_true, if_false, h1', h2', Option.bind_some]
      by_cases hc : askCode a b = 0
      · simp [hc]
      · simp [hc]
theorem implCmp_ev (a b : List Int) : Ev (fun k => impl_CmpNat.f k a b) (if askCode a b = 0 then ncmp a b else 0, askCode a b) := by
  obtain ⟨K1, h1⟩ := natsCode_ev2 a b
  refine ⟨K1, fun k hk => ?_⟩
  have h1' := h1 k (by omega)
  simp only at h1'
  show impl_CmpNat.f k a b = _
  unfold impl_CmpNat.f
  rw [h1']
  simp only [Option.bind_some, impl_natCmp.f]
  by_cases hc : askCode a b = 0
  · simp [hc]
  · simp [hc]
theorem FnExactCmpNat : laws_FnExactCmpNat.Pure := by
  intro a b h1 h2 h3 g1 g2 g3
  by_cases hbig : (a.length : Int) > 1048576
  · exact ⟨0, by unfold laws_FnExactCmpNat.f; rw [if_pos hbig]⟩
  by_cases hbig2 : (b.length : Int) > 1048576
  · exact ⟨0, by unfold laws_FnExactCmpNat.f; rw [if_neg hbig, if_pos hbig2]⟩
  obtain ⟨K1, e1⟩ := toIntS_ev a (by omega)
  obtain ⟨K2, e2⟩ := toIntS_ev b (by omega)
  obtain ⟨K3, e3⟩ := eqIntS_ev a a (by omega)
  obtain ⟨K4, e4⟩ := eqIntS_ev b b (by omega)
  obtain ⟨K5, e5⟩ := specCmp_ev a b (by omega) (by omega)
  obtain ⟨K6, e6⟩ := implCmp_ev a b
  obtain ⟨K, hK⟩ : ∃ K, K = K1 + K2 + K3 + K4 + K5 + K6 := ⟨_, rfl⟩
  simp only at e1 e2 e3 e4 e5 e6
  refine ⟨K + 1, ?_⟩
  unfold laws_FnExactCmpNat.f
  rw [if_neg hbig, if_neg hbig2]
  simp only [e1 (K + 1) (by omega), e2 (K + 1) (by omega), e5 (K + 1) (by omega), e6 (K + 1) (by omega), Option.bind_some, bne_self_eq_false, if_true, laws_FnExactCmpNat.j0, Bool.false_eq_true, if_false, e1 K (by omega), e2 K (by omega), e3 K (by omega), e4 K (by omega), decide_true]

end Go.Proofs.Ytnickjlnaemjaaa.Pure
