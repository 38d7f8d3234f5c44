import Derived.Test.YtnickjlnaemjaaaPlM
import Derived.Test.YtnickjlnaemjaaaPlC
import Derived.Test.YtnickjlnaemjaaaQxCmpNat
namespace Go.Proofs.Ytnickjlnaemjaaa.Pl
open Go.RowKit Go.Proofs.Ytnickjlnaemjaaa.Q Go.Proofs.Ytnickjlnaemjaaa.Pn Go.Proofs.YtnickjlnaemjaaaW.PrintWords Go.Proofs.YtnickjlnaemjaaaW.PrintLast
set_option linter.unusedVariables false
set_option linter.unusedSimpArgs false

theorem implCmpA_ev (a b : List Int) : Ev (fun k => impl_CmpNat.f k a b) (if askCode a b = 0 then ncmp a b else 0, askCode a b) := by
  obtain ⟨K1, h1⟩ := natsCode_ev2 a b
  refine ⟨K1, fun k hk => ?_⟩
  have h1' := h1 k (by omega)
  simp only at h1'
  show impl_CmpNat.f k a b = _
  unfold impl_CmpNat.f
  rw [h1']
  simp only [Option.bind_some, impl_natCmp.f]
  by_cases hc : askCode a b = 0
  · simp [hc]
  · simp [hc]
theorem cmpN {a b : Int} (ha : 0 ≤ a ∧ a < 10000 ^ 40) (hb : 0 ≤ b ∧ b < 10000 ^ 40) : Ev (fun k => impl_CmpNat.f k (nat a) (nat b)) (cmpI a b, 0) := by
  have h := implCmpA_ev (nat a) (nat b)
  rw [ask_nat (natOK_nat ha.2) (natOK_nat hb.2), if_pos rfl, ncmp_vl (nm_nat a) (nm_nat b), vl_nat a ha.1, vl_nat b hb.1] at h
  exact h
end Go.Proofs.Ytnickjlnaemjaaa.Pl
