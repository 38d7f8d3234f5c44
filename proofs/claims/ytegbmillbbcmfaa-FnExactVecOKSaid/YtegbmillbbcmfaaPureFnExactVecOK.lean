/-
The Go program's VecOK returns what the reference's returns, for all vectors; it leaves its argument alone: the law FnExactVecOK holds. Conditions: those of the given row alone.
-/
import Derived.Test.YtegbmillbbcmfaaPvA
import Derived.Test.YtegbmillbbcmfaaQxlawsFnExactVecOK
namespace Go.Proofs.Ytegbmillbbcmfaa.Pure
open Go.RowKit Go.Proofs.Ytegbmillbbcmfaa.Q Go.Proofs.Ytegbmillbbcmfaa.Pn Go.Proofs.Ytegbmillbbcmfaa.Pl Go.Proofs.YtegbmillbbcmfaaW.PrintWords Go.Proofs.YtegbmillbbcmfaaW.PrintLast
set_option linter.unusedVariables false
set_option linter.unusedSimpArgs false

theorem FnExactVecOK : laws_FnExactVecOK.Pure := by
  intro x ⟨h1, h2⟩
  obtain ⟨r, ⟨Kz, ez⟩, hr, hr2⟩ := szRatS_ev x (fun y hy => ⟨(h2 y hy).2.1.1, (h2 y hy).2.2.1⟩) h1 1048576 (by omega)
  by_cases hbig : r < 0
  · refine ⟨Kz, ?_⟩
    have e := ez Kz (Nat.le_refl _)
    simp only at e
    unfold laws_FnExactVecOK.f
    rw [e, Option.bind_some, if_pos hbig]
  obtain ⟨hl, hs⟩ := hr2 hbig
  have hm := map_sh hs
  have hml : (x.map cvR).length ≤ 1048576 := by rw [List.length_map]; exact hl
  obtain ⟨K0, e0⟩ := toRatS_ev x hs hl
  obtain ⟨K1, e1⟩ := specVec_ev (x.map cvR) hm hml
  obtain ⟨K2, e2⟩ := implVec_ev (x.map cvR) hml
  obtain ⟨K3, e3⟩ := eqRatS_ev (x.map cvR) hm hml
  generalize vecAns (x.map cvR) = q at e1 e2
  obtain ⟨K, hK⟩ : ∃ K, K = Kz + K0 + K1 + K2 + K3 := ⟨_, rfl⟩
  refine ⟨K, ?_⟩
  have ez' := ez K (by omega)
  have e0' := e0 K (by omega)
  have e1' := e1 K (by omega)
  have e2' := e2 K (by omega)
  have e3' := e3 K (by omega)
  simp only at ez' e0' e1' e2' e3'
  unfold laws_FnExactVecOK.f
  rw [ez', Option.bind_some, if_neg hbig, e0', Option.bind_some, e1', Option.bind_some, Option.bind_some, e2', Option.bind_some]
  rw [bne_self_eq_false, if_neg (by simp), Option.bind_some, e3', Option.bind_some, if_pos rfl]
end Go.Proofs.Ytegbmillbbcmfaa.Pure
