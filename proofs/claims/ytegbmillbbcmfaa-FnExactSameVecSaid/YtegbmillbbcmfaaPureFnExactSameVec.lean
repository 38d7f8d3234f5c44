/-
The Go program's SameVec returns what the reference's returns, for all vectors; it leaves its arguments alone: the law FnExactSameVec holds. Conditions: those of the given row alone.
-/
import Derived.Test.YtegbmillbbcmfaaPvC
import Derived.Test.YtegbmillbbcmfaaQxlawsFnExactSameVec
namespace Go.Proofs.Ytegbmillbbcmfaa.Pure
open Go.RowKit Go.Proofs.Ytegbmillbbcmfaa.Q Go.Proofs.Ytegbmillbbcmfaa.Pn Go.Proofs.Ytegbmillbbcmfaa.Pl Go.Proofs.YtegbmillbbcmfaaW.PrintWords Go.Proofs.YtegbmillbbcmfaaW.PrintLast
set_option linter.unusedVariables false
set_option linter.unusedSimpArgs false

theorem FnExactSameVec : laws_FnExactSameVec.Pure := by
  intro x y ⟨h1, h2⟩ ⟨h3, h4⟩
  obtain ⟨r, ⟨Kz, ez⟩, hr, hr2⟩ := szRatS_ev x (fun y hy => ⟨(h2 y hy).2.1.1, (h2 y hy).2.2.1⟩) h1 1048576 (by omega)
  by_cases hbig : r < 0
  · refine ⟨Kz, ?_⟩
    have e := ez Kz (Nat.le_refl _)
    simp only at e
    unfold laws_FnExactSameVec.f
    rw [e, Option.bind_some, if_pos hbig]
  obtain ⟨r', ⟨Ky, ey⟩, hr', hr2'⟩ := szRatS_ev y (fun z hz => ⟨(h4 z hz).2.1.1, (h4 z hz).2.2.1⟩) h3 r (by omega)
  by_cases hbig' : r' < 0
  · refine ⟨Kz + Ky, ?_⟩
    have e := ez (Kz + Ky) (by omega)
    have e' := ey (Kz + Ky) (by omega)
    simp only at e e'
    unfold laws_FnExactSameVec.f
    rw [e, Option.bind_some, if_neg hbig, e', Option.bind_some, if_pos hbig']
  obtain ⟨hl, hs⟩ := hr2 hbig
  obtain ⟨hl', hs'⟩ := hr2' hbig'
  have hm := map_sh hs
  have hm' := map_sh hs'
  have hml : (x.map cvR).length ≤ 1048576 := by rw [List.length_map]; exact hl
  have hml' : (y.map cvR).length ≤ 1048576 := by rw [List.length_map]; exact hl'
  obtain ⟨K0, e0⟩ := toRatS_ev x hs hl
  obtain ⟨L0, f0⟩ := toRatS_ev y hs' hl'
  obtain ⟨K1, e1⟩ := specSameVec_ev (x.map cvR) (y.map cvR) hm hm' hml hml'
  obtain ⟨K2, e2⟩ := implSameVec_ev (x.map cvR) (y.map cvR) hml hml'
  obtain ⟨K3, e3⟩ := eqRatS_ev (x.map cvR) hm hml
  obtain ⟨L3, f3⟩ := eqRatS_ev (y.map cvR) hm' hml'
  generalize sameAns (x.map cvR) (y.map cvR) = q at e1 e2
  obtain ⟨K, hK⟩ : ∃ K, K = Kz + Ky + K0 + K1 + K2 + K3 + L0 + L3 := ⟨_, rfl⟩
  refine ⟨K, ?_⟩
  have ez' := ez K (by omega)
  have ey' := ey K (by omega)
  have e0' := e0 K (by omega)
  have f0' := f0 K (by omega)
  have e1' := e1 K (by omega)
  have e2' := e2 K (by omega)
  have e3' := e3 K (by omega)
  have f3' := f3 K (by omega)
  simp only at ez' ey' e0' f0' e1' e2' e3' f3'
  unfold laws_FnExactSameVec.f
  simp only [ez', ey', e0', f0', e1', e2', e3', f3', Option.bind_some, if_neg hbig, if_neg hbig', bne_self_eq_false, if_true, if_false, Bool.false_eq_true]
end Go.Proofs.Ytegbmillbbcmfaa.Pure
