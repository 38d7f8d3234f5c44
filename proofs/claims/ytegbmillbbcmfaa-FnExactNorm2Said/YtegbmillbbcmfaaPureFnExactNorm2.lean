/-
The Go program's Norm2 returns what the reference's returns, for all vectors; it leaves its arguments alone, and what it returns is its own: the law FnExactNorm2 holds. Conditions: those of the given row alone.
-/
import Derived.Test.YtegbmillbbcmfaaPvE
import Derived.Test.YtegbmillbbcmfaaQxlawsFnExactNorm2
namespace Go.Proofs.Ytegbmillbbcmfaa.Pure
open Go.RowKit Go.Proofs.Ytegbmillbbcmfaa.Q Go.Proofs.Ytegbmillbbcmfaa.Pn Go.Proofs.Ytegbmillbbcmfaa.Pl Go.Proofs.YtegbmillbbcmfaaW.PrintWords Go.Proofs.YtegbmillbbcmfaaW.PrintLast
set_option linter.unusedVariables false
set_option linter.unusedSimpArgs false

theorem FnExactNorm2 : laws_FnExactNorm2.Pure := by
  intro x ⟨h1, h2⟩
  obtain ⟨r, ⟨Kz, ez⟩, hr, hr2⟩ := szRatS_ev x (fun y hy => ⟨(h2 y hy).2.1.1, (h2 y hy).2.2.1⟩) h1 1048576 (by omega)
  by_cases hbig : r < 0
  · exact ⟨Kz, r, ez Kz (Nat.le_refl _), fun h => absurd hbig h⟩
  obtain ⟨hl, hs⟩ := hr2 hbig
  have hm := map_sh hs
  have hml : (x.map cvR).length ≤ 1048576 := by rw [List.length_map]; exact hl
  obtain ⟨K0, e0⟩ := toRatS_ev x hs hl
  obtain ⟨K1, e1⟩ := specNorm_ev (x.map cvR) hm hml
  obtain ⟨K2, e2⟩ := implNorm_ev (x.map cvR) hml
  obtain ⟨K3, e3⟩ := eqRatS_ev (x.map cvR) hm hml
  obtain ⟨q1, q2⟩ := dotAns_len (x.map cvR) (x.map cvR)
  obtain ⟨n, l1, l2, c, hq⟩ : ∃ n l1 l2 c, dotAns (x.map cvR) (x.map cvR) = (n, l1, l2, c) := ⟨_, _, _, _, rfl⟩
  rw [hq] at e1 e2 q1 q2
  simp only at q1 q2
  obtain ⟨K4, e4⟩ := eqRat_self (n, l1, l2) (by simp only; omega) (by simp only; omega)
  obtain ⟨K5, e5⟩ := markRat_ev n l1 l2 1 (by omega) (by omega) (by omega) (by omega)
  obtain ⟨K6, e6⟩ := heldRat_ev n l1.length l2.length 1 (by omega) (by omega) (by omega) (by omega)
  obtain ⟨K, hK⟩ : ∃ K, K = Kz + K0 + K1 + K2 + K3 + K4 + K5 + K6 := ⟨_, rfl⟩
  exact ⟨K, r, ez K (by omega), fun _ => ⟨n, x.map cvR, l1, l2, _, _, c, _, e0 K (by omega), e1 K (by omega), e2 K (by omega), e4 K (by omega), e3 K (by omega), hml, hm, e5 K (by omega), e6 K (by omega), by omega⟩⟩
end Go.Proofs.Ytegbmillbbcmfaa.Pure
