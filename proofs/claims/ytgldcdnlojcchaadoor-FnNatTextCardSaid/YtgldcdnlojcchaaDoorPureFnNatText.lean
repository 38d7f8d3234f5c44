/-
Naturals are read back from their digits: the law FnNatText holds. Conditions: those of the given row alone.
-/
import Derived.Test.YtgldcdnlojcchaaDoorPrC
import Derived.Test.YtgldcdnlojcchaaDoorPrS
import Derived.Test.YtgldcdnlojcchaaDoorQxlawsFnNatText
namespace Go.Proofs.YtgldcdnlojcchaaDoor.Pure
open Go.RowKit Go.Proofs.YtgldcdnlojcchaaDoor.Q Go.Proofs.YtgldcdnlojcchaaDoor.Pn Go.Proofs.YtgldcdnlojcchaaDoor.Pl Go.Proofs.YtgldcdnlojcchaaDoorW.PrintWords Go.Proofs.YtgldcdnlojcchaaDoorW.PrintLast
set_option linter.unusedVariables false
set_option linter.unusedSimpArgs false

theorem FnNatText : laws_FnNatText.Pure := by
  intro l h1 h2 h3
  by_cases hbig : (l.length : Int) > 1048576
  · exact ⟨0, by unfold laws_FnNatText.f; rw [if_pos hbig]⟩
  obtain ⟨a, ⟨K0, e0⟩, ha, hl⟩ := natDrawn_ev (by_wf h3) (by omega)
  obtain ⟨M, t1, t2, t3, t4⟩ := text_read ha hl
  have hsz : (tx M).size = M.length := tx_size M
  obtain ⟨K1, e1⟩ := specText_ev a (by omega)
  obtain ⟨K2, e2⟩ := implText_ev a
  obtain ⟨K3, e3⟩ := implRN_ev (tx M) (by omega)
  obtain ⟨K4, e4⟩ := implRN_ev (tx [48] ++ tx M) (by rw [tx_append, tx_size]; simp; omega)
  obtain ⟨K5, e5⟩ := sameInts_ev a a (by omega)
  rw [t1] at e1 e2
  rw [t2] at e3
  rw [t3] at e4
  obtain ⟨K, hK⟩ : ∃ K, K = K0 + K1 + K2 + K3 + K4 + K5 := ⟨_, rfl⟩
  simp only at e0 e1 e2 e3 e4 e5
  refine ⟨K, ?_⟩
  have e4' := e4 K (by omega)
  have hq : 1 + (tx M).size ≤ 9223372036854775807 := by omega
  unfold laws_FnNatText.f
  rw [if_neg hbig, e0 K (by omega), Option.bind_some, e2 K (by omega), Option.bind_some, e1 K (by omega), Option.bind_some, e3 K (by omega), Option.bind_some, if_pos hq]
  rw [show impl_ReadNat.f K ((⟨#[48]⟩ : ByteArray) ++ tx M) = some (([] : List Int), 3) from e4', Option.bind_some, if_pos rfl, if_pos rfl, if_pos rfl, e5 K (by omega), Option.bind_some]
  simp
end Go.Proofs.YtgldcdnlojcchaaDoor.Pure
