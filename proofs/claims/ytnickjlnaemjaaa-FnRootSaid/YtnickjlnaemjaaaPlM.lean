import Derived.Test.YtnickjlnaemjaaaPlB
import Derived.Test.YtnickjlnaemjaaaPlD
import Derived.Test.YtnickjlnaemjaaaPlS
namespace Go.Proofs.Ytnickjlnaemjaaa.Pl
open Go.RowKit Go.Proofs.Ytnickjlnaemjaaa.Q Go.Proofs.Ytnickjlnaemjaaa.Pn Go.Proofs.YtnickjlnaemjaaaW.PrintWords Go.Proofs.YtnickjlnaemjaaaW.PrintLast
set_option linter.unusedVariables false
set_option linter.unusedSimpArgs false

theorem natOK_nat {n : Int} (h : n < 10000 ^ 40) : natOKB (nat n) = true := (natOKB_iff _).2 ⟨nat_len n 40 h, nm_nat n⟩
theorem nm_lt {l : List Int} (h : Nm l) {k : Nat} (hl : l.length ≤ k) : 0 ≤ vl l ∧ vl l < 10000 ^ k := ⟨vl_nonneg h.1, Int.lt_of_lt_of_le (vl_lt h.1) (pow_mono' hl)⟩
theorem ask_nat {a b : List Int} (ha : natOKB a = true) (hb : natOKB b = true) : askCode a b = 0 := by
  have h1 := natOKB_len ha
  have h2 := natOKB_len hb
  unfold askCode; rw [if_neg (by omega), if_pos ⟨ha, hb⟩]
theorem fit_nat {n : Int} (h : n < 10000 ^ 40) : fit (nat n) = (nat n, 0) := by
  have := nat_len n 40 h
  unfold fit; rw [if_neg (by omega)]
theorem addN {a b : Int} (ha : 0 ≤ a ∧ a < 10000 ^ 40) (hb : 0 ≤ b ∧ b < 10000 ^ 40) (h : a + b < 10000 ^ 40) : addAns (nat a) (nat b) = (nat (a + b), 0) := by
  unfold addAns
  rw [if_pos (ask_nat (natOK_nat ha.2) (natOK_nat hb.2)), vl_nat a ha.1, vl_nat b hb.1, fit_nat h]
theorem mulN {a b : Int} (ha : 0 ≤ a ∧ a < 10000 ^ 40) (hb : 0 ≤ b ∧ b < 10000 ^ 40) (h : a * b < 10000 ^ 40) : mulAns (nat a) (nat b) = (nat (a * b), 0) := by
  unfold mulAns
  rw [if_pos (ask_nat (natOK_nat ha.2) (natOK_nat hb.2)), vl_nat a ha.1, vl_nat b hb.1, fit_nat h]
/-- What is drawn, by its number. -/
theorem drawnN {l : List Int} (h : By l) (hl : l.length ≤ 140737488351232) : ∃ n : Int, Ev (fun k => spec_NatDrawn.f k l) (nat n) ∧ 0 ≤ n ∧ n < 10000 ^ 4 := by
  obtain ⟨r, e, hr, hl⟩ := natDrawn_ev h hl
  obtain ⟨h0, h1⟩ := nm_lt hr hl
  exact ⟨vl r, by rw [nat_vl hr]; exact e, h0, h1⟩
theorem nat_len40 {n : Int} (h : n < 10000 ^ 40) : (nat n).length ≤ 40 := nat_len n 40 h

end Go.Proofs.Ytnickjlnaemjaaa.Pl
