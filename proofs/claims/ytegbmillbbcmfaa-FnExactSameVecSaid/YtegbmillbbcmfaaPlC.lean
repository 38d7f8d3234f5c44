import Derived.Test.YtegbmillbbcmfaaPlT
import Derived.Test.YtegbmillbbcmfaaQxsub
namespace Go.Proofs.Ytegbmillbbcmfaa.Pl
open Go.RowKit Go.Proofs.Ytegbmillbbcmfaa.Q Go.Proofs.Ytegbmillbbcmfaa.Pn Go.Proofs.YtegbmillbbcmfaaW.PrintWords Go.Proofs.YtegbmillbbcmfaaW.PrintLast
set_option linter.unusedVariables false
set_option linter.unusedSimpArgs false

theorem spec_l01Sub_loop {a b : List Int} (ha : Lm a) (hb : Lm b) (hla : a.length ≤ 1000000000) (d : Nat) :
    ∀ (i : Nat) (c : Int) (out : List Int), i + d = a.length → 0 ≤ c → c ≤ 1 → out.length = i →
    Ev (fun k => spec_l01Sub.l0 k a b out c i) ((out ++ subL (a.drop i) (b.drop i) c).take (tlen (out ++ subL (a.drop i) (b.drop i) c) (out ++ subL (a.drop i) (b.drop i) c).length)) := by
  induction d with
  | zero =>
    intro i c out hd h0 h1 ho
    rw [drop_nil (l := a) (by omega), subL, List.append_nil]
    refine Ev.step (f := fun _ => some (out.take (tlen out out.length))) (fun k => ?_) (Ev.now _)
    simp only [spec_l01Sub.l0]; rw [if_neg (by omega), specTrim _ (by omega)]; rfl
  | succ d ih =>
    intro i c out hd h0 h1 ho
    obtain ⟨x, hx, ra⟩ : ∃ x, rd a i = x ∧ 0 ≤ x ∧ x < 10000 := ⟨_, rfl, rd_lm ha i⟩
    obtain ⟨y, hy, rb⟩ : ∃ y, rd b i = y ∧ 0 ≤ y ∧ y < 10000 := ⟨_, rfl, rd_lm hb i⟩
    have hi9 : (i : Int) < 9223372036854775807 := by omega
    by_cases hib : i < b.length
    · rw [drop_cons (l := a) (by omega), drop_cons hib, subL, hx, hy]
      have := ih (i + 1) (if x - c - y < 0 then 1 else 0) (out ++ [(x - c - y) % 10000]) (by omega) (by split <;> omega) (by split <;> omega) (by simp [ho])
      rw [List.append_assoc] at this
      refine Ev.step (fun k => ?_) this
      simp only [spec_l01Sub.l0]; rw [if_pos (by omega), if_pos (by omega), if_pos (by omega), bit_some]
      simp only [Option.bind_some]
      rw [if_pos (by omega), hx, hy, wrap_in (x := x - c) (by omega) (by omega), wrap_in (x := x - c - y) (by omega) (by omega), wsucc hi9]
      by_cases hn : x - c - y < 0
      · rw [decide_eq_true hn, if_pos hn]
        simp only [if_true]
        rw [wrap_in (x := 1 * 10000) (by omega) (by omega), wrap_in (by omega) (by omega), show x - c - y + 1 * 10000 = (x - c - y) % 10000 by omega]
      · rw [decide_eq_false hn, if_neg hn]
        simp only [Bool.false_eq_true, if_false]
        rw [wrap_in (x := 0 * 10000) (by omega) (by omega), wrap_in (by omega) (by omega), show x - c - y + 0 * 10000 = (x - c - y) % 10000 by omega]
    · rw [drop_cons (l := a) (by omega), drop_nil (l := b) (i := i) (by omega), subL, hx]
      have := ih (i + 1) (if x - c < 0 then 1 else 0) (out ++ [(x - c) % 10000]) (by omega) (by split <;> omega) (by split <;> omega) (by simp [ho])
      rw [List.append_assoc, drop_nil (l := b) (i := i + 1) (by omega)] at this
      refine Ev.step (fun k => ?_) this
      simp only [spec_l01Sub.l0]; rw [if_pos (by omega), if_pos (by omega), if_neg (by omega), bit_some]
      simp only [Option.bind_some]
      rw [if_pos (by omega), hx, wrap_in (x := x - c) (by omega) (by omega), wsucc hi9]
      by_cases hn : x - c < 0
      · rw [decide_eq_true hn, if_pos hn]
        simp only [if_true]
        rw [wrap_in (x := 1 * 10000) (by omega) (by omega), wrap_in (by omega) (by omega), show x - c + 1 * 10000 = (x - c) % 10000 by omega]
      · rw [decide_eq_false hn, if_neg hn]
        simp only [Bool.false_eq_true, if_false]
        rw [wrap_in (x := 0 * 10000) (by omega) (by omega), wrap_in (by omega) (by omega), show x - c + 0 * 10000 = (x - c) % 10000 by omega]
theorem spec_l01Sub_ev {a b : List Int} (ha : Lm a) (hb : Lm b) (hla : a.length ≤ 1000000000) (h : vl b ≤ vl a) : Ev (fun k => spec_l01Sub.f k a b) (nat (vl a - vl b)) := by
  have := spec_l01Sub_loop ha hb hla a.length 0 0 [] (by omega) (by omega) (by omega) rfl
  rw [List.nil_append, List.drop_zero, List.drop_zero, take_tlen (subL_lm _ _ _), subL_vl ha hb (by omega) (by omega) (by omega), Int.sub_zero] at this
  exact this
end Go.Proofs.Ytegbmillbbcmfaa.Pl
