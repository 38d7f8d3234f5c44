import Derived.Test.YtegbmillbbcmfaaPlA
import Derived.Test.YtegbmillbbcmfaaQxadd
namespace Go.Proofs.Ytegbmillbbcmfaa.Pl
open Go.RowKit Go.Proofs.Ytegbmillbbcmfaa.Q Go.Proofs.Ytegbmillbbcmfaa.Pn Go.Proofs.YtegbmillbbcmfaaW.PrintWords Go.Proofs.YtegbmillbbcmfaaW.PrintLast
set_option linter.unusedVariables false
set_option linter.unusedSimpArgs false

theorem spec_l01Add_l0 (k : Nat) (a b out : List Int) (c i : Int) : spec_l01Add.l0 (k + 1) a b out c i = spec_l01Add.j1 k a b out c i (decide (i < (a.length : Int) ∨ i < (b.length : Int) ∨ c > 0)) := by
  simp only [spec_l01Add.l0]
  by_cases h1 : i < (a.length : Int)
  · rw [if_pos h1, decide_eq_true (.inl h1)]
  · rw [if_neg h1]
    by_cases h2 : i < (b.length : Int)
    · rw [if_pos h2, decide_eq_true (.inr (.inl h2))]
    · rw [if_neg h2]; congr 1; simp [h1, h2]
theorem spec_l01Add_l0t (k : Nat) (a b out : List Int) (c i : Int) (h : i < (a.length : Int) ∨ i < (b.length : Int) ∨ c > 0) : spec_l01Add.l0 (k + 1) a b out c i = spec_l01Add.j1 k a b out c i true := by
  rw [spec_l01Add_l0, decide_eq_true h]
theorem spec_l01Add_l0f (k : Nat) (a b out : List Int) (c i : Int) (h : ¬ (i < (a.length : Int) ∨ i < (b.length : Int) ∨ c > 0)) : spec_l01Add.l0 (k + 1) a b out c i = spec_l01Add.j1 k a b out c i false := by
  rw [spec_l01Add_l0, decide_eq_false h]
theorem spec_l01Add_loop {a b : List Int} (ha : Lm a) (hb : Lm b) (hla : a.length ≤ 1000000000) (hlb : b.length ≤ 1000000000) (d : Nat) :
    ∀ (i : Nat) (c : Int) (out : List Int), (a.length - i) + (b.length - i) + c.toNat ≤ d → 0 ≤ c → c ≤ 1 → out.length + (a.length - i) + (b.length - i) + c.toNat ≤ 4000000000 → i + (a.length - i) + (b.length - i) + c.toNat ≤ 4000000000 →
    Ev (fun k => spec_l01Add.l0 k a b out c i) (out ++ addL (a.drop i) (b.drop i) c) := by
  induction d with
  | zero =>
    intro i c out hd h0 h1 ho hi
    rw [drop_nil (l := a) (i := i) (by omega), drop_nil (l := b) (i := i) (by omega)]
    unfold addL
    rw [if_neg (by omega), List.append_nil]
    refine Ev.step (f := fun k => spec_l01Add.j1 k a b out c i false) (fun k => spec_l01Add_l0f k a b out c i (by omega)) ?_
    refine Ev.step (f := fun _ => some out) (fun k => by simp only [spec_l01Add.j1, Bool.false_eq_true, if_false]) (Ev.now _)
  | succ d ih =>
    intro i c out hd h0 h1 ho hi
    obtain ⟨x, hx, ra⟩ : ∃ x, rd a i = x ∧ 0 ≤ x ∧ x < 10000 := ⟨_, rfl, rd_lm ha i⟩
    obtain ⟨y, hy, rb⟩ : ∃ y, rd b i = y ∧ 0 ≤ y ∧ y < 10000 := ⟨_, rfl, rd_lm hb i⟩
    have hi9 : (i : Int) < 9223372036854775807 := by omega
    by_cases hia : i < a.length
    · refine Ev.step (f := fun k => spec_l01Add.j1 k a b out c i true) (fun k => spec_l01Add_l0t k a b out c i (by omega)) ?_
      by_cases hib : i < b.length
      · rw [drop_cons hia, drop_cons hib, addL, hx, hy]
        have := ih (i + 1) ((x + y + c) / 10000) (out ++ [(x + y + c) % 10000]) (by omega) (by omega) (by omega) (by simp; omega) (by omega)
        rw [List.append_assoc] at this
        refine Ev.step (fun k => ?_) this
        simp only [spec_l01Add.j1, if_true]; rw [if_pos (by omega), if_pos (by omega), if_pos (by omega), if_pos (by omega)]
        rw [hx, hy, wrap_in (x := c + x) (by omega) (by omega), wrap_in (by omega) (by omega), tmod_pos (by omega), tdiv_pos (by omega), wrap_in (by omega) (by omega), wsucc hi9]
        rw [show c + x + y = x + y + c by omega]
      · rw [drop_cons hia, drop_nil (l := b) (i := i) (by omega), addL, hx]
        have := ih (i + 1) ((x + c) / 10000) (out ++ [(x + c) % 10000]) (by omega) (by omega) (by omega) (by simp; omega) (by omega)
        rw [List.append_assoc, drop_nil (l := b) (i := i + 1) (by omega)] at this
        refine Ev.step (fun k => ?_) this
        simp only [spec_l01Add.j1, if_true]; rw [if_pos (by omega), if_pos (by omega), if_neg (by omega), if_pos (by omega)]
        rw [hx, wrap_in (x := c + x) (by omega) (by omega), tmod_pos (by omega), tdiv_pos (by omega), wrap_in (by omega) (by omega), wsucc hi9]
        rw [show c + x = x + c by omega]
    · by_cases hib : i < b.length
      · refine Ev.step (f := fun k => spec_l01Add.j1 k a b out c i true) (fun k => spec_l01Add_l0t k a b out c i (by omega)) ?_
        rw [drop_cons hib, drop_nil (l := a) (i := i) (by omega), addL, hy]
        have := ih (i + 1) ((y + c) / 10000) (out ++ [(y + c) % 10000]) (by omega) (by omega) (by omega) (by simp; omega) (by omega)
        rw [List.append_assoc, drop_nil (l := a) (i := i + 1) (by omega)] at this
        refine Ev.step (fun k => ?_) this
        simp only [spec_l01Add.j1, if_true]; rw [if_neg (by omega), if_pos (by omega), if_pos (by omega), if_pos (by omega)]
        rw [hy, wrap_in (x := c + y) (by omega) (by omega), tmod_pos (by omega), tdiv_pos (by omega), wrap_in (by omega) (by omega), wsucc hi9]
        rw [show c + y = y + c by omega]
      · rw [drop_nil (l := a) (i := i) (by omega), drop_nil (l := b) (i := i) (by omega), addL]
        by_cases hc : c > 0
        · rw [if_pos hc]
          refine Ev.step (f := fun k => spec_l01Add.j1 k a b out c i true) (fun k => spec_l01Add_l0t k a b out c i (by omega)) ?_
          have := ih (i + 1) (c / 10000) (out ++ [c % 10000]) (by omega) (by omega) (by omega) (by simp; omega) (by omega)
          rw [drop_nil (l := a) (i := i + 1) (by omega), drop_nil (l := b) (i := i + 1) (by omega), addL, if_neg (by omega), List.append_nil] at this
          refine Ev.step (fun k => ?_) this
          simp only [spec_l01Add.j1, if_true]; rw [if_neg (by omega), if_neg (by omega), if_pos (by omega)]
          rw [tmod_pos (by omega), tdiv_pos (by omega), wrap_in (by omega) (by omega), wsucc hi9]
        · rw [if_neg hc, List.append_nil]
          refine Ev.step (f := fun k => spec_l01Add.j1 k a b out c i false) (fun k => spec_l01Add_l0f k a b out c i (by omega)) ?_
          refine Ev.step (f := fun _ => some out) (fun k => by simp only [spec_l01Add.j1, Bool.false_eq_true, if_false]) (Ev.now _)
theorem spec_l01Add_ev {a b : List Int} (ha : Nm a) (hb : Nm b) (hla : a.length ≤ 1000000000) (hlb : b.length ≤ 1000000000) :
    Ev (fun k => spec_l01Add.f k a b) (nat (vl a + vl b)) := by
  have := spec_l01Add_loop ha.1 hb.1 hla hlb _ 0 0 [] (Nat.le_refl _) (by omega) (by omega) (by simp; omega) (by omega)
  rw [List.nil_append, List.drop_zero, List.drop_zero, addL_nat ha hb] at this
  exact this

end Go.Proofs.Ytegbmillbbcmfaa.Pl
