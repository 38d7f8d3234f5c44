import Derived.Test.YtacdaijalkkogaaPlT
import Derived.Test.YtacdaijalkkogaaQxsub
namespace Go.Proofs.Ytacdaijalkkogaa.Pl
open Go.RowKit Go.Proofs.Ytacdaijalkkogaa.Q Go.Proofs.Ytacdaijalkkogaa.Pn Go.Proofs.YtacdaijalkkogaaW.PrintWords Go.Proofs.YtacdaijalkkogaaW.PrintLast
set_option linter.unusedVariables false
set_option linter.unusedSimpArgs false

theorem spec_l01Sub_loop {a b : List Int} (ha : Lm a) (hb : Lm b) (hla : a.length ≤ 1000000000) (d : Nat) :
  ∀ (i : Nat) (c : Int) (out : List Int), i + d = a.length → 0 ≤ c → c ≤ 1 → out.length = i →
  Ev (fun k => spec_l01Sub.l0 k a b out c i) ((out ++ subL (a.drop i) (b.drop i) c).take (tlen (out ++ subL (a.drop i) (b.drop i) c) (out ++ subL (a.drop i) (b.drop i) c).length)) := by
 induction d with
 | zero =>
  intro i c out hd h0 h1 ho
  rw [drop_nil (l := a) (by omega), subL, List.append_nil]
  refine Ev.step (f := fun _ => some (out.take (tlen out out.length))) (fun k => ?_) (Ev.now _)
  simp only [spec_l01Sub.l0]; rw [if_neg (by omega), specTrim _ (by omega)]; rfl
 | succ d ih =>
  intro i c out hd h0 h1 ho
  obtain ⟨x, hx, ra⟩ : ∃ x, rd a i = x ∧ 0 ≤ x ∧ x < 10000 := ⟨_, rfl, rd_lm ha i⟩
  obtain ⟨y, hy, rb⟩ : ∃ y, rd b i = y ∧ 0 ≤ y ∧ y < 10000 := ⟨_, rfl, rd_lm hb i⟩
  have hi9 : (i : Int) < 9223372036854775807 := by omega
  by_cases hib : i < b.length
  ·
   rw [drop_cons (l := a) (by omega), drop_cons hib, subL, hx, hy]
   have := ih (i + 1) (if x - c - y < 0 then 1 else 0) (out ++ [(x - c - y) % 10000]) (by omega) (by split <;> omega) (by split <;> omega) (by simp [ho])
   rw [List.append_assoc] at this
   refine Ev.step (fun k => ?_) this
   simp only [spec_l01Sub.l0]; rw [if_pos (by omega), if_pos (by omega), if_pos (by omega), bit_some]
   simp only [Option.bind_some]
   rw [if_pos (by omega), hx, hy, wrap_in (x := x - c) (by omega) (by omega), wrap_in (x := x - c - y) (by omega) (by omega), wsucc hi9]
   by_cases hn : x - c - y < 0
   ·
    rw [decide_eq_true hn, if_pos hn]
    simp only [if_true]
    rw [wrap_in (x := 1 * 10000) (by omega) (by omega), wrap_in (by omega) (by omega), show x - c - y + 1 * 10000 = (x - c - y) % 10000 by omega]
   ·
    rw [decide_eq_false hn, if_neg hn]
    simp only [Bool.false_eq_true, if_false]
    rw [wrap_in (x := 0 * 10000) (by omega) (by omega), wrap_in (by omega) (by omega), show x - c - y + 0 * 10000 = (x - c - y) % 10000 by omega]
  ·
   rw [drop_cons (l := a) (by omega), drop_nil (l := b) (i := i) (by omega), subL, hx]
   have := ih (i + 1) (if x - c < 0 then 1 else 0) (out ++ [(x - c) % 10000]) (by omega) (by split <;> omega) (by split <;> omega) (by simp [ho])
   rw [List.append_assoc, drop_nil (l := b) (i := i + 1) (by omega)] at this
   refine Ev.step (fun k => ?_) this
   simp only [spec_l01Sub.l0]; rw [if_pos (by omega), if_pos (by omega), if_neg (by omega), bit_some]
   simp only [Option.bind_some]
   rw [if_pos (by omega), hx, wrap_in (x := x - c) (by omega) (by omega), wsucc hi9]
   by_cases hn : x - c < 0
   ·
    rw [decide_eq_true hn, if_pos hn]
    simp only [if_true]
    rw [wrap_in (x := 1 * 10000) (by omega) (by omega), wrap_in (by omega) (by omega), show x - c + 1 * 10000 = (x - c) % 10000 by omega]
   ·
    rw [decide_eq_false hn, if_neg hn]
    simp only [Bool.false_eq_true, if_false]
    rw [wrap_in (x := 0 * 10000) (by omega) (by omega), wrap_in (by omega) (by omega), show x - c + 0 * 10000 = (x - c) % 10000 by omega]
theorem spec_l01Sub_ev {a b : List Int} (ha : Lm a) (hb : Lm b) (hla : a.length ≤ 1000000000) (h : vl b ≤ vl a) : Ev (fun k => spec_l01Sub.f k a b) (nat (vl a - vl b)) := by
 have := spec_l01Sub_loop ha hb hla a.length 0 0 [] (by omega) (by omega) (by omega) rfl
 rw [List.nil_append, List.drop_zero, List.drop_zero, take_tlen (subL_lm _ _ _), subL_vl ha hb (by omega) (by omega) (by omega), Int.sub_zero] at this
 exact this
theorem impl_natSub_loop {a b : List Int} (ha : Lm a) (hb : Lm b) (hla : a.length ≤ 1000000000) (d : Nat) :
  ∀ (i : Nat) (c : Int) (out : List Int), i + d = a.length → 0 ≤ c → c ≤ 1 → out.length = i →
  Ev (fun k => impl_natSub.l0 k b (out ++ a.drop i) c a.length i) ((out ++ subL (a.drop i) (b.drop i) c).take (tlen (out ++ subL (a.drop i) (b.drop i) c) (out ++ subL (a.drop i) (b.drop i) c).length)) := by
 induction d with
 | zero =>
  intro i c out hd h0 h1 ho
  rw [drop_nil (l := a) (by omega), subL, List.append_nil]
  obtain ⟨K, hK⟩ := trimmed_ev out (by omega)
  refine ⟨K + 1, fun k hk => ?_⟩
  obtain ⟨k, rfl⟩ : ∃ m, k = m + 1 := ⟨k - 1, by omega⟩
  have hK := hK k (by omega)
  simp only at hK ⊢
  simp only [impl_natSub.l0]; rw [if_neg (by omega), hK]; rfl
 | succ d ih =>
  intro i c out hd h0 h1 ho
  obtain ⟨x, hx, ra⟩ : ∃ x, rd a i = x ∧ 0 ≤ x ∧ x < 10000 := ⟨_, rfl, rd_lm ha i⟩
  obtain ⟨y, hy, rb⟩ : ∃ y, rd b i = y ∧ 0 ≤ y ∧ y < 10000 := ⟨_, rfl, rd_lm hb i⟩
  have hi9 : (i : Int) < 9223372036854775807 := by omega
  have ea := drop_cons (l := a) (i := i) (by omega)
  rw [hx] at ea
  have hlen : (out ++ x :: a.drop (i + 1)).length = a.length := by simp; omega
  by_cases hib : i < b.length
  ·
   rw [ea, drop_cons hib, subL, hy]
   have := ih (i + 1) (if x - c - y < 0 then 1 else 0) (out ++ [(x - c - y) % 10000]) (by omega) (by split <;> omega) (by split <;> omega) (by simp [ho])
   rw [List.append_assoc, List.append_assoc] at this
   refine Ev.step (fun k => ?_) this
   simp only [impl_natSub.l0]; rw [if_pos (by omega), if_pos (by omega), if_pos (by omega), if_pos (by omega)]
   rw [rd_mid ho, hy, wrap_in (x := x - c) (by omega) (by omega), wrap_in (x := x - c - y) (by omega) (by omega), wsucc hi9, Int.toNat_natCast, set_mid ho, set_mid ho]
   by_cases hn : x - c - y < 0
   ·
    rw [if_pos hn, if_pos hn, wrap_in (by omega) (by omega), show x - c - y + 10000 = (x - c - y) % 10000 by omega]; rfl
   ·
    rw [if_neg hn, if_neg hn, show x - c - y = (x - c - y) % 10000 by omega]
    rw [show (x - c - y) % 10000 % 10000 = (x - c - y) % 10000 by omega]; rfl
  ·
   rw [ea, drop_nil (l := b) (i := i) (by omega), subL]
   have := ih (i + 1) (if x - c < 0 then 1 else 0) (out ++ [(x - c) % 10000]) (by omega) (by split <;> omega) (by split <;> omega) (by simp [ho])
   rw [List.append_assoc, List.append_assoc, drop_nil (l := b) (i := i + 1) (by omega)] at this
   refine Ev.step (fun k => ?_) this
   simp only [impl_natSub.l0]; rw [if_pos (by omega), if_pos (by omega), if_pos (by omega), if_neg (by omega)]
   rw [rd_mid ho, wrap_in (x := x - c) (by omega) (by omega), wsucc hi9, Int.toNat_natCast, set_mid ho, set_mid ho]
   by_cases hn : x - c < 0
   ·
    rw [if_pos hn, if_pos hn, wrap_in (by omega) (by omega), show x - c + 10000 = (x - c) % 10000 by omega]; rfl
   ·
    rw [if_neg hn, if_neg hn, show x - c = (x - c) % 10000 by omega]
    rw [show (x - c) % 10000 % 10000 = (x - c) % 10000 by omega]; rfl
theorem impl_natSub_ev {a b : List Int} (ha : Lm a) (hb : Lm b) (hla : a.length ≤ 1000000000) (h : vl b ≤ vl a) : Ev (fun k => impl_natSub.f k a b) (nat (vl a - vl b)) := by
 have := impl_natSub_loop ha hb hla a.length 0 0 [] (by omega) (by omega) (by omega) rfl
 rw [List.nil_append, List.nil_append, List.drop_zero, List.drop_zero, take_tlen (subL_lm _ _ _), subL_vl ha hb (by omega) (by omega) (by omega), Int.sub_zero] at this
 refine Ev.congr (fun k => ?_) this
 unfold impl_natSub.f slices_Clone_int_int.f
 rw [if_pos (by omega)]; rfl
end Go.Proofs.Ytacdaijalkkogaa.Pl
