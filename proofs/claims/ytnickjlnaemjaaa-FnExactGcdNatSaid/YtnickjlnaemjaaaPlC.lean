import Derived.Test.YtnickjlnaemjaaaPlT
import Derived.Test.YtnickjlnaemjaaaQxsub
import Derived.Test.YtnickjlnaemjaaaQxSubNat
/-! Differences. -/
namespace Go.Proofs.Ytnickjlnaemjaaa.Pl
open Go.RowKit Go.Proofs.Ytnickjlnaemjaaa.Q Go.Proofs.Ytnickjlnaemjaaa.Pn Go.Proofs.YtnickjlnaemjaaaW.PrintWords Go.Proofs.YtnickjlnaemjaaaW.PrintLast
set_option linter.unusedVariables false
set_option linter.unusedSimpArgs false

/-! ### taking away -/
theorem spec_l01Sub_loop {a b : List Int} (ha : Lm a) (hb : Lm b) (hla : a.length ≤ 1000000000) (d : Nat) :
    ∀ (i : Nat) (c : Int) (out : List Int), i + d = a.length → 0 ≤ c → c ≤ 1 → out.length = i →
    Ev (fun k => spec_l01Sub.l0 k a b out c i) ((out ++ subL (a.drop i) (b.drop i) c).take (tlen (out ++ subL (a.drop i) (b.drop i) c) (out ++ subL (a.drop i) (b.drop i) c).length)) := by
  induction d with
  | zero =>
    intro i c out hd h0 h1 ho
    rw [drop_nil (l := a) (by omega), subL, List.append_nil]
    refine Ev.step (f := fun _ => some (out.take (tlen out out.length))) (fun k => ?_) (Ev.now _)
    simp only [spec_l01Sub.l0]; rw [if_neg (by omega), specTrim _ (by omega)]; rfl
  | succ d ih =>
    intro i c out hd h0 h1 ho
    obtain ⟨x, hx, ra⟩ : ∃ x, rd a i = x ∧ 0 ≤ x ∧ x < 10000 := ⟨_, rfl, rd_lm ha i⟩
    obtain ⟨y, hy, rb⟩ : ∃ y, rd b i = y ∧ 0 ≤ y ∧ y < 10000 := ⟨_, rfl, rd_lm hb i⟩
    have hi9 : (i : Int) < 9223372036854775807 := by omega
    by_cases hib : i < b.length
    · rw [drop_cons (l := a) (by omega), drop_cons hib, subL, hx, hy]
      have := ih (i + 1) (if x - c - y < 0 then 1 else 0) (out ++ [(x - c - y) % 10000]) (by omega) (by split <;> omega) (by split <;> omega) (by simp [ho])
      rw [List.append_assoc] at this
      refine Ev.step (fun k => ?_) this
      simp only [spec_l01Sub.l0]; rw [if_pos (by omega), if_pos (by omega), if_pos (by omega), bit_some]
      simp only [Option.bind_some]
      rw [if_pos (by omega), hx, hy, wrap_in (x := x - c) (by omega) (by omega), wrap_in (x := x - c - y) (by omega) (by omega), wsucc hi9]
      by_cases hn : x - c - y < 0
      · rw [decide_eq_true hn, if_pos hn]
        simp only [if_true]
        rw [wrap_in (x := 1 * 10000) (by omega) (by omega), wrap_in (by omega) (by omega), show x - c - y + 1 * 10000 = (x - c - y) % 10000 by omega]
      · rw [decide_eq_false hn, if_neg hn]
        simp only [Bool.false_eq_true, if_false]
        rw [wrap_in (x := 0 * 10000) (by omega) (by omega), wrap_in (by omega) (by omega), show x - c - y + 0 * 10000 = (x - c - y) % 10000 by omega]
    · rw [drop_cons (l := a) (by omega), drop_nil (l := b) (i := i) (by omega), subL, hx]
      have := ih (i + 1) (if x - c < 0 then 1 else 0) (out ++ [(x - c) % 10000]) (by omega) (by split <;> omega) (by split <;> omega) (by simp [ho])
      rw [List.append_assoc, drop_nil (l := b) (i := i + 1) (by omega)] at this
      refine Ev.step (fun k => ?_) this
      simp only [spec_l01Sub.l0]; rw [if_pos (by omega), if_pos (by omega), if_neg (by omega), bit_some]
      simp only [Option.bind_some]
      rw [if_pos (by omega), hx, wrap_in (x := x - c) (by omega) (by omega), wsucc hi9]
      by_cases hn : x - c < 0
      · rw [decide_eq_true hn, if_pos hn]
        simp only [if_true]
        rw [wrap_in (x := 1 * 10000) (by omega) (by omega), wrap_in (by omega) (by omega), show x - c + 1 * 10000 = (x - c) % 10000 by omega]
      · rw [decide_eq_false hn, if_neg hn]
        simp only [Bool.false_eq_true, if_false]
        rw [wrap_in (x := 0 * 10000) (by omega) (by omega), wrap_in (by omega) (by omega), show x - c + 0 * 10000 = (x - c) % 10000 by omega]
theorem spec_l01Sub_ev {a b : List Int} (ha : Lm a) (hb : Lm b) (hla : a.length ≤ 1000000000) (h : vl b ≤ vl a) : Ev (fun k => spec_l01Sub.f k a b) (nat (vl a - vl b)) := by
  have := spec_l01Sub_loop ha hb hla a.length 0 0 [] (by omega) (by omega) (by omega) rfl
  rw [List.nil_append, List.drop_zero, List.drop_zero, take_tlen (subL_lm _ _ _), subL_vl ha hb (by omega) (by omega) (by omega), Int.sub_zero] at this
  exact this
theorem impl_natSub_loop {a b : List Int} (ha : Lm a) (hb : Lm b) (hla : a.length ≤ 1000000000) (d : Nat) :
    ∀ (i : Nat) (c : Int) (out : List Int), i + d = a.length → 0 ≤ c → c ≤ 1 → out.length = i →
    Ev (fun k => impl_natSub.l0 k b (out ++ a.drop i) c a.length i) ((out ++ subL (a.drop i) (b.drop i) c).take (tlen (out ++ subL (a.drop i) (b.drop i) c) (out ++ subL (a.drop i) (b.drop i) c).length)) := by
  induction d with
  | zero =>
    intro i c out hd h0 h1 ho
    rw [drop_nil (l := a) (by omega), subL, List.append_nil]
    obtain ⟨K, hK⟩ := trimmed_ev out (by omega)
    refine ⟨K + 1, fun k hk => ?_⟩
    obtain ⟨k, rfl⟩ : ∃ m, k = m + 1 := ⟨k - 1, by omega⟩
    have hK := hK k (by omega)
    simp only at hK ⊢
    simp only [impl_natSub.l0]; rw [if_neg (by omega), hK]; rfl
  | succ d ih =>
    intro i c out hd h0 h1 ho
    obtain ⟨x, hx, ra⟩ : ∃ x, rd a i = x ∧ 0 ≤ x ∧ x < 10000 := ⟨_, rfl, rd_lm ha i⟩
    obtain ⟨y, hy, rb⟩ : ∃ y, rd b i = y ∧ 0 ≤ y ∧ y < 10000 := ⟨_, rfl, rd_lm hb i⟩
    have hi9 : (i : Int) < 9223372036854775807 := by omega
    have ea := drop_cons (l := a) (i := i) (by omega)
    rw [hx] at ea
    have hlen : (out ++ x :: a.drop (i + 1)).length = a.length := by simp; omega
    by_cases hib : i < b.length
    · rw [ea, drop_cons hib, subL, hy]
      have := ih (i + 1) (if x - c - y < 0 then 1 else 0) (out ++ [(x - c - y) % 10000]) (by omega) (by split <;> omega) (by split <;> omega) (by simp [ho])
      rw [List.append_assoc, List.append_assoc] at this
      refine Ev.step (fun k => ?_) this
      simp only [impl_natSub.l0]; rw [if_pos (by omega), if_pos (by omega), if_pos (by omega), if_pos (by omega)]
      rw [rd_mid ho, hy, wrap_in (x := x - c) (by omega) (by omega), wrap_in (x := x - c - y) (by omega) (by omega), wsucc hi9, Int.toNat_natCast, set_mid ho, set_mid ho]
      by_cases hn : x - c - y < 0
      · rw [if_pos hn, if_pos hn, wrap_in (by omega) (by omega), show x - c - y + 10000 = (x - c - y) % 10000 by omega]; rfl
      · rw [if_neg hn, if_neg hn, show x - c - y = (x - c - y) % 10000 by omega]
        rw [show (x - c - y) % 10000 % 10000 = (x - c - y) % 10000 by omega]; rfl
    · rw [ea, drop_nil (l := b) (i := i) (by omega), subL]
      have := ih (i + 1) (if x - c < 0 then 1 else 0) (out ++ [(x - c) % 10000]) (by omega) (by split <;> omega) (by split <;> omega) (by simp [ho])
      rw [List.append_assoc, List.append_assoc, drop_nil (l := b) (i := i + 1) (by omega)] at this
      refine Ev.step (fun k => ?_) this
      simp only [impl_natSub.l0]; rw [if_pos (by omega), if_pos (by omega), if_pos (by omega), if_neg (by omega)]
      rw [rd_mid ho, wrap_in (x := x - c) (by omega) (by omega), wsucc hi9, Int.toNat_natCast, set_mid ho, set_mid ho]
      by_cases hn : x - c < 0
      · rw [if_pos hn, if_pos hn, wrap_in (by omega) (by omega), show x - c + 10000 = (x - c) % 10000 by omega]; rfl
      · rw [if_neg hn, if_neg hn, show x - c = (x - c) % 10000 by omega]
        rw [show (x - c) % 10000 % 10000 = (x - c) % 10000 by omega]; rfl
theorem impl_natSub_ev {a b : List Int} (ha : Lm a) (hb : Lm b) (hla : a.length ≤ 1000000000) (h : vl b ≤ vl a) : Ev (fun k => impl_natSub.f k a b) (nat (vl a - vl b)) := by
  have := impl_natSub_loop ha hb hla a.length 0 0 [] (by omega) (by omega) (by omega) rfl
  rw [List.nil_append, List.nil_append, List.drop_zero, List.drop_zero, take_tlen (subL_lm _ _ _), subL_vl ha hb (by omega) (by omega) (by omega), Int.sub_zero] at this
  refine Ev.congr (fun k => ?_) this
  unfold impl_natSub.f slices_Clone_int_int.f
  rw [if_pos (by omega)]; rfl
/-- What SubNat answers. -/
def subAns (a b : List Int) : List Int × Int := if askCode a b = 0 then (if vl a < vl b then ([], 11) else (nat (vl a - vl b), 0)) else ([], askCode a b)
theorem specSub_ev (a b : List Int) (ha : a.length ≤ 1048576) (hb : b.length ≤ 1048576) : Ev (fun k => spec_SubNat.f k a b) (subAns a b) := by
  obtain ⟨K1, h1⟩ := l01Ask_ev a b (by omega) (by omega)
  obtain ⟨K3, h3⟩ := l01Cmp_ev a b (by omega)
  by_cases hc : askCode a b = 0
  · obtain ⟨la, lb, na, nb⟩ := ask_small hc
    obtain ⟨K2, h2⟩ : ∃ K, ∀ k, K ≤ k → ¬ vl a < vl b → spec_l01Sub.f k a b = some (nat (vl a - vl b)) := by
      by_cases hv : vl a < vl b
      · exact ⟨0, fun _ _ h => absurd hv h⟩
      · obtain ⟨K, h⟩ := spec_l01Sub_ev na.1 nb.1 (by omega) (by omega)
        exact ⟨K, fun k hk _ => h k hk⟩
    refine ⟨K1 + K2 + K3 + 1, fun k hk => ?_⟩
    obtain ⟨k, rfl⟩ : ∃ m, k = m + 1 := ⟨k - 1, by omega⟩
    have h1' := h1 k (by omega)
    have h2' := h2 k (by omega)
    have h3' := h3 k (by omega)
    simp only at h1' h3'
    show spec_SubNat.f (k + 1) a b = _
    unfold spec_SubNat.f subAns
    rw [if_neg (by omega), decide_eq_false (by omega), if_pos hc]
    simp only [spec_SubNat.j0, Bool.false_eq_true, if_false, h1', h3', Option.bind_some, hc, if_true]
    by_cases hv : vl a < vl b
    · rw [if_pos hv, if_pos (by rw [ncmp_vl na nb]; exact (cmpI_neg _ _).2 hv)]
    · rw [if_neg hv, if_neg (by rw [ncmp_vl na nb]; exact fun e => hv ((cmpI_neg _ _).1 e)), h2' hv]; rfl
  · refine ⟨K1 + 1, fun k hk => ?_⟩
    obtain ⟨k, rfl⟩ : ∃ m, k = m + 1 := ⟨k - 1, by omega⟩
    have h1' := h1 k (by omega)
    simp only at h1'
    show spec_SubNat.f (k + 1) a b = _
    unfold spec_SubNat.f subAns
    rw [if_neg hc]
    by_cases c1 : (a.length : Int) > 4096
    · have e : askCode a b = 2 := by unfold askCode; rw [if_pos (.inl (by omega))]
      rw [if_pos c1, e]; simp only [spec_SubNat.j0, if_true]
    · rw [if_neg c1]
      by_cases c2 : (b.length : Int) > 4096
      · have e : askCode a b = 2 := by unfold askCode; rw [if_pos (.inr (by omega))]
        rw [decide_eq_true c2, e]; simp only [spec_SubNat.j0, if_true]
      · rw [decide_eq_false c2]
        simp only [spec_SubNat.j0, Bool.false_eq_true, if_false, h1', Option.bind_some, hc]
theorem implSub_ev (a b : List Int) : Ev (fun k => impl_SubNat.f k a b) (subAns a b) := by
  obtain ⟨K1, h1⟩ := natsCode_ev2 a b
  by_cases hc : askCode a b = 0
  · obtain ⟨la, lb, na, nb⟩ := ask_small hc
    obtain ⟨K2, h2⟩ : ∃ K, ∀ k, K ≤ k → ¬ vl a < vl b → impl_natSub.f k a b = some (nat (vl a - vl b)) := by
      by_cases hv : vl a < vl b
      · exact ⟨0, fun _ _ h => absurd hv h⟩
      · obtain ⟨K, h⟩ := impl_natSub_ev na.1 nb.1 (by omega) (by omega)
        exact ⟨K, fun k hk _ => h k hk⟩
    refine ⟨K1 + K2, fun k hk => ?_⟩
    have h1' := h1 k (by omega)
    have h2' := h2 k (by omega)
    simp only at h1'
    show impl_SubNat.f k a b = _
    unfold impl_SubNat.f subAns
    simp only [h1', Option.bind_some, hc, if_true, impl_natCmp.f]
    by_cases hv : vl a < vl b
    · rw [if_pos hv, if_pos (by rw [ncmp_vl na nb]; exact (cmpI_neg _ _).2 hv)]
    · rw [if_neg hv, if_neg (by rw [ncmp_vl na nb]; exact fun e => hv ((cmpI_neg _ _).1 e)), h2' hv]; rfl
  · refine ⟨K1, fun k hk => ?_⟩
    have h1' := h1 k (by omega)
    simp only at h1'
    show impl_SubNat.f k a b = _
    unfold impl_SubNat.f subAns
    simp only [h1', Option.bind_some, hc, if_false]
theorem subAns_len (a b : List Int) : (subAns a b).1.length ≤ 40 := by
  unfold subAns
  split
  · rename_i hc
    obtain ⟨la, lb, na, nb⟩ := ask_small hc
    split
    · simp
    · show (nat (vl a - vl b)).length ≤ 40
      refine nat_len _ _ ?_
      have h1 := vl_lt na.1
      have h2 := vl_nonneg nb.1
      have h3 := pow_mono' la
      omega
  · simp

end Go.Proofs.Ytnickjlnaemjaaa.Pl
