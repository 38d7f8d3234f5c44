/-
Which lists of integers are naturals; the codes of what is handed in.
-/
import Derived.Test.YtgldcdnlojcchaaDoorPrA
namespace Go.Proofs.YtgldcdnlojcchaaDoor.Pl
open Go.RowKit Go.Proofs.YtgldcdnlojcchaaDoor.Q Go.Proofs.YtgldcdnlojcchaaDoor.Pn Go.Proofs.YtgldcdnlojcchaaDoorW.PrintWords Go.Proofs.YtgldcdnlojcchaaDoorW.PrintLast
set_option linter.unusedVariables false
set_option linter.unusedSimpArgs false

theorem rd_lm {l : List Int} (h : Lm l) (i : Int) : 0 ≤ rd l i ∧ rd l i < 10000 := by
  unfold rd
  rw [List.getD_eq_getElem?_getD]
  cases e : l[i.toNat]? with
  | none => simp
  | some x => simp; exact h x (List.mem_of_getElem? e)
theorem toIntS_ev (l : List Int) (h : l.length ≤ 1048576) : Ev (fun k => laws_toIntS.f k l) l := by
  have loop : ∀ (d i : Nat) (out : List Int), out.length = l.length → i + d = l.length → out.take i = l.take i → Ev (fun k => laws_toIntS.l0 k l out i) l := by
    intro d
    induction d with
    | zero =>
      intro i out ho hi ht
      refine Ev.step (f := fun _ => some out) (fun k => by simp only [laws_toIntS.l0]; rw [if_neg (by omega)]) ?_
      have e : out = l := by
        have h1 : out.take i = out := List.take_of_length_le (by omega)
        have h2 : l.take i = l := List.take_of_length_le (by omega)
        rw [h1, h2] at ht; exact ht
      rw [e]; exact Ev.now _
    | succ d ih =>
      intro i out ho hi ht
      have hs : (out.set i (rd l i)).take (i + 1) = l.take (i + 1) := by
        rw [set_take (by omega), ht, List.take_add_one, rd_nat]
        simp [show i < l.length by omega]
      refine Ev.step (fun k => ?_) (ih (i + 1) (out.set i (rd l i)) (by simp [ho]) (by omega) hs)
      simp only [laws_toIntS.l0]; rw [if_pos (by omega), if_pos (by omega), if_pos (by omega), wsucc (by omega)]
      rfl
  refine Ev.congr (fun k => ?_) (loop l.length 0 (List.replicate l.length 0) (by simp) (by omega) (by simp))
  unfold laws_toIntS.f
  rw [if_pos (by omega), if_pos (by omega)]
  rfl
theorem in_some (a b c : Int) : spec_l01In.f a b c = some (decide (b ≤ a ∧ a ≤ c)) := by
  unfold spec_l01In.f
  by_cases h : b ≤ a
  · rw [if_pos h]; simp [h]
  · rw [if_neg h]; simp [h]
instance (l : List Int) : Decidable (Lm l) := by unfold Lm; infer_instance
theorem natOK_all (l : List Int) : (l.all fun x => !badLimb x) = decide (Lm l) := by
  by_cases h : Lm l
  · rw [decide_eq_true h, List.all_eq_true]
    intro x hx
    have := h x hx
    simp [badLimb]; omega
  · rw [decide_eq_false h, List.all_eq_false]
    by_cases h' : ∃ x, x ∈ l ∧ ¬ (0 ≤ x ∧ x < 10000)
    · obtain ⟨x, hx, hb⟩ := h'
      exact ⟨x, hx, by simp [badLimb]; omega⟩
    · exact absurd (fun x hx => Classical.byContradiction fun hc => h' ⟨x, hx, hc⟩) h
theorem last_getD (l : List Int) (h : l ≠ []) : l.getLast? = some (l[l.length - 1]?.getD 0) := by
  rw [List.getLast?_eq_getElem?]
  have : l.length - 1 < l.length := by have := List.length_pos_iff.2 h; omega
  simp [this]
theorem natOKB_iff (l : List Int) : natOKB l = true ↔ l.length ≤ 40 ∧ Nm l := by
  unfold natOKB Nm
  rw [natOK_all]
  by_cases h : l = []
  · subst h; simp [Lm]
  · rw [last_getD l h]
    have hl : l.length ≠ 0 := fun e => h (List.length_eq_zero_iff.1 e)
    simp [hl]
    constructor
    · rintro ⟨⟨a, b⟩, c⟩; exact ⟨a, c, b⟩
    · rintro ⟨a, c, b⟩; exact ⟨⟨a, b⟩, c⟩
theorem natOKB_nm {l : List Int} (h : natOKB l = true) : Nm l := ((natOKB_iff l).1 h).2
theorem natOKB_len {l : List Int} (h : natOKB l = true) : l.length ≤ 40 := ((natOKB_iff l).1 h).1
theorem specNatOK_ev (l : List Int) (h : l.length ≤ 4000000000000000000) : Ev (fun k => spec_NatOK.f k l) (natOKB l) := by
  by_cases hbig : (l.length : Int) > 4096
  · have e : natOKB l = false := by
      cases hb : natOKB l with
      | false => rfl
      | true => have := natOKB_len hb; omega
    rw [e]
    exact Ev.congr (fun k => by unfold spec_NatOK.f; rw [if_pos hbig]) (Ev.now false)
  · have loop : ∀ (d i : Nat), i + d = l.length → (∀ x ∈ l.take i, 0 ≤ x ∧ x < 10000) → Ev (fun k => spec_NatOK.l0 k l i) (natOKB l) := by
      intro d
      induction d with
      | zero =>
        intro i hi ht
        have hlm : Lm l := by rw [List.take_of_length_le (by omega)] at ht; exact ht
        have e : natOKB l = (decide (l.length ≤ 40) && (decide (l.length = 0) || !decide (l[l.length - 1]?.getD 0 = 0))) := by
          unfold natOKB; rw [natOK_all, decide_eq_true hlm, Bool.and_true]
        by_cases h40 : (l.length : Int) ≤ 40
        · by_cases h0 : (l.length : Int) = 0
          · refine Ev.step (f := fun _ => some true) (fun k => by simp only [spec_NatOK.l0]; rw [if_neg (by omega), if_pos h40, if_pos h0]) ?_
            rw [e]
            have h1 : l.length = 0 := by omega
            simp [h1]; exact Ev.now _
          · refine Ev.step (f := fun _ => some (natOKB l)) (fun k => ?_) (Ev.now _)
            simp only [spec_NatOK.l0]
            have hw : wrap64 ((l.length : Int) - 1) = ((l.length - 1 : Nat) : Int) := by rw [wrap_in (by omega) (by omega)]; omega
            rw [if_neg (by omega), if_pos h40, if_neg h0, hw, if_pos (by omega), if_pos (by omega), e, rd_nat]
            have h1 : l.length ≠ 0 := by omega
            have h2 := rd_lm hlm ((l.length - 1 : Nat) : Int)
            rw [rd_nat] at h2
            congr 1
            simp [h1, show l.length ≤ 40 by omega]
            rw [Bool.eq_iff_iff]; simp; omega
        · refine Ev.step (f := fun _ => some false) (fun k => by simp only [spec_NatOK.l0]; rw [if_neg (by omega), if_neg h40]) ?_
          rw [e, decide_eq_false (by omega), Bool.false_and]; exact Ev.now _
      | succ d ih =>
        intro i hi ht
        have hlt : i < l.length := by omega
        by_cases hx : 0 ≤ rd l i ∧ rd l i ≤ 9999
        · refine Ev.step (fun k => ?_) (ih (i + 1) (by omega) ?_)
          · simp only [spec_NatOK.l0]; rw [if_pos (by omega), if_pos (by omega), in_some]
            simp only [Option.bind_some]; rw [if_pos (by simpa using hx), wsucc (by omega)]
          · intro x hm
            rw [List.take_add_one] at hm
            rcases List.mem_append.1 hm with hm | hm
            · exact ht x hm
            · rw [rd_nat] at hx
              simp [hlt] at hm hx
              subst hm; omega
        · refine Ev.step (f := fun _ => some false) (fun k => ?_) ?_
          · simp only [spec_NatOK.l0]; rw [if_pos (by omega), if_pos (by omega), in_some]
            simp only [Option.bind_some]; rw [if_neg (by simpa using hx)]
          · have e : natOKB l = false := by
              cases hb : natOKB l with
              | false => rfl
              | true => have := rd_lm (natOKB_nm hb).1 i; omega
            rw [e]; exact Ev.now _
    refine Ev.congr (fun k => ?_) (loop l.length 0 (by omega) (by simp))
    unfold spec_NatOK.f
    rw [if_neg hbig]; rfl
def askCode (a b : List Int) : Int := if a.length > 4096 ∨ b.length > 4096 then 2 else if natOKB a = true ∧ natOKB b = true then 0 else 1
theorem l01Ask_ev (a b : List Int) (ha : a.length ≤ 4000000000000000000) (hb : b.length ≤ 4000000000000000000) : Ev (fun k => spec_l01Ask.f k a b) (askCode a b) := by
  obtain ⟨K1, h1⟩ := specNatOK_ev a ha
  obtain ⟨K2, h2⟩ := specNatOK_ev b hb
  refine ⟨K1 + K2 + 1, fun k hk => ?_⟩
  obtain ⟨k, rfl⟩ : ∃ m, k = m + 1 := ⟨k - 1, by omega⟩
  show spec_l01Ask.f (k + 1) a b = _
  have h1' := h1 k (by omega)
  have h2' := h2 k (by omega)
  simp only at h1' h2'
  unfold spec_l01Ask.f askCode
  by_cases c1 : (a.length : Int) > 4096
  · rw [if_pos c1, if_pos (.inl (by omega))]; simp [spec_l01Ask.j0]
  · rw [if_neg c1]
    by_cases c2 : (b.length : Int) > 4096
    · rw [decide_eq_true c2, if_pos (.inr (by omega))]; simp [spec_l01Ask.j0]
    · rw [decide_eq_false c2, if_neg (by omega)]
      simp only [spec_l01Ask.j0, Bool.false_eq_true, if_false, h1', h2', Option.bind_some]
      cases natOKB a <;> cases natOKB b <;> rfl
theorem natsCode_ev1 (a : List Int) : Ev (fun k => impl_natsCode.f k [a]) (askCode a []) := by
  refine ⟨5, fun k hk => ?_⟩
  obtain ⟨k, rfl⟩ : ∃ m, k = m + 5 := ⟨k - 5, by omega⟩
  show impl_natsCode.f (k + 5) [a] = _
  have w1 : wrap64 (0 + 1) = 1 := by rw [wrap_in (by omega) (by omega)]; rfl
  have r0 : rd_L2 [a] 0 = a := rfl
  have hn : natOKB [] = true := rfl
  unfold impl_natsCode.f askCode
  simp only [impl_natsCode.l0, impl_natsCode.l1, impl_NatOK.f, List.length_cons, List.length_nil, r0, w1, Option.bind_some, hn]
  by_cases c1 : (a.length : Int) > 4096
  · simp [c1, show 4096 < a.length by omega]
  · cases natOKB a <;> simp [c1, show ¬ 4096 < a.length by omega]
theorem askCode_nm {a b : List Int} (h : askCode a b = 0) : natOKB a = true ∧ natOKB b = true := by
  unfold askCode at h
  split at h
  · omega
  · split at h
    · assumption
    · omega
theorem ask_small {a b : List Int} (h : askCode a b = 0) : a.length ≤ 40 ∧ b.length ≤ 40 ∧ Nm a ∧ Nm b := by
  obtain ⟨h1, h2⟩ := askCode_nm h
  exact ⟨natOKB_len h1, natOKB_len h2, natOKB_nm h1, natOKB_nm h2⟩
end Go.Proofs.YtgldcdnlojcchaaDoor.Pl
