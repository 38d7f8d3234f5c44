import Derived.Test.YtegbmillbbcmfaaPnA
import Derived.Test.YtegbmillbbcmfaaQxbase
import Derived.Test.YtegbmillbbcmfaaQxmark
import Derived.Test.YtegbmillbbcmfaaQxcmp
namespace Go.Proofs.Ytegbmillbbcmfaa.Pl
open Go.RowKit Go.Proofs.Ytegbmillbbcmfaa.Q Go.Proofs.Ytegbmillbbcmfaa.Pn Go.Proofs.YtegbmillbbcmfaaW.PrintWords Go.Proofs.YtegbmillbbcmfaaW.PrintLast
set_option linter.unusedVariables false
set_option linter.unusedSimpArgs false

theorem wrap_in {x : Int} (h0 : -9223372036854775808 ≤ x) (h1 : x ≤ 9223372036854775807) : wrap64 x = x := by
  unfold wrap64; omega
theorem rd_nat (l : List Int) (i : Nat) : rd l (i : Int) = l[i]?.getD 0 := by simp [rd, List.getD_eq_getElem?_getD]
theorem drop_cons {l : List Int} {i : Nat} (h : i < l.length) : l.drop i = rd l (i : Int) :: l.drop (i + 1) := by
  rw [rd_nat, List.drop_eq_getElem_cons h]; simp [h]
theorem rd_lm {l : List Int} (h : Lm l) (i : Int) : 0 ≤ rd l i ∧ rd l i < 10000 := by
  unfold rd
  rw [List.getD_eq_getElem?_getD]
  cases e : l[i.toNat]? with
  | none => simp
  | some x => simp; exact h x (List.mem_of_getElem? e)
theorem tmod_pos {x : Int} (h : 0 ≤ x) : Int.tmod x 10000 = x % 10000 := Int.tmod_eq_emod_of_nonneg h
theorem tdiv_pos {x : Int} (h : 0 ≤ x) : Int.tdiv x 10000 = x / 10000 := Int.tdiv_eq_ediv_of_nonneg h
theorem wsucc {i : Nat} (h : (i : Int) < 9223372036854775807) : wrap64 ((i : Int) + 1) = ((i + 1 : Nat) : Int) := by rw [wrap_in (by omega) (by omega)]; omega
theorem set_take {l : List Int} {i : Nat} {x : Int} (h : i < l.length) : (l.set i x).take (i + 1) = l.take i ++ [x] := by
  rw [List.take_add_one, List.take_set_of_le (Nat.le_refl _)]
  simp [h]

theorem toIntS_ev (l : List Int) (h : l.length ≤ 1048576) : Ev (fun k => laws_toIntS.f k l) l := by
  have loop : ∀ (d i : Nat) (out : List Int), out.length = l.length → i + d = l.length → out.take i = l.take i → Ev (fun k => laws_toIntS.l0 k l out i) l := by
    intro d
    induction d with
    | zero =>
      intro i out ho hi ht
      refine Ev.step (f := fun _ => some out) (fun k => by simp only [laws_toIntS.l0]; rw [if_neg (by omega)]) ?_
      have e : out = l := by
        have h1 : out.take i = out := List.take_of_length_le (by omega)
        have h2 : l.take i = l := List.take_of_length_le (by omega)
        rw [h1, h2] at ht; exact ht
      rw [e]; exact Ev.now _
    | succ d ih =>
      intro i out ho hi ht
      have hs : (out.set i (rd l i)).take (i + 1) = l.take (i + 1) := by
        rw [set_take (by omega), ht, List.take_add_one, rd_nat]
        simp [show i < l.length by omega]
      refine Ev.step (fun k => ?_) (ih (i + 1) (out.set i (rd l i)) (by simp [ho]) (by omega) hs)
      simp only [laws_toIntS.l0]; rw [if_pos (by omega), if_pos (by omega), if_pos (by omega), wsucc (by omega)]
      rfl
  refine Ev.congr (fun k => ?_) (loop l.length 0 (List.replicate l.length 0) (by simp) (by omega) (by simp))
  unfold laws_toIntS.f
  rw [if_pos (by omega), if_pos (by omega)]
  rfl

theorem eqIntS_ev (a b : List Int) (h : a.length ≤ 9223372036854775806) : Ev (fun k => laws_eqIntS.f k a b) (decide (a = b)) := by
  by_cases hl : a.length = b.length
  · have loop : ∀ (d i : Nat), i + d = a.length → Ev (fun k => laws_eqIntS.l0 k a b i) (decide (a.drop i = b.drop i)) := by
      intro d
      induction d with
      | zero =>
        intro i hi
        refine Ev.step (f := fun _ => some true) (fun k => by simp only [laws_eqIntS.l0]; rw [if_neg (by omega)]) ?_
        rw [List.drop_eq_nil_of_le (by omega), List.drop_eq_nil_of_le (by omega)]
        exact Ev.now _
      | succ d ih =>
        intro i hi
        rw [drop_cons (l := a) (by omega), drop_cons (l := b) (by omega)]
        by_cases he : rd a i = rd b i
        · refine Ev.step (fun k => ?_) (show Ev (fun k => laws_eqIntS.l0 k a b (i + 1 : Nat)) _ from ?_)
          · simp only [laws_eqIntS.l0]; rw [if_pos (by omega), if_pos (by omega), if_pos (by omega), if_pos he, wsucc (by omega)]
          · have := ih (i + 1) (by omega)
            rw [he]
            simpa using this
        · refine Ev.step (f := fun _ => some false) (fun k => ?_) ?_
          · simp only [laws_eqIntS.l0]; rw [if_pos (by omega), if_pos (by omega), if_pos (by omega), if_neg he]
          · have : decide (rd a i :: a.drop (i + 1) = rd b i :: b.drop (i + 1)) = false := by simp [he]
            rw [this]; exact Ev.now _
    have := loop a.length 0 (by omega)
    rw [List.drop_zero, List.drop_zero] at this
    refine Ev.congr (fun k => ?_) this
    unfold laws_eqIntS.f
    rw [if_pos (by omega)]
    rfl
  · have e : decide (a = b) = false := decide_eq_false (fun e => hl (by rw [e]))
    rw [e]
    refine Ev.congr (fun k => ?_) (Ev.now false)
    unfold laws_eqIntS.f
    rw [if_neg (by omega)]

theorem in_some (a b c : Int) : spec_l01In.f a b c = some (decide (b ≤ a ∧ a ≤ c)) := by
  unfold spec_l01In.f
  by_cases h : b ≤ a
  · rw [if_pos h]; simp [h]
  · rw [if_neg h]; simp [h]
instance (l : List Int) : Decidable (Lm l) := by unfold Lm; infer_instance
theorem natOK_all (l : List Int) : (l.all fun x => !badLimb x) = decide (Lm l) := by
  by_cases h : Lm l
  · rw [decide_eq_true h, List.all_eq_true]
    intro x hx
    have := h x hx
    simp [badLimb]; omega
  · rw [decide_eq_false h, List.all_eq_false]
    by_cases h' : ∃ x, x ∈ l ∧ ¬ (0 ≤ x ∧ x < 10000)
    · obtain ⟨x, hx, hb⟩ := h'
      exact ⟨x, hx, by simp [badLimb]; omega⟩
    · exact absurd (fun x hx => Classical.byContradiction fun hc => h' ⟨x, hx, hc⟩) h
theorem last_getD (l : List Int) (h : l ≠ []) : l.getLast? = some (l[l.length - 1]?.getD 0) := by
  rw [List.getLast?_eq_getElem?]
  have : l.length - 1 < l.length := by have := List.length_pos_iff.2 h; omega
  simp [this]

theorem natOKB_iff (l : List Int) : natOKB l = true ↔ l.length ≤ 40 ∧ Nm l := by
  unfold natOKB Nm
  rw [natOK_all]
  by_cases h : l = []
  · subst h; simp [Lm]
  · rw [last_getD l h]
    have hl : l.length ≠ 0 := fun e => h (List.length_eq_zero_iff.1 e)
    simp [hl]
    constructor
    · rintro ⟨⟨a, b⟩, c⟩; exact ⟨a, c, b⟩
    · rintro ⟨a, c, b⟩; exact ⟨⟨a, b⟩, c⟩
theorem natOKB_nm {l : List Int} (h : natOKB l = true) : Nm l := ((natOKB_iff l).1 h).2
theorem natOKB_len {l : List Int} (h : natOKB l = true) : l.length ≤ 40 := ((natOKB_iff l).1 h).1

theorem specNatOK_ev (l : List Int) (h : l.length ≤ 4000000000000000000) : Ev (fun k => spec_NatOK.f k l) (natOKB l) := by
  by_cases hbig : (l.length : Int) > 4096
  · have e : natOKB l = false := by
      cases hb : natOKB l with
      | false => rfl
      | true => have := natOKB_len hb; omega
    rw [e]
    exact Ev.congr (fun k => by unfold spec_NatOK.f; rw [if_pos hbig]) (Ev.now false)
  · have loop : ∀ (d i : Nat), i + d = l.length → (∀ x ∈ l.take i, 0 ≤ x ∧ x < 10000) → Ev (fun k => spec_NatOK.l0 k l i) (natOKB l) := by
      intro d
      induction d with
      | zero =>
        intro i hi ht
        have hlm : Lm l := by rw [List.take_of_length_le (by omega)] at ht; exact ht
        have e : natOKB l = (decide (l.length ≤ 40) && (decide (l.length = 0) || !decide (l[l.length - 1]?.getD 0 = 0))) := by
          unfold natOKB; rw [natOK_all, decide_eq_true hlm, Bool.and_true]
        by_cases h40 : (l.length : Int) ≤ 40
        · by_cases h0 : (l.length : Int) = 0
          · refine Ev.step (f := fun _ => some true) (fun k => by simp only [spec_NatOK.l0]; rw [if_neg (by omega), if_pos h40, if_pos h0]) ?_
            rw [e]
            have h1 : l.length = 0 := by omega
            simp [h1]; exact Ev.now _
          · refine Ev.step (f := fun _ => some (natOKB l)) (fun k => ?_) (Ev.now _)
            simp only [spec_NatOK.l0]
            have hw : wrap64 ((l.length : Int) - 1) = ((l.length - 1 : Nat) : Int) := by rw [wrap_in (by omega) (by omega)]; omega
            rw [if_neg (by omega), if_pos h40, if_neg h0, hw, if_pos (by omega), if_pos (by omega), e, rd_nat]
            have h1 : l.length ≠ 0 := by omega
            have h2 := rd_lm hlm ((l.length - 1 : Nat) : Int)
            rw [rd_nat] at h2
            congr 1
            simp [h1, show l.length ≤ 40 by omega]
            rw [Bool.eq_iff_iff]; simp; omega
        · refine Ev.step (f := fun _ => some false) (fun k => by simp only [spec_NatOK.l0]; rw [if_neg (by omega), if_neg h40]) ?_
          rw [e, decide_eq_false (by omega), Bool.false_and]; exact Ev.now _
      | succ d ih =>
        intro i hi ht
        have hlt : i < l.length := by omega
        by_cases hx : 0 ≤ rd l i ∧ rd l i ≤ 9999
        · refine Ev.step (fun k => ?_) (ih (i + 1) (by omega) ?_)
          · simp only [spec_NatOK.l0]; rw [if_pos (by omega), if_pos (by omega), in_some]
            simp only [Option.bind_some]; rw [if_pos (by simpa using hx), wsucc (by omega)]
          · intro x hm
            rw [List.take_add_one] at hm
            rcases List.mem_append.1 hm with hm | hm
            · exact ht x hm
            · rw [rd_nat] at hx
              simp [hlt] at hm hx
              subst hm; omega
        · refine Ev.step (f := fun _ => some false) (fun k => ?_) ?_
          · simp only [spec_NatOK.l0]; rw [if_pos (by omega), if_pos (by omega), in_some]
            simp only [Option.bind_some]; rw [if_neg (by simpa using hx)]
          · have e : natOKB l = false := by
              cases hb : natOKB l with
              | false => rfl
              | true => have := rd_lm (natOKB_nm hb).1 i; omega
            rw [e]; exact Ev.now _
    refine Ev.congr (fun k => ?_) (loop l.length 0 (by omega) (by simp))
    unfold spec_NatOK.f
    rw [if_neg hbig]; rfl

theorem w_m1 : wrap64 (wrap64 (2 * 0) - 1) = -1 := by rw [wrap_in (x := 2 * 0) (by omega) (by omega), wrap_in (by omega) (by omega)]; rfl
theorem w_p1 : wrap64 (wrap64 (2 * 1) - 1) = 1 := by rw [wrap_in (x := 2 * 1) (by omega) (by omega), wrap_in (by omega) (by omega)]; rfl
theorem bit_some (b : Bool) : spec_l01Bit.f b = some (if b = true then 1 else 0) := by unfold spec_l01Bit.f; cases b <;> rfl
theorem l01Cmp_ev (a b : List Int) (ha : a.length ≤ 4000000000000000000) : Ev (fun k => spec_l01Cmp.f k a b) (ncmp a b) := by
  by_cases hl : a.length = b.length
  · have loop : ∀ (j : Nat), j ≤ a.length → Ev (fun k => spec_l01Cmp.l0 k a b ((j : Int) - 1)) (ncmpAux a b j) := by
      intro j
      induction j with
      | zero =>
        intro _
        exact Ev.step (f := fun _ => some 0) (fun k => by simp only [spec_l01Cmp.l0]; rw [if_neg (by omega)]) (Ev.now _)
      | succ j ih =>
        intro hj
        have e0 : (((j + 1 : Nat) : Int) - 1) = (j : Int) := by omega
        rw [e0]
        unfold ncmpAux
        by_cases he : a[j]?.getD 0 = b[j]?.getD 0
        · rw [if_pos he]
          refine Ev.step (fun k => ?_) (ih (by omega))
          simp only [spec_l01Cmp.l0]
          rw [if_pos (by omega), if_pos (by omega), if_pos (by omega), if_pos (by omega), rd_nat, rd_nat, if_pos he, wrap_in (by omega) (by omega)]
        · rw [if_neg he]
          refine Ev.step (f := fun _ => some (if a[j]?.getD 0 < b[j]?.getD 0 then -1 else 1)) (fun k => ?_) (Ev.now _)
          simp only [spec_l01Cmp.l0]
          rw [if_pos (by omega), if_pos (by omega), if_pos (by omega), if_pos (by omega), rd_nat, rd_nat, if_neg he, bit_some]
          by_cases hlt : a[j]?.getD 0 < b[j]?.getD 0
          · rw [if_pos hlt]
            have : decide (a[j]?.getD 0 > b[j]?.getD 0) = false := decide_eq_false (by omega)
            rw [this]; simp only [Bool.false_eq_true, if_false, if_true, Option.bind_some, w_m1, w_p1]
          · rw [if_neg hlt]
            have : decide (a[j]?.getD 0 > b[j]?.getD 0) = true := decide_eq_true (by omega)
            rw [this]; simp only [Bool.false_eq_true, if_false, if_true, Option.bind_some, w_m1, w_p1]
    have := loop a.length (Nat.le_refl _)
    refine Ev.congr (fun k => ?_) (show Ev _ (ncmp a b) from by unfold ncmp; rw [if_pos hl]; exact this)
    unfold spec_l01Cmp.f
    rw [if_pos (by omega), wrap_in (by omega) (by omega)]
  · refine Ev.congr (fun k => ?_) (Ev.now (ncmp a b))
    unfold spec_l01Cmp.f ncmp
    rw [if_neg (by omega), if_neg hl, bit_some]
    by_cases hlt : a.length < b.length
    · rw [if_pos hlt]
      have : decide ((a.length : Int) > (b.length : Int)) = false := decide_eq_false (by omega)
      rw [this]; simp only [Bool.false_eq_true, if_false, if_true, Option.bind_some, w_m1, w_p1]
    · rw [if_neg hlt]
      have : decide ((a.length : Int) > (b.length : Int)) = true := decide_eq_true (by omega)
      rw [this]; simp only [Bool.false_eq_true, if_false, if_true, Option.bind_some, w_m1, w_p1]
theorem drop_nil {l : List Int} {i : Nat} (h : l.length ≤ i) : l.drop i = [] := List.drop_eq_nil_of_le h
end Go.Proofs.Ytegbmillbbcmfaa.Pl
