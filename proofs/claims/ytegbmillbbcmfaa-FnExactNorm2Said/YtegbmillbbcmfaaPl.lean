-- several texts of this claim in one
import Derived.Test.YtegbmillbbcmfaaPn
import Derived.Test.YtegbmillbbcmfaaQxbase
import Derived.Test.YtegbmillbbcmfaaQxmark
import Derived.Test.YtegbmillbbcmfaaQxcmp
import Derived.Test.YtegbmillbbcmfaaQxtrim
import Derived.Test.YtegbmillbbcmfaaQxsub
import Derived.Test.YtegbmillbbcmfaaQxmul
import Derived.Test.YtegbmillbbcmfaaQxdiv
import Derived.Test.YtegbmillbbcmfaaQxgcd
import Derived.Test.YtegbmillbbcmfaaQxadd
import Derived.Test.YtegbmillbbcmfaaQxrmk
import Derived.Test.YtegbmillbbcmfaaQxrk
import Derived.Test.YtegbmillbbcmfaaQxrlaw
namespace Go.Proofs.Ytegbmillbbcmfaa.Pl
open Go.RowKit Go.Proofs.Ytegbmillbbcmfaa.Q Go.Proofs.Ytegbmillbbcmfaa.Pn Go.Proofs.YtegbmillbbcmfaaW.PrintWords Go.Proofs.YtegbmillbbcmfaaW.PrintLast
set_option linter.unusedVariables false
set_option linter.unusedSimpArgs false
theorem wrap_in {x : Int} (h0 : -9223372036854775808 ≤ x) (h1 : x ≤ 9223372036854775807) : wrap64 x = x := by
  unfold wrap64; omega
theorem rd_nat (l : List Int) (i : Nat) : rd l (i : Int) = l[i]?.getD 0 := by simp [rd, List.getD_eq_getElem?_getD]
theorem drop_cons {l : List Int} {i : Nat} (h : i < l.length) : l.drop i = rd l (i : Int) :: l.drop (i + 1) := by
  rw [rd_nat, List.drop_eq_getElem_cons h]; simp [h]
theorem rd_lm {l : List Int} (h : Lm l) (i : Int) : 0 ≤ rd l i ∧ rd l i < 10000 := by
  unfold rd
  rw [List.getD_eq_getElem?_getD]
  cases e : l[i.toNat]? with
  | none => simp
  | some x => simp; exact h x (List.mem_of_getElem? e)
theorem tmod_pos {x : Int} (h : 0 ≤ x) : Int.tmod x 10000 = x % 10000 := Int.tmod_eq_emod_of_nonneg h
theorem tdiv_pos {x : Int} (h : 0 ≤ x) : Int.tdiv x 10000 = x / 10000 := Int.tdiv_eq_ediv_of_nonneg h
theorem wsucc {i : Nat} (h : (i : Int) < 9223372036854775807) : wrap64 ((i : Int) + 1) = ((i + 1 : Nat) : Int) := by rw [wrap_in (by omega) (by omega)]; omega
theorem set_take {l : List Int} {i : Nat} {x : Int} (h : i < l.length) : (l.set i x).take (i + 1) = l.take i ++ [x] := by
  rw [List.take_add_one, List.take_set_of_le (Nat.le_refl _)]
  simp [h]

theorem toIntS_ev (l : List Int) (h : l.length ≤ 1048576) : Ev (fun k => laws_toIntS.f k l) l := by
  have loop : ∀ (d i : Nat) (out : List Int), out.length = l.length → i + d = l.length → out.take i = l.take i → Ev (fun k => laws_toIntS.l0 k l out i) l := by
    intro d
    induction d with
    | zero =>
      intro i out ho hi ht
      refine Ev.step (f := fun _ => some out) (fun k => by simp only [laws_toIntS.l0]; rw [if_neg (by omega)]) ?_
      have e : out = l := by
        have h1 : out.take i = out := List.take_of_length_le (by omega)
        have h2 : l.take i = l := List.take_of_length_le (by omega)
        rw [h1, h2] at ht; exact ht
      rw [e]; exact Ev.now _
    | succ d ih =>
      intro i out ho hi ht
      have hs : (out.set i (rd l i)).take (i + 1) = l.take (i + 1) := by
        rw [set_take (by omega), ht, List.take_add_one, rd_nat]
        simp [show i < l.length by omega]
      refine Ev.step (fun k => ?_) (ih (i + 1) (out.set i (rd l i)) (by simp [ho]) (by omega) hs)
      simp only [laws_toIntS.l0]; rw [if_pos (by omega), if_pos (by omega), if_pos (by omega), wsucc (by omega)]
      rfl
  refine Ev.congr (fun k => ?_) (loop l.length 0 (List.replicate l.length 0) (by simp) (by omega) (by simp))
  unfold laws_toIntS.f
  rw [if_pos (by omega), if_pos (by omega)]
  rfl

theorem eqIntS_ev (a b : List Int) (h : a.length ≤ 9223372036854775806) : Ev (fun k => laws_eqIntS.f k a b) (decide (a = b)) := by
  by_cases hl : a.length = b.length
  · have loop : ∀ (d i : Nat), i + d = a.length → Ev (fun k => laws_eqIntS.l0 k a b i) (decide (a.drop i = b.drop i)) := by
      intro d
      induction d with
      | zero =>
        intro i hi
        refine Ev.step (f := fun _ => some true) (fun k => by simp only [laws_eqIntS.l0]; rw [if_neg (by omega)]) ?_
        rw [List.drop_eq_nil_of_le (by omega), List.drop_eq_nil_of_le (by omega)]
        exact Ev.now _
      | succ d ih =>
        intro i hi
        rw [drop_cons (l := a) (by omega), drop_cons (l := b) (by omega)]
        by_cases he : rd a i = rd b i
        · refine Ev.step (fun k => ?_) (show Ev (fun k => laws_eqIntS.l0 k a b (i + 1 : Nat)) _ from ?_)
          · simp only [laws_eqIntS.l0]; rw [if_pos (by omega), if_pos (by omega), if_pos (by omega), if_pos he, wsucc (by omega)]
          · have := ih (i + 1) (by omega)
            rw [he]
            simpa using this
        · refine Ev.step (f := fun _ => some false) (fun k => ?_) ?_
          · simp only [laws_eqIntS.l0]; rw [if_pos (by omega), if_pos (by omega), if_pos (by omega), if_neg he]
          · have : decide (rd a i :: a.drop (i + 1) = rd b i :: b.drop (i + 1)) = false := by simp [he]
            rw [this]; exact Ev.now _
    have := loop a.length 0 (by omega)
    rw [List.drop_zero, List.drop_zero] at this
    refine Ev.congr (fun k => ?_) this
    unfold laws_eqIntS.f
    rw [if_pos (by omega)]
    rfl
  · have e : decide (a = b) = false := decide_eq_false (fun e => hl (by rw [e]))
    rw [e]
    refine Ev.congr (fun k => ?_) (Ev.now false)
    unfold laws_eqIntS.f
    rw [if_neg (by omega)]

/-- k0, k0 + 1, ..: what marks a list. -/
def marks (k0 : Int) (n : Nat) : List Int := (List.range n).map fun (i : Nat) => k0 + (i : Int)
theorem marks_length (k0 : Int) (n : Nat) : (marks k0 n).length = n := by simp [marks]
theorem marks_rd (k0 : Int) {n i : Nat} (h : i < n) : rd (marks k0 n) i = k0 + i := by
  rw [rd_nat]; simp [marks, h]
theorem mark_ev (l : List Int) (k0 : Int) (h0 : 0 ≤ k0) (hk : k0 ≤ 4000000000000000000) (h : l.length ≤ 4000000000000000000) :
    Ev (fun k => laws_markIntS.f k l k0) (k0 + l.length, marks k0 l.length) := by
  have loop : ∀ (d i : Nat) (out : List Int), out.length = l.length → i + d = l.length → out.take i = (marks k0 l.length).take i →
      Ev (fun k => laws_markIntS.l0 k out (k0 + i) i) (k0 + l.length, marks k0 l.length) := by
    intro d
    induction d with
    | zero =>
      intro i out ho hi ht
      refine Ev.step (f := fun _ => some (k0 + i, out)) (fun k => by simp only [laws_markIntS.l0]; rw [if_neg (by omega)]) ?_
      have e : out = marks k0 l.length := by
        have h1 : out.take i = out := List.take_of_length_le (by omega)
        have h2 : (marks k0 l.length).take i = marks k0 l.length := List.take_of_length_le (by rw [marks_length]; omega)
        rw [h1, h2] at ht; exact ht
      rw [e, show i = l.length by omega]; exact Ev.now _
    | succ d ih =>
      intro i out ho hi ht
      have hs : (out.set i (k0 + i)).take (i + 1) = (marks k0 l.length).take (i + 1) := by
        rw [set_take (by omega), ht, List.take_add_one]
        simp [marks, show i < l.length by omega]
      have := ih (i + 1) (out.set i (k0 + i)) (by simp [ho]) (by omega) hs
      refine Ev.step (fun k => ?_) this
      simp only [laws_markIntS.l0]; rw [if_pos (by omega), if_pos (by omega), wsucc (by omega), wrap_in (by omega) (by omega)]
      rw [show k0 + (i : Int) + 1 = k0 + ((i + 1 : Nat) : Int) by omega]; rfl
  have := loop l.length 0 l rfl (by omega) (by simp)
  refine Ev.congr (fun k => ?_) this
  unfold laws_markIntS.f
  simp
theorem held_ev (n : Nat) (k0 : Int) (h0 : 0 ≤ k0) (hk : k0 ≤ 4000000000000000000) (h : n ≤ 4000000000000000000) :
    Ev (fun k => laws_heldIntS.f k (marks k0 n) k0) (k0 + n) := by
  have loop : ∀ (d i : Nat), i + d = n → Ev (fun k => laws_heldIntS.l0 k (marks k0 n) (k0 + i) i) (k0 + n) := by
    intro d
    induction d with
    | zero =>
      intro i hi
      refine Ev.step (f := fun _ => some (k0 + i)) (fun k => by simp only [laws_heldIntS.l0]; rw [if_neg (by rw [marks_length]; omega)]) ?_
      rw [show i = n by omega]; exact Ev.now _
    | succ d ih =>
      intro i hi
      refine Ev.step (fun k => ?_) (ih (i + 1) (by omega))
      simp only [laws_heldIntS.l0]; rw [if_pos (by rw [marks_length]; omega), if_pos (by omega), if_pos (marks_rd k0 (by omega)), wsucc (by omega), wrap_in (by omega) (by omega)]
      rw [show k0 + (i : Int) + 1 = k0 + ((i + 1 : Nat) : Int) by omega]
  have := loop n 0 (by omega)
  refine Ev.congr (fun k => ?_) this
  unfold laws_heldIntS.f
  simp

theorem in_some (a b c : Int) : spec_l01In.f a b c = some (decide (b ≤ a ∧ a ≤ c)) := by
  unfold spec_l01In.f
  by_cases h : b ≤ a
  · rw [if_pos h]; simp [h]
  · rw [if_neg h]; simp [h]
instance (l : List Int) : Decidable (Lm l) := by unfold Lm; infer_instance
theorem natOK_all (l : List Int) : (l.all fun x => !badLimb x) = decide (Lm l) := by
  by_cases h : Lm l
  · rw [decide_eq_true h, List.all_eq_true]
    intro x hx
    have := h x hx
    simp [badLimb]; omega
  · rw [decide_eq_false h, List.all_eq_false]
    by_cases h' : ∃ x, x ∈ l ∧ ¬ (0 ≤ x ∧ x < 10000)
    · obtain ⟨x, hx, hb⟩ := h'
      exact ⟨x, hx, by simp [badLimb]; omega⟩
    · exact absurd (fun x hx => Classical.byContradiction fun hc => h' ⟨x, hx, hc⟩) h
theorem last_getD (l : List Int) (h : l ≠ []) : l.getLast? = some (l[l.length - 1]?.getD 0) := by
  rw [List.getLast?_eq_getElem?]
  have : l.length - 1 < l.length := by have := List.length_pos_iff.2 h; omega
  simp [this]

theorem natOKB_iff (l : List Int) : natOKB l = true ↔ l.length ≤ 40 ∧ Nm l := by
  unfold natOKB Nm
  rw [natOK_all]
  by_cases h : l = []
  · subst h; simp [Lm]
  · rw [last_getD l h]
    have hl : l.length ≠ 0 := fun e => h (List.length_eq_zero_iff.1 e)
    simp [hl]
    constructor
    · rintro ⟨⟨a, b⟩, c⟩; exact ⟨a, c, b⟩
    · rintro ⟨a, c, b⟩; exact ⟨⟨a, b⟩, c⟩
theorem natOKB_nm {l : List Int} (h : natOKB l = true) : Nm l := ((natOKB_iff l).1 h).2
theorem natOKB_len {l : List Int} (h : natOKB l = true) : l.length ≤ 40 := ((natOKB_iff l).1 h).1

theorem specNatOK_ev (l : List Int) (h : l.length ≤ 4000000000000000000) : Ev (fun k => spec_NatOK.f k l) (natOKB l) := by
  by_cases hbig : (l.length : Int) > 4096
  · have e : natOKB l = false := by
      cases hb : natOKB l with
      | false => rfl
      | true => have := natOKB_len hb; omega
    rw [e]
    exact Ev.congr (fun k => by unfold spec_NatOK.f; rw [if_pos hbig]) (Ev.now false)
  · have loop : ∀ (d i : Nat), i + d = l.length → (∀ x ∈ l.take i, 0 ≤ x ∧ x < 10000) → Ev (fun k => spec_NatOK.l0 k l i) (natOKB l) := by
      intro d
      induction d with
      | zero =>
        intro i hi ht
        have hlm : Lm l := by rw [List.take_of_length_le (by omega)] at ht; exact ht
        have e : natOKB l = (decide (l.length ≤ 40) && (decide (l.length = 0) || !decide (l[l.length - 1]?.getD 0 = 0))) := by
          unfold natOKB; rw [natOK_all, decide_eq_true hlm, Bool.and_true]
        by_cases h40 : (l.length : Int) ≤ 40
        · by_cases h0 : (l.length : Int) = 0
          · refine Ev.step (f := fun _ => some true) (fun k => by simp only [spec_NatOK.l0]; rw [if_neg (by omega), if_pos h40, if_pos h0]) ?_
            rw [e]
            have h1 : l.length = 0 := by omega
            simp [h1]; exact Ev.now _
          · refine Ev.step (f := fun _ => some (natOKB l)) (fun k => ?_) (Ev.now _)
            simp only [spec_NatOK.l0]
            have hw : wrap64 ((l.length : Int) - 1) = ((l.length - 1 : Nat) : Int) := by rw [wrap_in (by omega) (by omega)]; omega
            rw [if_neg (by omega), if_pos h40, if_neg h0, hw, if_pos (by omega), if_pos (by omega), e, rd_nat]
            have h1 : l.length ≠ 0 := by omega
            have h2 := rd_lm hlm ((l.length - 1 : Nat) : Int)
            rw [rd_nat] at h2
            congr 1
            simp [h1, show l.length ≤ 40 by omega]
            rw [Bool.eq_iff_iff]; simp; omega
        · refine Ev.step (f := fun _ => some false) (fun k => by simp only [spec_NatOK.l0]; rw [if_neg (by omega), if_neg h40]) ?_
          rw [e, decide_eq_false (by omega), Bool.false_and]; exact Ev.now _
      | succ d ih =>
        intro i hi ht
        have hlt : i < l.length := by omega
        by_cases hx : 0 ≤ rd l i ∧ rd l i ≤ 9999
        · refine Ev.step (fun k => ?_) (ih (i + 1) (by omega) ?_)
          · simp only [spec_NatOK.l0]; rw [if_pos (by omega), if_pos (by omega), in_some]
            simp only [Option.bind_some]; rw [if_pos (by simpa using hx), wsucc (by omega)]
          · intro x hm
            rw [List.take_add_one] at hm
            rcases List.mem_append.1 hm with hm | hm
            · exact ht x hm
            · rw [rd_nat] at hx
              simp [hlt] at hm hx
              subst hm; omega
        · refine Ev.step (f := fun _ => some false) (fun k => ?_) ?_
          · simp only [spec_NatOK.l0]; rw [if_pos (by omega), if_pos (by omega), in_some]
            simp only [Option.bind_some]; rw [if_neg (by simpa using hx)]
          · have e : natOKB l = false := by
              cases hb : natOKB l with
              | false => rfl
              | true => have := rd_lm (natOKB_nm hb).1 i; omega
            rw [e]; exact Ev.now _
    refine Ev.congr (fun k => ?_) (loop l.length 0 (by omega) (by simp))
    unfold spec_NatOK.f
    rw [if_neg hbig]; rfl

theorem w_m1 : wrap64 (wrap64 (2 * 0) - 1) = -1 := by rw [wrap_in (x := 2 * 0) (by omega) (by omega), wrap_in (by omega) (by omega)]; rfl
theorem w_p1 : wrap64 (wrap64 (2 * 1) - 1) = 1 := by rw [wrap_in (x := 2 * 1) (by omega) (by omega), wrap_in (by omega) (by omega)]; rfl
theorem bit_some (b : Bool) : spec_l01Bit.f b = some (if b = true then 1 else 0) := by unfold spec_l01Bit.f; cases b <;> rfl
theorem l01Cmp_ev (a b : List Int) (ha : a.length ≤ 4000000000000000000) : Ev (fun k => spec_l01Cmp.f k a b) (ncmp a b) := by
  by_cases hl : a.length = b.length
  · have loop : ∀ (j : Nat), j ≤ a.length → Ev (fun k => spec_l01Cmp.l0 k a b ((j : Int) - 1)) (ncmpAux a b j) := by
      intro j
      induction j with
      | zero =>
        intro _
        exact Ev.step (f := fun _ => some 0) (fun k => by simp only [spec_l01Cmp.l0]; rw [if_neg (by omega)]) (Ev.now _)
      | succ j ih =>
        intro hj
        have e0 : (((j + 1 : Nat) : Int) - 1) = (j : Int) := by omega
        rw [e0]
        unfold ncmpAux
        by_cases he : a[j]?.getD 0 = b[j]?.getD 0
        · rw [if_pos he]
          refine Ev.step (fun k => ?_) (ih (by omega))
          simp only [spec_l01Cmp.l0]
          rw [if_pos (by omega), if_pos (by omega), if_pos (by omega), if_pos (by omega), rd_nat, rd_nat, if_pos he, wrap_in (by omega) (by omega)]
        · rw [if_neg he]
          refine Ev.step (f := fun _ => some (if a[j]?.getD 0 < b[j]?.getD 0 then -1 else 1)) (fun k => ?_) (Ev.now _)
          simp only [spec_l01Cmp.l0]
          rw [if_pos (by omega), if_pos (by omega), if_pos (by omega), if_pos (by omega), rd_nat, rd_nat, if_neg he, bit_some]
          by_cases hlt : a[j]?.getD 0 < b[j]?.getD 0
          · rw [if_pos hlt]
            have : decide (a[j]?.getD 0 > b[j]?.getD 0) = false := decide_eq_false (by omega)
            rw [this]; simp only [Bool.false_eq_true, if_false, if_true, Option.bind_some, w_m1, w_p1]
          · rw [if_neg hlt]
            have : decide (a[j]?.getD 0 > b[j]?.getD 0) = true := decide_eq_true (by omega)
            rw [this]; simp only [Bool.false_eq_true, if_false, if_true, Option.bind_some, w_m1, w_p1]
    have := loop a.length (Nat.le_refl _)
    refine Ev.congr (fun k => ?_) (show Ev _ (ncmp a b) from by unfold ncmp; rw [if_pos hl]; exact this)
    unfold spec_l01Cmp.f
    rw [if_pos (by omega), wrap_in (by omega) (by omega)]
  · refine Ev.congr (fun k => ?_) (Ev.now (ncmp a b))
    unfold spec_l01Cmp.f ncmp
    rw [if_neg (by omega), if_neg hl, bit_some]
    by_cases hlt : a.length < b.length
    · rw [if_pos hlt]
      have : decide ((a.length : Int) > (b.length : Int)) = false := decide_eq_false (by omega)
      rw [this]; simp only [Bool.false_eq_true, if_false, if_true, Option.bind_some, w_m1, w_p1]
    · rw [if_neg hlt]
      have : decide ((a.length : Int) > (b.length : Int)) = true := decide_eq_true (by omega)
      rw [this]; simp only [Bool.false_eq_true, if_false, if_true, Option.bind_some, w_m1, w_p1]
theorem drop_nil {l : List Int} {i : Nat} (h : l.length ≤ i) : l.drop i = [] := List.drop_eq_nil_of_le h
theorem ncmpAux_cons (x y : Int) (xs ys : List Int) : ∀ (k : Nat), ncmpAux (x :: xs) (y :: ys) (k + 1) = if ncmpAux xs ys k = 0 then (if x = y then 0 else if x < y then -1 else 1) else ncmpAux xs ys k
  | 0 => by simp [ncmpAux]
  | k + 1 => by
    rw [ncmpAux, ncmpAux_cons x y xs ys k]
    rw [show ncmpAux xs ys (k + 1) = if xs[k]?.getD 0 = ys[k]?.getD 0 then ncmpAux xs ys k else if xs[k]?.getD 0 < ys[k]?.getD 0 then -1 else 1 from rfl]
    simp only [List.getElem?_cons_succ]
    by_cases h1 : xs[k]?.getD 0 = ys[k]?.getD 0
    · rw [if_pos h1, if_pos h1]
    · rw [if_neg h1, if_neg h1]
      by_cases h2 : xs[k]?.getD 0 < ys[k]?.getD 0
      · rw [if_pos h2]; simp
      · rw [if_neg h2]; simp
theorem ncmpAux_vl : ∀ {a b : List Int}, Lm a → Lm b → a.length = b.length → ncmpAux a b a.length = cmpI (vl a) (vl b)
  | [], [], _, _, _ => by simp [ncmpAux, vl, cmpI]
  | x :: xs, y :: ys, ha, hb, hl => by
    have ih := ncmpAux_vl ha.tail hb.tail (by simpa using hl)
    have hx := ha.head; have hy := hb.head
    rw [List.length_cons, ncmpAux_cons, ih]
    unfold cmpI
    simp only [vl]
    split <;> split <;> (try split) <;> (try split) <;> (try split) <;> first | rfl | omega
theorem ncmp_vl {a b : List Int} (ha : Nm a) (hb : Nm b) : ncmp a b = cmpI (vl a) (vl b) := by
  unfold ncmp
  by_cases hl : a.length = b.length
  · rw [if_pos hl]; exact ncmpAux_vl ha.1 hb.1 hl
  · rw [if_neg hl]
    unfold cmpI
    by_cases h2 : a.length < b.length
    · rw [if_pos h2, if_pos (vl_lt_of_len ha.1 hb h2)]
    · have := vl_lt_of_len hb.1 ha (by omega)
      rw [if_neg h2, if_neg (by omega), if_neg (by omega)]

theorem take_trim (l : List Int) : ∀ (k : Nat), k ≤ l.length → l.take (tlen l k) = trim (l.take k)
  | 0, _ => by simp [tlen, trim]
  | k + 1, h => by
    have ih := take_trim l k (by omega)
    have hk : k < l.length := by omega
    have e : l.take (k + 1) = l.take k ++ [l[k]?.getD 0] := by rw [List.take_add_one]; simp [hk]
    unfold tlen
    by_cases h0 : l[k]?.getD 0 = 0
    · rw [if_pos h0, ih, e, h0, trim_snoc_zero]
    · rw [if_neg h0, trim_of_last]
      rw [e, List.getLast?_append]; simp; simpa [hk] using h0
theorem take_tlen {l : List Int} (h : Lm l) : l.take (tlen l l.length) = nat (vl l) := by
  rw [take_trim l l.length (Nat.le_refl _), List.take_length, trim_nat h]
theorem trimmed_ev (l : List Int) (h : l.length ≤ 4000000000) : Ev (fun k => impl_trimmed.f k l) (l.take (tlen l l.length)) := by
  have loop : ∀ (j : Nat), j ≤ l.length → Ev (fun k => impl_trimmed.l0 k l j) (l.take (tlen l j)) := by
    intro j
    induction j with
    | zero =>
      intro _
      refine Ev.step (f := fun _ => some (l.take 0)) (fun k => ?_) (Ev.now _)
      simp only [impl_trimmed.l0]; rw [if_neg (by omega), if_pos (by omega), if_pos (by omega)]; rfl
    | succ j ih =>
      intro hj
      have hw : wrap64 (((j + 1 : Nat) : Int) - 1) = (j : Int) := by rw [wrap_in (by omega) (by omega)]; omega
      unfold tlen
      by_cases h0 : l[j]?.getD 0 = 0
      · rw [if_pos h0]
        refine Ev.step (fun k => ?_) (ih (by omega))
        simp only [impl_trimmed.l0]; rw [hw, if_pos (by omega), if_pos (by omega), if_pos (by omega), rd_nat, if_pos h0]
      · rw [if_neg h0]
        refine Ev.step (f := fun _ => some (l.take (j + 1))) (fun k => ?_) (Ev.now _)
        simp only [impl_trimmed.l0]; rw [hw, if_pos (by omega), if_pos (by omega), if_pos (by omega), rd_nat, if_neg h0, if_pos (by omega), if_pos (by omega)]; rfl
  exact loop l.length (Nat.le_refl _)
theorem specTrim (l : List Int) (h : l.length ≤ 4000000000) : spec_l01Trim.f l = some (l.take (tlen l l.length)) := by
  unfold spec_l01Trim.f; rw [if_pos (by omega)]

theorem cmpI_neg (x y : Int) : (cmpI x y < 0) ↔ x < y := by unfold cmpI; split <;> (try split) <;> omega

theorem set_mid {l r : List Int} {x v : Int} {i : Nat} (h : l.length = i) : (l ++ x :: r).set i v = l ++ v :: r := by
  rw [List.set_append_right _ _ (by omega), show i - l.length = 0 by omega, List.set_cons_zero]
theorem rd_mid {l r : List Int} {x : Int} {i : Nat} (h : l.length = i) : rd (l ++ x :: r) i = x := by
  rw [rd_nat, List.getElem?_append_right (by omega), show i - l.length = 0 by omega]; rfl

theorem spec_l01Sub_loop {a b : List Int} (ha : Lm a) (hb : Lm b) (hla : a.length ≤ 1000000000) (d : Nat) :
    ∀ (i : Nat) (c : Int) (out : List Int), i + d = a.length → 0 ≤ c → c ≤ 1 → out.length = i →
    Ev (fun k => spec_l01Sub.l0 k a b out c i) ((out ++ subL (a.drop i) (b.drop i) c).take (tlen (out ++ subL (a.drop i) (b.drop i) c) (out ++ subL (a.drop i) (b.drop i) c).length)) := by
  induction d with
  | zero =>
    intro i c out hd h0 h1 ho
    rw [drop_nil (l := a) (by omega), subL, List.append_nil]
    refine Ev.step (f := fun _ => some (out.take (tlen out out.length))) (fun k => ?_) (Ev.now _)
    simp only [spec_l01Sub.l0]; rw [if_neg (by omega), specTrim _ (by omega)]; rfl
  | succ d ih =>
    intro i c out hd h0 h1 ho
    obtain ⟨x, hx, ra⟩ : ∃ x, rd a i = x ∧ 0 ≤ x ∧ x < 10000 := ⟨_, rfl, rd_lm ha i⟩
    obtain ⟨y, hy, rb⟩ : ∃ y, rd b i = y ∧ 0 ≤ y ∧ y < 10000 := ⟨_, rfl, rd_lm hb i⟩
    have hi9 : (i : Int) < 9223372036854775807 := by omega
    by_cases hib : i < b.length
    · rw [drop_cons (l := a) (by omega), drop_cons hib, subL, hx, hy]
      have := ih (i + 1) (if x - c - y < 0 then 1 else 0) (out ++ [(x - c - y) % 10000]) (by omega) (by split <;> omega) (by split <;> omega) (by simp [ho])
      rw [List.append_assoc] at this
      refine Ev.step (fun k => ?_) this
      simp only [spec_l01Sub.l0]; rw [if_pos (by omega), if_pos (by omega), if_pos (by omega), bit_some]
      simp only [Option.bind_some]
      rw [if_pos (by omega), hx, hy, wrap_in (x := x - c) (by omega) (by omega), wrap_in (x := x - c - y) (by omega) (by omega), wsucc hi9]
      by_cases hn : x - c - y < 0
      · rw [decide_eq_true hn, if_pos hn]
        simp only [if_true]
        rw [wrap_in (x := 1 * 10000) (by omega) (by omega), wrap_in (by omega) (by omega), show x - c - y + 1 * 10000 = (x - c - y) % 10000 by omega]
      · rw [decide_eq_false hn, if_neg hn]
        simp only [Bool.false_eq_true, if_false]
        rw [wrap_in (x := 0 * 10000) (by omega) (by omega), wrap_in (by omega) (by omega), show x - c - y + 0 * 10000 = (x - c - y) % 10000 by omega]
    · rw [drop_cons (l := a) (by omega), drop_nil (l := b) (i := i) (by omega), subL, hx]
      have := ih (i + 1) (if x - c < 0 then 1 else 0) (out ++ [(x - c) % 10000]) (by omega) (by split <;> omega) (by split <;> omega) (by simp [ho])
      rw [List.append_assoc, drop_nil (l := b) (i := i + 1) (by omega)] at this
      refine Ev.step (fun k => ?_) this
      simp only [spec_l01Sub.l0]; rw [if_pos (by omega), if_pos (by omega), if_neg (by omega), bit_some]
      simp only [Option.bind_some]
      rw [if_pos (by omega), hx, wrap_in (x := x - c) (by omega) (by omega), wsucc hi9]
      by_cases hn : x - c < 0
      · rw [decide_eq_true hn, if_pos hn]
        simp only [if_true]
        rw [wrap_in (x := 1 * 10000) (by omega) (by omega), wrap_in (by omega) (by omega), show x - c + 1 * 10000 = (x - c) % 10000 by omega]
      · rw [decide_eq_false hn, if_neg hn]
        simp only [Bool.false_eq_true, if_false]
        rw [wrap_in (x := 0 * 10000) (by omega) (by omega), wrap_in (by omega) (by omega), show x - c + 0 * 10000 = (x - c) % 10000 by omega]
theorem spec_l01Sub_ev {a b : List Int} (ha : Lm a) (hb : Lm b) (hla : a.length ≤ 1000000000) (h : vl b ≤ vl a) : Ev (fun k => spec_l01Sub.f k a b) (nat (vl a - vl b)) := by
  have := spec_l01Sub_loop ha hb hla a.length 0 0 [] (by omega) (by omega) (by omega) rfl
  rw [List.nil_append, List.drop_zero, List.drop_zero, take_tlen (subL_lm _ _ _), subL_vl ha hb (by omega) (by omega) (by omega), Int.sub_zero] at this
  exact this
theorem impl_natSub_loop {a b : List Int} (ha : Lm a) (hb : Lm b) (hla : a.length ≤ 1000000000) (d : Nat) :
    ∀ (i : Nat) (c : Int) (out : List Int), i + d = a.length → 0 ≤ c → c ≤ 1 → out.length = i →
    Ev (fun k => impl_natSub.l0 k b (out ++ a.drop i) c a.length i) ((out ++ subL (a.drop i) (b.drop i) c).take (tlen (out ++ subL (a.drop i) (b.drop i) c) (out ++ subL (a.drop i) (b.drop i) c).length)) := by
  induction d with
  | zero =>
    intro i c out hd h0 h1 ho
    rw [drop_nil (l := a) (by omega), subL, List.append_nil]
    obtain ⟨K, hK⟩ := trimmed_ev out (by omega)
    refine ⟨K + 1, fun k hk => ?_⟩
    obtain ⟨k, rfl⟩ : ∃ m, k = m + 1 := ⟨k - 1, by omega⟩
    have hK := hK k (by omega)
    simp only at hK ⊢
    simp only [impl_natSub.l0]; rw [if_neg (by omega), hK]; rfl
  | succ d ih =>
    intro i c out hd h0 h1 ho
    obtain ⟨x, hx, ra⟩ : ∃ x, rd a i = x ∧ 0 ≤ x ∧ x < 10000 := ⟨_, rfl, rd_lm ha i⟩
    obtain ⟨y, hy, rb⟩ : ∃ y, rd b i = y ∧ 0 ≤ y ∧ y < 10000 := ⟨_, rfl, rd_lm hb i⟩
    have hi9 : (i : Int) < 9223372036854775807 := by omega
    have ea := drop_cons (l := a) (i := i) (by omega)
    rw [hx] at ea
    have hlen : (out ++ x :: a.drop (i + 1)).length = a.length := by simp; omega
    by_cases hib : i < b.length
    · rw [ea, drop_cons hib, subL, hy]
      have := ih (i + 1) (if x - c - y < 0 then 1 else 0) (out ++ [(x - c - y) % 10000]) (by omega) (by split <;> omega) (by split <;> omega) (by simp [ho])
      rw [List.append_assoc, List.append_assoc] at this
      refine Ev.step (fun k => ?_) this
      simp only [impl_natSub.l0]; rw [if_pos (by omega), if_pos (by omega), if_pos (by omega), if_pos (by omega)]
      rw [rd_mid ho, hy, wrap_in (x := x - c) (by omega) (by omega), wrap_in (x := x - c - y) (by omega) (by omega), wsucc hi9, Int.toNat_natCast, set_mid ho, set_mid ho]
      by_cases hn : x - c - y < 0
      · rw [if_pos hn, if_pos hn, wrap_in (by omega) (by omega), show x - c - y + 10000 = (x - c - y) % 10000 by omega]; rfl
      · rw [if_neg hn, if_neg hn, show x - c - y = (x - c - y) % 10000 by omega]
        rw [show (x - c - y) % 10000 % 10000 = (x - c - y) % 10000 by omega]; rfl
    · rw [ea, drop_nil (l := b) (i := i) (by omega), subL]
      have := ih (i + 1) (if x - c < 0 then 1 else 0) (out ++ [(x - c) % 10000]) (by omega) (by split <;> omega) (by split <;> omega) (by simp [ho])
      rw [List.append_assoc, List.append_assoc, drop_nil (l := b) (i := i + 1) (by omega)] at this
      refine Ev.step (fun k => ?_) this
      simp only [impl_natSub.l0]; rw [if_pos (by omega), if_pos (by omega), if_pos (by omega), if_neg (by omega)]
      rw [rd_mid ho, wrap_in (x := x - c) (by omega) (by omega), wsucc hi9, Int.toNat_natCast, set_mid ho, set_mid ho]
      by_cases hn : x - c < 0
      · rw [if_pos hn, if_pos hn, wrap_in (by omega) (by omega), show x - c + 10000 = (x - c) % 10000 by omega]; rfl
      · rw [if_neg hn, if_neg hn, show x - c = (x - c) % 10000 by omega]
        rw [show (x - c) % 10000 % 10000 = (x - c) % 10000 by omega]; rfl
theorem impl_natSub_ev {a b : List Int} (ha : Lm a) (hb : Lm b) (hla : a.length ≤ 1000000000) (h : vl b ≤ vl a) : Ev (fun k => impl_natSub.f k a b) (nat (vl a - vl b)) := by
  have := impl_natSub_loop ha hb hla a.length 0 0 [] (by omega) (by omega) (by omega) rfl
  rw [List.nil_append, List.nil_append, List.drop_zero, List.drop_zero, take_tlen (subL_lm _ _ _), subL_vl ha hb (by omega) (by omega) (by omega), Int.sub_zero] at this
  refine Ev.congr (fun k => ?_) this
  unfold impl_natSub.f slices_Clone_int_int.f
  rw [if_pos (by omega)]; rfl
/-- A row of the product, added from os on. -/
def rowL (x : Int) : List Int → List Int → Int → List Int
  | o :: os, y :: ys, c => (o + x * y + c) % 10000 :: rowL x os ys ((o + x * y + c) / 10000)
  | o :: os, [], c => if c > 0 then (o + c) % 10000 :: rowL x os [] ((o + c) / 10000) else o :: os
  | [], _, _ => []
theorem rowL_lm (x : Int) : ∀ (os ys : List Int) (c : Int), Lm os → Lm (rowL x os ys c)
  | o :: os, y :: ys, c, h => by unfold rowL; exact Lm.cons (by omega) (by omega) (rowL_lm x _ _ _ h.tail)
  | o :: os, [], c, h => by
    unfold rowL; split
    · exact Lm.cons (by omega) (by omega) (rowL_lm x _ _ _ h.tail)
    · exact h
  | [], [], c, h => by unfold rowL; exact Lm.nil
  | [], y :: ys, c, h => by unfold rowL; exact Lm.nil
theorem rowL_len (x : Int) : ∀ (os ys : List Int) (c : Int), (rowL x os ys c).length = os.length
  | o :: os, y :: ys, c => by unfold rowL; simp [rowL_len x os]
  | o :: os, [], c => by unfold rowL; split <;> simp [rowL_len x os]
  | [], [], c => by unfold rowL; rfl
  | [], y :: ys, c => by unfold rowL; rfl
theorem rowL_nil (x : Int) (os : List Int) : rowL x os [] 0 = os := by cases os <;> simp [rowL]
theorem mul_bd {x y : Int} (hx : 0 ≤ x ∧ x < 10000) (hy : 0 ≤ y ∧ y < 10000) : 0 ≤ x * y ∧ x * y ≤ 99980001 := by
  refine ⟨Int.mul_nonneg hx.1 hy.1, ?_⟩
  have h1 : x * y ≤ 9999 * y := Int.mul_le_mul_of_nonneg_right (by omega) hy.1
  omega
theorem rowL_vl {x : Int} (hx : 0 ≤ x ∧ x < 10000) : ∀ {ys os : List Int} {c : Int}, Lm os → Lm ys → 0 ≤ c → c ≤ 9999 → (∃ zs, os.drop ys.length = 0 :: zs) → vl (rowL x os ys c) = vl os + x * vl ys + c
  | [], os, c, ho, hy, h0, h1, ⟨zs, hz⟩ => by
    simp only [List.length_nil, List.drop_zero] at hz
    subst hz
    unfold rowL
    split
    · rw [show (0 + c) / 10000 = 0 by omega, rowL_nil]; simp only [vl]; omega
    · simp only [vl]; omega
  | y :: ys, [], c, ho, hy, h0, h1, ⟨zs, hz⟩ => by simp at hz
  | y :: ys, o :: os, c, ho, hy, h0, h1, ⟨zs, hz⟩ => by
    have hy0 := hy.head; have ho0 := ho.head
    have hb := mul_bd hx hy0
    unfold rowL
    simp only [vl]
    rw [rowL_vl hx ho.tail hy.tail (by omega) (by omega) ⟨zs, by simpa using hz⟩]
    have e : x * (10000 * vl ys) = 10000 * (x * vl ys) := by rw [← Int.mul_assoc, Int.mul_comm x 10000, Int.mul_assoc]
    rw [Int.mul_add x y, e]; omega
theorem rowL_drop {x : Int} : ∀ {ys os : List Int} {c : Int}, 0 ≤ c → c ≤ 9999 → Lm os → Lm ys → 0 ≤ x ∧ x < 10000 → (∃ zs, os.drop ys.length = 0 :: zs) → (rowL x os ys c).drop (ys.length + 1) = os.drop (ys.length + 1)
  | [], os, c, h0, h1, _, _, _, ⟨zs, hz⟩ => by
    simp only [List.length_nil, List.drop_zero] at hz
    subst hz
    unfold rowL
    split
    · rw [show (0 + c) / 10000 = 0 by omega, rowL_nil]; simp
    · rfl
  | y :: ys, [], c, h0, h1, _, _, _, ⟨zs, hz⟩ => by simp at hz
  | y :: ys, o :: os, c, h0, h1, ho, hy, hx, ⟨zs, hz⟩ => by
    have hy0 := hy.head; have ho0 := ho.head
    have hb := mul_bd hx hy0
    unfold rowL
    rw [List.length_cons, List.drop_succ_cons, List.drop_succ_cons]
    exact rowL_drop (by omega) (by omega) ho.tail hy.tail hx ⟨zs, by simpa using hz⟩
theorem drop_mid {l r : List Int} {i : Nat} (h : l.length = i) (n : Nat) : (l ++ r).drop (i + n) = r.drop n := by
  rw [← List.drop_drop, ← h, List.drop_left]

theorem spec_l01Mul_row {a b : List Int} (hb : Lm b) (hlb : b.length ≤ 1000000000) {i : Nat} (hi : i < a.length) (hla : a.length ≤ 1000000000) {x : Int} (hx : Aside0 (rd a i = x)) (hx0 : 0 ≤ x ∧ x < 10000) :
    ∀ (ys os pre : List Int) (c : Int) (kk : Nat), ys = b.drop kk → pre.length = i + kk → kk ≤ 2000000000 → Lm os → 0 ≤ c → c ≤ 9999 → (kk ≤ b.length → ∃ zs, os.drop ys.length = 0 :: zs) → (b.length < kk → c = 0) → ∀ r,
      Ev (fun k => spec_l01Mul.l0 k a b (pre ++ rowL x os ys c) ((i + 1 : Nat) : Int)) r → Ev (fun k => spec_l01Mul.l1 k a b (pre ++ os) i c kk) r
  | [], os, pre, c, kk, hys, hp, hkk, ho, h0, h1, hz, hc, r, hr => by
    have hkb : b.length ≤ kk := by
      by_cases h : kk < b.length
      · rw [drop_cons h] at hys; simp at hys
      · omega
    by_cases c0 : c > 0
    · have hke : kk = b.length := by
        by_cases h : b.length < kk
        · have := hc h; omega
        · omega
      obtain ⟨zs, hz⟩ := hz (by omega)
      simp only [List.length_nil, List.drop_zero] at hz
      subst hz
      refine Ev.step (f := fun k => spec_l01Mul.j2 k a b (pre ++ 0 :: zs) i c kk true) (fun k => by simp only [spec_l01Mul.l1]; rw [if_neg (by omega), decide_eq_true c0]) ?_
      have e1 : rowL x (0 :: zs) [] c = c :: zs := by
        unfold rowL
        rw [if_pos c0, show (0 + c) / 10000 = 0 by omega, rowL_nil, show (0 + c) % 10000 = c by omega]
      have := spec_l01Mul_row hb hlb hi hla hx hx0 [] zs (pre ++ [c]) 0 (kk + 1) (by rw [List.drop_eq_nil_of_le (by omega)]) (by simp [hp]; omega) (by omega) ho.tail (by omega) (by omega) (fun h => by omega) (fun _ => rfl) r (by
        rw [rowL_nil, List.append_assoc]
        rw [e1] at hr
        exact hr)
      rw [List.append_assoc] at this
      refine Ev.step (fun k => ?_) this
      have hw : wrap64 ((i : Int) + (kk : Int)) = ((i + kk : Nat) : Int) := by rw [wrap_in (by omega) (by omega)]; omega
      simp only [spec_l01Mul.j2, if_true]
      rw [hw]
      clear hw this
      rw [if_pos (by omega), if_pos (by simp; omega), if_neg (by omega), rd_mid hp, Int.toNat_natCast, set_mid hp, wrap_in (x := 0 + c) (by omega) (by omega), tmod_pos (by omega), tdiv_pos (by omega), wrap_in (by omega) (by omega), wsucc (by omega)]
      rw [show (0 + c) % 10000 = c by omega, show (0 + c) / 10000 = 0 by omega]; rfl
    · have hc0 : c = 0 := by omega
      subst hc0
      rw [rowL_nil] at hr
      refine Ev.step (f := fun k => spec_l01Mul.j2 k a b (pre ++ os) i 0 kk false) (fun k => by simp only [spec_l01Mul.l1]; rw [if_neg (by omega), decide_eq_false c0]) ?_
      refine Ev.step (fun k => ?_) hr
      simp only [spec_l01Mul.j2, Bool.false_eq_true, if_false]
      rw [wsucc (by omega)]
  | y :: ys, os, pre, c, kk, hys, hp, hkk, ho, h0, h1, hz, hc, r, hr => by
    have hkb : kk < b.length := by
      by_cases h : kk < b.length
      · exact h
      · rw [List.drop_eq_nil_of_le (by omega)] at hys; simp at hys
    have hyy := drop_cons hkb
    rw [← hys] at hyy
    injection hyy with hy1 hy2
    have hyb := rd_lm hb kk
    rw [← hy1] at hyb
    have HY := Aside0.mk hy1
    clear hy1
    obtain ⟨zs, hz⟩ := hz (by omega)
    cases os with
    | nil => simp at hz
    | cons o os =>
      have ho0 := ho.head
      have hm := mul_bd hx0 hyb
      refine Ev.step (f := fun k => spec_l01Mul.j2 k a b (pre ++ o :: os) i c kk true) (fun k => by simp only [spec_l01Mul.l1]; rw [if_pos (by omega)]) ?_
      have := spec_l01Mul_row hb hlb hi hla hx hx0 ys os (pre ++ [(o + x * y + c) % 10000]) ((o + x * y + c) / 10000) (kk + 1) hy2 (by simp [hp]; omega) (by omega) ho.tail (by omega) (by omega) (fun _ => ⟨zs, by simpa using hz⟩) (fun h => by omega) r (by
        rw [List.append_assoc]
        unfold rowL at hr
        exact hr)
      rw [List.append_assoc] at this
      refine Ev.step (fun k => ?_) this
      have hw : wrap64 ((i : Int) + (kk : Int)) = ((i + kk : Nat) : Int) := by rw [wrap_in (by omega) (by omega)]; omega
      simp only [spec_l01Mul.j2, if_true]
      rw [hw]
      clear hw this
      rw [if_pos (by omega), if_pos (by simp; omega), if_pos (by omega), if_pos (by omega), if_pos (by omega), if_pos (by omega), rd_mid hp, hx.out, ← HY.out, Int.toNat_natCast, set_mid hp, wrap_in (x := o + c) (by omega) (by omega), wrap_in (x := x * y) (by omega) (by omega), wrap_in (x := o + c + x * y) (by omega) (by omega), tmod_pos (by omega), tdiv_pos (by omega), wrap_in (by omega) (by omega), wsucc (by omega)]
      rw [show o + c + x * y = o + x * y + c by omega]; rfl

theorem impl_natMul_row {a b : List Int} (hb : Lm b) (hlb : b.length ≤ 1000000000) {i : Nat} (hi : i < a.length) (hla : a.length ≤ 1000000000) {x : Int} (hx : Aside0 (rd a i = x)) (hx0 : 0 ≤ x ∧ x < 10000) :
    ∀ (ys os pre : List Int) (c : Int) (kk : Nat), ys = b.drop kk → pre.length = i + kk → kk ≤ 2000000000 → Lm os → 0 ≤ c → c ≤ 9999 → (kk ≤ b.length → ∃ zs, os.drop ys.length = 0 :: zs) → (b.length < kk → c = 0) → ∀ r,
      Ev (fun k => impl_natMul.l0 k b (pre ++ rowL x os ys c) a a.length ((i + 1 : Nat) : Int)) r → Ev (fun k => impl_natMul.l1 k b (pre ++ os) i x c kk a a.length i) r
  | [], os, pre, c, kk, hys, hp, hkk, ho, h0, h1, hz, hc, r, hr => by
    have hkb : b.length ≤ kk := by
      by_cases h : kk < b.length
      · rw [drop_cons h] at hys; simp at hys
      · omega
    by_cases c0 : c > 0
    · have hke : kk = b.length := by
        by_cases h : b.length < kk
        · have := hc h; omega
        · omega
      obtain ⟨zs, hz⟩ := hz (by omega)
      simp only [List.length_nil, List.drop_zero] at hz
      subst hz
      refine Ev.step (f := fun k => impl_natMul.j2 k b (pre ++ 0 :: zs) i x c kk a a.length i true) (fun k => by simp only [impl_natMul.l1]; rw [if_neg (by omega), decide_eq_true c0]) ?_
      have e1 : rowL x (0 :: zs) [] c = c :: zs := by
        unfold rowL
        rw [if_pos c0, show (0 + c) / 10000 = 0 by omega, rowL_nil, show (0 + c) % 10000 = c by omega]
      have := impl_natMul_row hb hlb hi hla hx hx0 [] zs (pre ++ [c]) 0 (kk + 1) (by rw [List.drop_eq_nil_of_le (by omega)]) (by simp [hp]; omega) (by omega) ho.tail (by omega) (by omega) (fun h => by omega) (fun _ => rfl) r (by
        rw [rowL_nil, List.append_assoc]
        rw [e1] at hr
        exact hr)
      rw [List.append_assoc] at this
      refine Ev.step (fun k => ?_) this
      have hw : wrap64 ((i : Int) + (kk : Int)) = ((i + kk : Nat) : Int) := by rw [wrap_in (by omega) (by omega)]; omega
      simp only [impl_natMul.j2, if_true]
      rw [hw]
      clear hw this
      rw [if_neg (by omega), if_pos (by omega), if_pos (by simp; omega), rd_mid hp, Int.toNat_natCast, set_mid hp, wrap_in (x := c + 0) (by omega) (by omega), tmod_pos (by omega), tdiv_pos (by omega), wrap_in (by omega) (by omega), wsucc (by omega)]
      rw [show (c + 0) % 10000 = c by omega, show (c + 0) / 10000 = 0 by omega]; rfl
    · have hc0 : c = 0 := by omega
      subst hc0
      rw [rowL_nil] at hr
      refine Ev.step (f := fun k => impl_natMul.j2 k b (pre ++ os) i x 0 kk a a.length i false) (fun k => by simp only [impl_natMul.l1]; rw [if_neg (by omega), decide_eq_false c0]) ?_
      refine Ev.step (fun k => ?_) hr
      simp only [impl_natMul.j2, Bool.false_eq_true, if_false]
      rw [wsucc (by omega)]
  | y :: ys, os, pre, c, kk, hys, hp, hkk, ho, h0, h1, hz, hc, r, hr => by
    have hkb : kk < b.length := by
      by_cases h : kk < b.length
      · exact h
      · rw [List.drop_eq_nil_of_le (by omega)] at hys; simp at hys
    have hyy := drop_cons hkb
    rw [← hys] at hyy
    injection hyy with hy1 hy2
    have hyb := rd_lm hb kk
    rw [← hy1] at hyb
    have HY := Aside0.mk hy1
    clear hy1
    obtain ⟨zs, hz⟩ := hz (by omega)
    cases os with
    | nil => simp at hz
    | cons o os =>
      have ho0 := ho.head
      have hm := mul_bd hx0 hyb
      refine Ev.step (f := fun k => impl_natMul.j2 k b (pre ++ o :: os) i x c kk a a.length i true) (fun k => by simp only [impl_natMul.l1]; rw [if_pos (by omega)]) ?_
      have := impl_natMul_row hb hlb hi hla hx hx0 ys os (pre ++ [(o + x * y + c) % 10000]) ((o + x * y + c) / 10000) (kk + 1) hy2 (by simp [hp]; omega) (by omega) ho.tail (by omega) (by omega) (fun _ => ⟨zs, by simpa using hz⟩) (fun h => by omega) r (by
        rw [List.append_assoc]
        unfold rowL at hr
        exact hr)
      rw [List.append_assoc] at this
      refine Ev.step (fun k => ?_) this
      have hw : wrap64 ((i : Int) + (kk : Int)) = ((i + kk : Nat) : Int) := by rw [wrap_in (by omega) (by omega)]; omega
      simp only [impl_natMul.j2, if_true]
      rw [hw]
      clear hw this
      rw [if_pos (by omega), if_pos (by omega), if_pos (by omega), if_pos (by simp; omega), rd_mid hp, ← HY.out, Int.toNat_natCast, set_mid hp, wrap_in (x := x * y) (by omega) (by omega), wrap_in (x := c + x * y) (by omega) (by omega), wrap_in (x := c + x * y + o) (by omega) (by omega), tmod_pos (by omega), tdiv_pos (by omega), wrap_in (by omega) (by omega), wsucc (by omega)]
      rw [show c + x * y + o = o + x * y + c by omega]; rfl

theorem spec_l01Mul_loop {a b : List Int} (ha : Lm a) (hb : Lm b) (hla : a.length ≤ 1000000000) (hlb : b.length ≤ 1000000000) (d : Nat) :
    ∀ (i : Nat) (out : List Int), i + d = a.length → Lm out → out.length = a.length + b.length + 1 → vl out = vl (a.take i) * vl b → out.drop (i + b.length) = List.replicate (a.length - i + 1) 0 →
    Ev (fun k => spec_l01Mul.l0 k a b out i) (nat (vl a * vl b)) := by
  induction d with
  | zero =>
    intro i out hd ho hl hv hz
    rw [List.take_of_length_le (by omega)] at hv
    have e : out.take (tlen out out.length) = nat (vl a * vl b) := by rw [take_tlen ho, hv]
    refine Ev.step (f := fun _ => some (nat (vl a * vl b))) (fun k => ?_) (Ev.now _)
    simp only [spec_l01Mul.l0]; rw [if_neg (by omega), specTrim _ (by omega), e]; rfl
  | succ d ih =>
    intro i out hd ho hl hv hz
    have hi : i < a.length := by omega
    obtain ⟨x, hx, hx0⟩ : ∃ x, rd a i = x ∧ 0 ≤ x ∧ x < 10000 := ⟨_, rfl, rd_lm ha i⟩
    have hsplit : out.take i ++ out.drop i = out := List.take_append_drop i out
    have hpl : (out.take i).length = i := by rw [List.length_take]; omega
    have hos : Lm (out.drop i) := fun y hy => ho y (List.mem_of_mem_drop hy)
    have hzz : (out.drop i).drop b.length = 0 :: List.replicate (a.length - i - 1 + 1) 0 := by
      rw [List.drop_drop, hz, show a.length - i + 1 = (a.length - i - 1 + 1) + 1 by omega, List.replicate_succ]
    have hta : a.take (i + 1) = a.take i ++ [x] := by rw [List.take_add_one, ← hx, rd_nat]; simp [hi]
    have hal : (a.take i).length = i := by rw [List.length_take]; omega
    have key := spec_l01Mul_row hb hlb hi hla (Aside0.mk hx) hx0 b (out.drop i) (out.take i) 0 0 (by simp) (by rw [hpl]; omega) (by omega) hos (by omega) (by omega) (fun _ => ⟨_, hzz⟩) (fun h => by omega) (nat (vl a * vl b)) ?_
    · rw [hsplit] at key
      refine Ev.step (fun k => ?_) key
      simp only [spec_l01Mul.l0]; rw [if_pos (by omega)]; rfl
    · refine ih (i + 1) _ (by omega) ?_ ?_ ?_ ?_
      · exact Lm.append (fun y hy => ho y (List.mem_of_mem_take hy)) (rowL_lm _ _ _ _ hos)
      · rw [List.length_append, rowL_len, ← List.length_append, hsplit, hl]
      · rw [vl_append, rowL_vl hx0 hos hb (by omega) (by omega) ⟨_, hzz⟩, hta, vl_append, hpl, hal]
        have e1 : vl out = vl (out.take i) + 10000 ^ i * vl (out.drop i) := by
          have := vl_append (out.take i) (out.drop i); rw [hsplit, hpl] at this; exact this
        rw [e1] at hv
        simp only [vl]
        rw [Int.mul_zero, Int.add_zero, Int.add_zero, Int.mul_add, Int.add_mul, Int.mul_assoc]; omega
      · rw [show i + 1 + b.length = i + (b.length + 1) by omega, drop_mid hpl, rowL_drop (by omega) (by omega) hos hb hx0 ⟨_, hzz⟩, ← List.drop_drop, hzz, show a.length - (i + 1) + 1 = a.length - i - 1 + 1 by omega]; simp

theorem impl_natMul_loop {a b : List Int} (ha : Lm a) (hb : Lm b) (hla : a.length ≤ 1000000000) (hlb : b.length ≤ 1000000000) (d : Nat) :
    ∀ (i : Nat) (out : List Int), i + d = a.length → Lm out → out.length = a.length + b.length + 0 → vl out = vl (a.take i) * vl b → out.drop (i + b.length) = List.replicate (a.length - i + 0) 0 →
    Ev (fun k => impl_natMul.l0 k b out a a.length i) (nat (vl a * vl b)) := by
  induction d with
  | zero =>
    intro i out hd ho hl hv hz
    rw [List.take_of_length_le (by omega)] at hv
    have e : out.take (tlen out out.length) = nat (vl a * vl b) := by rw [take_tlen ho, hv]
    obtain ⟨K, hK⟩ := trimmed_ev out (by omega)
    refine ⟨K + 1, fun k hk => ?_⟩
    obtain ⟨k, rfl⟩ : ∃ m, k = m + 1 := ⟨k - 1, by omega⟩
    have hK := hK k (by omega)
    simp only at hK ⊢
    simp only [impl_natMul.l0]; rw [if_neg (by omega), hK, e]; rfl
  | succ d ih =>
    intro i out hd ho hl hv hz
    have hi : i < a.length := by omega
    obtain ⟨x, hx, hx0⟩ : ∃ x, rd a i = x ∧ 0 ≤ x ∧ x < 10000 := ⟨_, rfl, rd_lm ha i⟩
    have hsplit : out.take i ++ out.drop i = out := List.take_append_drop i out
    have hpl : (out.take i).length = i := by rw [List.length_take]; omega
    have hos : Lm (out.drop i) := fun y hy => ho y (List.mem_of_mem_drop hy)
    have hzz : (out.drop i).drop b.length = 0 :: List.replicate (a.length - i - 1 + 0) 0 := by
      rw [List.drop_drop, hz, show a.length - i + 0 = (a.length - i - 1) + 1 by omega, List.replicate_succ, Nat.add_zero]
    have hta : a.take (i + 1) = a.take i ++ [x] := by rw [List.take_add_one, ← hx, rd_nat]; simp [hi]
    have hal : (a.take i).length = i := by rw [List.length_take]; omega
    have key := impl_natMul_row hb hlb hi hla (Aside0.mk hx) hx0 b (out.drop i) (out.take i) 0 0 (by simp) (by rw [hpl]; omega) (by omega) hos (by omega) (by omega) (fun _ => ⟨_, hzz⟩) (fun h => by omega) (nat (vl a * vl b)) ?_
    · rw [hsplit] at key
      refine Ev.step (fun k => ?_) key
      simp only [impl_natMul.l0]; rw [if_pos (by omega), if_pos (by omega), if_pos (by omega), hx]; rfl
    · refine ih (i + 1) _ (by omega) ?_ ?_ ?_ ?_
      · exact Lm.append (fun y hy => ho y (List.mem_of_mem_take hy)) (rowL_lm _ _ _ _ hos)
      · rw [List.length_append, rowL_len, ← List.length_append, hsplit, hl]
      · rw [vl_append, rowL_vl hx0 hos hb (by omega) (by omega) ⟨_, hzz⟩, hta, vl_append, hpl, hal]
        have e1 : vl out = vl (out.take i) + 10000 ^ i * vl (out.drop i) := by
          have := vl_append (out.take i) (out.drop i); rw [hsplit, hpl] at this; exact this
        rw [e1] at hv
        simp only [vl]
        rw [Int.mul_zero, Int.add_zero, Int.add_zero, Int.mul_add, Int.add_mul, Int.mul_assoc]; omega
      · rw [show i + 1 + b.length = i + (b.length + 1) by omega, drop_mid hpl, rowL_drop (by omega) (by omega) hos hb hx0 ⟨_, hzz⟩, ← List.drop_drop, hzz, show a.length - (i + 1) + 0 = a.length - i - 1 + 0 by omega]; simp

theorem vl_zeros (n : Nat) : vl (List.replicate n 0) = 0 := by
  induction n with
  | zero => rfl
  | succ n ih => rw [List.replicate_succ, vl, ih]; rfl
theorem lm_zeros (n : Nat) : Lm (List.replicate n 0) := fun y hy => by rw [List.eq_of_mem_replicate hy]; omega
theorem spec_l01Mul_ev {a b : List Int} (ha : Lm a) (hb : Lm b) (hla : a.length ≤ 1000000000) (hlb : b.length ≤ 1000000000) : Ev (fun k => spec_l01Mul.f k a b) (nat (vl a * vl b)) := by
  have := spec_l01Mul_loop ha hb hla hlb a.length 0 (List.replicate (a.length + b.length + 1) 0) (by omega) (lm_zeros _) (by simp) (by rw [vl_zeros]; simp [vl]) (by rw [List.drop_replicate]; congr 1; omega)
  refine Ev.congr (fun k => ?_) this
  unfold spec_l01Mul.f
  have hw : wrap64 (wrap64 ((a.length : Int) + (b.length : Int)) + 1) = ((a.length + b.length + 1 : Nat) : Int) := by rw [wrap_in (x := (a.length : Int) + (b.length : Int)) (by omega) (by omega), wrap_in (by omega) (by omega)]; omega
  rw [hw, if_pos (by omega), if_pos (by omega), Int.toNat_natCast]; rfl
theorem impl_natMul_ev {a b : List Int} (ha : Lm a) (hb : Lm b) (hla : a.length ≤ 1000000000) (hlb : b.length ≤ 1000000000) : Ev (fun k => impl_natMul.f k a b) (nat (vl a * vl b)) := by
  have := impl_natMul_loop ha hb hla hlb a.length 0 (List.replicate (a.length + b.length) 0) (by omega) (lm_zeros _) (by simp) (by rw [vl_zeros]; simp [vl]) (by rw [List.drop_replicate]; congr 1; omega)
  refine Ev.congr (fun k => ?_) this
  unfold impl_natMul.f
  have hw : wrap64 ((a.length : Int) + (b.length : Int)) = ((a.length + b.length : Nat) : Int) := by rw [wrap_in (by omega) (by omega)]; omega
  rw [hw, if_pos (by omega), if_pos (by omega), Int.toNat_natCast]; rfl
theorem small_loop : ∀ (d : Nat) (a : Int) (out : List Int), 0 ≤ a → a < 10000 ^ d → a ≤ 9223372036854775807 → out.length + d ≤ 1000 → Ev (fun k => spec_l01Small.l0 k a out) (out ++ nat a)
  | 0, a, out, h0, h1, h2, h3 => by
    have : a = 0 := by simp at h1; omega
    subst this
    refine Ev.step (f := fun _ => some out) (fun k => ?_) (by rw [nat_zero, List.append_nil]; exact Ev.now _)
    simp only [spec_l01Small.l0]; rw [if_neg (by omega)]
  | d + 1, a, out, h0, h1, h2, h3 => by
    by_cases h : a > 0
    · have e1 : wrap64 (Int.tdiv a 10000) = a / 10000 := by rw [tdiv_pos h0, wrap_in (by omega) (by omega)]
      have ih := small_loop d (a / 10000) (out ++ [a % 10000]) (by omega) (Int.ediv_lt_of_lt_mul (by omega) (by rw [Int.pow_succ] at h1; exact h1)) (by omega) (by simp; omega)
      have ih' : Ev (fun k => spec_l01Small.l0 k (a / 10000) (out ++ [a % 10000])) (out ++ nat a) := by
        rw [nat_pos h]; rw [List.append_assoc] at ih; exact ih
      refine Ev.step (fun k => ?_) ih'
      simp only [spec_l01Small.l0]; rw [if_pos h, if_pos (by omega), e1, tmod_pos h0]
    · refine Ev.step (f := fun _ => some out) (fun k => ?_) (by rw [nat_neg h, List.append_nil]; exact Ev.now _)
      simp only [spec_l01Small.l0]; rw [if_neg h]
theorem small_ev {a : Int} (h0 : 0 ≤ a) (h1 : a ≤ 10000) : Ev (fun k => spec_l01Small.f k a) (nat a) :=
  small_loop 2 a [] h0 (by simp; omega) (by omega) (by simp)

theorem cmpI_le (x y : Int) : (cmpI x y ≤ 0) ↔ x ≤ y := by unfold cmpI; split <;> (try split) <;> omega
theorem cmpI_ge (x y : Int) : (cmpI x y ≥ 0) ↔ y ≤ x := by unfold cmpI; split <;> (try split) <;> omega
theorem cmpI_eq (x y : Int) : (cmpI x y = 0) ↔ x = y := by unfold cmpI; split <;> (try split) <;> omega
theorem cmpE {x y : Int} (hx : 0 ≤ x) (hy : 0 ≤ y) {n : Nat} (hn : x < 10000 ^ n) (hb : n ≤ 1000000000) : Ev (fun k => spec_l01Cmp.f k (nat x) (nat y)) (cmpI x y) := by
  have h := l01Cmp_ev (nat x) (nat y) (by have := nat_len x n hn; omega)
  rw [ncmp_vl (nm_nat x) (nm_nat y), vl_nat x hx, vl_nat y hy] at h
  exact h
theorem mulE {x y : Int} (hx : 0 ≤ x) (hy : 0 ≤ y) {n m : Nat} (hn : x < 10000 ^ n) (hm : y < 10000 ^ m) (hb : n ≤ 1000000000) (hb' : m ≤ 1000000000) : Ev (fun k => spec_l01Mul.f k (nat x) (nat y)) (nat (x * y)) := by
  have h := spec_l01Mul_ev (lm_nat x) (lm_nat y) (by have := nat_len x n hn; omega) (by have := nat_len y m hm; omega)
  rw [vl_nat x hx, vl_nat y hy] at h
  exact h
theorem subE {x y : Int} (hx : 0 ≤ x) (hy : 0 ≤ y) (hle : y ≤ x) {n : Nat} (hn : x < 10000 ^ n) (hb : n ≤ 1000000000) : Ev (fun k => spec_l01Sub.f k (nat x) (nat y)) (nat (x - y)) := by
  have h := spec_l01Sub_ev (lm_nat x) (lm_nat y) (by have := nat_len x n hn; omega) (by rw [vl_nat x hx, vl_nat y hy]; exact hle)
  rw [vl_nat x hx, vl_nat y hy] at h
  exact h
theorem mul_lt2 {a b X Y : Int} (ha : 0 ≤ a ∧ a < X) (hb : 0 ≤ b ∧ b < Y) : 0 ≤ a * b ∧ a * b < X * Y := by
  refine ⟨Int.mul_nonneg ha.1 hb.1, ?_⟩
  have h1 : a * b ≤ a * (Y - 1) := Int.mul_le_mul_of_nonneg_left (by omega) ha.1
  have h2 : a * Y < X * Y := Int.mul_lt_mul_of_pos_right ha.2 (by omega)
  have h3 : a * (Y - 1) = a * Y - a := by rw [Int.mul_sub, Int.mul_one]
  omega

/-- One digit, by halving: B the divisor's number, R the rest's. -/
theorem div_inner {a out : List Int} {B R i : Int} {n : Nat} {res : List Int × List Int} (hB0 : 0 < B) (hBn : B < 10000 ^ n) (hn : n ≤ 1000000) (hR0 : 0 ≤ R) (hR1 : R < 10000 * B) (hi : 0 ≤ i ∧ i < out.length)
    (hres : Ev (fun k => spec_l01Div.l0 k a (nat B) (out.set i.toNat (R / B)) (nat (R % B)) (wrap64 (i - 1))) res) :
    ∀ (d : Nat) (lo hi : Int), 0 ≤ lo → lo < hi → hi ≤ 10000 → hi - lo ≤ d + 1 → lo * B ≤ R → R < hi * B → Ev (fun k => spec_l01Div.l1 k a (nat B) out (nat R) i lo hi) res := by
  have hRn : R < 10000 ^ (n + 1) := by
    have e : (10000 : Int) ^ (n + 1) = 10000 * 10000 ^ n := by rw [Int.pow_succ, Int.mul_comm]
    omega
  have base : ∀ (lo hi : Int), 0 ≤ lo → lo < hi → hi ≤ 10000 → hi - lo ≤ 1 → lo * B ≤ R → R < hi * B → Ev (fun k => spec_l01Div.l1 k a (nat B) out (nat R) i lo hi) res := by
    intro lo hi h0 h1 h2 h3 h4 h5
    have eh : hi = lo + 1 := by omega
    subst eh
    have q : lo = R / B := by
      have a1 : lo ≤ R / B := Int.le_ediv_of_mul_le hB0 h4
      have a2 : R / B < lo + 1 := Int.ediv_lt_of_lt_mul hB0 h5
      omega
    have hm0 : B * lo ≤ R := by rw [Int.mul_comm]; exact h4
    have hmm : 0 ≤ B * lo := Int.mul_nonneg (by omega) h0
    have em : R - B * lo = R % B := by rw [Int.emod_def, q]
    have s1 := small_ev h0 (by omega : lo ≤ 10000)
    have s2 := mulE (x := B) (y := lo) (by omega) h0 hBn (m := 1) (by simp; omega) (by omega) (by omega)
    have s3 := subE (x := R) (y := B * lo) hR0 hmm hm0 hRn (by omega)
    rw [em] at s3
    rw [← q] at hres
    refine Ev.step (f := fun k => (spec_l01Small.f k lo).bind fun t637 => ((spec_l01Mul.f k (nat B) t637).bind fun t640 => ((spec_l01Sub.f k (nat R) t640).bind fun t643 => spec_l01Div.l0 k a (nat B) (out.set i.toNat lo) t643 (wrap64 (i - 1))))) (fun k => ?_) (Ev.bind s1 (Ev.bind s2 (Ev.bind s3 hres)))
    simp only [spec_l01Div.l1]; rw [wrap_in (by omega) (by omega), if_neg (by omega), if_pos hi.1, if_pos hi.2]
  intro d
  induction d with
  | zero => intro lo hi h0 h1 h2 h3 h4 h5; exact base lo hi h0 h1 h2 (by omega) h4 h5
  | succ d ih =>
    intro lo hi' h0 h1 h2 h3 h4 h5
    by_cases hc : hi' - lo ≤ 1
    · exact base lo hi' h0 h1 h2 hc h4 h5
    obtain ⟨m, hm⟩ : ∃ m, m = (lo + hi') / 2 := ⟨_, rfl⟩
    have em : wrap64 (Int.tdiv (wrap64 (lo + hi')) 2) = m := by
      rw [wrap_in (x := lo + hi') (by omega) (by omega), Int.tdiv_eq_ediv_of_nonneg (by omega), wrap_in (by omega) (by omega), hm]
    have m0 : lo < m := by omega
    have m1 : m < hi' := by omega
    have s1 := small_ev (a := m) (by omega) (by omega)
    have s2 := mulE (x := B) (y := m) (by omega) (by omega) hBn (m := 1) (by simp; omega) (by omega) (by omega)
    have hmm : 0 ≤ B * m := Int.mul_nonneg (by omega) (by omega)
    have hmb : B * m < 10000 ^ (n + 1) := by
      have e : (10000 : Int) ^ (n + 1) = 10000 ^ n * 10000 := Int.pow_succ _ _
      have := (mul_lt2 (a := B) (b := m) (X := 10000 ^ n) (Y := 10000) ⟨by omega, hBn⟩ ⟨by omega, by omega⟩).2
      omega
    have s3 := cmpE (x := B * m) (y := R) hmm hR0 hmb (by omega)
    by_cases hle : B * m ≤ R
    · have s4 := ih m hi' (by omega) m1 h2 (by omega) (by rw [Int.mul_comm]; exact hle) h5
      refine Ev.step (f := fun k => (spec_l01Small.f k m).bind fun t646 => ((spec_l01Mul.f k (nat B) t646).bind fun t649 => ((spec_l01Cmp.f k t649 (nat R)).bind fun t652 => (if t652 ≤ 0 then (spec_l01Div.l1 k a (nat B) out (nat R) i m hi') else (spec_l01Div.l1 k a (nat B) out (nat R) i lo m))))) (fun k => ?_) (Ev.bind s1 (Ev.bind s2 (Ev.bind s3 (Ev.congr (fun k => if_pos ((cmpI_le _ _).2 hle)) s4))))
      simp only [spec_l01Div.l1]; rw [wrap_in (x := hi' - lo) (by omega) (by omega), if_pos (by omega), em]
    · have s4 := ih lo m h0 m0 (by omega) (by omega) h4 (by rw [Int.mul_comm]; omega)
      refine Ev.step (f := fun k => (spec_l01Small.f k m).bind fun t646 => ((spec_l01Mul.f k (nat B) t646).bind fun t649 => ((spec_l01Cmp.f k t649 (nat R)).bind fun t652 => (if t652 ≤ 0 then (spec_l01Div.l1 k a (nat B) out (nat R) i m hi') else (spec_l01Div.l1 k a (nat B) out (nat R) i lo m))))) (fun k => ?_) (Ev.bind s1 (Ev.bind s2 (Ev.bind s3 (Ev.congr (fun k => if_neg (fun h => hle ((cmpI_le _ _).1 h))) s4))))
      simp only [spec_l01Div.l1]; rw [wrap_in (x := hi' - lo) (by omega) (by omega), if_pos (by omega), em]

theorem div_loop {a : List Int} {B : Int} {n : Nat} (la : Lm a) (hla : a.length ≤ 1000000) (hB0 : 0 < B) (hBn : B < 10000 ^ n) (hn : n ≤ 1000000) :
    ∀ (d : Nat) (D : List Int) (r : Int), d ≤ a.length → Lm D → D.length = a.length - d → 0 ≤ r → r < B → vl (a.drop d) = vl D * B + r →
    Ev (fun k => spec_l01Div.l0 k a (nat B) (List.replicate d 0 ++ D) (nat r) ((d : Int) - 1)) (nat (vl a / B), nat (vl a % B)) := by
  intro d
  induction d with
  | zero =>
    intro D r hd lD hl h0 h1 hv
    rw [List.drop_zero] at hv
    have q : vl a / B = vl D := by
      rw [hv, Int.add_comm, Int.add_mul_ediv_right _ _ (by omega), Int.ediv_eq_zero_of_lt h0 h1]; omega
    have q2 : vl a % B = r := by rw [hv, Int.add_comm, Int.add_mul_emod_self_right, Int.emod_eq_of_lt h0 h1]
    rw [q, q2]
    have e : D.take (tlen D D.length) = nat (vl D) := take_tlen lD
    refine Ev.step (f := fun _ => some (nat (vl D), nat r)) (fun k => ?_) (Ev.now _)
    simp only [spec_l01Div.l0, List.replicate_zero, List.nil_append]; rw [if_neg (by omega), specTrim _ (by omega), e]; rfl
  | succ d ih =>
    intro D r hd lD hl h0 h1 hv
    have hi : d < a.length := by omega
    obtain ⟨y, hy, hy0⟩ : ∃ y, rd a (d : Int) = y ∧ 0 ≤ y ∧ y < 10000 := ⟨_, rfl, rd_lm la _⟩
    have hdr : a.drop d = y :: a.drop (d + 1) := by rw [drop_cons hi, hy]
    obtain ⟨R, hR⟩ : ∃ R, R = y + 10000 * r := ⟨_, rfl⟩
    have hR0 : 0 ≤ R := by omega
    have hR1 : R < 10000 * B := by omega
    have hvd : vl (a.drop d) = (10000 * vl D) * B + R := by
      rw [hdr, vl, hv, hR, Int.mul_add, Int.mul_assoc]; omega
    have hrn : r < 10000 ^ n := by omega
    have hlr : (nat r).length ≤ n := nat_len r n hrn
    have l1 : Lm ([y] ++ nat r) := Lm.append (Lm.cons hy0.1 hy0.2 Lm.nil) (lm_nat r)
    have e1 : spec_l01Trim.f ([y] ++ nat r) = some (nat R) := by
      rw [specTrim _ (by simp; omega), take_tlen l1, vl_append]; simp only [vl, List.length_singleton]
      rw [vl_nat r h0, hR]; congr 2; omega
    have hRn : R < 10000 ^ (n + 1) := by
      have e : (10000 : Int) ^ (n + 1) = 10000 * 10000 ^ n := by rw [Int.pow_succ, Int.mul_comm]
      omega
    have s1 := cmpE (x := R) (y := B) hR0 (by omega) hRn (by omega)
    have ew : wrap64 ((d : Int) - 1) = (d : Int) - 1 := by rw [wrap_in (by omega) (by omega)]
    have ei : (((d + 1 : Nat) : Int) - 1) = (d : Int) := by omega
    have eo : List.replicate (d + 1) 0 ++ D = List.replicate d 0 ++ (0 :: D) := by rw [List.replicate_succ', List.append_assoc]; rfl
    have hol : (List.replicate (d + 1) (0 : Int) ++ D).length = a.length := by simp; omega
    by_cases hlt : R < B
    · have s2 := ih (0 :: D) R (by omega) (Lm.cons (by omega) (by omega) lD) (by simp; omega) hR0 hlt (by rw [hvd]; simp only [vl]; congr 2; omega)
      refine Ev.step (f := fun k => (spec_l01Cmp.f k (nat R) (nat B)).bind fun t635 => (if t635 < 0 then (spec_l01Div.l0 k a (nat B) (List.replicate (d + 1) 0 ++ D) (nat R) ((d : Int) - 1)) else (spec_l01Div.l1 k a (nat B) (List.replicate (d + 1) 0 ++ D) (nat R) d 0 10000))) (fun k => ?_) (Ev.bind s1 (Ev.congr (fun k => if_pos ((cmpI_neg _ _).2 hlt)) (by rw [eo]; exact s2)))
      simp only [spec_l01Div.l0, ei, ew]; rw [if_pos (by omega), if_pos (by omega), if_pos (by omega), hy]
      simp only [Option.bind_some]
      rw [if_pos (by simp; omega), e1]; rfl
    · have q0 : 0 ≤ R / B := Int.ediv_nonneg hR0 (by omega)
      have q1 : R / B < 10000 := Int.ediv_lt_of_lt_mul hB0 (by omega)
      have eset : (List.replicate (d + 1) 0 ++ D).set ((d : Int)).toNat (R / B) = List.replicate d 0 ++ (R / B :: D) := by
        rw [eo, Int.toNat_natCast, List.set_append_right _ _ (by simp)]; simp
      have s2 := ih (R / B :: D) (R % B) (by omega) (Lm.cons q0 q1 lD) (by simp; omega) (Int.emod_nonneg _ (by omega)) (Int.emod_lt_of_pos _ hB0) (by
        rw [hvd]; simp only [vl]
        have := Int.emod_add_mul_ediv R B
        rw [Int.add_mul, Int.mul_comm (R / B) B]; omega)
      have s3 := div_inner (a := a) (out := List.replicate (d + 1) 0 ++ D) (i := (d : Int)) hB0 hBn hn hR0 hR1 ⟨by omega, by rw [hol]; omega⟩ (res := (nat (vl a / B), nat (vl a % B))) (by rw [eset, ew]; exact s2) 10000 0 10000 (by omega) (by omega) (by omega) (by omega) (by omega) hR1
      refine Ev.step (f := fun k => (spec_l01Cmp.f k (nat R) (nat B)).bind fun t635 => (if t635 < 0 then (spec_l01Div.l0 k a (nat B) (List.replicate (d + 1) 0 ++ D) (nat R) ((d : Int) - 1)) else (spec_l01Div.l1 k a (nat B) (List.replicate (d + 1) 0 ++ D) (nat R) d 0 10000))) (fun k => ?_) (Ev.bind s1 (Ev.congr (fun k => if_neg (fun h => hlt ((cmpI_neg _ _).1 h))) s3))
      simp only [spec_l01Div.l0, ei, ew]; rw [if_pos (by omega), if_pos (by omega), if_pos (by omega), hy]
      simp only [Option.bind_some]
      rw [if_pos (by simp; omega), e1]; rfl
theorem divE {A B : Int} (hA : 0 ≤ A) (hB : 0 < B) {n m : Nat} (hn : A < 10000 ^ n) (hm : B < 10000 ^ m) (hn' : n ≤ 1000000) (hm' : m ≤ 1000000) : Ev (fun k => spec_l01Div.f k (nat A) (nat B)) (nat (A / B), nat (A % B)) := by
  have hl := nat_len A n hn
  have h := div_loop (a := nat A) (lm_nat A) (by omega) hB hm hm' (nat A).length [] 0 (by omega) Lm.nil (by simp) (by omega) hB (by rw [List.drop_length]; simp [vl])
  rw [vl_nat A hA, nat_zero, List.append_nil] at h
  refine Ev.congr (fun k => ?_) h
  unfold spec_l01Div.f
  rw [if_pos (by omega), if_pos (by omega), Int.toNat_natCast, wrap_in (by omega) (by omega)]
theorem divI {A B : Int} (hA : 0 ≤ A) (hB : 0 < B) {n : Nat} (hn : A < 10000 ^ n) (hn' : n ≤ 1000000) : impl_natDiv.f (nat A) (nat B) = some (nat (A / B), nat (A % B)) := by
  have hl := nat_len A n hn
  unfold impl_natDiv.f
  rw [if_pos ⟨(impl_natDiv.okB_iff _).2 (nm_nat A), (impl_natDiv.okB_iff _).2 (nm_nat B), fun e => by have := nat_eq_nil e; omega, by omega⟩, vl_nat A hA, vl_nat B (by omega)]

/-- The greatest common divisor of two numbers that are not below 0. -/
def gcdI (x y : Int) : Int := ((Nat.gcd x.toNat y.toNat : Nat) : Int)
theorem gcdI_step {x y : Int} (hx : 0 ≤ x) (hy : 0 < y) : gcdI y (x % y) = gcdI x y := by
  obtain ⟨m, rfl⟩ := Int.eq_ofNat_of_zero_le hx
  obtain ⟨n, rfl⟩ := Int.eq_ofNat_of_zero_le (Int.le_of_lt hy)
  unfold gcdI
  have e : ((m : Int) % (n : Int)) = ((m % n : Nat) : Int) := by omega
  rw [e, Int.toNat_natCast, Int.toNat_natCast, Int.toNat_natCast, Nat.gcd_comm n, ← Nat.gcd_rec, Nat.gcd_comm]
theorem gcdI_zero {x : Int} (hx : 0 ≤ x) : gcdI x 0 = x := by
  unfold gcdI; simp; omega
theorem len_pos {y : Int} (hy : 0 < y) : ((nat y).length : Int) > 0 := by
  have : (nat y).length ≠ 0 := fun e => by have := nat_eq_nil (List.length_eq_zero_iff.1 e); omega
  omega
theorem gcdI_ev : ∀ (n : Nat) (x y : Int), y.toNat ≤ n → 0 ≤ x → x < 10000 ^ 1000 → 0 ≤ y → y < 10000 ^ 1000 → Ev (fun k => impl_natGcd.l0 k (nat x) (nat y)) (nat (gcdI x y)) := by
  intro n
  induction n with
  | zero =>
    intro x y h0 hx hxb hy hyb
    have : y = 0 := by omega
    subst this
    rw [gcdI_zero hx, nat_zero]
    refine Ev.step (f := fun _ => some (nat x)) (fun k => ?_) (Ev.now _)
    simp only [impl_natGcd.l0, List.length_nil]; rw [if_neg (by omega)]
  | succ n ih =>
    intro x y h0 hx hxb hy hyb
    by_cases hy0 : y = 0
    · subst hy0
      rw [gcdI_zero hx, nat_zero]
      refine Ev.step (f := fun _ => some (nat x)) (fun k => ?_) (Ev.now _)
      simp only [impl_natGcd.l0, List.length_nil]; rw [if_neg (by omega)]
    · have hp : 0 < y := by omega
      have q2 : 0 ≤ x % y := Int.emod_nonneg _ (by omega)
      have q3 : x % y < y := Int.emod_lt_of_pos _ hp
      have s := ih y (x % y) (by omega) hy hyb q2 (by omega)
      rw [gcdI_step hx hp] at s
      refine Ev.step (fun k => ?_) s
      simp only [impl_natGcd.l0]
      rw [if_pos (len_pos hp), divI hx hp hxb (by omega)]; rfl
theorem gcdS_ev : ∀ (n : Nat) (x y : Int), y.toNat ≤ n → 0 ≤ x → x < 10000 ^ 1000 → 0 ≤ y → y < 10000 ^ 1000 → Ev (fun k => spec_l01Gcd.l0 k (nat x) (nat y)) (nat (gcdI x y)) := by
  have fin : ∀ x : Int, 0 ≤ x → x < 10000 ^ 1000 → Ev (fun k => spec_l01Gcd.l0 k (nat x) (nat 0)) (nat (gcdI x 0)) := by
    intro x hx hxb
    rw [gcdI_zero hx, nat_zero]
    refine Ev.step (f := fun _ => some (nat x)) (fun k => ?_) (Ev.now _)
    have := nat_len x 1000 hxb
    simp only [spec_l01Gcd.l0, List.length_nil, Option.bind_some, List.nil_append]; rw [if_neg (by omega), if_pos (by omega)]
  intro n
  induction n with
  | zero =>
    intro x y h0 hx hxb hy hyb
    have : y = 0 := by omega
    subst this
    exact fin x hx hxb
  | succ n ih =>
    intro x y h0 hx hxb hy hyb
    by_cases hy0 : y = 0
    · subst hy0
      exact fin x hx hxb
    · have hp : 0 < y := by omega
      have q2 : 0 ≤ x % y := Int.emod_nonneg _ (by omega)
      have q3 : x % y < y := Int.emod_lt_of_pos _ hp
      have s := ih y (x % y) (by omega) hy hyb q2 (by omega)
      rw [gcdI_step hx hp] at s
      refine Ev.step (f := fun k => (spec_l01Div.f k (nat x) (nat y)).bind fun bt759 => (spec_l01Gcd.l0 k (nat y) bt759.2)) (fun k => ?_) (Ev.bind (divE hx hp hxb hyb (by omega) (by omega)) s)
      simp only [spec_l01Gcd.l0]
      rw [if_pos (len_pos hp)]
def absI (x : Int) : Int := (x.natAbs : Int)
theorem absI_nonneg (x : Int) : 0 ≤ absI x := by unfold absI; omega
theorem absI_pos {x : Int} (h : 0 ≤ x) : absI x = x := by unfold absI; omega
theorem absI_neg {x : Int} (h : x ≤ 0) : absI x = -x := by unfold absI; omega
theorem absI_eq0 {x : Int} : absI x = 0 ↔ x = 0 := by unfold absI; omega
theorem gcdI_pos {a d : Int} (ha : 0 ≤ a) (hd : 0 < d) : 0 < gcdI a d ∧ a % gcdI a d = 0 ∧ d % gcdI a d = 0 ∧ gcdI (a / gcdI a d) (d / gcdI a d) = 1 ∧ gcdI a d ≤ d := by
  obtain ⟨m, rfl⟩ := Int.eq_ofNat_of_zero_le ha
  obtain ⟨n, rfl⟩ := Int.eq_ofNat_of_zero_le (Int.le_of_lt hd)
  unfold gcdI
  simp only [Int.toNat_natCast]
  have hn : 0 < n := by omega
  have hp : 0 < Nat.gcd m n := Nat.gcd_pos_of_pos_right m hn
  refine ⟨by omega, ?_, ?_, ?_, ?_⟩
  · have := Nat.mod_eq_zero_of_dvd (Nat.gcd_dvd_left m n); exact_mod_cast this
  · have := Nat.mod_eq_zero_of_dvd (Nat.gcd_dvd_right m n); exact_mod_cast this
  · have e := Nat.gcd_div (Nat.gcd_dvd_left m n) (Nat.gcd_dvd_right m n)
    rw [Nat.div_self hp] at e
    have e1 : ((m : Int) / ((Nat.gcd m n : Nat) : Int)).toNat = m / Nat.gcd m n := by rw [← Int.natCast_ediv, Int.toNat_natCast]
    have e2 : ((n : Int) / ((Nat.gcd m n : Nat) : Int)).toNat = n / Nat.gcd m n := by rw [← Int.natCast_ediv, Int.toNat_natCast]
    rw [e1, e2, e]; rfl
  · have := Nat.gcd_le_right m hn; omega
theorem gcdI_one {a : Int} (ha : 0 ≤ a) : gcdI a 1 = 1 := by unfold gcdI; simp

/-- N over D in lowest terms. -/
def lowZ (N D : Int) : Bool × List Int × List Int := (decide (N < 0), nat (absI N / gcdI (absI N) D), nat (D / gcdI (absI N) D))
/-- A right rational, of whatever length. -/
def RO (r : Bool × List Int × List Int) : Prop := Nm r.2.1 ∧ Nm r.2.2 ∧ r.2.2 ≠ [] ∧ (r.2.1 = [] → r.1 = false) ∧ gcdI (vl r.2.1) (vl r.2.2) = 1
/-- Its numerator with its sign. -/
def tp (r : Bool × List Int × List Int) : Int := if r.1 = true then -vl r.2.1 else vl r.2.1
def bt (r : Bool × List Int × List Int) : Int := vl r.2.2
theorem RO.bt {r : Bool × List Int × List Int} (h : RO r) : 0 < bt r := vl_pos h.2.1 h.2.2.1
theorem lowZ_ro {N D : Int} (hD : 0 < D) : RO (lowZ N D) := by
  obtain ⟨g1, g2, g3, g4, g5⟩ := gcdI_pos (absI_nonneg N) hD
  have q0 : 0 ≤ absI N / gcdI (absI N) D := Int.ediv_nonneg (absI_nonneg N) (by omega)
  have q1 : 0 < D / gcdI (absI N) D := by
    have := Int.le_ediv_of_mul_le g1 (show 1 * gcdI (absI N) D ≤ D by omega)
    omega
  unfold lowZ RO
  refine ⟨nm_nat _, nm_nat _, fun e => by have h0 := nat_eq_nil e; omega, fun e => ?_, ?_⟩
  · have h0 := nat_eq_nil e
    have h1 : absI N / gcdI (absI N) D = 0 := by omega
    have h2 := Int.emod_add_mul_ediv (absI N) (gcdI (absI N) D)
    rw [g2, h1] at h2
    have h3 : N = 0 := absI_eq0.1 (by omega)
    rw [h3]; rfl
  · simp only
    rw [vl_nat _ q0, vl_nat _ (by omega)]; exact g4
/-- Lowest terms out of a sign and two numbers that are not below 0. -/
def low (neg : Bool) (a d : Int) : Bool × List Int × List Int := (neg && decide (0 < a), nat (a / gcdI a d), nat (d / gcdI a d))
theorem low_eq {neg : Bool} {a d : Int} (ha : 0 ≤ a) : low neg a d = lowZ (if neg = true then -a else a) d := by
  unfold low lowZ
  cases neg with
  | false =>
    simp only [Bool.false_and, Bool.false_eq_true, if_false, absI_pos ha]
    rw [decide_eq_false (by omega)]
  | true =>
    simp only [Bool.true_and, if_true]
    rw [absI_neg (by omega), Int.neg_neg]
    congr 1
    by_cases h : 0 < a
    · rw [decide_eq_true h, decide_eq_true (by omega)]
    · rw [decide_eq_false h, decide_eq_false (by omega)]

theorem spec_l01Add_l0 (k : Nat) (a b out : List Int) (c i : Int) : spec_l01Add.l0 (k + 1) a b out c i = spec_l01Add.j1 k a b out c i (decide (i < (a.length : Int) ∨ i < (b.length : Int) ∨ c > 0)) := by
  simp only [spec_l01Add.l0]
  by_cases h1 : i < (a.length : Int)
  · rw [if_pos h1, decide_eq_true (.inl h1)]
  · rw [if_neg h1]
    by_cases h2 : i < (b.length : Int)
    · rw [if_pos h2, decide_eq_true (.inr (.inl h2))]
    · rw [if_neg h2]; congr 1; simp [h1, h2]
theorem spec_l01Add_l0t (k : Nat) (a b out : List Int) (c i : Int) (h : i < (a.length : Int) ∨ i < (b.length : Int) ∨ c > 0) : spec_l01Add.l0 (k + 1) a b out c i = spec_l01Add.j1 k a b out c i true := by
  rw [spec_l01Add_l0, decide_eq_true h]
theorem spec_l01Add_l0f (k : Nat) (a b out : List Int) (c i : Int) (h : ¬ (i < (a.length : Int) ∨ i < (b.length : Int) ∨ c > 0)) : spec_l01Add.l0 (k + 1) a b out c i = spec_l01Add.j1 k a b out c i false := by
  rw [spec_l01Add_l0, decide_eq_false h]
theorem spec_l01Add_loop {a b : List Int} (ha : Lm a) (hb : Lm b) (hla : a.length ≤ 1000000000) (hlb : b.length ≤ 1000000000) (d : Nat) :
    ∀ (i : Nat) (c : Int) (out : List Int), (a.length - i) + (b.length - i) + c.toNat ≤ d → 0 ≤ c → c ≤ 1 → out.length + (a.length - i) + (b.length - i) + c.toNat ≤ 4000000000 → i + (a.length - i) + (b.length - i) + c.toNat ≤ 4000000000 →
    Ev (fun k => spec_l01Add.l0 k a b out c i) (out ++ addL (a.drop i) (b.drop i) c) := by
  induction d with
  | zero =>
    intro i c out hd h0 h1 ho hi
    rw [drop_nil (l := a) (i := i) (by omega), drop_nil (l := b) (i := i) (by omega)]
    unfold addL
    rw [if_neg (by omega), List.append_nil]
    refine Ev.step (f := fun k => spec_l01Add.j1 k a b out c i false) (fun k => spec_l01Add_l0f k a b out c i (by omega)) ?_
    refine Ev.step (f := fun _ => some out) (fun k => by simp only [spec_l01Add.j1, Bool.false_eq_true, if_false]) (Ev.now _)
  | succ d ih =>
    intro i c out hd h0 h1 ho hi
    obtain ⟨x, hx, ra⟩ : ∃ x, rd a i = x ∧ 0 ≤ x ∧ x < 10000 := ⟨_, rfl, rd_lm ha i⟩
    obtain ⟨y, hy, rb⟩ : ∃ y, rd b i = y ∧ 0 ≤ y ∧ y < 10000 := ⟨_, rfl, rd_lm hb i⟩
    have hi9 : (i : Int) < 9223372036854775807 := by omega
    by_cases hia : i < a.length
    · refine Ev.step (f := fun k => spec_l01Add.j1 k a b out c i true) (fun k => spec_l01Add_l0t k a b out c i (by omega)) ?_
      by_cases hib : i < b.length
      · rw [drop_cons hia, drop_cons hib, addL, hx, hy]
        have := ih (i + 1) ((x + y + c) / 10000) (out ++ [(x + y + c) % 10000]) (by omega) (by omega) (by omega) (by simp; omega) (by omega)
        rw [List.append_assoc] at this
        refine Ev.step (fun k => ?_) this
        simp only [spec_l01Add.j1, if_true]; rw [if_pos (by omega), if_pos (by omega), if_pos (by omega), if_pos (by omega)]
        rw [hx, hy, wrap_in (x := c + x) (by omega) (by omega), wrap_in (by omega) (by omega), tmod_pos (by omega), tdiv_pos (by omega), wrap_in (by omega) (by omega), wsucc hi9]
        rw [show c + x + y = x + y + c by omega]
      · rw [drop_cons hia, drop_nil (l := b) (i := i) (by omega), addL, hx]
        have := ih (i + 1) ((x + c) / 10000) (out ++ [(x + c) % 10000]) (by omega) (by omega) (by omega) (by simp; omega) (by omega)
        rw [List.append_assoc, drop_nil (l := b) (i := i + 1) (by omega)] at this
        refine Ev.step (fun k => ?_) this
        simp only [spec_l01Add.j1, if_true]; rw [if_pos (by omega), if_pos (by omega), if_neg (by omega), if_pos (by omega)]
        rw [hx, wrap_in (x := c + x) (by omega) (by omega), tmod_pos (by omega), tdiv_pos (by omega), wrap_in (by omega) (by omega), wsucc hi9]
        rw [show c + x = x + c by omega]
    · by_cases hib : i < b.length
      · refine Ev.step (f := fun k => spec_l01Add.j1 k a b out c i true) (fun k => spec_l01Add_l0t k a b out c i (by omega)) ?_
        rw [drop_cons hib, drop_nil (l := a) (i := i) (by omega), addL, hy]
        have := ih (i + 1) ((y + c) / 10000) (out ++ [(y + c) % 10000]) (by omega) (by omega) (by omega) (by simp; omega) (by omega)
        rw [List.append_assoc, drop_nil (l := a) (i := i + 1) (by omega)] at this
        refine Ev.step (fun k => ?_) this
        simp only [spec_l01Add.j1, if_true]; rw [if_neg (by omega), if_pos (by omega), if_pos (by omega), if_pos (by omega)]
        rw [hy, wrap_in (x := c + y) (by omega) (by omega), tmod_pos (by omega), tdiv_pos (by omega), wrap_in (by omega) (by omega), wsucc hi9]
        rw [show c + y = y + c by omega]
      · rw [drop_nil (l := a) (i := i) (by omega), drop_nil (l := b) (i := i) (by omega), addL]
        by_cases hc : c > 0
        · rw [if_pos hc]
          refine Ev.step (f := fun k => spec_l01Add.j1 k a b out c i true) (fun k => spec_l01Add_l0t k a b out c i (by omega)) ?_
          have := ih (i + 1) (c / 10000) (out ++ [c % 10000]) (by omega) (by omega) (by omega) (by simp; omega) (by omega)
          rw [drop_nil (l := a) (i := i + 1) (by omega), drop_nil (l := b) (i := i + 1) (by omega), addL, if_neg (by omega), List.append_nil] at this
          refine Ev.step (fun k => ?_) this
          simp only [spec_l01Add.j1, if_true]; rw [if_neg (by omega), if_neg (by omega), if_pos (by omega)]
          rw [tmod_pos (by omega), tdiv_pos (by omega), wrap_in (by omega) (by omega), wsucc hi9]
        · rw [if_neg hc, List.append_nil]
          refine Ev.step (f := fun k => spec_l01Add.j1 k a b out c i false) (fun k => spec_l01Add_l0f k a b out c i (by omega)) ?_
          refine Ev.step (f := fun _ => some out) (fun k => by simp only [spec_l01Add.j1, Bool.false_eq_true, if_false]) (Ev.now _)
theorem spec_l01Add_ev {a b : List Int} (ha : Nm a) (hb : Nm b) (hla : a.length ≤ 1000000000) (hlb : b.length ≤ 1000000000) :
    Ev (fun k => spec_l01Add.f k a b) (nat (vl a + vl b)) := by
  have := spec_l01Add_loop ha.1 hb.1 hla hlb _ 0 0 [] (Nat.le_refl _) (by omega) (by omega) (by simp; omega) (by omega)
  rw [List.nil_append, List.drop_zero, List.drop_zero, addL_nat ha hb] at this
  exact this

theorem impl_natAdd_l0 (k : Nat) (a b out : List Int) (c i : Int) : impl_natAdd.l0 (k + 1) a b out c i = impl_natAdd.j1 k a b out c i (decide (i < (a.length : Int) ∨ i < (b.length : Int) ∨ c > 0)) := by
  simp only [impl_natAdd.l0]
  by_cases h0 : (a.length : Int) < (b.length : Int)
  · rw [if_pos h0]
    by_cases h2 : i < (b.length : Int)
    · rw [if_pos h2, decide_eq_true (.inr (.inl h2))]
    · rw [if_neg h2]; congr 1; rw [decide_eq_decide]; omega
  · rw [if_neg h0]
    by_cases h2 : i < (a.length : Int)
    · rw [if_pos h2, decide_eq_true (.inl h2)]
    · rw [if_neg h2]; congr 1; rw [decide_eq_decide]; omega
theorem impl_natAdd_l0t (k : Nat) (a b out : List Int) (c i : Int) (h : i < (a.length : Int) ∨ i < (b.length : Int) ∨ c > 0) : impl_natAdd.l0 (k + 1) a b out c i = impl_natAdd.j1 k a b out c i true := by
  rw [impl_natAdd_l0, decide_eq_true h]
theorem impl_natAdd_l0f (k : Nat) (a b out : List Int) (c i : Int) (h : ¬ (i < (a.length : Int) ∨ i < (b.length : Int) ∨ c > 0)) : impl_natAdd.l0 (k + 1) a b out c i = impl_natAdd.j1 k a b out c i false := by
  rw [impl_natAdd_l0, decide_eq_false h]
theorem impl_natAdd_loop {a b : List Int} (ha : Lm a) (hb : Lm b) (hla : a.length ≤ 1000000000) (hlb : b.length ≤ 1000000000) (d : Nat) :
    ∀ (i : Nat) (c : Int) (out : List Int), (a.length - i) + (b.length - i) + c.toNat ≤ d → 0 ≤ c → c ≤ 1 → out.length + (a.length - i) + (b.length - i) + c.toNat ≤ 4000000000 → i + (a.length - i) + (b.length - i) + c.toNat ≤ 4000000000 →
    Ev (fun k => impl_natAdd.l0 k a b out c i) (out ++ addL (a.drop i) (b.drop i) c) := by
  induction d with
  | zero =>
    intro i c out hd h0 h1 ho hi
    rw [drop_nil (l := a) (i := i) (by omega), drop_nil (l := b) (i := i) (by omega)]
    unfold addL
    rw [if_neg (by omega), List.append_nil]
    refine Ev.step (f := fun k => impl_natAdd.j1 k a b out c i false) (fun k => impl_natAdd_l0f k a b out c i (by omega)) ?_
    refine Ev.step (f := fun _ => some out) (fun k => by simp only [impl_natAdd.j1, Bool.false_eq_true, if_false]) (Ev.now _)
  | succ d ih =>
    intro i c out hd h0 h1 ho hi
    obtain ⟨x, hx, ra⟩ : ∃ x, rd a i = x ∧ 0 ≤ x ∧ x < 10000 := ⟨_, rfl, rd_lm ha i⟩
    obtain ⟨y, hy, rb⟩ : ∃ y, rd b i = y ∧ 0 ≤ y ∧ y < 10000 := ⟨_, rfl, rd_lm hb i⟩
    have hi9 : (i : Int) < 9223372036854775807 := by omega
    by_cases hia : i < a.length
    · refine Ev.step (f := fun k => impl_natAdd.j1 k a b out c i true) (fun k => impl_natAdd_l0t k a b out c i (by omega)) ?_
      by_cases hib : i < b.length
      · rw [drop_cons hia, drop_cons hib, addL, hx, hy]
        have := ih (i + 1) ((x + y + c) / 10000) (out ++ [(x + y + c) % 10000]) (by omega) (by omega) (by omega) (by simp; omega) (by omega)
        rw [List.append_assoc] at this
        refine Ev.step (fun k => ?_) this
        simp only [impl_natAdd.j1, if_true]; rw [if_pos (by omega), if_pos (by omega), if_pos (by omega), if_pos (by omega)]
        rw [hx, hy, wrap_in (x := c + x) (by omega) (by omega), wrap_in (by omega) (by omega), tmod_pos (by omega), tdiv_pos (by omega), wrap_in (by omega) (by omega), wsucc hi9]
        rw [show c + x + y = x + y + c by omega]
      · rw [drop_cons hia, drop_nil (l := b) (i := i) (by omega), addL, hx]
        have := ih (i + 1) ((x + c) / 10000) (out ++ [(x + c) % 10000]) (by omega) (by omega) (by omega) (by simp; omega) (by omega)
        rw [List.append_assoc, drop_nil (l := b) (i := i + 1) (by omega)] at this
        refine Ev.step (fun k => ?_) this
        simp only [impl_natAdd.j1, if_true]; rw [if_pos (by omega), if_pos (by omega), if_neg (by omega), if_pos (by omega)]
        rw [hx, wrap_in (x := c + x) (by omega) (by omega), tmod_pos (by omega), tdiv_pos (by omega), wrap_in (by omega) (by omega), wsucc hi9]
        rw [show c + x = x + c by omega]
    · by_cases hib : i < b.length
      · refine Ev.step (f := fun k => impl_natAdd.j1 k a b out c i true) (fun k => impl_natAdd_l0t k a b out c i (by omega)) ?_
        rw [drop_cons hib, drop_nil (l := a) (i := i) (by omega), addL, hy]
        have := ih (i + 1) ((y + c) / 10000) (out ++ [(y + c) % 10000]) (by omega) (by omega) (by omega) (by simp; omega) (by omega)
        rw [List.append_assoc, drop_nil (l := a) (i := i + 1) (by omega)] at this
        refine Ev.step (fun k => ?_) this
        simp only [impl_natAdd.j1, if_true]; rw [if_neg (by omega), if_pos (by omega), if_pos (by omega), if_pos (by omega)]
        rw [hy, wrap_in (x := c + y) (by omega) (by omega), tmod_pos (by omega), tdiv_pos (by omega), wrap_in (by omega) (by omega), wsucc hi9]
        rw [show c + y = y + c by omega]
      · rw [drop_nil (l := a) (i := i) (by omega), drop_nil (l := b) (i := i) (by omega), addL]
        by_cases hc : c > 0
        · rw [if_pos hc]
          refine Ev.step (f := fun k => impl_natAdd.j1 k a b out c i true) (fun k => impl_natAdd_l0t k a b out c i (by omega)) ?_
          have := ih (i + 1) (c / 10000) (out ++ [c % 10000]) (by omega) (by omega) (by omega) (by simp; omega) (by omega)
          rw [drop_nil (l := a) (i := i + 1) (by omega), drop_nil (l := b) (i := i + 1) (by omega), addL, if_neg (by omega), List.append_nil] at this
          refine Ev.step (fun k => ?_) this
          simp only [impl_natAdd.j1, if_true]; rw [if_neg (by omega), if_neg (by omega), if_pos (by omega)]
          rw [tmod_pos (by omega), tdiv_pos (by omega), wrap_in (by omega) (by omega), wsucc hi9]
        · rw [if_neg hc, List.append_nil]
          refine Ev.step (f := fun k => impl_natAdd.j1 k a b out c i false) (fun k => impl_natAdd_l0f k a b out c i (by omega)) ?_
          refine Ev.step (f := fun _ => some out) (fun k => by simp only [impl_natAdd.j1, Bool.false_eq_true, if_false]) (Ev.now _)
theorem impl_natAdd_ev {a b : List Int} (ha : Nm a) (hb : Nm b) (hla : a.length ≤ 1000000000) (hlb : b.length ≤ 1000000000) :
    Ev (fun k => impl_natAdd.f k a b) (nat (vl a + vl b)) := by
  have := impl_natAdd_loop ha.1 hb.1 hla hlb _ 0 0 [] (Nat.le_refl _) (by omega) (by omega) (by simp; omega) (by omega)
  rw [List.nil_append, List.drop_zero, List.drop_zero, addL_nat ha hb] at this
  exact this

theorem one_f : impl_one.f = some [1] := rfl
theorem nat_1 : nat 1 = [1] := by rw [nat_pos (by omega), show (1 : Int) % 10000 = 1 by rfl, show (1 : Int) / 10000 = 0 by rfl, nat_zero]
theorem clone_nat {l : List Int} (h : l.length ≤ 1000000) : slices_Clone_int_int.f l = some l := by unfold slices_Clone_int_int.f; rw [if_pos (by omega)]
theorem nat_lp {x : Int} (h : 0 ≤ x) : decide (((nat x).length : Int) > 0) = decide (0 < x) := by
  by_cases h0 : 0 < x
  · rw [decide_eq_true h0, decide_eq_true (len_pos h0)]
  · rw [decide_eq_false h0, nat_neg h0]; rfl
theorem p1000' {x : Int} (h : x < 10000 ^ 900) : x < 10000 ^ 1000 := Int.lt_of_lt_of_le h (pow_mono' (by omega))
theorem lowestE {neg : Bool} {a d : Int} (ha : 0 ≤ a) (hd : 0 < d) (hab : a < 10000 ^ 900) (hdb : d < 10000 ^ 900) : Ev (fun k => impl_lowest.f k neg (nat a) (nat d)) (low neg a d) := by
  obtain ⟨g1, g2, g3, g4, g5⟩ := gcdI_pos ha hd
  obtain ⟨K, h⟩ := gcdI_ev _ a d (Nat.le_refl _) ha (p1000' hab) (by omega) (p1000' hdb)
  have q0 : 0 ≤ a / gcdI a d := Int.ediv_nonneg ha (by omega)
  have q1 : a / gcdI a d ≤ a := Int.ediv_le_self _ ha
  have q2 : 0 ≤ d / gcdI a d := Int.ediv_nonneg (by omega) (by omega)
  have q3 : d / gcdI a d ≤ d := Int.ediv_le_self _ (by omega)
  have hl1 := nat_len a 900 hab
  have hl2 := nat_len d 900 hdb
  have hl3 := nat_len (a / gcdI a d) 900 (by omega)
  have hl4 := nat_len (d / gcdI a d) 900 (by omega)
  have e1 := divI (A := a) (B := gcdI a d) ha g1 hab (by omega)
  have e2 := divI (A := d) (B := gcdI a d) (by omega) g1 hdb (by omega)
  have hc : impl_natCmp.f (nat (gcdI a d)) [1] = some (cmpI (gcdI a d) 1) := by
    unfold impl_natCmp.f
    rw [← nat_1, ncmp_vl (nm_nat _) (nm_nat _), vl_nat _ (by omega), vl_nat 1 (by omega)]
  refine ⟨K, fun k hk => ?_⟩
  have h' := h k hk
  simp only at h'
  show impl_lowest.f k neg (nat a) (nat d) = _
  unfold impl_lowest.f
  simp only [impl_natGcd.f, h', one_f, Option.bind_some, hc]
  by_cases h1 : gcdI a d = 1
  · rw [if_pos ((cmpI_eq _ _).2 h1)]
    simp only [clone_nat (show (nat a).length ≤ 1000000 by omega), clone_nat (show (nat d).length ≤ 1000000 by omega), Option.bind_some, nat_lp ha, low, h1, Int.ediv_one]
    cases neg <;> simp
  · rw [if_neg (fun e => h1 ((cmpI_eq _ _).1 e))]
    simp only [e1, e2, clone_nat (show (nat (a / gcdI a d)).length ≤ 1000000 by omega), clone_nat (show (nat (d / gcdI a d)).length ≤ 1000000 by omega), Option.bind_some, nat_lp q0, low]
    have hp : decide (0 < a / gcdI a d) = decide (0 < a) := by
      have e := Int.emod_add_mul_ediv a (gcdI a d)
      rw [g2] at e
      by_cases h0 : 0 < a
      · have : 0 < a / gcdI a d := by
          rcases Int.lt_or_le 0 (a / gcdI a d) with h2 | h2
          · exact h2
          · have h3 : a / gcdI a d = 0 := by omega
            rw [h3] at e; omega
        rw [decide_eq_true h0, decide_eq_true this]
      · rw [decide_eq_false h0, decide_eq_false (by omega)]
    rw [hp]
    cases neg <;> simp
theorem makeE {neg : Bool} {a d : Int} (ha : 0 ≤ a) (hd : 0 < d) (hab : a < 10000 ^ 900) (hdb : d < 10000 ^ 900) : Ev (fun k => spec_l02Make.f k neg (nat a) (nat d)) (low neg a d) := by
  obtain ⟨g1, g2, g3, g4, g5⟩ := gcdI_pos ha hd
  obtain ⟨K, h⟩ := gcdS_ev _ a d (Nat.le_refl _) ha (p1000' hab) (by omega) (p1000' hdb)
  have q1 : a / gcdI a d ≤ a := Int.ediv_le_self _ ha
  have q0 : 0 ≤ a / gcdI a d := Int.ediv_nonneg ha (by omega)
  have hgb : gcdI a d < 10000 ^ 900 := by omega
  obtain ⟨K1, e1⟩ := divE (A := a) (B := gcdI a d) ha g1 hab hgb (by omega) (by omega)
  obtain ⟨K2, e2⟩ := divE (A := d) (B := gcdI a d) (by omega) g1 hdb hgb (by omega) (by omega)
  refine ⟨K + K1 + K2, fun k hk => ?_⟩
  have h' := h k (by omega)
  have e1' := e1 k (by omega)
  have e2' := e2 k (by omega)
  simp only at h' e1' e2'
  show spec_l02Make.f k neg (nat a) (nat d) = _
  unfold spec_l02Make.f
  simp only [spec_l01Gcd.f, h', e1', e2', Option.bind_some, nat_lp q0, low]
  have hp : decide (0 < a / gcdI a d) = decide (0 < a) := by
    have e := Int.emod_add_mul_ediv a (gcdI a d)
    rw [g2] at e
    by_cases h0 : 0 < a
    · have : 0 < a / gcdI a d := by
        rcases Int.lt_or_le 0 (a / gcdI a d) with h2 | h2
        · exact h2
        · have h3 : a / gcdI a d = 0 := by omega
          rw [h3] at e; omega
      rw [decide_eq_true h0, decide_eq_true this]
    · rw [decide_eq_false h0, decide_eq_false (by omega)]
  rw [hp]
  cases neg <;> simp
theorem natOf_loop : ∀ (d : Nat) (a : Int) (out : List Int), 0 ≤ a → a < 10000 ^ d → a ≤ 9223372036854775807 → out.length + d ≤ 1000 → Ev (fun k => impl_natOf.l0 k a out) (out ++ nat a)
  | 0, a, out, h0, h1, h2, h3 => by
    have : a = 0 := by simp at h1; omega
    subst this
    refine Ev.step (f := fun _ => some out) (fun k => ?_) (by rw [nat_zero, List.append_nil]; exact Ev.now _)
    simp only [impl_natOf.l0]; rw [if_neg (by omega)]
  | d + 1, a, out, h0, h1, h2, h3 => by
    by_cases h : a > 0
    · have e1 : wrap64 (Int.tdiv a 10000) = a / 10000 := by rw [tdiv_pos h0, wrap_in (by omega) (by omega)]
      have ih := natOf_loop d (a / 10000) (out ++ [a % 10000]) (by omega) (Int.ediv_lt_of_lt_mul (by omega) (by rw [Int.pow_succ] at h1; exact h1)) (by omega) (by simp; omega)
      have ih' : Ev (fun k => impl_natOf.l0 k (a / 10000) (out ++ [a % 10000])) (out ++ nat a) := by
        rw [nat_pos h]; rw [List.append_assoc] at ih; exact ih
      refine Ev.step (fun k => ?_) ih'
      simp only [impl_natOf.l0]; rw [if_pos h, if_pos (by omega), e1, tmod_pos h0]
    · refine Ev.step (f := fun _ => some out) (fun k => ?_) (by rw [nat_neg h, List.append_nil]; exact Ev.now _)
      simp only [impl_natOf.l0]; rw [if_neg h]
/-- A whole number as a rational. -/
def wholeR (n : Int) : Bool × List Int × List Int := (decide (n < 0), nat (absI n), [1])
theorem wholeE {n : Int} (h : -1000000000 ≤ n) (h2 : n ≤ 1000000000) : Ev (fun k => impl_whole.f k n) (wholeR n) := by
  obtain ⟨K, e⟩ := natOf_loop 3 (absI n) [] (absI_nonneg n) (by unfold absI; omega) (by unfold absI; omega) (by simp)
  refine ⟨K, fun k hk => ?_⟩
  have e' := e k hk
  simp only [List.nil_append] at e'
  show impl_whole.f k n = _
  unfold impl_whole.f wholeR
  by_cases h0 : n < 0
  · rw [if_pos h0, wrap_in (by omega) (by omega), ← absI_neg (by omega)]
    simp only [impl_natOf.f, e', one_f, Option.bind_some, decide_eq_true h0]
  · rw [if_neg h0]
    rw [absI_pos (by omega)] at e' ⊢
    simp only [impl_natOf.f, e', one_f, Option.bind_some, decide_eq_false h0]
theorem l02IntE {n : Int} (h : -1000000000 ≤ n) (h2 : n ≤ 1000000000) : Ev (fun k => spec_l02Int.f k n) (wholeR n) := by
  obtain ⟨K, e⟩ := small_loop 3 (absI n) [] (absI_nonneg n) (by unfold absI; omega) (by unfold absI; omega) (by simp)
  refine ⟨K, fun k hk => ?_⟩
  have e' := e k hk
  simp only [List.nil_append] at e'
  show spec_l02Int.f k n = _
  unfold spec_l02Int.f wholeR
  by_cases h0 : n < 0
  · rw [if_pos h0, wrap_in (by omega) (by omega), ← absI_neg (by omega)]
    simp only [spec_l01Small.f, e', Option.bind_some, decide_eq_true h0]
  · rw [if_neg h0]
    rw [absI_pos (by omega)] at e' ⊢
    simp only [spec_l01Small.f, e', Option.bind_some, decide_eq_false h0]
theorem wholeR_ro (n : Int) : RO (wholeR n) ∧ tp (wholeR n) = n ∧ bt (wholeR n) = 1 := by
  have h := nm_nat 1
  rw [nat_1] at h
  have hv : vl [1] = 1 := by simp [vl]
  have hn := vl_nat (absI n) (absI_nonneg n)
  refine ⟨⟨nm_nat _, h, by simp [wholeR], fun e => ?_, ?_⟩, ?_, hv⟩
  · have h0 := nat_eq_nil e
    unfold wholeR
    simp only [decide_eq_false_iff_not]
    unfold absI at h0; omega
  · show gcdI (vl (nat (absI n))) (vl [1]) = 1
    rw [hn, hv]; exact gcdI_one (absI_nonneg n)
  · unfold tp wholeR
    simp only [decide_eq_true_eq]
    rw [hn]; unfold absI
    split <;> omega

theorem len0' (b : List Int) : ((b.length : Int) = 0) ↔ b = [] := by
  rw [← List.length_eq_zero_iff]; omega
def ratOKB (r : Bool × List Int × List Int) : Bool := natOKB r.2.1 && (natOKB r.2.2 && (!decide (r.2.2 = []) && (!(r.1 && decide (r.2.1 = [])) && decide (gcdI (vl r.2.1) (vl r.2.2) = 1))))
theorem ratOKB_iff (r : Bool × List Int × List Int) : ratOKB r = true ↔ RO r ∧ r.2.1.length ≤ 40 ∧ r.2.2.length ≤ 40 := by
  unfold ratOKB RO
  simp only [Bool.and_eq_true, natOKB_iff, Bool.not_eq_true', decide_eq_false_iff_not, decide_eq_true_eq, Bool.and_eq_false_iff]
  constructor
  · rintro ⟨⟨a1, a2⟩, ⟨b1, b2⟩, c, d, e⟩
    exact ⟨⟨a2, b2, c, fun h => d.elim (fun z => z) (fun z => absurd h z), e⟩, a1, b1⟩
  · rintro ⟨⟨a2, b2, c, d, e⟩, a1, b1⟩
    exact ⟨⟨a1, a2⟩, ⟨b1, b2⟩, c, by
      by_cases h : r.2.1 = []
      · exact .inl (d h)
      · exact .inr h, e⟩
theorem nm_b {l : List Int} (h : Nm l) (hl : l.length ≤ 40) : vl l < 10000 ^ 1000 := Int.lt_of_lt_of_le (vl_lt h.1) (pow_mono' (by omega))
theorem implRatOK_ev (b : Bool) (n d : List Int) : Ev (fun k => impl_RatOK.f k b n d) (ratOKB (b, n, d)) := by
  by_cases h1 : natOKB n = true
  · by_cases h2 : natOKB d = true
    · by_cases h3 : d = []
      · refine ⟨1, fun k hk => ?_⟩
        obtain ⟨k, rfl⟩ : ∃ m, k = m + 1 := ⟨k - 1, by omega⟩
        show impl_RatOK.f (k + 1) b n d = _
        unfold impl_RatOK.f ratOKB
        simp only [impl_NatOK.f, h1, h2, Option.bind_some, if_true, impl_RatOK.j0]
        rw [if_pos ((len0' d).2 h3)]; simp [h3]
      · have m1 := natOKB_nm h1
        have m2 := natOKB_nm h2
        have hp := vl_pos m2 h3
        obtain ⟨K, e⟩ := gcdI_ev _ (vl n) (vl d) (Nat.le_refl _) (vl_nonneg m1.1) (nm_b m1 (natOKB_len h1)) (by omega) (nm_b m2 (natOKB_len h2))
        rw [nat_vl m1, nat_vl m2] at e
        have g := gcdI_pos (vl_nonneg m1.1) hp
        have hc : impl_natCmp.f (nat (gcdI (vl n) (vl d))) [1] = some (cmpI (gcdI (vl n) (vl d)) 1) := by
          unfold impl_natCmp.f
          rw [← nat_1, ncmp_vl (nm_nat _) (nm_nat _), vl_nat _ (by omega), vl_nat 1 (by omega)]
        have key : ∀ k, K ≤ k → impl_RatOK.j0 (k + 1) false b n d = some (decide (gcdI (vl n) (vl d) = 1)) := fun k hk => by
          have e' := e k hk
          simp only at e'
          simp only [impl_RatOK.j0, Bool.false_eq_true, if_false, impl_natGcd.f, e', one_f, Option.bind_some, hc]
          congr 1
          by_cases q : gcdI (vl n) (vl d) = 1
          · rw [decide_eq_true q]; exact beq_iff_eq.2 ((cmpI_eq _ _).2 q)
          · rw [decide_eq_false q]; exact beq_eq_false_iff_ne.2 (fun z => q ((cmpI_eq _ _).1 z))
        refine ⟨K + 1, fun k hk => ?_⟩
        obtain ⟨k, rfl⟩ : ∃ m, k = m + 1 := ⟨k - 1, by omega⟩
        have kk := key k (by omega)
        show impl_RatOK.f (k + 1) b n d = _
        unfold impl_RatOK.f ratOKB
        simp only [impl_NatOK.f, h1, h2, Option.bind_some, if_true, impl_Rat_isZero.f]
        rw [if_neg (fun z => h3 ((len0' d).1 z))]
        cases b with
        | false => simp [kk, h3]
        | true =>
          by_cases h4 : n = []
          · subst h4; simp [impl_RatOK.j0]
          · have : ((n.length : Int) == 0) = false := beq_eq_false_iff_ne.2 (fun z => h4 ((len0' n).1 z))
            simp [this, kk, h3, h4]
    · refine ⟨1, fun k hk => ?_⟩
      obtain ⟨k, rfl⟩ : ∃ m, k = m + 1 := ⟨k - 1, by omega⟩
      show impl_RatOK.f (k + 1) b n d = _
      unfold impl_RatOK.f ratOKB
      simp only [impl_NatOK.f, h1, Bool.eq_false_iff.2 h2, Option.bind_some, if_true, impl_RatOK.j0]; simp
  · refine ⟨1, fun k hk => ?_⟩
    obtain ⟨k, rfl⟩ : ∃ m, k = m + 1 := ⟨k - 1, by omega⟩
    show impl_RatOK.f (k + 1) b n d = _
    unfold impl_RatOK.f ratOKB
    simp only [impl_NatOK.f, Bool.eq_false_iff.2 h1, Option.bind_some, impl_RatOK.j0]; simp
theorem specRatOK_ev (b : Bool) (n d : List Int) (hn : n.length ≤ 1048576) (hd : d.length ≤ 1048576) : Ev (fun k => spec_RatOK.f k b n d) (ratOKB (b, n, d)) := by
  obtain ⟨K1, s1⟩ := specNatOK_ev n (by omega)
  obtain ⟨K2, s2⟩ := specNatOK_ev d (by omega)
  by_cases h1 : natOKB n = true
  · by_cases h2 : natOKB d = true
    · by_cases h3 : d = []
      · refine ⟨K1 + K2 + 1, fun k hk => ?_⟩
        obtain ⟨k, rfl⟩ : ∃ m, k = m + 1 := ⟨k - 1, by omega⟩
        have s1' := s1 (k + 1) (by omega)
        have s2' := s2 (k + 1) (by omega)
        simp only at s1' s2'
        show spec_RatOK.f (k + 1) b n d = _
        unfold spec_RatOK.f ratOKB
        simp only [s1', s2', h1, h2, Option.bind_some, if_true, spec_RatOK.j0]
        rw [if_pos ((len0' d).2 h3)]; simp [h3]
      · have m1 := natOKB_nm h1
        have m2 := natOKB_nm h2
        have hp := vl_pos m2 h3
        obtain ⟨K, e⟩ := gcdS_ev _ (vl n) (vl d) (Nat.le_refl _) (vl_nonneg m1.1) (nm_b m1 (natOKB_len h1)) (by omega) (nm_b m2 (natOKB_len h2))
        rw [nat_vl m1, nat_vl m2] at e
        have g := gcdI_pos (vl_nonneg m1.1) hp
        obtain ⟨K3, e3⟩ := cmpE (x := gcdI (vl n) (vl d)) (y := 1) (by omega) (by omega) (n := 1000) (by have := nm_b m2 (natOKB_len h2); omega) (by omega)
        rw [nat_1] at e3
        have key : ∀ k, K + K3 ≤ k → spec_RatOK.j0 (k + 1) false b n d = some (decide (gcdI (vl n) (vl d) = 1)) := fun k hk => by
          have e' := e k (by omega)
          have e3' := e3 k (by omega)
          simp only at e' e3'
          simp only [spec_RatOK.j0, Bool.false_eq_true, if_false, spec_l01Gcd.f, e', e3', Option.bind_some]
          congr 1
          by_cases q : gcdI (vl n) (vl d) = 1
          · rw [decide_eq_true q]; exact beq_iff_eq.2 ((cmpI_eq _ _).2 q)
          · rw [decide_eq_false q]; exact beq_eq_false_iff_ne.2 (fun z => q ((cmpI_eq _ _).1 z))
        refine ⟨K1 + K2 + K + K3 + 1, fun k hk => ?_⟩
        obtain ⟨k, rfl⟩ : ∃ m, k = m + 1 := ⟨k - 1, by omega⟩
        have s1' := s1 (k + 1) (by omega)
        have s2' := s2 (k + 1) (by omega)
        simp only at s1' s2'
        have kk := key k (by omega)
        show spec_RatOK.f (k + 1) b n d = _
        unfold spec_RatOK.f ratOKB
        simp only [s1', s2', h1, h2, Option.bind_some, if_true]
        rw [if_neg (fun z => h3 ((len0' d).1 z))]
        by_cases h4 : n = []
        · rw [if_pos ((len0' n).2 h4)]
          cases b with
          | false => simp [kk, h3]
          | true => subst h4; simp [spec_RatOK.j0]
        · rw [if_neg (fun z => h4 ((len0' n).1 z))]
          simp [kk, h3, h4]
    · refine ⟨K1 + K2 + 1, fun k hk => ?_⟩
      obtain ⟨k, rfl⟩ : ∃ m, k = m + 1 := ⟨k - 1, by omega⟩
      have s1' := s1 (k + 1) (by omega)
      have s2' := s2 (k + 1) (by omega)
      simp only at s1' s2'
      show spec_RatOK.f (k + 1) b n d = _
      unfold spec_RatOK.f ratOKB
      simp only [s1', s2', h1, Bool.eq_false_iff.2 h2, Option.bind_some, if_true, spec_RatOK.j0]; simp
  · refine ⟨K1 + 1, fun k hk => ?_⟩
    obtain ⟨k, rfl⟩ : ∃ m, k = m + 1 := ⟨k - 1, by omega⟩
    have s1' := s1 (k + 1) (by omega)
    simp only at s1'
    show spec_RatOK.f (k + 1) b n d = _
    unfold spec_RatOK.f ratOKB
    simp only [s1', Bool.eq_false_iff.2 h1, Option.bind_some, spec_RatOK.j0]; simp

/-- What is left of a size behind a rational. -/
def szR (n d : List Int) (left : Int) : Int := if left - n.length - d.length < 0 then -1 else left - n.length - d.length
theorem szRat_f (b : Bool) (n d : List Int) (left : Int) (hl : 0 ≤ left ∧ left ≤ 1048576) (hn : n.length ≤ maxLen) (hd : d.length ≤ maxLen) : laws_szRat.f b n d left = some (szR n d left) := by
  simp only [maxLen] at hn hd
  unfold laws_szRat.f laws_szIntS.f szR
  rw [wrap_in (x := left - n.length) (by omega) (by omega)]
  by_cases h1 : left - (n.length : Int) < 0
  · rw [if_pos h1, if_pos (by omega)]; rfl
  · rw [if_neg h1]
    simp only [Option.bind_some]
    rw [if_neg h1, wrap_in (by omega) (by omega)]
    by_cases h2 : left - (n.length : Int) - d.length < 0
    · rw [if_pos h2, if_pos h2]; rfl
    · rw [if_neg h2, if_neg h2]
      simp only [Option.bind_some]
      rw [if_neg h2]
theorem toRat_ev (b : Bool) (n d : List Int) (hn : n.length ≤ 1048576) (hd : d.length ≤ 1048576) : Ev (fun k => laws_toRat.f k b n d) (b, n, d) := by
  obtain ⟨K1, e1⟩ := toIntS_ev n hn
  obtain ⟨K2, e2⟩ := toIntS_ev d hd
  refine ⟨K1 + K2, fun k hk => ?_⟩
  have e1' := e1 k (by omega)
  have e2' := e2 k (by omega)
  simp only at e1' e2'
  show laws_toRat.f k b n d = _
  unfold laws_toRat.f
  simp only [e1', e2', Option.bind_some]
theorem eqRat_ev (r s : Bool × List Int × List Int) (hn : r.2.1.length ≤ 9223372036854775806) (hd : r.2.2.length ≤ 9223372036854775806) : Ev (fun k => laws_eqRat.f k r.1 r.2.1 r.2.2 s.1 s.2.1 s.2.2) (decide (r = s)) := by
  obtain ⟨b, n, d⟩ := r
  obtain ⟨b', n', d'⟩ := s
  obtain ⟨K1, e1⟩ := eqIntS_ev n n' hn
  obtain ⟨K2, e2⟩ := eqIntS_ev d d' hd
  refine ⟨K1 + K2, fun k hk => ?_⟩
  have e1' := e1 k (by omega)
  have e2' := e2 k (by omega)
  simp only at e1' e2'
  show laws_eqRat.f k b n d b' n' d' = _
  unfold laws_eqRat.f
  simp only [e1', e2', Option.bind_some]
  by_cases h1 : b = b'
  · by_cases h2 : n = n'
    · by_cases h3 : d = d' <;> simp [h1, h2, h3]
    · simp [h1, h2]
  · simp [h1]
theorem eqRat_self (r : Bool × List Int × List Int) (hn : r.2.1.length ≤ 9223372036854775806) (hd : r.2.2.length ≤ 9223372036854775806) : Ev (fun k => laws_eqRat.f k r.1 r.2.1 r.2.2 r.1 r.2.1 r.2.2) true := by
  have := eqRat_ev r r hn hd
  rw [decide_eq_true rfl] at this
  exact this

end Go.Proofs.Ytegbmillbbcmfaa.Pl
