-- several texts of this claim in one
import Derived.Test.YtacdaijalkkogaaPn
import Derived.Test.YtacdaijalkkogaaQa
import Derived.Test.YtacdaijalkkogaaQxdiv
import Derived.Test.YtacdaijalkkogaaQb
import Derived.Test.YtacdaijalkkogaaQc
import Derived.Test.YtacdaijalkkogaaQxrin
import Derived.Test.YtacdaijalkkogaaQd
import Derived.Test.YtacdaijalkkogaaQe
namespace Go.Proofs.Ytacdaijalkkogaa.Pl
open Go.RowKit Go.Proofs.Ytacdaijalkkogaa.Q Go.Proofs.Ytacdaijalkkogaa.Pn Go.Proofs.YtacdaijalkkogaaW.PrintWords Go.Proofs.YtacdaijalkkogaaW.PrintLast
set_option linter.unusedVariables false
set_option linter.unusedSimpArgs false
theorem wrap_in {x : Int} (h0 : -9223372036854775808 ≤ x) (h1 : x ≤ 9223372036854775807) : wrap64 x = x := by
  unfold wrap64; omega
theorem rd_nat (l : List Int) (i : Nat) : rd l (i : Int) = l[i]?.getD 0 := by simp [rd, List.getD_eq_getElem?_getD]
theorem drop_cons {l : List Int} {i : Nat} (h : i < l.length) : l.drop i = rd l (i : Int) :: l.drop (i + 1) := by
  rw [rd_nat, List.drop_eq_getElem_cons h]; simp [h]
theorem rd_lm {l : List Int} (h : Lm l) (i : Int) : 0 ≤ rd l i ∧ rd l i < 10000 := by
  unfold rd
  rw [List.getD_eq_getElem?_getD]
  cases e : l[i.toNat]? with
  | none => simp
  | some x => simp; exact h x (List.mem_of_getElem? e)
theorem tmod_pos {x : Int} (h : 0 ≤ x) : Int.tmod x 10000 = x % 10000 := Int.tmod_eq_emod_of_nonneg h
theorem tdiv_pos {x : Int} (h : 0 ≤ x) : Int.tdiv x 10000 = x / 10000 := Int.tdiv_eq_ediv_of_nonneg h
theorem wsucc {i : Nat} (h : (i : Int) < 9223372036854775807) : wrap64 ((i : Int) + 1) = ((i + 1 : Nat) : Int) := by rw [wrap_in (by omega) (by omega)]; omega
theorem in_some (a b c : Int) : spec_l01In.f a b c = some (decide (b ≤ a ∧ a ≤ c)) := by
  unfold spec_l01In.f
  by_cases h : b ≤ a
  · rw [if_pos h]; simp [h]
  · rw [if_neg h]; simp [h]
instance (l : List Int) : Decidable (Lm l) := by unfold Lm; infer_instance
theorem natOK_all (l : List Int) : (l.all fun x => !badLimb x) = decide (Lm l) := by
  by_cases h : Lm l
  · rw [decide_eq_true h, List.all_eq_true]
    intro x hx
    have := h x hx
    simp [badLimb]; omega
  · rw [decide_eq_false h, List.all_eq_false]
    by_cases h' : ∃ x, x ∈ l ∧ ¬ (0 ≤ x ∧ x < 10000)
    · obtain ⟨x, hx, hb⟩ := h'
      exact ⟨x, hx, by simp [badLimb]; omega⟩
    · exact absurd (fun x hx => Classical.byContradiction fun hc => h' ⟨x, hx, hc⟩) h
theorem last_getD (l : List Int) (h : l ≠ []) : l.getLast? = some (l[l.length - 1]?.getD 0) := by
  rw [List.getLast?_eq_getElem?]
  have : l.length - 1 < l.length := by have := List.length_pos_iff.2 h; omega
  simp [this]

theorem natOKB_iff (l : List Int) : natOKB l = true ↔ l.length ≤ 40 ∧ Nm l := by
  unfold natOKB Nm
  rw [natOK_all]
  by_cases h : l = []
  · subst h; simp [Lm]
  · rw [last_getD l h]
    have hl : l.length ≠ 0 := fun e => h (List.length_eq_zero_iff.1 e)
    simp [hl]
    constructor
    · rintro ⟨⟨a, b⟩, c⟩; exact ⟨a, c, b⟩
    · rintro ⟨a, c, b⟩; exact ⟨⟨a, b⟩, c⟩
theorem natOKB_nm {l : List Int} (h : natOKB l = true) : Nm l := ((natOKB_iff l).1 h).2
theorem natOKB_len {l : List Int} (h : natOKB l = true) : l.length ≤ 40 := ((natOKB_iff l).1 h).1

theorem specNatOK_ev (l : List Int) (h : l.length ≤ 4000000000000000000) : Ev (fun k => spec_NatOK.f k l) (natOKB l) := by
  by_cases hbig : (l.length : Int) > 4096
  · have e : natOKB l = false := by
      cases hb : natOKB l with
      | false => rfl
      | true => have := natOKB_len hb; omega
    rw [e]
    exact Ev.congr (fun k => by unfold spec_NatOK.f; rw [if_pos hbig]) (Ev.now false)
  · have loop : ∀ (d i : Nat), i + d = l.length → (∀ x ∈ l.take i, 0 ≤ x ∧ x < 10000) → Ev (fun k => spec_NatOK.l0 k l i) (natOKB l) := by
      intro d
      induction d with
      | zero =>
        intro i hi ht
        have hlm : Lm l := by rw [List.take_of_length_le (by omega)] at ht; exact ht
        have e : natOKB l = (decide (l.length ≤ 40) && (decide (l.length = 0) || !decide (l[l.length - 1]?.getD 0 = 0))) := by
          unfold natOKB; rw [natOK_all, decide_eq_true hlm, Bool.and_true]
        by_cases h40 : (l.length : Int) ≤ 40
        · by_cases h0 : (l.length : Int) = 0
          · refine Ev.step (f := fun _ => some true) (fun k => by simp only [spec_NatOK.l0]; rw [if_neg (by omega), if_pos h40, if_pos h0]) ?_
            rw [e]
            have h1 : l.length = 0 := by omega
            simp [h1]; exact Ev.now _
          · refine Ev.step (f := fun _ => some (natOKB l)) (fun k => ?_) (Ev.now _)
            simp only [spec_NatOK.l0]
            have hw : wrap64 ((l.length : Int) - 1) = ((l.length - 1 : Nat) : Int) := by rw [wrap_in (by omega) (by omega)]; omega
            rw [if_neg (by omega), if_pos h40, if_neg h0, hw, if_pos (by omega), if_pos (by omega), e, rd_nat]
            have h1 : l.length ≠ 0 := by omega
            have h2 := rd_lm hlm ((l.length - 1 : Nat) : Int)
            rw [rd_nat] at h2
            congr 1
            simp [h1, show l.length ≤ 40 by omega]
            rw [Bool.eq_iff_iff]; simp; omega
        · refine Ev.step (f := fun _ => some false) (fun k => by simp only [spec_NatOK.l0]; rw [if_neg (by omega), if_neg h40]) ?_
          rw [e, decide_eq_false (by omega), Bool.false_and]; exact Ev.now _
      | succ d ih =>
        intro i hi ht
        have hlt : i < l.length := by omega
        by_cases hx : 0 ≤ rd l i ∧ rd l i ≤ 9999
        · refine Ev.step (fun k => ?_) (ih (i + 1) (by omega) ?_)
          · simp only [spec_NatOK.l0]; rw [if_pos (by omega), if_pos (by omega), in_some]
            simp only [Option.bind_some]; rw [if_pos (by simpa using hx), wsucc (by omega)]
          · intro x hm
            rw [List.take_add_one] at hm
            rcases List.mem_append.1 hm with hm | hm
            · exact ht x hm
            · rw [rd_nat] at hx
              simp [hlt] at hm hx
              subst hm; omega
        · refine Ev.step (f := fun _ => some false) (fun k => ?_) ?_
          · simp only [spec_NatOK.l0]; rw [if_pos (by omega), if_pos (by omega), in_some]
            simp only [Option.bind_some]; rw [if_neg (by simpa using hx)]
          · have e : natOKB l = false := by
              cases hb : natOKB l with
              | false => rfl
              | true => have := rd_lm (natOKB_nm hb).1 i; omega
            rw [e]; exact Ev.now _
    refine Ev.congr (fun k => ?_) (loop l.length 0 (by omega) (by simp))
    unfold spec_NatOK.f
    rw [if_neg hbig]; rfl

theorem w_m1 : wrap64 (wrap64 (2 * 0) - 1) = -1 := by rw [wrap_in (x := 2 * 0) (by omega) (by omega), wrap_in (by omega) (by omega)]; rfl
theorem w_p1 : wrap64 (wrap64 (2 * 1) - 1) = 1 := by rw [wrap_in (x := 2 * 1) (by omega) (by omega), wrap_in (by omega) (by omega)]; rfl
theorem bit_some (b : Bool) : spec_l01Bit.f b = some (if b = true then 1 else 0) := by unfold spec_l01Bit.f; cases b <;> rfl
theorem l01Cmp_ev (a b : List Int) (ha : a.length ≤ 4000000000000000000) : Ev (fun k => spec_l01Cmp.f k a b) (ncmp a b) := by
  by_cases hl : a.length = b.length
  · have loop : ∀ (j : Nat), j ≤ a.length → Ev (fun k => spec_l01Cmp.l0 k a b ((j : Int) - 1)) (ncmpAux a b j) := by
      intro j
      induction j with
      | zero =>
        intro _
        exact Ev.step (f := fun _ => some 0) (fun k => by simp only [spec_l01Cmp.l0]; rw [if_neg (by omega)]) (Ev.now _)
      | succ j ih =>
        intro hj
        have e0 : (((j + 1 : Nat) : Int) - 1) = (j : Int) := by omega
        rw [e0]
        unfold ncmpAux
        by_cases he : a[j]?.getD 0 = b[j]?.getD 0
        · rw [if_pos he]
          refine Ev.step (fun k => ?_) (ih (by omega))
          simp only [spec_l01Cmp.l0]
          rw [if_pos (by omega), if_pos (by omega), if_pos (by omega), if_pos (by omega), rd_nat, rd_nat, if_pos he, wrap_in (by omega) (by omega)]
        · rw [if_neg he]
          refine Ev.step (f := fun _ => some (if a[j]?.getD 0 < b[j]?.getD 0 then -1 else 1)) (fun k => ?_) (Ev.now _)
          simp only [spec_l01Cmp.l0]
          rw [if_pos (by omega), if_pos (by omega), if_pos (by omega), if_pos (by omega), rd_nat, rd_nat, if_neg he, bit_some]
          by_cases hlt : a[j]?.getD 0 < b[j]?.getD 0
          · rw [if_pos hlt]
            have : decide (a[j]?.getD 0 > b[j]?.getD 0) = false := decide_eq_false (by omega)
            rw [this]; simp only [Bool.false_eq_true, if_false, if_true, Option.bind_some, w_m1, w_p1]
          · rw [if_neg hlt]
            have : decide (a[j]?.getD 0 > b[j]?.getD 0) = true := decide_eq_true (by omega)
            rw [this]; simp only [Bool.false_eq_true, if_false, if_true, Option.bind_some, w_m1, w_p1]
    have := loop a.length (Nat.le_refl _)
    refine Ev.congr (fun k => ?_) (show Ev _ (ncmp a b) from by unfold ncmp; rw [if_pos hl]; exact this)
    unfold spec_l01Cmp.f
    rw [if_pos (by omega), wrap_in (by omega) (by omega)]
  · refine Ev.congr (fun k => ?_) (Ev.now (ncmp a b))
    unfold spec_l01Cmp.f ncmp
    rw [if_neg (by omega), if_neg hl, bit_some]
    by_cases hlt : a.length < b.length
    · rw [if_pos hlt]
      have : decide ((a.length : Int) > (b.length : Int)) = false := decide_eq_false (by omega)
      rw [this]; simp only [Bool.false_eq_true, if_false, if_true, Option.bind_some, w_m1, w_p1]
    · rw [if_neg hlt]
      have : decide ((a.length : Int) > (b.length : Int)) = true := decide_eq_true (by omega)
      rw [this]; simp only [Bool.false_eq_true, if_false, if_true, Option.bind_some, w_m1, w_p1]
theorem drop_nil {l : List Int} {i : Nat} (h : l.length ≤ i) : l.drop i = [] := List.drop_eq_nil_of_le h
theorem ncmpAux_cons (x y : Int) (xs ys : List Int) : ∀ (k : Nat), ncmpAux (x :: xs) (y :: ys) (k + 1) = if ncmpAux xs ys k = 0 then (if x = y then 0 else if x < y then -1 else 1) else ncmpAux xs ys k
  | 0 => by simp [ncmpAux]
  | k + 1 => by
    rw [ncmpAux, ncmpAux_cons x y xs ys k]
    rw [show ncmpAux xs ys (k + 1) = if xs[k]?.getD 0 = ys[k]?.getD 0 then ncmpAux xs ys k else if xs[k]?.getD 0 < ys[k]?.getD 0 then -1 else 1 from rfl]
    simp only [List.getElem?_cons_succ]
    by_cases h1 : xs[k]?.getD 0 = ys[k]?.getD 0
    · rw [if_pos h1, if_pos h1]
    · rw [if_neg h1, if_neg h1]
      by_cases h2 : xs[k]?.getD 0 < ys[k]?.getD 0
      · rw [if_pos h2]; simp
      · rw [if_neg h2]; simp
theorem ncmpAux_vl : ∀ {a b : List Int}, Lm a → Lm b → a.length = b.length → ncmpAux a b a.length = cmpI (vl a) (vl b)
  | [], [], _, _, _ => by simp [ncmpAux, vl, cmpI]
  | x :: xs, y :: ys, ha, hb, hl => by
    have ih := ncmpAux_vl ha.tail hb.tail (by simpa using hl)
    have hx := ha.head; have hy := hb.head
    rw [List.length_cons, ncmpAux_cons, ih]
    unfold cmpI
    simp only [vl]
    split <;> split <;> (try split) <;> (try split) <;> (try split) <;> first | rfl | omega
theorem ncmp_vl {a b : List Int} (ha : Nm a) (hb : Nm b) : ncmp a b = cmpI (vl a) (vl b) := by
  unfold ncmp
  by_cases hl : a.length = b.length
  · rw [if_pos hl]; exact ncmpAux_vl ha.1 hb.1 hl
  · rw [if_neg hl]
    unfold cmpI
    by_cases h2 : a.length < b.length
    · rw [if_pos h2, if_pos (vl_lt_of_len ha.1 hb h2)]
    · have := vl_lt_of_len hb.1 ha (by omega)
      rw [if_neg h2, if_neg (by omega), if_neg (by omega)]

theorem take_trim (l : List Int) : ∀ (k : Nat), k ≤ l.length → l.take (tlen l k) = trim (l.take k)
  | 0, _ => by simp [tlen, trim]
  | k + 1, h => by
    have ih := take_trim l k (by omega)
    have hk : k < l.length := by omega
    have e : l.take (k + 1) = l.take k ++ [l[k]?.getD 0] := by rw [List.take_add_one]; simp [hk]
    unfold tlen
    by_cases h0 : l[k]?.getD 0 = 0
    · rw [if_pos h0, ih, e, h0, trim_snoc_zero]
    · rw [if_neg h0, trim_of_last]
      rw [e, List.getLast?_append]; simp; simpa [hk] using h0
theorem take_tlen {l : List Int} (h : Lm l) : l.take (tlen l l.length) = nat (vl l) := by
  rw [take_trim l l.length (Nat.le_refl _), List.take_length, trim_nat h]
theorem trimmed_ev (l : List Int) (h : l.length ≤ 4000000000) : Ev (fun k => impl_trimmed.f k l) (l.take (tlen l l.length)) := by
  have loop : ∀ (j : Nat), j ≤ l.length → Ev (fun k => impl_trimmed.l0 k l j) (l.take (tlen l j)) := by
    intro j
    induction j with
    | zero =>
      intro _
      refine Ev.step (f := fun _ => some (l.take 0)) (fun k => ?_) (Ev.now _)
      simp only [impl_trimmed.l0]; rw [if_neg (by omega), if_pos (by omega), if_pos (by omega)]; rfl
    | succ j ih =>
      intro hj
      have hw : wrap64 (((j + 1 : Nat) : Int) - 1) = (j : Int) := by rw [wrap_in (by omega) (by omega)]; omega
      unfold tlen
      by_cases h0 : l[j]?.getD 0 = 0
      · rw [if_pos h0]
        refine Ev.step (fun k => ?_) (ih (by omega))
        simp only [impl_trimmed.l0]; rw [hw, if_pos (by omega), if_pos (by omega), if_pos (by omega), rd_nat, if_pos h0]
      · rw [if_neg h0]
        refine Ev.step (f := fun _ => some (l.take (j + 1))) (fun k => ?_) (Ev.now _)
        simp only [impl_trimmed.l0]; rw [hw, if_pos (by omega), if_pos (by omega), if_pos (by omega), rd_nat, if_neg h0, if_pos (by omega), if_pos (by omega)]; rfl
  exact loop l.length (Nat.le_refl _)
theorem specTrim (l : List Int) (h : l.length ≤ 4000000000) : spec_l01Trim.f l = some (l.take (tlen l l.length)) := by
  unfold spec_l01Trim.f; rw [if_pos (by omega)]

theorem cmpI_neg (x y : Int) : (cmpI x y < 0) ↔ x < y := by unfold cmpI; split <;> (try split) <;> omega

theorem set_mid {l r : List Int} {x v : Int} {i : Nat} (h : l.length = i) : (l ++ x :: r).set i v = l ++ v :: r := by
  rw [List.set_append_right _ _ (by omega), show i - l.length = 0 by omega, List.set_cons_zero]
theorem rd_mid {l r : List Int} {x : Int} {i : Nat} (h : l.length = i) : rd (l ++ x :: r) i = x := by
  rw [rd_nat, List.getElem?_append_right (by omega), show i - l.length = 0 by omega]; rfl

theorem spec_l01Sub_loop {a b : List Int} (ha : Lm a) (hb : Lm b) (hla : a.length ≤ 1000000000) (d : Nat) :
    ∀ (i : Nat) (c : Int) (out : List Int), i + d = a.length → 0 ≤ c → c ≤ 1 → out.length = i →
    Ev (fun k => spec_l01Sub.l0 k a b out c i) ((out ++ subL (a.drop i) (b.drop i) c).take (tlen (out ++ subL (a.drop i) (b.drop i) c) (out ++ subL (a.drop i) (b.drop i) c).length)) := by
  induction d with
  | zero =>
    intro i c out hd h0 h1 ho
    rw [drop_nil (l := a) (by omega), subL, List.append_nil]
    refine Ev.step (f := fun _ => some (out.take (tlen out out.length))) (fun k => ?_) (Ev.now _)
    simp only [spec_l01Sub.l0]; rw [if_neg (by omega), specTrim _ (by omega)]; rfl
  | succ d ih =>
    intro i c out hd h0 h1 ho
    obtain ⟨x, hx, ra⟩ : ∃ x, rd a i = x ∧ 0 ≤ x ∧ x < 10000 := ⟨_, rfl, rd_lm ha i⟩
    obtain ⟨y, hy, rb⟩ : ∃ y, rd b i = y ∧ 0 ≤ y ∧ y < 10000 := ⟨_, rfl, rd_lm hb i⟩
    have hi9 : (i : Int) < 9223372036854775807 := by omega
    by_cases hib : i < b.length
    · rw [drop_cons (l := a) (by omega), drop_cons hib, subL, hx, hy]
      have := ih (i + 1) (if x - c - y < 0 then 1 else 0) (out ++ [(x - c - y) % 10000]) (by omega) (by split <;> omega) (by split <;> omega) (by simp [ho])
      rw [List.append_assoc] at this
      refine Ev.step (fun k => ?_) this
      simp only [spec_l01Sub.l0]; rw [if_pos (by omega), if_pos (by omega), if_pos (by omega), bit_some]
      simp only [Option.bind_some]
      rw [if_pos (by omega), hx, hy, wrap_in (x := x - c) (by omega) (by omega), wrap_in (x := x - c - y) (by omega) (by omega), wsucc hi9]
      by_cases hn : x - c - y < 0
      · rw [decide_eq_true hn, if_pos hn]
        simp only [if_true]
        rw [wrap_in (x := 1 * 10000) (by omega) (by omega), wrap_in (by omega) (by omega), show x - c - y + 1 * 10000 = (x - c - y) % 10000 by omega]
      · rw [decide_eq_false hn, if_neg hn]
        simp only [Bool.false_eq_true, if_false]
        rw [wrap_in (x := 0 * 10000) (by omega) (by omega), wrap_in (by omega) (by omega), show x - c - y + 0 * 10000 = (x - c - y) % 10000 by omega]
    · rw [drop_cons (l := a) (by omega), drop_nil (l := b) (i := i) (by omega), subL, hx]
      have := ih (i + 1) (if x - c < 0 then 1 else 0) (out ++ [(x - c) % 10000]) (by omega) (by split <;> omega) (by split <;> omega) (by simp [ho])
      rw [List.append_assoc, drop_nil (l := b) (i := i + 1) (by omega)] at this
      refine Ev.step (fun k => ?_) this
      simp only [spec_l01Sub.l0]; rw [if_pos (by omega), if_pos (by omega), if_neg (by omega), bit_some]
      simp only [Option.bind_some]
      rw [if_pos (by omega), hx, wrap_in (x := x - c) (by omega) (by omega), wsucc hi9]
      by_cases hn : x - c < 0
      · rw [decide_eq_true hn, if_pos hn]
        simp only [if_true]
        rw [wrap_in (x := 1 * 10000) (by omega) (by omega), wrap_in (by omega) (by omega), show x - c + 1 * 10000 = (x - c) % 10000 by omega]
      · rw [decide_eq_false hn, if_neg hn]
        simp only [Bool.false_eq_true, if_false]
        rw [wrap_in (x := 0 * 10000) (by omega) (by omega), wrap_in (by omega) (by omega), show x - c + 0 * 10000 = (x - c) % 10000 by omega]
theorem spec_l01Sub_ev {a b : List Int} (ha : Lm a) (hb : Lm b) (hla : a.length ≤ 1000000000) (h : vl b ≤ vl a) : Ev (fun k => spec_l01Sub.f k a b) (nat (vl a - vl b)) := by
  have := spec_l01Sub_loop ha hb hla a.length 0 0 [] (by omega) (by omega) (by omega) rfl
  rw [List.nil_append, List.drop_zero, List.drop_zero, take_tlen (subL_lm _ _ _), subL_vl ha hb (by omega) (by omega) (by omega), Int.sub_zero] at this
  exact this
theorem impl_natSub_loop {a b : List Int} (ha : Lm a) (hb : Lm b) (hla : a.length ≤ 1000000000) (d : Nat) :
    ∀ (i : Nat) (c : Int) (out : List Int), i + d = a.length → 0 ≤ c → c ≤ 1 → out.length = i →
    Ev (fun k => impl_natSub.l0 k b (out ++ a.drop i) c a.length i) ((out ++ subL (a.drop i) (b.drop i) c).take (tlen (out ++ subL (a.drop i) (b.drop i) c) (out ++ subL (a.drop i) (b.drop i) c).length)) := by
  induction d with
  | zero =>
    intro i c out hd h0 h1 ho
    rw [drop_nil (l := a) (by omega), subL, List.append_nil]
    obtain ⟨K, hK⟩ := trimmed_ev out (by omega)
    refine ⟨K + 1, fun k hk => ?_⟩
    obtain ⟨k, rfl⟩ : ∃ m, k = m + 1 := ⟨k - 1, by omega⟩
    have hK := hK k (by omega)
    simp only at hK ⊢
    simp only [impl_natSub.l0]; rw [if_neg (by omega), hK]; rfl
  | succ d ih =>
    intro i c out hd h0 h1 ho
    obtain ⟨x, hx, ra⟩ : ∃ x, rd a i = x ∧ 0 ≤ x ∧ x < 10000 := ⟨_, rfl, rd_lm ha i⟩
    obtain ⟨y, hy, rb⟩ : ∃ y, rd b i = y ∧ 0 ≤ y ∧ y < 10000 := ⟨_, rfl, rd_lm hb i⟩
    have hi9 : (i : Int) < 9223372036854775807 := by omega
    have ea := drop_cons (l := a) (i := i) (by omega)
    rw [hx] at ea
    have hlen : (out ++ x :: a.drop (i + 1)).length = a.length := by simp; omega
    by_cases hib : i < b.length
    · rw [ea, drop_cons hib, subL, hy]
      have := ih (i + 1) (if x - c - y < 0 then 1 else 0) (out ++ [(x - c - y) % 10000]) (by omega) (by split <;> omega) (by split <;> omega) (by simp [ho])
      rw [List.append_assoc, List.append_assoc] at this
      refine Ev.step (fun k => ?_) this
      simp only [impl_natSub.l0]; rw [if_pos (by omega), if_pos (by omega), if_pos (by omega), if_pos (by omega)]
      rw [rd_mid ho, hy, wrap_in (x := x - c) (by omega) (by omega), wrap_in (x := x - c - y) (by omega) (by omega), wsucc hi9, Int.toNat_natCast, set_mid ho, set_mid ho]
      by_cases hn : x - c - y < 0
      · rw [if_pos hn, if_pos hn, wrap_in (by omega) (by omega), show x - c - y + 10000 = (x - c - y) % 10000 by omega]; rfl
      · rw [if_neg hn, if_neg hn, show x - c - y = (x - c - y) % 10000 by omega]
        rw [show (x - c - y) % 10000 % 10000 = (x - c - y) % 10000 by omega]; rfl
    · rw [ea, drop_nil (l := b) (i := i) (by omega), subL]
      have := ih (i + 1) (if x - c < 0 then 1 else 0) (out ++ [(x - c) % 10000]) (by omega) (by split <;> omega) (by split <;> omega) (by simp [ho])
      rw [List.append_assoc, List.append_assoc, drop_nil (l := b) (i := i + 1) (by omega)] at this
      refine Ev.step (fun k => ?_) this
      simp only [impl_natSub.l0]; rw [if_pos (by omega), if_pos (by omega), if_pos (by omega), if_neg (by omega)]
      rw [rd_mid ho, wrap_in (x := x - c) (by omega) (by omega), wsucc hi9, Int.toNat_natCast, set_mid ho, set_mid ho]
      by_cases hn : x - c < 0
      · rw [if_pos hn, if_pos hn, wrap_in (by omega) (by omega), show x - c + 10000 = (x - c) % 10000 by omega]; rfl
      · rw [if_neg hn, if_neg hn, show x - c = (x - c) % 10000 by omega]
        rw [show (x - c) % 10000 % 10000 = (x - c) % 10000 by omega]; rfl
theorem impl_natSub_ev {a b : List Int} (ha : Lm a) (hb : Lm b) (hla : a.length ≤ 1000000000) (h : vl b ≤ vl a) : Ev (fun k => impl_natSub.f k a b) (nat (vl a - vl b)) := by
  have := impl_natSub_loop ha hb hla a.length 0 0 [] (by omega) (by omega) (by omega) rfl
  rw [List.nil_append, List.nil_append, List.drop_zero, List.drop_zero, take_tlen (subL_lm _ _ _), subL_vl ha hb (by omega) (by omega) (by omega), Int.sub_zero] at this
  refine Ev.congr (fun k => ?_) this
  unfold impl_natSub.f slices_Clone_int_int.f
  rw [if_pos (by omega)]; rfl
/-- A row of the product, added from os on. -/
def rowL (x : Int) : List Int → List Int → Int → List Int
  | o :: os, y :: ys, c => (o + x * y + c) % 10000 :: rowL x os ys ((o + x * y + c) / 10000)
  | o :: os, [], c => if c > 0 then (o + c) % 10000 :: rowL x os [] ((o + c) / 10000) else o :: os
  | [], _, _ => []
theorem rowL_lm (x : Int) : ∀ (os ys : List Int) (c : Int), Lm os → Lm (rowL x os ys c)
  | o :: os, y :: ys, c, h => by unfold rowL; exact Lm.cons (by omega) (by omega) (rowL_lm x _ _ _ h.tail)
  | o :: os, [], c, h => by
    unfold rowL; split
    · exact Lm.cons (by omega) (by omega) (rowL_lm x _ _ _ h.tail)
    · exact h
  | [], [], c, h => by unfold rowL; exact Lm.nil
  | [], y :: ys, c, h => by unfold rowL; exact Lm.nil
theorem rowL_len (x : Int) : ∀ (os ys : List Int) (c : Int), (rowL x os ys c).length = os.length
  | o :: os, y :: ys, c => by unfold rowL; simp [rowL_len x os]
  | o :: os, [], c => by unfold rowL; split <;> simp [rowL_len x os]
  | [], [], c => by unfold rowL; rfl
  | [], y :: ys, c => by unfold rowL; rfl
theorem rowL_nil (x : Int) (os : List Int) : rowL x os [] 0 = os := by cases os <;> simp [rowL]
theorem mul_bd {x y : Int} (hx : 0 ≤ x ∧ x < 10000) (hy : 0 ≤ y ∧ y < 10000) : 0 ≤ x * y ∧ x * y ≤ 99980001 := by
  refine ⟨Int.mul_nonneg hx.1 hy.1, ?_⟩
  have h1 : x * y ≤ 9999 * y := Int.mul_le_mul_of_nonneg_right (by omega) hy.1
  omega
theorem rowL_vl {x : Int} (hx : 0 ≤ x ∧ x < 10000) : ∀ {ys os : List Int} {c : Int}, Lm os → Lm ys → 0 ≤ c → c ≤ 9999 → (∃ zs, os.drop ys.length = 0 :: zs) → vl (rowL x os ys c) = vl os + x * vl ys + c
  | [], os, c, ho, hy, h0, h1, ⟨zs, hz⟩ => by
    simp only [List.length_nil, List.drop_zero] at hz
    subst hz
    unfold rowL
    split
    · rw [show (0 + c) / 10000 = 0 by omega, rowL_nil]; simp only [vl]; omega
    · simp only [vl]; omega
  | y :: ys, [], c, ho, hy, h0, h1, ⟨zs, hz⟩ => by simp at hz
  | y :: ys, o :: os, c, ho, hy, h0, h1, ⟨zs, hz⟩ => by
    have hy0 := hy.head; have ho0 := ho.head
    have hb := mul_bd hx hy0
    unfold rowL
    simp only [vl]
    rw [rowL_vl hx ho.tail hy.tail (by omega) (by omega) ⟨zs, by simpa using hz⟩]
    have e : x * (10000 * vl ys) = 10000 * (x * vl ys) := by rw [← Int.mul_assoc, Int.mul_comm x 10000, Int.mul_assoc]
    rw [Int.mul_add x y, e]; omega
theorem rowL_drop {x : Int} : ∀ {ys os : List Int} {c : Int}, 0 ≤ c → c ≤ 9999 → Lm os → Lm ys → 0 ≤ x ∧ x < 10000 → (∃ zs, os.drop ys.length = 0 :: zs) → (rowL x os ys c).drop (ys.length + 1) = os.drop (ys.length + 1)
  | [], os, c, h0, h1, _, _, _, ⟨zs, hz⟩ => by
    simp only [List.length_nil, List.drop_zero] at hz
    subst hz
    unfold rowL
    split
    · rw [show (0 + c) / 10000 = 0 by omega, rowL_nil]; simp
    · rfl
  | y :: ys, [], c, h0, h1, _, _, _, ⟨zs, hz⟩ => by simp at hz
  | y :: ys, o :: os, c, h0, h1, ho, hy, hx, ⟨zs, hz⟩ => by
    have hy0 := hy.head; have ho0 := ho.head
    have hb := mul_bd hx hy0
    unfold rowL
    rw [List.length_cons, List.drop_succ_cons, List.drop_succ_cons]
    exact rowL_drop (by omega) (by omega) ho.tail hy.tail hx ⟨zs, by simpa using hz⟩
theorem drop_mid {l r : List Int} {i : Nat} (h : l.length = i) (n : Nat) : (l ++ r).drop (i + n) = r.drop n := by
  rw [← List.drop_drop, ← h, List.drop_left]

theorem spec_l01Mul_row {a b : List Int} (hb : Lm b) (hlb : b.length ≤ 1000000000) {i : Nat} (hi : i < a.length) (hla : a.length ≤ 1000000000) {x : Int} (hx : Aside0 (rd a i = x)) (hx0 : 0 ≤ x ∧ x < 10000) :
    ∀ (ys os pre : List Int) (c : Int) (kk : Nat), ys = b.drop kk → pre.length = i + kk → kk ≤ 2000000000 → Lm os → 0 ≤ c → c ≤ 9999 → (kk ≤ b.length → ∃ zs, os.drop ys.length = 0 :: zs) → (b.length < kk → c = 0) → ∀ r,
      Ev (fun k => spec_l01Mul.l0 k a b (pre ++ rowL x os ys c) ((i + 1 : Nat) : Int)) r → Ev (fun k => spec_l01Mul.l1 k a b (pre ++ os) i c kk) r
  | [], os, pre, c, kk, hys, hp, hkk, ho, h0, h1, hz, hc, r, hr => by
    have hkb : b.length ≤ kk := by
      by_cases h : kk < b.length
      · rw [drop_cons h] at hys; simp at hys
      · omega
    by_cases c0 : c > 0
    · have hke : kk = b.length := by
        by_cases h : b.length < kk
        · have := hc h; omega
        · omega
      obtain ⟨zs, hz⟩ := hz (by omega)
      simp only [List.length_nil, List.drop_zero] at hz
      subst hz
      refine Ev.step (f := fun k => spec_l01Mul.j2 k a b (pre ++ 0 :: zs) i c kk true) (fun k => by simp only [spec_l01Mul.l1]; rw [if_neg (by omega), decide_eq_true c0]) ?_
      have e1 : rowL x (0 :: zs) [] c = c :: zs := by
        unfold rowL
        rw [if_pos c0, show (0 + c) / 10000 = 0 by omega, rowL_nil, show (0 + c) % 10000 = c by omega]
      have := spec_l01Mul_row hb hlb hi hla hx hx0 [] zs (pre ++ [c]) 0 (kk + 1) (by rw [List.drop_eq_nil_of_le (by omega)]) (by simp [hp]; omega) (by omega) ho.tail (by omega) (by omega) (fun h => by omega) (fun _ => rfl) r (by
        rw [rowL_nil, List.append_assoc]
        rw [e1] at hr
        exact hr)
      rw [List.append_assoc] at this
      refine Ev.step (fun k => ?_) this
      have hw : wrap64 ((i : Int) + (kk : Int)) = ((i + kk : Nat) : Int) := by rw [wrap_in (by omega) (by omega)]; omega
      simp only [spec_l01Mul.j2, if_true]
      rw [hw]
      clear hw this
      rw [if_pos (by omega), if_pos (by simp; omega), if_neg (by omega), rd_mid hp, Int.toNat_natCast, set_mid hp, wrap_in (x := 0 + c) (by omega) (by omega), tmod_pos (by omega), tdiv_pos (by omega), wrap_in (by omega) (by omega), wsucc (by omega)]
      rw [show (0 + c) % 10000 = c by omega, show (0 + c) / 10000 = 0 by omega]; rfl
    · have hc0 : c = 0 := by omega
      subst hc0
      rw [rowL_nil] at hr
      refine Ev.step (f := fun k => spec_l01Mul.j2 k a b (pre ++ os) i 0 kk false) (fun k => by simp only [spec_l01Mul.l1]; rw [if_neg (by omega), decide_eq_false c0]) ?_
      refine Ev.step (fun k => ?_) hr
      simp only [spec_l01Mul.j2, Bool.false_eq_true, if_false]
      rw [wsucc (by omega)]
  | y :: ys, os, pre, c, kk, hys, hp, hkk, ho, h0, h1, hz, hc, r, hr => by
    have hkb : kk < b.length := by
      by_cases h : kk < b.length
      · exact h
      · rw [List.drop_eq_nil_of_le (by omega)] at hys; simp at hys
    have hyy := drop_cons hkb
    rw [← hys] at hyy
    injection hyy with hy1 hy2
    have hyb := rd_lm hb kk
    rw [← hy1] at hyb
    have HY := Aside0.mk hy1
    clear hy1
    obtain ⟨zs, hz⟩ := hz (by omega)
    cases os with
    | nil => simp at hz
    | cons o os =>
      have ho0 := ho.head
      have hm := mul_bd hx0 hyb
      refine Ev.step (f := fun k => spec_l01Mul.j2 k a b (pre ++ o :: os) i c kk true) (fun k => by simp only [spec_l01Mul.l1]; rw [if_pos (by omega)]) ?_
      have := spec_l01Mul_row hb hlb hi hla hx hx0 ys os (pre ++ [(o + x * y + c) % 10000]) ((o + x * y + c) / 10000) (kk + 1) hy2 (by simp [hp]; omega) (by omega) ho.tail (by omega) (by omega) (fun _ => ⟨zs, by simpa using hz⟩) (fun h => by omega) r (by
        rw [List.append_assoc]
        unfold rowL at hr
        exact hr)
      rw [List.append_assoc] at this
      refine Ev.step (fun k => ?_) this
      have hw : wrap64 ((i : Int) + (kk : Int)) = ((i + kk : Nat) : Int) := by rw [wrap_in (by omega) (by omega)]; omega
      simp only [spec_l01Mul.j2, if_true]
      rw [hw]
      clear hw this
      rw [if_pos (by omega), if_pos (by simp; omega), if_pos (by omega), if_pos (by omega), if_pos (by omega), if_pos (by omega), rd_mid hp, hx.out, ← HY.out, Int.toNat_natCast, set_mid hp, wrap_in (x := o + c) (by omega) (by omega), wrap_in (x := x * y) (by omega) (by omega), wrap_in (x := o + c + x * y) (by omega) (by omega), tmod_pos (by omega), tdiv_pos (by omega), wrap_in (by omega) (by omega), wsucc (by omega)]
      rw [show o + c + x * y = o + x * y + c by omega]; rfl

theorem impl_natMul_row {a b : List Int} (hb : Lm b) (hlb : b.length ≤ 1000000000) {i : Nat} (hi : i < a.length) (hla : a.length ≤ 1000000000) {x : Int} (hx : Aside0 (rd a i = x)) (hx0 : 0 ≤ x ∧ x < 10000) :
    ∀ (ys os pre : List Int) (c : Int) (kk : Nat), ys = b.drop kk → pre.length = i + kk → kk ≤ 2000000000 → Lm os → 0 ≤ c → c ≤ 9999 → (kk ≤ b.length → ∃ zs, os.drop ys.length = 0 :: zs) → (b.length < kk → c = 0) → ∀ r,
      Ev (fun k => impl_natMul.l0 k b (pre ++ rowL x os ys c) a a.length ((i + 1 : Nat) : Int)) r → Ev (fun k => impl_natMul.l1 k b (pre ++ os) i x c kk a a.length i) r
  | [], os, pre, c, kk, hys, hp, hkk, ho, h0, h1, hz, hc, r, hr => by
    have hkb : b.length ≤ kk := by
      by_cases h : kk < b.length
      · rw [drop_cons h] at hys; simp at hys
      · omega
    by_cases c0 : c > 0
    · have hke : kk = b.length := by
        by_cases h : b.length < kk
        · have := hc h; omega
        · omega
      obtain ⟨zs, hz⟩ := hz (by omega)
      simp only [List.length_nil, List.drop_zero] at hz
      subst hz
      refine Ev.step (f := fun k => impl_natMul.j2 k b (pre ++ 0 :: zs) i x c kk a a.length i true) (fun k => by simp only [impl_natMul.l1]; rw [if_neg (by omega), decide_eq_true c0]) ?_
      have e1 : rowL x (0 :: zs) [] c = c :: zs := by
        unfold rowL
        rw [if_pos c0, show (0 + c) / 10000 = 0 by omega, rowL_nil, show (0 + c) % 10000 = c by omega]
      have := impl_natMul_row hb hlb hi hla hx hx0 [] zs (pre ++ [c]) 0 (kk + 1) (by rw [List.drop_eq_nil_of_le (by omega)]) (by simp [hp]; omega) (by omega) ho.tail (by omega) (by omega) (fun h => by omega) (fun _ => rfl) r (by
        rw [rowL_nil, List.append_assoc]
        rw [e1] at hr
        exact hr)
      rw [List.append_assoc] at this
      refine Ev.step (fun k => ?_) this
      have hw : wrap64 ((i : Int) + (kk : Int)) = ((i + kk : Nat) : Int) := by rw [wrap_in (by omega) (by omega)]; omega
      simp only [impl_natMul.j2, if_true]
      rw [hw]
      clear hw this
      rw [if_neg (by omega), if_pos (by omega), if_pos (by simp; omega), rd_mid hp, Int.toNat_natCast, set_mid hp, wrap_in (x := c + 0) (by omega) (by omega), tmod_pos (by omega), tdiv_pos (by omega), wrap_in (by omega) (by omega), wsucc (by omega)]
      rw [show (c + 0) % 10000 = c by omega, show (c + 0) / 10000 = 0 by omega]; rfl
    · have hc0 : c = 0 := by omega
      subst hc0
      rw [rowL_nil] at hr
      refine Ev.step (f := fun k => impl_natMul.j2 k b (pre ++ os) i x 0 kk a a.length i false) (fun k => by simp only [impl_natMul.l1]; rw [if_neg (by omega), decide_eq_false c0]) ?_
      refine Ev.step (fun k => ?_) hr
      simp only [impl_natMul.j2, Bool.false_eq_true, if_false]
      rw [wsucc (by omega)]
  | y :: ys, os, pre, c, kk, hys, hp, hkk, ho, h0, h1, hz, hc, r, hr => by
    have hkb : kk < b.length := by
      by_cases h : kk < b.length
      · exact h
      · rw [List.drop_eq_nil_of_le (by omega)] at hys; simp at hys
    have hyy := drop_cons hkb
    rw [← hys] at hyy
    injection hyy with hy1 hy2
    have hyb := rd_lm hb kk
    rw [← hy1] at hyb
    have HY := Aside0.mk hy1
    clear hy1
    obtain ⟨zs, hz⟩ := hz (by omega)
    cases os with
    | nil => simp at hz
    | cons o os =>
      have ho0 := ho.head
      have hm := mul_bd hx0 hyb
      refine Ev.step (f := fun k => impl_natMul.j2 k b (pre ++ o :: os) i x c kk a a.length i true) (fun k => by simp only [impl_natMul.l1]; rw [if_pos (by omega)]) ?_
      have := impl_natMul_row hb hlb hi hla hx hx0 ys os (pre ++ [(o + x * y + c) % 10000]) ((o + x * y + c) / 10000) (kk + 1) hy2 (by simp [hp]; omega) (by omega) ho.tail (by omega) (by omega) (fun _ => ⟨zs, by simpa using hz⟩) (fun h => by omega) r (by
        rw [List.append_assoc]
        unfold rowL at hr
        exact hr)
      rw [List.append_assoc] at this
      refine Ev.step (fun k => ?_) this
      have hw : wrap64 ((i : Int) + (kk : Int)) = ((i + kk : Nat) : Int) := by rw [wrap_in (by omega) (by omega)]; omega
      simp only [impl_natMul.j2, if_true]
      rw [hw]
      clear hw this
      rw [if_pos (by omega), if_pos (by omega), if_pos (by omega), if_pos (by simp; omega), rd_mid hp, ← HY.out, Int.toNat_natCast, set_mid hp, wrap_in (x := x * y) (by omega) (by omega), wrap_in (x := c + x * y) (by omega) (by omega), wrap_in (x := c + x * y + o) (by omega) (by omega), tmod_pos (by omega), tdiv_pos (by omega), wrap_in (by omega) (by omega), wsucc (by omega)]
      rw [show c + x * y + o = o + x * y + c by omega]; rfl

theorem spec_l01Mul_loop {a b : List Int} (ha : Lm a) (hb : Lm b) (hla : a.length ≤ 1000000000) (hlb : b.length ≤ 1000000000) (d : Nat) :
    ∀ (i : Nat) (out : List Int), i + d = a.length → Lm out → out.length = a.length + b.length + 1 → vl out = vl (a.take i) * vl b → out.drop (i + b.length) = List.replicate (a.length - i + 1) 0 →
    Ev (fun k => spec_l01Mul.l0 k a b out i) (nat (vl a * vl b)) := by
  induction d with
  | zero =>
    intro i out hd ho hl hv hz
    rw [List.take_of_length_le (by omega)] at hv
    have e : out.take (tlen out out.length) = nat (vl a * vl b) := by rw [take_tlen ho, hv]
    refine Ev.step (f := fun _ => some (nat (vl a * vl b))) (fun k => ?_) (Ev.now _)
    simp only [spec_l01Mul.l0]; rw [if_neg (by omega), specTrim _ (by omega), e]; rfl
  | succ d ih =>
    intro i out hd ho hl hv hz
    have hi : i < a.length := by omega
    obtain ⟨x, hx, hx0⟩ : ∃ x, rd a i = x ∧ 0 ≤ x ∧ x < 10000 := ⟨_, rfl, rd_lm ha i⟩
    have hsplit : out.take i ++ out.drop i = out := List.take_append_drop i out
    have hpl : (out.take i).length = i := by rw [List.length_take]; omega
    have hos : Lm (out.drop i) := fun y hy => ho y (List.mem_of_mem_drop hy)
    have hzz : (out.drop i).drop b.length = 0 :: List.replicate (a.length - i - 1 + 1) 0 := by
      rw [List.drop_drop, hz, show a.length - i + 1 = (a.length - i - 1 + 1) + 1 by omega, List.replicate_succ]
    have hta : a.take (i + 1) = a.take i ++ [x] := by rw [List.take_add_one, ← hx, rd_nat]; simp [hi]
    have hal : (a.take i).length = i := by rw [List.length_take]; omega
    have key := spec_l01Mul_row hb hlb hi hla (Aside0.mk hx) hx0 b (out.drop i) (out.take i) 0 0 (by simp) (by rw [hpl]; omega) (by omega) hos (by omega) (by omega) (fun _ => ⟨_, hzz⟩) (fun h => by omega) (nat (vl a * vl b)) ?_
    · rw [hsplit] at key
      refine Ev.step (fun k => ?_) key
      simp only [spec_l01Mul.l0]; rw [if_pos (by omega)]; rfl
    · refine ih (i + 1) _ (by omega) ?_ ?_ ?_ ?_
      · exact Lm.append (fun y hy => ho y (List.mem_of_mem_take hy)) (rowL_lm _ _ _ _ hos)
      · rw [List.length_append, rowL_len, ← List.length_append, hsplit, hl]
      · rw [vl_append, rowL_vl hx0 hos hb (by omega) (by omega) ⟨_, hzz⟩, hta, vl_append, hpl, hal]
        have e1 : vl out = vl (out.take i) + 10000 ^ i * vl (out.drop i) := by
          have := vl_append (out.take i) (out.drop i); rw [hsplit, hpl] at this; exact this
        rw [e1] at hv
        simp only [vl]
        rw [Int.mul_zero, Int.add_zero, Int.add_zero, Int.mul_add, Int.add_mul, Int.mul_assoc]; omega
      · rw [show i + 1 + b.length = i + (b.length + 1) by omega, drop_mid hpl, rowL_drop (by omega) (by omega) hos hb hx0 ⟨_, hzz⟩, ← List.drop_drop, hzz, show a.length - (i + 1) + 1 = a.length - i - 1 + 1 by omega]; simp

theorem impl_natMul_loop {a b : List Int} (ha : Lm a) (hb : Lm b) (hla : a.length ≤ 1000000000) (hlb : b.length ≤ 1000000000) (d : Nat) :
    ∀ (i : Nat) (out : List Int), i + d = a.length → Lm out → out.length = a.length + b.length + 0 → vl out = vl (a.take i) * vl b → out.drop (i + b.length) = List.replicate (a.length - i + 0) 0 →
    Ev (fun k => impl_natMul.l0 k b out a a.length i) (nat (vl a * vl b)) := by
  induction d with
  | zero =>
    intro i out hd ho hl hv hz
    rw [List.take_of_length_le (by omega)] at hv
    have e : out.take (tlen out out.length) = nat (vl a * vl b) := by rw [take_tlen ho, hv]
    obtain ⟨K, hK⟩ := trimmed_ev out (by omega)
    refine ⟨K + 1, fun k hk => ?_⟩
    obtain ⟨k, rfl⟩ : ∃ m, k = m + 1 := ⟨k - 1, by omega⟩
    have hK := hK k (by omega)
    simp only at hK ⊢
    simp only [impl_natMul.l0]; rw [if_neg (by omega), hK, e]; rfl
  | succ d ih =>
    intro i out hd ho hl hv hz
    have hi : i < a.length := by omega
    obtain ⟨x, hx, hx0⟩ : ∃ x, rd a i = x ∧ 0 ≤ x ∧ x < 10000 := ⟨_, rfl, rd_lm ha i⟩
    have hsplit : out.take i ++ out.drop i = out := List.take_append_drop i out
    have hpl : (out.take i).length = i := by rw [List.length_take]; omega
    have hos : Lm (out.drop i) := fun y hy => ho y (List.mem_of_mem_drop hy)
    have hzz : (out.drop i).drop b.length = 0 :: List.replicate (a.length - i - 1 + 0) 0 := by
      rw [List.drop_drop, hz, show a.length - i + 0 = (a.length - i - 1) + 1 by omega, List.replicate_succ, Nat.add_zero]
    have hta : a.take (i + 1) = a.take i ++ [x] := by rw [List.take_add_one, ← hx, rd_nat]; simp [hi]
    have hal : (a.take i).length = i := by rw [List.length_take]; omega
    have key := impl_natMul_row hb hlb hi hla (Aside0.mk hx) hx0 b (out.drop i) (out.take i) 0 0 (by simp) (by rw [hpl]; omega) (by omega) hos (by omega) (by omega) (fun _ => ⟨_, hzz⟩) (fun h => by omega) (nat (vl a * vl b)) ?_
    · rw [hsplit] at key
      refine Ev.step (fun k => ?_) key
      simp only [impl_natMul.l0]; rw [if_pos (by omega), if_pos (by omega), if_pos (by omega), hx]; rfl
    · refine ih (i + 1) _ (by omega) ?_ ?_ ?_ ?_
      · exact Lm.append (fun y hy => ho y (List.mem_of_mem_take hy)) (rowL_lm _ _ _ _ hos)
      · rw [List.length_append, rowL_len, ← List.length_append, hsplit, hl]
      · rw [vl_append, rowL_vl hx0 hos hb (by omega) (by omega) ⟨_, hzz⟩, hta, vl_append, hpl, hal]
        have e1 : vl out = vl (out.take i) + 10000 ^ i * vl (out.drop i) := by
          have := vl_append (out.take i) (out.drop i); rw [hsplit, hpl] at this; exact this
        rw [e1] at hv
        simp only [vl]
        rw [Int.mul_zero, Int.add_zero, Int.add_zero, Int.mul_add, Int.add_mul, Int.mul_assoc]; omega
      · rw [show i + 1 + b.length = i + (b.length + 1) by omega, drop_mid hpl, rowL_drop (by omega) (by omega) hos hb hx0 ⟨_, hzz⟩, ← List.drop_drop, hzz, show a.length - (i + 1) + 0 = a.length - i - 1 + 0 by omega]; simp

theorem vl_zeros (n : Nat) : vl (List.replicate n 0) = 0 := by
  induction n with
  | zero => rfl
  | succ n ih => rw [List.replicate_succ, vl, ih]; rfl
theorem lm_zeros (n : Nat) : Lm (List.replicate n 0) := fun y hy => by rw [List.eq_of_mem_replicate hy]; omega
theorem spec_l01Mul_ev {a b : List Int} (ha : Lm a) (hb : Lm b) (hla : a.length ≤ 1000000000) (hlb : b.length ≤ 1000000000) : Ev (fun k => spec_l01Mul.f k a b) (nat (vl a * vl b)) := by
  have := spec_l01Mul_loop ha hb hla hlb a.length 0 (List.replicate (a.length + b.length + 1) 0) (by omega) (lm_zeros _) (by simp) (by rw [vl_zeros]; simp [vl]) (by rw [List.drop_replicate]; congr 1; omega)
  refine Ev.congr (fun k => ?_) this
  unfold spec_l01Mul.f
  have hw : wrap64 (wrap64 ((a.length : Int) + (b.length : Int)) + 1) = ((a.length + b.length + 1 : Nat) : Int) := by rw [wrap_in (x := (a.length : Int) + (b.length : Int)) (by omega) (by omega), wrap_in (by omega) (by omega)]; omega
  rw [hw, if_pos (by omega), if_pos (by omega), Int.toNat_natCast]; rfl
theorem impl_natMul_ev {a b : List Int} (ha : Lm a) (hb : Lm b) (hla : a.length ≤ 1000000000) (hlb : b.length ≤ 1000000000) : Ev (fun k => impl_natMul.f k a b) (nat (vl a * vl b)) := by
  have := impl_natMul_loop ha hb hla hlb a.length 0 (List.replicate (a.length + b.length) 0) (by omega) (lm_zeros _) (by simp) (by rw [vl_zeros]; simp [vl]) (by rw [List.drop_replicate]; congr 1; omega)
  refine Ev.congr (fun k => ?_) this
  unfold impl_natMul.f
  have hw : wrap64 ((a.length : Int) + (b.length : Int)) = ((a.length + b.length : Nat) : Int) := by rw [wrap_in (by omega) (by omega)]; omega
  rw [hw, if_pos (by omega), if_pos (by omega), Int.toNat_natCast]; rfl
theorem small_loop : ∀ (d : Nat) (a : Int) (out : List Int), 0 ≤ a → a < 10000 ^ d → a ≤ 9223372036854775807 → out.length + d ≤ 1000 → Ev (fun k => spec_l01Small.l0 k a out) (out ++ nat a)
  | 0, a, out, h0, h1, h2, h3 => by
    have : a = 0 := by simp at h1; omega
    subst this
    refine Ev.step (f := fun _ => some out) (fun k => ?_) (by rw [nat_zero, List.append_nil]; exact Ev.now _)
    simp only [spec_l01Small.l0]; rw [if_neg (by omega)]
  | d + 1, a, out, h0, h1, h2, h3 => by
    by_cases h : a > 0
    · have e1 : wrap64 (Int.tdiv a 10000) = a / 10000 := by rw [tdiv_pos h0, wrap_in (by omega) (by omega)]
      have ih := small_loop d (a / 10000) (out ++ [a % 10000]) (by omega) (Int.ediv_lt_of_lt_mul (by omega) (by rw [Int.pow_succ] at h1; exact h1)) (by omega) (by simp; omega)
      have ih' : Ev (fun k => spec_l01Small.l0 k (a / 10000) (out ++ [a % 10000])) (out ++ nat a) := by
        rw [nat_pos h]; rw [List.append_assoc] at ih; exact ih
      refine Ev.step (fun k => ?_) ih'
      simp only [spec_l01Small.l0]; rw [if_pos h, if_pos (by omega), e1, tmod_pos h0]
    · refine Ev.step (f := fun _ => some out) (fun k => ?_) (by rw [nat_neg h, List.append_nil]; exact Ev.now _)
      simp only [spec_l01Small.l0]; rw [if_neg h]
theorem small_ev {a : Int} (h0 : 0 ≤ a) (h1 : a ≤ 10000) : Ev (fun k => spec_l01Small.f k a) (nat a) :=
  small_loop 2 a [] h0 (by simp; omega) (by omega) (by simp)

theorem cmpI_le (x y : Int) : (cmpI x y ≤ 0) ↔ x ≤ y := by unfold cmpI; split <;> (try split) <;> omega
theorem cmpI_ge (x y : Int) : (cmpI x y ≥ 0) ↔ y ≤ x := by unfold cmpI; split <;> (try split) <;> omega
theorem cmpI_eq (x y : Int) : (cmpI x y = 0) ↔ x = y := by unfold cmpI; split <;> (try split) <;> omega
theorem cmpE {x y : Int} (hx : 0 ≤ x) (hy : 0 ≤ y) {n : Nat} (hn : x < 10000 ^ n) (hb : n ≤ 1000000000) : Ev (fun k => spec_l01Cmp.f k (nat x) (nat y)) (cmpI x y) := by
  have h := l01Cmp_ev (nat x) (nat y) (by have := nat_len x n hn; omega)
  rw [ncmp_vl (nm_nat x) (nm_nat y), vl_nat x hx, vl_nat y hy] at h
  exact h
theorem mulE {x y : Int} (hx : 0 ≤ x) (hy : 0 ≤ y) {n m : Nat} (hn : x < 10000 ^ n) (hm : y < 10000 ^ m) (hb : n ≤ 1000000000) (hb' : m ≤ 1000000000) : Ev (fun k => spec_l01Mul.f k (nat x) (nat y)) (nat (x * y)) := by
  have h := spec_l01Mul_ev (lm_nat x) (lm_nat y) (by have := nat_len x n hn; omega) (by have := nat_len y m hm; omega)
  rw [vl_nat x hx, vl_nat y hy] at h
  exact h
theorem subE {x y : Int} (hx : 0 ≤ x) (hy : 0 ≤ y) (hle : y ≤ x) {n : Nat} (hn : x < 10000 ^ n) (hb : n ≤ 1000000000) : Ev (fun k => spec_l01Sub.f k (nat x) (nat y)) (nat (x - y)) := by
  have h := spec_l01Sub_ev (lm_nat x) (lm_nat y) (by have := nat_len x n hn; omega) (by rw [vl_nat x hx, vl_nat y hy]; exact hle)
  rw [vl_nat x hx, vl_nat y hy] at h
  exact h
theorem mul_lt2 {a b X Y : Int} (ha : 0 ≤ a ∧ a < X) (hb : 0 ≤ b ∧ b < Y) : 0 ≤ a * b ∧ a * b < X * Y := by
  refine ⟨Int.mul_nonneg ha.1 hb.1, ?_⟩
  have h1 : a * b ≤ a * (Y - 1) := Int.mul_le_mul_of_nonneg_left (by omega) ha.1
  have h2 : a * Y < X * Y := Int.mul_lt_mul_of_pos_right ha.2 (by omega)
  have h3 : a * (Y - 1) = a * Y - a := by rw [Int.mul_sub, Int.mul_one]
  omega

/-- One digit, by halving: B the divisor's number, R the rest's. -/
theorem div_inner {a out : List Int} {B R i : Int} {n : Nat} {res : List Int × List Int} (hB0 : 0 < B) (hBn : B < 10000 ^ n) (hn : n ≤ 1000000) (hR0 : 0 ≤ R) (hR1 : R < 10000 * B) (hi : 0 ≤ i ∧ i < out.length)
    (hres : Ev (fun k => spec_l01Div.l0 k a (nat B) (out.set i.toNat (R / B)) (nat (R % B)) (wrap64 (i - 1))) res) :
    ∀ (d : Nat) (lo hi : Int), 0 ≤ lo → lo < hi → hi ≤ 10000 → hi - lo ≤ d + 1 → lo * B ≤ R → R < hi * B → Ev (fun k => spec_l01Div.l1 k a (nat B) out (nat R) i lo hi) res := by
  have hRn : R < 10000 ^ (n + 1) := by
    have e : (10000 : Int) ^ (n + 1) = 10000 * 10000 ^ n := by rw [Int.pow_succ, Int.mul_comm]
    omega
  have base : ∀ (lo hi : Int), 0 ≤ lo → lo < hi → hi ≤ 10000 → hi - lo ≤ 1 → lo * B ≤ R → R < hi * B → Ev (fun k => spec_l01Div.l1 k a (nat B) out (nat R) i lo hi) res := by
    intro lo hi h0 h1 h2 h3 h4 h5
    have eh : hi = lo + 1 := by omega
    subst eh
    have q : lo = R / B := by
      have a1 : lo ≤ R / B := Int.le_ediv_of_mul_le hB0 h4
      have a2 : R / B < lo + 1 := Int.ediv_lt_of_lt_mul hB0 h5
      omega
    have hm0 : B * lo ≤ R := by rw [Int.mul_comm]; exact h4
    have hmm : 0 ≤ B * lo := Int.mul_nonneg (by omega) h0
    have em : R - B * lo = R % B := by rw [Int.emod_def, q]
    have s1 := small_ev h0 (by omega : lo ≤ 10000)
    have s2 := mulE (x := B) (y := lo) (by omega) h0 hBn (m := 1) (by simp; omega) (by omega) (by omega)
    have s3 := subE (x := R) (y := B * lo) hR0 hmm hm0 hRn (by omega)
    rw [em] at s3
    rw [← q] at hres
    refine Ev.step (f := fun k => (spec_l01Small.f k lo).bind fun t637 => ((spec_l01Mul.f k (nat B) t637).bind fun t640 => ((spec_l01Sub.f k (nat R) t640).bind fun t643 => spec_l01Div.l0 k a (nat B) (out.set i.toNat lo) t643 (wrap64 (i - 1))))) (fun k => ?_) (Ev.bind s1 (Ev.bind s2 (Ev.bind s3 hres)))
    simp only [spec_l01Div.l1]; rw [wrap_in (by omega) (by omega), if_neg (by omega), if_pos hi.1, if_pos hi.2]
  intro d
  induction d with
  | zero => intro lo hi h0 h1 h2 h3 h4 h5; exact base lo hi h0 h1 h2 (by omega) h4 h5
  | succ d ih =>
    intro lo hi' h0 h1 h2 h3 h4 h5
    by_cases hc : hi' - lo ≤ 1
    · exact base lo hi' h0 h1 h2 hc h4 h5
    obtain ⟨m, hm⟩ : ∃ m, m = (lo + hi') / 2 := ⟨_, rfl⟩
    have em : wrap64 (Int.tdiv (wrap64 (lo + hi')) 2) = m := by
      rw [wrap_in (x := lo + hi') (by omega) (by omega), Int.tdiv_eq_ediv_of_nonneg (by omega), wrap_in (by omega) (by omega), hm]
    have m0 : lo < m := by omega
    have m1 : m < hi' := by omega
    have s1 := small_ev (a := m) (by omega) (by omega)
    have s2 := mulE (x := B) (y := m) (by omega) (by omega) hBn (m := 1) (by simp; omega) (by omega) (by omega)
    have hmm : 0 ≤ B * m := Int.mul_nonneg (by omega) (by omega)
    have hmb : B * m < 10000 ^ (n + 1) := by
      have e : (10000 : Int) ^ (n + 1) = 10000 ^ n * 10000 := Int.pow_succ _ _
      have := (mul_lt2 (a := B) (b := m) (X := 10000 ^ n) (Y := 10000) ⟨by omega, hBn⟩ ⟨by omega, by omega⟩).2
      omega
    have s3 := cmpE (x := B * m) (y := R) hmm hR0 hmb (by omega)
    by_cases hle : B * m ≤ R
    · have s4 := ih m hi' (by omega) m1 h2 (by omega) (by rw [Int.mul_comm]; exact hle) h5
      refine Ev.step (f := fun k => (spec_l01Small.f k m).bind fun t646 => ((spec_l01Mul.f k (nat B) t646).bind fun t649 => ((spec_l01Cmp.f k t649 (nat R)).bind fun t652 => (if t652 ≤ 0 then (spec_l01Div.l1 k a (nat B) out (nat R) i m hi') else (spec_l01Div.l1 k a (nat B) out (nat R) i lo m))))) (fun k => ?_) (Ev.bind s1 (Ev.bind s2 (Ev.bind s3 (Ev.congr (fun k => if_pos ((cmpI_le _ _).2 hle)) s4))))
      simp only [spec_l01Div.l1]; rw [wrap_in (x := hi' - lo) (by omega) (by omega), if_pos (by omega), em]
    · have s4 := ih lo m h0 m0 (by omega) (by omega) h4 (by rw [Int.mul_comm]; omega)
      refine Ev.step (f := fun k => (spec_l01Small.f k m).bind fun t646 => ((spec_l01Mul.f k (nat B) t646).bind fun t649 => ((spec_l01Cmp.f k t649 (nat R)).bind fun t652 => (if t652 ≤ 0 then (spec_l01Div.l1 k a (nat B) out (nat R) i m hi') else (spec_l01Div.l1 k a (nat B) out (nat R) i lo m))))) (fun k => ?_) (Ev.bind s1 (Ev.bind s2 (Ev.bind s3 (Ev.congr (fun k => if_neg (fun h => hle ((cmpI_le _ _).1 h))) s4))))
      simp only [spec_l01Div.l1]; rw [wrap_in (x := hi' - lo) (by omega) (by omega), if_pos (by omega), em]

theorem div_loop {a : List Int} {B : Int} {n : Nat} (la : Lm a) (hla : a.length ≤ 1000000) (hB0 : 0 < B) (hBn : B < 10000 ^ n) (hn : n ≤ 1000000) :
    ∀ (d : Nat) (D : List Int) (r : Int), d ≤ a.length → Lm D → D.length = a.length - d → 0 ≤ r → r < B → vl (a.drop d) = vl D * B + r →
    Ev (fun k => spec_l01Div.l0 k a (nat B) (List.replicate d 0 ++ D) (nat r) ((d : Int) - 1)) (nat (vl a / B), nat (vl a % B)) := by
  intro d
  induction d with
  | zero =>
    intro D r hd lD hl h0 h1 hv
    rw [List.drop_zero] at hv
    have q : vl a / B = vl D := by
      rw [hv, Int.add_comm, Int.add_mul_ediv_right _ _ (by omega), Int.ediv_eq_zero_of_lt h0 h1]; omega
    have q2 : vl a % B = r := by rw [hv, Int.add_comm, Int.add_mul_emod_self_right, Int.emod_eq_of_lt h0 h1]
    rw [q, q2]
    have e : D.take (tlen D D.length) = nat (vl D) := take_tlen lD
    refine Ev.step (f := fun _ => some (nat (vl D), nat r)) (fun k => ?_) (Ev.now _)
    simp only [spec_l01Div.l0, List.replicate_zero, List.nil_append]; rw [if_neg (by omega), specTrim _ (by omega), e]; rfl
  | succ d ih =>
    intro D r hd lD hl h0 h1 hv
    have hi : d < a.length := by omega
    obtain ⟨y, hy, hy0⟩ : ∃ y, rd a (d : Int) = y ∧ 0 ≤ y ∧ y < 10000 := ⟨_, rfl, rd_lm la _⟩
    have hdr : a.drop d = y :: a.drop (d + 1) := by rw [drop_cons hi, hy]
    obtain ⟨R, hR⟩ : ∃ R, R = y + 10000 * r := ⟨_, rfl⟩
    have hR0 : 0 ≤ R := by omega
    have hR1 : R < 10000 * B := by omega
    have hvd : vl (a.drop d) = (10000 * vl D) * B + R := by
      rw [hdr, vl, hv, hR, Int.mul_add, Int.mul_assoc]; omega
    have hrn : r < 10000 ^ n := by omega
    have hlr : (nat r).length ≤ n := nat_len r n hrn
    have l1 : Lm ([y] ++ nat r) := Lm.append (Lm.cons hy0.1 hy0.2 Lm.nil) (lm_nat r)
    have e1 : spec_l01Trim.f ([y] ++ nat r) = some (nat R) := by
      rw [specTrim _ (by simp; omega), take_tlen l1, vl_append]; simp only [vl, List.length_singleton]
      rw [vl_nat r h0, hR]; congr 2; omega
    have hRn : R < 10000 ^ (n + 1) := by
      have e : (10000 : Int) ^ (n + 1) = 10000 * 10000 ^ n := by rw [Int.pow_succ, Int.mul_comm]
      omega
    have s1 := cmpE (x := R) (y := B) hR0 (by omega) hRn (by omega)
    have ew : wrap64 ((d : Int) - 1) = (d : Int) - 1 := by rw [wrap_in (by omega) (by omega)]
    have ei : (((d + 1 : Nat) : Int) - 1) = (d : Int) := by omega
    have eo : List.replicate (d + 1) 0 ++ D = List.replicate d 0 ++ (0 :: D) := by rw [List.replicate_succ', List.append_assoc]; rfl
    have hol : (List.replicate (d + 1) (0 : Int) ++ D).length = a.length := by simp; omega
    by_cases hlt : R < B
    · have s2 := ih (0 :: D) R (by omega) (Lm.cons (by omega) (by omega) lD) (by simp; omega) hR0 hlt (by rw [hvd]; simp only [vl]; congr 2; omega)
      refine Ev.step (f := fun k => (spec_l01Cmp.f k (nat R) (nat B)).bind fun t635 => (if t635 < 0 then (spec_l01Div.l0 k a (nat B) (List.replicate (d + 1) 0 ++ D) (nat R) ((d : Int) - 1)) else (spec_l01Div.l1 k a (nat B) (List.replicate (d + 1) 0 ++ D) (nat R) d 0 10000))) (fun k => ?_) (Ev.bind s1 (Ev.congr (fun k => if_pos ((cmpI_neg _ _).2 hlt)) (by rw [eo]; exact s2)))
      simp only [spec_l01Div.l0, ei, ew]; rw [if_pos (by omega), if_pos (by omega), if_pos (by omega), hy]
      simp only [Option.bind_some]
      rw [if_pos (by simp; omega), e1]; rfl
    · have q0 : 0 ≤ R / B := Int.ediv_nonneg hR0 (by omega)
      have q1 : R / B < 10000 := Int.ediv_lt_of_lt_mul hB0 (by omega)
      have eset : (List.replicate (d + 1) 0 ++ D).set ((d : Int)).toNat (R / B) = List.replicate d 0 ++ (R / B :: D) := by
        rw [eo, Int.toNat_natCast, List.set_append_right _ _ (by simp)]; simp
      have s2 := ih (R / B :: D) (R % B) (by omega) (Lm.cons q0 q1 lD) (by simp; omega) (Int.emod_nonneg _ (by omega)) (Int.emod_lt_of_pos _ hB0) (by
        rw [hvd]; simp only [vl]
        have := Int.emod_add_mul_ediv R B
        rw [Int.add_mul, Int.mul_comm (R / B) B]; omega)
      have s3 := div_inner (a := a) (out := List.replicate (d + 1) 0 ++ D) (i := (d : Int)) hB0 hBn hn hR0 hR1 ⟨by omega, by rw [hol]; omega⟩ (res := (nat (vl a / B), nat (vl a % B))) (by rw [eset, ew]; exact s2) 10000 0 10000 (by omega) (by omega) (by omega) (by omega) (by omega) hR1
      refine Ev.step (f := fun k => (spec_l01Cmp.f k (nat R) (nat B)).bind fun t635 => (if t635 < 0 then (spec_l01Div.l0 k a (nat B) (List.replicate (d + 1) 0 ++ D) (nat R) ((d : Int) - 1)) else (spec_l01Div.l1 k a (nat B) (List.replicate (d + 1) 0 ++ D) (nat R) d 0 10000))) (fun k => ?_) (Ev.bind s1 (Ev.congr (fun k => if_neg (fun h => hlt ((cmpI_neg _ _).1 h))) s3))
      simp only [spec_l01Div.l0, ei, ew]; rw [if_pos (by omega), if_pos (by omega), if_pos (by omega), hy]
      simp only [Option.bind_some]
      rw [if_pos (by simp; omega), e1]; rfl
theorem divE {A B : Int} (hA : 0 ≤ A) (hB : 0 < B) {n m : Nat} (hn : A < 10000 ^ n) (hm : B < 10000 ^ m) (hn' : n ≤ 1000000) (hm' : m ≤ 1000000) : Ev (fun k => spec_l01Div.f k (nat A) (nat B)) (nat (A / B), nat (A % B)) := by
  have hl := nat_len A n hn
  have h := div_loop (a := nat A) (lm_nat A) (by omega) hB hm hm' (nat A).length [] 0 (by omega) Lm.nil (by simp) (by omega) hB (by rw [List.drop_length]; simp [vl])
  rw [vl_nat A hA, nat_zero, List.append_nil] at h
  refine Ev.congr (fun k => ?_) h
  unfold spec_l01Div.f
  rw [if_pos (by omega), if_pos (by omega), Int.toNat_natCast, wrap_in (by omega) (by omega)]
theorem divI {A B : Int} (hA : 0 ≤ A) (hB : 0 < B) {n : Nat} (hn : A < 10000 ^ n) (hn' : n ≤ 1000000) : impl_natDiv.f (nat A) (nat B) = some (nat (A / B), nat (A % B)) := by
  have hl := nat_len A n hn
  unfold impl_natDiv.f
  rw [if_pos ⟨(impl_natDiv.okB_iff _).2 (nm_nat A), (impl_natDiv.okB_iff _).2 (nm_nat B), fun e => by have := nat_eq_nil e; omega, by omega⟩, vl_nat A hA, vl_nat B (by omega)]

/-- The greatest common divisor of two numbers that are not below 0. -/
def gcdI (x y : Int) : Int := ((Nat.gcd x.toNat y.toNat : Nat) : Int)
theorem gcdI_step {x y : Int} (hx : 0 ≤ x) (hy : 0 < y) : gcdI y (x % y) = gcdI x y := by
  obtain ⟨m, rfl⟩ := Int.eq_ofNat_of_zero_le hx
  obtain ⟨n, rfl⟩ := Int.eq_ofNat_of_zero_le (Int.le_of_lt hy)
  unfold gcdI
  have e : ((m : Int) % (n : Int)) = ((m % n : Nat) : Int) := by omega
  rw [e, Int.toNat_natCast, Int.toNat_natCast, Int.toNat_natCast, Nat.gcd_comm n, ← Nat.gcd_rec, Nat.gcd_comm]
theorem gcdI_zero {x : Int} (hx : 0 ≤ x) : gcdI x 0 = x := by
  unfold gcdI; simp; omega
theorem len_pos {y : Int} (hy : 0 < y) : ((nat y).length : Int) > 0 := by
  have : (nat y).length ≠ 0 := fun e => by have := nat_eq_nil (List.length_eq_zero_iff.1 e); omega
  omega
theorem gcdI_ev : ∀ (n : Nat) (x y : Int), y.toNat ≤ n → 0 ≤ x → x < 10000 ^ 1000 → 0 ≤ y → y < 10000 ^ 1000 → Ev (fun k => impl_natGcd.l0 k (nat x) (nat y)) (nat (gcdI x y)) := by
  intro n
  induction n with
  | zero =>
    intro x y h0 hx hxb hy hyb
    have : y = 0 := by omega
    subst this
    rw [gcdI_zero hx, nat_zero]
    refine Ev.step (f := fun _ => some (nat x)) (fun k => ?_) (Ev.now _)
    simp only [impl_natGcd.l0, List.length_nil]; rw [if_neg (by omega)]
  | succ n ih =>
    intro x y h0 hx hxb hy hyb
    by_cases hy0 : y = 0
    · subst hy0
      rw [gcdI_zero hx, nat_zero]
      refine Ev.step (f := fun _ => some (nat x)) (fun k => ?_) (Ev.now _)
      simp only [impl_natGcd.l0, List.length_nil]; rw [if_neg (by omega)]
    · have hp : 0 < y := by omega
      have q2 : 0 ≤ x % y := Int.emod_nonneg _ (by omega)
      have q3 : x % y < y := Int.emod_lt_of_pos _ hp
      have s := ih y (x % y) (by omega) hy hyb q2 (by omega)
      rw [gcdI_step hx hp] at s
      refine Ev.step (fun k => ?_) s
      simp only [impl_natGcd.l0]
      rw [if_pos (len_pos hp), divI hx hp hxb (by omega)]; rfl
theorem gcdS_ev : ∀ (n : Nat) (x y : Int), y.toNat ≤ n → 0 ≤ x → x < 10000 ^ 1000 → 0 ≤ y → y < 10000 ^ 1000 → Ev (fun k => spec_l01Gcd.l0 k (nat x) (nat y)) (nat (gcdI x y)) := by
  have fin : ∀ x : Int, 0 ≤ x → x < 10000 ^ 1000 → Ev (fun k => spec_l01Gcd.l0 k (nat x) (nat 0)) (nat (gcdI x 0)) := by
    intro x hx hxb
    rw [gcdI_zero hx, nat_zero]
    refine Ev.step (f := fun _ => some (nat x)) (fun k => ?_) (Ev.now _)
    have := nat_len x 1000 hxb
    simp only [spec_l01Gcd.l0, List.length_nil, Option.bind_some, List.nil_append]; rw [if_neg (by omega), if_pos (by omega)]
  intro n
  induction n with
  | zero =>
    intro x y h0 hx hxb hy hyb
    have : y = 0 := by omega
    subst this
    exact fin x hx hxb
  | succ n ih =>
    intro x y h0 hx hxb hy hyb
    by_cases hy0 : y = 0
    · subst hy0
      exact fin x hx hxb
    · have hp : 0 < y := by omega
      have q2 : 0 ≤ x % y := Int.emod_nonneg _ (by omega)
      have q3 : x % y < y := Int.emod_lt_of_pos _ hp
      have s := ih y (x % y) (by omega) hy hyb q2 (by omega)
      rw [gcdI_step hx hp] at s
      refine Ev.step (f := fun k => (spec_l01Div.f k (nat x) (nat y)).bind fun bt759 => (spec_l01Gcd.l0 k (nat y) bt759.2)) (fun k => ?_) (Ev.bind (divE hx hp hxb hyb (by omega) (by omega)) s)
      simp only [spec_l01Gcd.l0]
      rw [if_pos (len_pos hp)]
def absI (x : Int) : Int := (x.natAbs : Int)
theorem absI_nonneg (x : Int) : 0 ≤ absI x := by unfold absI; omega
theorem absI_pos {x : Int} (h : 0 ≤ x) : absI x = x := by unfold absI; omega
theorem absI_neg {x : Int} (h : x ≤ 0) : absI x = -x := by unfold absI; omega
theorem absI_eq0 {x : Int} : absI x = 0 ↔ x = 0 := by unfold absI; omega
theorem gcdI_pos {a d : Int} (ha : 0 ≤ a) (hd : 0 < d) : 0 < gcdI a d ∧ a % gcdI a d = 0 ∧ d % gcdI a d = 0 ∧ gcdI (a / gcdI a d) (d / gcdI a d) = 1 ∧ gcdI a d ≤ d := by
  obtain ⟨m, rfl⟩ := Int.eq_ofNat_of_zero_le ha
  obtain ⟨n, rfl⟩ := Int.eq_ofNat_of_zero_le (Int.le_of_lt hd)
  unfold gcdI
  simp only [Int.toNat_natCast]
  have hn : 0 < n := by omega
  have hp : 0 < Nat.gcd m n := Nat.gcd_pos_of_pos_right m hn
  refine ⟨by omega, ?_, ?_, ?_, ?_⟩
  · have := Nat.mod_eq_zero_of_dvd (Nat.gcd_dvd_left m n); exact_mod_cast this
  · have := Nat.mod_eq_zero_of_dvd (Nat.gcd_dvd_right m n); exact_mod_cast this
  · have e := Nat.gcd_div (Nat.gcd_dvd_left m n) (Nat.gcd_dvd_right m n)
    rw [Nat.div_self hp] at e
    have e1 : ((m : Int) / ((Nat.gcd m n : Nat) : Int)).toNat = m / Nat.gcd m n := by rw [← Int.natCast_ediv, Int.toNat_natCast]
    have e2 : ((n : Int) / ((Nat.gcd m n : Nat) : Int)).toNat = n / Nat.gcd m n := by rw [← Int.natCast_ediv, Int.toNat_natCast]
    rw [e1, e2, e]; rfl
  · have := Nat.gcd_le_right m hn; omega
theorem gcdI_mul {a d k : Int} (ha : 0 ≤ a) (hd : 0 ≤ d) (hk : 0 ≤ k) : gcdI (a * k) (d * k) = gcdI a d * k := by
  obtain ⟨m, rfl⟩ := Int.eq_ofNat_of_zero_le ha
  obtain ⟨n, rfl⟩ := Int.eq_ofNat_of_zero_le hd
  obtain ⟨q, rfl⟩ := Int.eq_ofNat_of_zero_le hk
  unfold gcdI
  rw [← Int.natCast_mul, ← Int.natCast_mul, Int.toNat_natCast, Int.toNat_natCast, Int.toNat_natCast, Int.toNat_natCast, Nat.gcd_mul_right, Int.natCast_mul]
theorem gcdI_zl {d : Int} (hd : 0 ≤ d) : gcdI 0 d = d := by unfold gcdI; simp; omega
theorem gcdI_one {a : Int} (ha : 0 ≤ a) : gcdI a 1 = 1 := by unfold gcdI; simp

/-- N over D in lowest terms. -/
def lowZ (N D : Int) : Bool × List Int × List Int := (decide (N < 0), nat (absI N / gcdI (absI N) D), nat (D / gcdI (absI N) D))
theorem lowZ_scale {N D k : Int} (hD : 0 < D) (hk : 0 < k) : lowZ (N * k) (D * k) = lowZ N D := by
  have ea : absI (N * k) = absI N * k := by unfold absI; rw [Int.natAbs_mul, Int.natCast_mul]; congr 1; omega
  have hg := gcdI_pos (absI_nonneg N) hD
  unfold lowZ
  rw [ea, gcdI_mul (absI_nonneg N) (by omega) (by omega), Int.mul_ediv_mul_of_pos_left _ _ hk, Int.mul_ediv_mul_of_pos_left _ _ hk]
  congr 1
  by_cases h : N < 0
  · rw [decide_eq_true h, decide_eq_true (Int.mul_neg_of_neg_of_pos h hk)]
  · rw [decide_eq_false h, decide_eq_false (by have := Int.mul_nonneg (by omega : 0 ≤ N) (by omega : 0 ≤ k); omega)]
theorem lowZ_eq {N D N' D' : Int} (hD : 0 < D) (hD' : 0 < D') (h : N * D' = N' * D) : lowZ N D = lowZ N' D' := by
  rw [← lowZ_scale hD hD', h, Int.mul_comm D D', lowZ_scale hD' hD]
/-- A right rational, of whatever length. -/
def RO (r : Bool × List Int × List Int) : Prop := Nm r.2.1 ∧ Nm r.2.2 ∧ r.2.2 ≠ [] ∧ (r.2.1 = [] → r.1 = false) ∧ gcdI (vl r.2.1) (vl r.2.2) = 1
/-- Its numerator with its sign. -/
def tp (r : Bool × List Int × List Int) : Int := if r.1 = true then -vl r.2.1 else vl r.2.1
def bt (r : Bool × List Int × List Int) : Int := vl r.2.2
theorem RO.bt {r : Bool × List Int × List Int} (h : RO r) : 0 < bt r := vl_pos h.2.1 h.2.2.1
theorem RO.abs {r : Bool × List Int × List Int} (h : RO r) : absI (tp r) = vl r.2.1 := by
  have := vl_nonneg h.1.1
  unfold tp
  split
  · rw [absI_neg (by omega)]; omega
  · exact absI_pos this
theorem RO.low {r : Bool × List Int × List Int} (h : RO r) : r = lowZ (tp r) (Pl.bt r) := by
  obtain ⟨b, n, d⟩ := r
  have ha := h.abs
  obtain ⟨h1, h2, h3, h4, h5⟩ := h
  unfold lowZ
  rw [ha]
  simp only [Pl.bt] at *
  rw [h5, Int.ediv_one, Int.ediv_one, nat_vl h1, nat_vl h2]
  congr 1
  unfold tp
  cases b with
  | false =>
    have := vl_nonneg h1.1
    simp; exact this
  | true =>
    have hne : n ≠ [] := fun e => by have := h4 e; cases this
    have := vl_pos h1 hne
    simp; exact this
theorem lowZ_ro {N D : Int} (hD : 0 < D) : RO (lowZ N D) := by
  obtain ⟨g1, g2, g3, g4, g5⟩ := gcdI_pos (absI_nonneg N) hD
  have q0 : 0 ≤ absI N / gcdI (absI N) D := Int.ediv_nonneg (absI_nonneg N) (by omega)
  have q1 : 0 < D / gcdI (absI N) D := by
    have := Int.le_ediv_of_mul_le g1 (show 1 * gcdI (absI N) D ≤ D by omega)
    omega
  unfold lowZ RO
  refine ⟨nm_nat _, nm_nat _, fun e => by have h0 := nat_eq_nil e; omega, fun e => ?_, ?_⟩
  · have h0 := nat_eq_nil e
    have h1 : absI N / gcdI (absI N) D = 0 := by omega
    have h2 := Int.emod_add_mul_ediv (absI N) (gcdI (absI N) D)
    rw [g2, h1] at h2
    have h3 : N = 0 := absI_eq0.1 (by omega)
    rw [h3]; rfl
  · simp only
    rw [vl_nat _ q0, vl_nat _ (by omega)]; exact g4
theorem lowZ_tp {N D : Int} (hD : 0 < D) : tp (lowZ N D) * D = N * bt (lowZ N D) ∧ 0 < bt (lowZ N D) := by
  obtain ⟨g1, g2, g3, g4, g5⟩ := gcdI_pos (absI_nonneg N) hD
  have q0 : 0 ≤ absI N / gcdI (absI N) D := Int.ediv_nonneg (absI_nonneg N) (by omega)
  have q1 : 0 < D / gcdI (absI N) D := by
    have := Int.le_ediv_of_mul_le g1 (show 1 * gcdI (absI N) D ≤ D by omega)
    omega
  have e1 := Int.emod_add_mul_ediv (absI N) (gcdI (absI N) D)
  have e2 := Int.emod_add_mul_ediv D (gcdI (absI N) D)
  rw [g2] at e1
  rw [g3] at e2
  have hb : bt (lowZ N D) = D / gcdI (absI N) D := by unfold bt lowZ; exact vl_nat _ (by omega)
  refine ⟨?_, by rw [hb]; exact q1⟩
  rw [hb]
  have ht : tp (lowZ N D) = if N < 0 then -(absI N / gcdI (absI N) D) else absI N / gcdI (absI N) D := by
    unfold tp lowZ
    simp only [decide_eq_true_eq]
    rw [vl_nat _ q0]
  rw [ht]
  generalize gcdI (absI N) D = G at *
  generalize absI N / G = A at *
  generalize D / G = B at *
  split
  · rename_i h
    have h2 := absI_neg (by omega : N ≤ 0)
    have e3 : N = -(G * A) := by omega
    rw [e3, ← e2]
    simp only [Int.zero_add, Int.neg_mul]
    rw [Int.mul_comm A (G * B), Int.mul_assoc, Int.mul_comm B A, ← Int.mul_assoc]
  · rename_i h
    have h2 := absI_pos (by omega : 0 ≤ N)
    have e3 : N = G * A := by omega
    rw [e3, ← e2]
    simp only [Int.zero_add]
    rw [Int.mul_comm A (G * B), Int.mul_assoc, Int.mul_comm B A, ← Int.mul_assoc]
/-- Lowest terms out of a sign and two numbers that are not below 0. -/
def low (neg : Bool) (a d : Int) : Bool × List Int × List Int := (neg && decide (0 < a), nat (a / gcdI a d), nat (d / gcdI a d))
theorem low_eq {neg : Bool} {a d : Int} (ha : 0 ≤ a) : low neg a d = lowZ (if neg = true then -a else a) d := by
  unfold low lowZ
  cases neg with
  | false =>
    simp only [Bool.false_and, Bool.false_eq_true, if_false, absI_pos ha]
    rw [decide_eq_false (by omega)]
  | true =>
    simp only [Bool.true_and, if_true]
    rw [absI_neg (by omega), Int.neg_neg]
    congr 1
    by_cases h : 0 < a
    · rw [decide_eq_true h, decide_eq_true (by omega)]
    · rw [decide_eq_false h, decide_eq_false (by omega)]

theorem spec_l01Add_l0 (k : Nat) (a b out : List Int) (c i : Int) : spec_l01Add.l0 (k + 1) a b out c i = spec_l01Add.j1 k a b out c i (decide (i < (a.length : Int) ∨ i < (b.length : Int) ∨ c > 0)) := by
  simp only [spec_l01Add.l0]
  by_cases h1 : i < (a.length : Int)
  · rw [if_pos h1, decide_eq_true (.inl h1)]
  · rw [if_neg h1]
    by_cases h2 : i < (b.length : Int)
    · rw [if_pos h2, decide_eq_true (.inr (.inl h2))]
    · rw [if_neg h2]; congr 1; simp [h1, h2]
theorem spec_l01Add_l0t (k : Nat) (a b out : List Int) (c i : Int) (h : i < (a.length : Int) ∨ i < (b.length : Int) ∨ c > 0) : spec_l01Add.l0 (k + 1) a b out c i = spec_l01Add.j1 k a b out c i true := by
  rw [spec_l01Add_l0, decide_eq_true h]
theorem spec_l01Add_l0f (k : Nat) (a b out : List Int) (c i : Int) (h : ¬ (i < (a.length : Int) ∨ i < (b.length : Int) ∨ c > 0)) : spec_l01Add.l0 (k + 1) a b out c i = spec_l01Add.j1 k a b out c i false := by
  rw [spec_l01Add_l0, decide_eq_false h]
theorem spec_l01Add_loop {a b : List Int} (ha : Lm a) (hb : Lm b) (hla : a.length ≤ 1000000000) (hlb : b.length ≤ 1000000000) (d : Nat) :
    ∀ (i : Nat) (c : Int) (out : List Int), (a.length - i) + (b.length - i) + c.toNat ≤ d → 0 ≤ c → c ≤ 1 → out.length + (a.length - i) + (b.length - i) + c.toNat ≤ 4000000000 → i + (a.length - i) + (b.length - i) + c.toNat ≤ 4000000000 →
    Ev (fun k => spec_l01Add.l0 k a b out c i) (out ++ addL (a.drop i) (b.drop i) c) := by
  induction d with
  | zero =>
    intro i c out hd h0 h1 ho hi
    rw [drop_nil (l := a) (i := i) (by omega), drop_nil (l := b) (i := i) (by omega)]
    unfold addL
    rw [if_neg (by omega), List.append_nil]
    refine Ev.step (f := fun k => spec_l01Add.j1 k a b out c i false) (fun k => spec_l01Add_l0f k a b out c i (by omega)) ?_
    refine Ev.step (f := fun _ => some out) (fun k => by simp only [spec_l01Add.j1, Bool.false_eq_true, if_false]) (Ev.now _)
  | succ d ih =>
    intro i c out hd h0 h1 ho hi
    obtain ⟨x, hx, ra⟩ : ∃ x, rd a i = x ∧ 0 ≤ x ∧ x < 10000 := ⟨_, rfl, rd_lm ha i⟩
    obtain ⟨y, hy, rb⟩ : ∃ y, rd b i = y ∧ 0 ≤ y ∧ y < 10000 := ⟨_, rfl, rd_lm hb i⟩
    have hi9 : (i : Int) < 9223372036854775807 := by omega
    by_cases hia : i < a.length
    · refine Ev.step (f := fun k => spec_l01Add.j1 k a b out c i true) (fun k => spec_l01Add_l0t k a b out c i (by omega)) ?_
      by_cases hib : i < b.length
      · rw [drop_cons hia, drop_cons hib, addL, hx, hy]
        have := ih (i + 1) ((x + y + c) / 10000) (out ++ [(x + y + c) % 10000]) (by omega) (by omega) (by omega) (by simp; omega) (by omega)
        rw [List.append_assoc] at this
        refine Ev.step (fun k => ?_) this
        simp only [spec_l01Add.j1, if_true]; rw [if_pos (by omega), if_pos (by omega), if_pos (by omega), if_pos (by omega)]
        rw [hx, hy, wrap_in (x := c + x) (by omega) (by omega), wrap_in (by omega) (by omega), tmod_pos (by omega), tdiv_pos (by omega), wrap_in (by omega) (by omega), wsucc hi9]
        rw [show c + x + y = x + y + c by omega]
      · rw [drop_cons hia, drop_nil (l := b) (i := i) (by omega), addL, hx]
        have := ih (i + 1) ((x + c) / 10000) (out ++ [(x + c) % 10000]) (by omega) (by omega) (by omega) (by simp; omega) (by omega)
        rw [List.append_assoc, drop_nil (l := b) (i := i + 1) (by omega)] at this
        refine Ev.step (fun k => ?_) this
        simp only [spec_l01Add.j1, if_true]; rw [if_pos (by omega), if_pos (by omega), if_neg (by omega), if_pos (by omega)]
        rw [hx, wrap_in (x := c + x) (by omega) (by omega), tmod_pos (by omega), tdiv_pos (by omega), wrap_in (by omega) (by omega), wsucc hi9]
        rw [show c + x = x + c by omega]
    · by_cases hib : i < b.length
      · refine Ev.step (f := fun k => spec_l01Add.j1 k a b out c i true) (fun k => spec_l01Add_l0t k a b out c i (by omega)) ?_
        rw [drop_cons hib, drop_nil (l := a) (i := i) (by omega), addL, hy]
        have := ih (i + 1) ((y + c) / 10000) (out ++ [(y + c) % 10000]) (by omega) (by omega) (by omega) (by simp; omega) (by omega)
        rw [List.append_assoc, drop_nil (l := a) (i := i + 1) (by omega)] at this
        refine Ev.step (fun k => ?_) this
        simp only [spec_l01Add.j1, if_true]; rw [if_neg (by omega), if_pos (by omega), if_pos (by omega), if_pos (by omega)]
        rw [hy, wrap_in (x := c + y) (by omega) (by omega), tmod_pos (by omega), tdiv_pos (by omega), wrap_in (by omega) (by omega), wsucc hi9]
        rw [show c + y = y + c by omega]
      · rw [drop_nil (l := a) (i := i) (by omega), drop_nil (l := b) (i := i) (by omega), addL]
        by_cases hc : c > 0
        · rw [if_pos hc]
          refine Ev.step (f := fun k => spec_l01Add.j1 k a b out c i true) (fun k => spec_l01Add_l0t k a b out c i (by omega)) ?_
          have := ih (i + 1) (c / 10000) (out ++ [c % 10000]) (by omega) (by omega) (by omega) (by simp; omega) (by omega)
          rw [drop_nil (l := a) (i := i + 1) (by omega), drop_nil (l := b) (i := i + 1) (by omega), addL, if_neg (by omega), List.append_nil] at this
          refine Ev.step (fun k => ?_) this
          simp only [spec_l01Add.j1, if_true]; rw [if_neg (by omega), if_neg (by omega), if_pos (by omega)]
          rw [tmod_pos (by omega), tdiv_pos (by omega), wrap_in (by omega) (by omega), wsucc hi9]
        · rw [if_neg hc, List.append_nil]
          refine Ev.step (f := fun k => spec_l01Add.j1 k a b out c i false) (fun k => spec_l01Add_l0f k a b out c i (by omega)) ?_
          refine Ev.step (f := fun _ => some out) (fun k => by simp only [spec_l01Add.j1, Bool.false_eq_true, if_false]) (Ev.now _)
theorem spec_l01Add_ev {a b : List Int} (ha : Nm a) (hb : Nm b) (hla : a.length ≤ 1000000000) (hlb : b.length ≤ 1000000000) :
    Ev (fun k => spec_l01Add.f k a b) (nat (vl a + vl b)) := by
  have := spec_l01Add_loop ha.1 hb.1 hla hlb _ 0 0 [] (Nat.le_refl _) (by omega) (by omega) (by simp; omega) (by omega)
  rw [List.nil_append, List.drop_zero, List.drop_zero, addL_nat ha hb] at this
  exact this

theorem impl_natAdd_l0 (k : Nat) (a b out : List Int) (c i : Int) : impl_natAdd.l0 (k + 1) a b out c i = impl_natAdd.j1 k a b out c i (decide (i < (a.length : Int) ∨ i < (b.length : Int) ∨ c > 0)) := by
  simp only [impl_natAdd.l0]
  by_cases h0 : (a.length : Int) < (b.length : Int)
  · rw [if_pos h0]
    by_cases h2 : i < (b.length : Int)
    · rw [if_pos h2, decide_eq_true (.inr (.inl h2))]
    · rw [if_neg h2]; congr 1; rw [decide_eq_decide]; omega
  · rw [if_neg h0]
    by_cases h2 : i < (a.length : Int)
    · rw [if_pos h2, decide_eq_true (.inl h2)]
    · rw [if_neg h2]; congr 1; rw [decide_eq_decide]; omega
theorem impl_natAdd_l0t (k : Nat) (a b out : List Int) (c i : Int) (h : i < (a.length : Int) ∨ i < (b.length : Int) ∨ c > 0) : impl_natAdd.l0 (k + 1) a b out c i = impl_natAdd.j1 k a b out c i true := by
  rw [impl_natAdd_l0, decide_eq_true h]
theorem impl_natAdd_l0f (k : Nat) (a b out : List Int) (c i : Int) (h : ¬ (i < (a.length : Int) ∨ i < (b.length : Int) ∨ c > 0)) : impl_natAdd.l0 (k + 1) a b out c i = impl_natAdd.j1 k a b out c i false := by
  rw [impl_natAdd_l0, decide_eq_false h]
theorem impl_natAdd_loop {a b : List Int} (ha : Lm a) (hb : Lm b) (hla : a.length ≤ 1000000000) (hlb : b.length ≤ 1000000000) (d : Nat) :
    ∀ (i : Nat) (c : Int) (out : List Int), (a.length - i) + (b.length - i) + c.toNat ≤ d → 0 ≤ c → c ≤ 1 → out.length + (a.length - i) + (b.length - i) + c.toNat ≤ 4000000000 → i + (a.length - i) + (b.length - i) + c.toNat ≤ 4000000000 →
    Ev (fun k => impl_natAdd.l0 k a b out c i) (out ++ addL (a.drop i) (b.drop i) c) := by
  induction d with
  | zero =>
    intro i c out hd h0 h1 ho hi
    rw [drop_nil (l := a) (i := i) (by omega), drop_nil (l := b) (i := i) (by omega)]
    unfold addL
    rw [if_neg (by omega), List.append_nil]
    refine Ev.step (f := fun k => impl_natAdd.j1 k a b out c i false) (fun k => impl_natAdd_l0f k a b out c i (by omega)) ?_
    refine Ev.step (f := fun _ => some out) (fun k => by simp only [impl_natAdd.j1, Bool.false_eq_true, if_false]) (Ev.now _)
  | succ d ih =>
    intro i c out hd h0 h1 ho hi
    obtain ⟨x, hx, ra⟩ : ∃ x, rd a i = x ∧ 0 ≤ x ∧ x < 10000 := ⟨_, rfl, rd_lm ha i⟩
    obtain ⟨y, hy, rb⟩ : ∃ y, rd b i = y ∧ 0 ≤ y ∧ y < 10000 := ⟨_, rfl, rd_lm hb i⟩
    have hi9 : (i : Int) < 9223372036854775807 := by omega
    by_cases hia : i < a.length
    · refine Ev.step (f := fun k => impl_natAdd.j1 k a b out c i true) (fun k => impl_natAdd_l0t k a b out c i (by omega)) ?_
      by_cases hib : i < b.length
      · rw [drop_cons hia, drop_cons hib, addL, hx, hy]
        have := ih (i + 1) ((x + y + c) / 10000) (out ++ [(x + y + c) % 10000]) (by omega) (by omega) (by omega) (by simp; omega) (by omega)
        rw [List.append_assoc] at this
        refine Ev.step (fun k => ?_) this
        simp only [impl_natAdd.j1, if_true]; rw [if_pos (by omega), if_pos (by omega), if_pos (by omega), if_pos (by omega)]
        rw [hx, hy, wrap_in (x := c + x) (by omega) (by omega), wrap_in (by omega) (by omega), tmod_pos (by omega), tdiv_pos (by omega), wrap_in (by omega) (by omega), wsucc hi9]
        rw [show c + x + y = x + y + c by omega]
      · rw [drop_cons hia, drop_nil (l := b) (i := i) (by omega), addL, hx]
        have := ih (i + 1) ((x + c) / 10000) (out ++ [(x + c) % 10000]) (by omega) (by omega) (by omega) (by simp; omega) (by omega)
        rw [List.append_assoc, drop_nil (l := b) (i := i + 1) (by omega)] at this
        refine Ev.step (fun k => ?_) this
        simp only [impl_natAdd.j1, if_true]; rw [if_pos (by omega), if_pos (by omega), if_neg (by omega), if_pos (by omega)]
        rw [hx, wrap_in (x := c + x) (by omega) (by omega), tmod_pos (by omega), tdiv_pos (by omega), wrap_in (by omega) (by omega), wsucc hi9]
        rw [show c + x = x + c by omega]
    · by_cases hib : i < b.length
      · refine Ev.step (f := fun k => impl_natAdd.j1 k a b out c i true) (fun k => impl_natAdd_l0t k a b out c i (by omega)) ?_
        rw [drop_cons hib, drop_nil (l := a) (i := i) (by omega), addL, hy]
        have := ih (i + 1) ((y + c) / 10000) (out ++ [(y + c) % 10000]) (by omega) (by omega) (by omega) (by simp; omega) (by omega)
        rw [List.append_assoc, drop_nil (l := a) (i := i + 1) (by omega)] at this
        refine Ev.step (fun k => ?_) this
        simp only [impl_natAdd.j1, if_true]; rw [if_neg (by omega), if_pos (by omega), if_pos (by omega), if_pos (by omega)]
        rw [hy, wrap_in (x := c + y) (by omega) (by omega), tmod_pos (by omega), tdiv_pos (by omega), wrap_in (by omega) (by omega), wsucc hi9]
        rw [show c + y = y + c by omega]
      · rw [drop_nil (l := a) (i := i) (by omega), drop_nil (l := b) (i := i) (by omega), addL]
        by_cases hc : c > 0
        · rw [if_pos hc]
          refine Ev.step (f := fun k => impl_natAdd.j1 k a b out c i true) (fun k => impl_natAdd_l0t k a b out c i (by omega)) ?_
          have := ih (i + 1) (c / 10000) (out ++ [c % 10000]) (by omega) (by omega) (by omega) (by simp; omega) (by omega)
          rw [drop_nil (l := a) (i := i + 1) (by omega), drop_nil (l := b) (i := i + 1) (by omega), addL, if_neg (by omega), List.append_nil] at this
          refine Ev.step (fun k => ?_) this
          simp only [impl_natAdd.j1, if_true]; rw [if_neg (by omega), if_neg (by omega), if_pos (by omega)]
          rw [tmod_pos (by omega), tdiv_pos (by omega), wrap_in (by omega) (by omega), wsucc hi9]
        · rw [if_neg hc, List.append_nil]
          refine Ev.step (f := fun k => impl_natAdd.j1 k a b out c i false) (fun k => impl_natAdd_l0f k a b out c i (by omega)) ?_
          refine Ev.step (f := fun _ => some out) (fun k => by simp only [impl_natAdd.j1, Bool.false_eq_true, if_false]) (Ev.now _)
theorem impl_natAdd_ev {a b : List Int} (ha : Nm a) (hb : Nm b) (hla : a.length ≤ 1000000000) (hlb : b.length ≤ 1000000000) :
    Ev (fun k => impl_natAdd.f k a b) (nat (vl a + vl b)) := by
  have := impl_natAdd_loop ha.1 hb.1 hla hlb _ 0 0 [] (Nat.le_refl _) (by omega) (by omega) (by simp; omega) (by omega)
  rw [List.nil_append, List.drop_zero, List.drop_zero, addL_nat ha hb] at this
  exact this

theorem one_f : impl_one.f = some [1] := rfl
theorem nat_1 : nat 1 = [1] := by rw [nat_pos (by omega), show (1 : Int) % 10000 = 1 by rfl, show (1 : Int) / 10000 = 0 by rfl, nat_zero]
theorem clone_nat {l : List Int} (h : l.length ≤ 1000000) : slices_Clone_int_int.f l = some l := by unfold slices_Clone_int_int.f; rw [if_pos (by omega)]
theorem nat_lp {x : Int} (h : 0 ≤ x) : decide (((nat x).length : Int) > 0) = decide (0 < x) := by
  by_cases h0 : 0 < x
  · rw [decide_eq_true h0, decide_eq_true (len_pos h0)]
  · rw [decide_eq_false h0, nat_neg h0]; rfl
theorem p1000' {x : Int} (h : x < 10000 ^ 900) : x < 10000 ^ 1000 := Int.lt_of_lt_of_le h (pow_mono' (by omega))
theorem lowestE {neg : Bool} {a d : Int} (ha : 0 ≤ a) (hd : 0 < d) (hab : a < 10000 ^ 900) (hdb : d < 10000 ^ 900) : Ev (fun k => impl_lowest.f k neg (nat a) (nat d)) (low neg a d) := by
  obtain ⟨g1, g2, g3, g4, g5⟩ := gcdI_pos ha hd
  obtain ⟨K, h⟩ := gcdI_ev _ a d (Nat.le_refl _) ha (p1000' hab) (by omega) (p1000' hdb)
  have q0 : 0 ≤ a / gcdI a d := Int.ediv_nonneg ha (by omega)
  have q1 : a / gcdI a d ≤ a := Int.ediv_le_self _ ha
  have q2 : 0 ≤ d / gcdI a d := Int.ediv_nonneg (by omega) (by omega)
  have q3 : d / gcdI a d ≤ d := Int.ediv_le_self _ (by omega)
  have hl1 := nat_len a 900 hab
  have hl2 := nat_len d 900 hdb
  have hl3 := nat_len (a / gcdI a d) 900 (by omega)
  have hl4 := nat_len (d / gcdI a d) 900 (by omega)
  have e1 := divI (A := a) (B := gcdI a d) ha g1 hab (by omega)
  have e2 := divI (A := d) (B := gcdI a d) (by omega) g1 hdb (by omega)
  have hc : impl_natCmp.f (nat (gcdI a d)) [1] = some (cmpI (gcdI a d) 1) := by
    unfold impl_natCmp.f
    rw [← nat_1, ncmp_vl (nm_nat _) (nm_nat _), vl_nat _ (by omega), vl_nat 1 (by omega)]
  refine ⟨K, fun k hk => ?_⟩
  have h' := h k hk
  simp only at h'
  show impl_lowest.f k neg (nat a) (nat d) = _
  unfold impl_lowest.f
  simp only [impl_natGcd.f, h', one_f, Option.bind_some, hc]
  by_cases h1 : gcdI a d = 1
  · rw [if_pos ((cmpI_eq _ _).2 h1)]
    simp only [clone_nat (show (nat a).length ≤ 1000000 by omega), clone_nat (show (nat d).length ≤ 1000000 by omega), Option.bind_some, nat_lp ha, low, h1, Int.ediv_one]
    cases neg <;> simp
  · rw [if_neg (fun e => h1 ((cmpI_eq _ _).1 e))]
    simp only [e1, e2, clone_nat (show (nat (a / gcdI a d)).length ≤ 1000000 by omega), clone_nat (show (nat (d / gcdI a d)).length ≤ 1000000 by omega), Option.bind_some, nat_lp q0, low]
    have hp : decide (0 < a / gcdI a d) = decide (0 < a) := by
      have e := Int.emod_add_mul_ediv a (gcdI a d)
      rw [g2] at e
      by_cases h0 : 0 < a
      · have : 0 < a / gcdI a d := by
          rcases Int.lt_or_le 0 (a / gcdI a d) with h2 | h2
          · exact h2
          · have h3 : a / gcdI a d = 0 := by omega
            rw [h3] at e; omega
        rw [decide_eq_true h0, decide_eq_true this]
      · rw [decide_eq_false h0, decide_eq_false (by omega)]
    rw [hp]
    cases neg <;> simp
theorem makeE {neg : Bool} {a d : Int} (ha : 0 ≤ a) (hd : 0 < d) (hab : a < 10000 ^ 900) (hdb : d < 10000 ^ 900) : Ev (fun k => spec_l02Make.f k neg (nat a) (nat d)) (low neg a d) := by
  obtain ⟨g1, g2, g3, g4, g5⟩ := gcdI_pos ha hd
  obtain ⟨K, h⟩ := gcdS_ev _ a d (Nat.le_refl _) ha (p1000' hab) (by omega) (p1000' hdb)
  have q1 : a / gcdI a d ≤ a := Int.ediv_le_self _ ha
  have q0 : 0 ≤ a / gcdI a d := Int.ediv_nonneg ha (by omega)
  have hgb : gcdI a d < 10000 ^ 900 := by omega
  obtain ⟨K1, e1⟩ := divE (A := a) (B := gcdI a d) ha g1 hab hgb (by omega) (by omega)
  obtain ⟨K2, e2⟩ := divE (A := d) (B := gcdI a d) (by omega) g1 hdb hgb (by omega) (by omega)
  refine ⟨K + K1 + K2, fun k hk => ?_⟩
  have h' := h k (by omega)
  have e1' := e1 k (by omega)
  have e2' := e2 k (by omega)
  simp only at h' e1' e2'
  show spec_l02Make.f k neg (nat a) (nat d) = _
  unfold spec_l02Make.f
  simp only [spec_l01Gcd.f, h', e1', e2', Option.bind_some, nat_lp q0, low]
  have hp : decide (0 < a / gcdI a d) = decide (0 < a) := by
    have e := Int.emod_add_mul_ediv a (gcdI a d)
    rw [g2] at e
    by_cases h0 : 0 < a
    · have : 0 < a / gcdI a d := by
        rcases Int.lt_or_le 0 (a / gcdI a d) with h2 | h2
        · exact h2
        · have h3 : a / gcdI a d = 0 := by omega
          rw [h3] at e; omega
      rw [decide_eq_true h0, decide_eq_true this]
    · rw [decide_eq_false h0, decide_eq_false (by omega)]
  rw [hp]
  cases neg <;> simp
theorem natOf_loop : ∀ (d : Nat) (a : Int) (out : List Int), 0 ≤ a → a < 10000 ^ d → a ≤ 9223372036854775807 → out.length + d ≤ 1000 → Ev (fun k => impl_natOf.l0 k a out) (out ++ nat a)
  | 0, a, out, h0, h1, h2, h3 => by
    have : a = 0 := by simp at h1; omega
    subst this
    refine Ev.step (f := fun _ => some out) (fun k => ?_) (by rw [nat_zero, List.append_nil]; exact Ev.now _)
    simp only [impl_natOf.l0]; rw [if_neg (by omega)]
  | d + 1, a, out, h0, h1, h2, h3 => by
    by_cases h : a > 0
    · have e1 : wrap64 (Int.tdiv a 10000) = a / 10000 := by rw [tdiv_pos h0, wrap_in (by omega) (by omega)]
      have ih := natOf_loop d (a / 10000) (out ++ [a % 10000]) (by omega) (Int.ediv_lt_of_lt_mul (by omega) (by rw [Int.pow_succ] at h1; exact h1)) (by omega) (by simp; omega)
      have ih' : Ev (fun k => impl_natOf.l0 k (a / 10000) (out ++ [a % 10000])) (out ++ nat a) := by
        rw [nat_pos h]; rw [List.append_assoc] at ih; exact ih
      refine Ev.step (fun k => ?_) ih'
      simp only [impl_natOf.l0]; rw [if_pos h, if_pos (by omega), e1, tmod_pos h0]
    · refine Ev.step (f := fun _ => some out) (fun k => ?_) (by rw [nat_neg h, List.append_nil]; exact Ev.now _)
      simp only [impl_natOf.l0]; rw [if_neg h]
/-- A whole number as a rational. -/
def wholeR (n : Int) : Bool × List Int × List Int := (decide (n < 0), nat (absI n), [1])
theorem wholeE {n : Int} (h : -1000000000 ≤ n) (h2 : n ≤ 1000000000) : Ev (fun k => impl_whole.f k n) (wholeR n) := by
  obtain ⟨K, e⟩ := natOf_loop 3 (absI n) [] (absI_nonneg n) (by unfold absI; omega) (by unfold absI; omega) (by simp)
  refine ⟨K, fun k hk => ?_⟩
  have e' := e k hk
  simp only [List.nil_append] at e'
  show impl_whole.f k n = _
  unfold impl_whole.f wholeR
  by_cases h0 : n < 0
  · rw [if_pos h0, wrap_in (by omega) (by omega), ← absI_neg (by omega)]
    simp only [impl_natOf.f, e', one_f, Option.bind_some, decide_eq_true h0]
  · rw [if_neg h0]
    rw [absI_pos (by omega)] at e' ⊢
    simp only [impl_natOf.f, e', one_f, Option.bind_some, decide_eq_false h0]
theorem l02IntE {n : Int} (h : -1000000000 ≤ n) (h2 : n ≤ 1000000000) : Ev (fun k => spec_l02Int.f k n) (wholeR n) := by
  obtain ⟨K, e⟩ := small_loop 3 (absI n) [] (absI_nonneg n) (by unfold absI; omega) (by unfold absI; omega) (by simp)
  refine ⟨K, fun k hk => ?_⟩
  have e' := e k hk
  simp only [List.nil_append] at e'
  show spec_l02Int.f k n = _
  unfold spec_l02Int.f wholeR
  by_cases h0 : n < 0
  · rw [if_pos h0, wrap_in (by omega) (by omega), ← absI_neg (by omega)]
    simp only [spec_l01Small.f, e', Option.bind_some, decide_eq_true h0]
  · rw [if_neg h0]
    rw [absI_pos (by omega)] at e' ⊢
    simp only [spec_l01Small.f, e', Option.bind_some, decide_eq_false h0]
theorem wholeR_ro (n : Int) : RO (wholeR n) ∧ tp (wholeR n) = n ∧ bt (wholeR n) = 1 := by
  have h := nm_nat 1
  rw [nat_1] at h
  have hv : vl [1] = 1 := by simp [vl]
  have hn := vl_nat (absI n) (absI_nonneg n)
  refine ⟨⟨nm_nat _, h, by simp [wholeR], fun e => ?_, ?_⟩, ?_, hv⟩
  · have h0 := nat_eq_nil e
    unfold wholeR
    simp only [decide_eq_false_iff_not]
    unfold absI at h0; omega
  · show gcdI (vl (nat (absI n))) (vl [1]) = 1
    rw [hn, hv]; exact gcdI_one (absI_nonneg n)
  · unfold tp wholeR
    simp only [decide_eq_true_eq]
    rw [hn]; unfold absI
    split <;> omega

theorem len0' (b : List Int) : ((b.length : Int) = 0) ↔ b = [] := by
  rw [← List.length_eq_zero_iff]; omega
def ratOKB (r : Bool × List Int × List Int) : Bool := natOKB r.2.1 && (natOKB r.2.2 && (!decide (r.2.2 = []) && (!(r.1 && decide (r.2.1 = [])) && decide (gcdI (vl r.2.1) (vl r.2.2) = 1))))
theorem ratOKB_iff (r : Bool × List Int × List Int) : ratOKB r = true ↔ RO r ∧ r.2.1.length ≤ 40 ∧ r.2.2.length ≤ 40 := by
  unfold ratOKB RO
  simp only [Bool.and_eq_true, natOKB_iff, Bool.not_eq_true', decide_eq_false_iff_not, decide_eq_true_eq, Bool.and_eq_false_iff]
  constructor
  · rintro ⟨⟨a1, a2⟩, ⟨b1, b2⟩, c, d, e⟩
    exact ⟨⟨a2, b2, c, fun h => d.elim (fun z => z) (fun z => absurd h z), e⟩, a1, b1⟩
  · rintro ⟨⟨a2, b2, c, d, e⟩, a1, b1⟩
    exact ⟨⟨a1, a2⟩, ⟨b1, b2⟩, c, by
      by_cases h : r.2.1 = []
      · exact .inl (d h)
      · exact .inr h, e⟩
theorem nm_b {l : List Int} (h : Nm l) (hl : l.length ≤ 40) : vl l < 10000 ^ 1000 := Int.lt_of_lt_of_le (vl_lt h.1) (pow_mono' (by omega))
theorem implRatOK_ev (b : Bool) (n d : List Int) : Ev (fun k => impl_RatOK.f k b n d) (ratOKB (b, n, d)) := by
  by_cases h1 : natOKB n = true
  · by_cases h2 : natOKB d = true
    · by_cases h3 : d = []
      · refine ⟨1, fun k hk => ?_⟩
        obtain ⟨k, rfl⟩ : ∃ m, k = m + 1 := ⟨k - 1, by omega⟩
        show impl_RatOK.f (k + 1) b n d = _
        unfold impl_RatOK.f ratOKB
        simp only [impl_NatOK.f, h1, h2, Option.bind_some, if_true, impl_RatOK.j0]
        rw [if_pos ((len0' d).2 h3)]; simp [h3]
      · have m1 := natOKB_nm h1
        have m2 := natOKB_nm h2
        have hp := vl_pos m2 h3
        obtain ⟨K, e⟩ := gcdI_ev _ (vl n) (vl d) (Nat.le_refl _) (vl_nonneg m1.1) (nm_b m1 (natOKB_len h1)) (by omega) (nm_b m2 (natOKB_len h2))
        rw [nat_vl m1, nat_vl m2] at e
        have g := gcdI_pos (vl_nonneg m1.1) hp
        have hc : impl_natCmp.f (nat (gcdI (vl n) (vl d))) [1] = some (cmpI (gcdI (vl n) (vl d)) 1) := by
          unfold impl_natCmp.f
          rw [← nat_1, ncmp_vl (nm_nat _) (nm_nat _), vl_nat _ (by omega), vl_nat 1 (by omega)]
        have key : ∀ k, K ≤ k → impl_RatOK.j0 (k + 1) false b n d = some (decide (gcdI (vl n) (vl d) = 1)) := fun k hk => by
          have e' := e k hk
          simp only at e'
          simp only [impl_RatOK.j0, Bool.false_eq_true, if_false, impl_natGcd.f, e', one_f, Option.bind_some, hc]
          congr 1
          by_cases q : gcdI (vl n) (vl d) = 1
          · rw [decide_eq_true q]; exact beq_iff_eq.2 ((cmpI_eq _ _).2 q)
          · rw [decide_eq_false q]; exact beq_eq_false_iff_ne.2 (fun z => q ((cmpI_eq _ _).1 z))
        refine ⟨K + 1, fun k hk => ?_⟩
        obtain ⟨k, rfl⟩ : ∃ m, k = m + 1 := ⟨k - 1, by omega⟩
        have kk := key k (by omega)
        show impl_RatOK.f (k + 1) b n d = _
        unfold impl_RatOK.f ratOKB
        simp only [impl_NatOK.f, h1, h2, Option.bind_some, if_true, impl_Rat_isZero.f]
        rw [if_neg (fun z => h3 ((len0' d).1 z))]
        cases b with
        | false => simp [kk, h3]
        | true =>
          by_cases h4 : n = []
          · subst h4; simp [impl_RatOK.j0]
          · have : ((n.length : Int) == 0) = false := beq_eq_false_iff_ne.2 (fun z => h4 ((len0' n).1 z))
            simp [this, kk, h3, h4]
    · refine ⟨1, fun k hk => ?_⟩
      obtain ⟨k, rfl⟩ : ∃ m, k = m + 1 := ⟨k - 1, by omega⟩
      show impl_RatOK.f (k + 1) b n d = _
      unfold impl_RatOK.f ratOKB
      simp only [impl_NatOK.f, h1, Bool.eq_false_iff.2 h2, Option.bind_some, if_true, impl_RatOK.j0]; simp
  · refine ⟨1, fun k hk => ?_⟩
    obtain ⟨k, rfl⟩ : ∃ m, k = m + 1 := ⟨k - 1, by omega⟩
    show impl_RatOK.f (k + 1) b n d = _
    unfold impl_RatOK.f ratOKB
    simp only [impl_NatOK.f, Bool.eq_false_iff.2 h1, Option.bind_some, impl_RatOK.j0]; simp
theorem specRatOK_ev (b : Bool) (n d : List Int) (hn : n.length ≤ 1048576) (hd : d.length ≤ 1048576) : Ev (fun k => spec_RatOK.f k b n d) (ratOKB (b, n, d)) := by
  obtain ⟨K1, s1⟩ := specNatOK_ev n (by omega)
  obtain ⟨K2, s2⟩ := specNatOK_ev d (by omega)
  by_cases h1 : natOKB n = true
  · by_cases h2 : natOKB d = true
    · by_cases h3 : d = []
      · refine ⟨K1 + K2 + 1, fun k hk => ?_⟩
        obtain ⟨k, rfl⟩ : ∃ m, k = m + 1 := ⟨k - 1, by omega⟩
        have s1' := s1 (k + 1) (by omega)
        have s2' := s2 (k + 1) (by omega)
        simp only at s1' s2'
        show spec_RatOK.f (k + 1) b n d = _
        unfold spec_RatOK.f ratOKB
        simp only [s1', s2', h1, h2, Option.bind_some, if_true, spec_RatOK.j0]
        rw [if_pos ((len0' d).2 h3)]; simp [h3]
      · have m1 := natOKB_nm h1
        have m2 := natOKB_nm h2
        have hp := vl_pos m2 h3
        obtain ⟨K, e⟩ := gcdS_ev _ (vl n) (vl d) (Nat.le_refl _) (vl_nonneg m1.1) (nm_b m1 (natOKB_len h1)) (by omega) (nm_b m2 (natOKB_len h2))
        rw [nat_vl m1, nat_vl m2] at e
        have g := gcdI_pos (vl_nonneg m1.1) hp
        obtain ⟨K3, e3⟩ := cmpE (x := gcdI (vl n) (vl d)) (y := 1) (by omega) (by omega) (n := 1000) (by have := nm_b m2 (natOKB_len h2); omega) (by omega)
        rw [nat_1] at e3
        have key : ∀ k, K + K3 ≤ k → spec_RatOK.j0 (k + 1) false b n d = some (decide (gcdI (vl n) (vl d) = 1)) := fun k hk => by
          have e' := e k (by omega)
          have e3' := e3 k (by omega)
          simp only at e' e3'
          simp only [spec_RatOK.j0, Bool.false_eq_true, if_false, spec_l01Gcd.f, e', e3', Option.bind_some]
          congr 1
          by_cases q : gcdI (vl n) (vl d) = 1
          · rw [decide_eq_true q]; exact beq_iff_eq.2 ((cmpI_eq _ _).2 q)
          · rw [decide_eq_false q]; exact beq_eq_false_iff_ne.2 (fun z => q ((cmpI_eq _ _).1 z))
        refine ⟨K1 + K2 + K + K3 + 1, fun k hk => ?_⟩
        obtain ⟨k, rfl⟩ : ∃ m, k = m + 1 := ⟨k - 1, by omega⟩
        have s1' := s1 (k + 1) (by omega)
        have s2' := s2 (k + 1) (by omega)
        simp only at s1' s2'
        have kk := key k (by omega)
        show spec_RatOK.f (k + 1) b n d = _
        unfold spec_RatOK.f ratOKB
        simp only [s1', s2', h1, h2, Option.bind_some, if_true]
        rw [if_neg (fun z => h3 ((len0' d).1 z))]
        by_cases h4 : n = []
        · rw [if_pos ((len0' n).2 h4)]
          cases b with
          | false => simp [kk, h3]
          | true => subst h4; simp [spec_RatOK.j0]
        · rw [if_neg (fun z => h4 ((len0' n).1 z))]
          simp [kk, h3, h4]
    · refine ⟨K1 + K2 + 1, fun k hk => ?_⟩
      obtain ⟨k, rfl⟩ : ∃ m, k = m + 1 := ⟨k - 1, by omega⟩
      have s1' := s1 (k + 1) (by omega)
      have s2' := s2 (k + 1) (by omega)
      simp only at s1' s2'
      show spec_RatOK.f (k + 1) b n d = _
      unfold spec_RatOK.f ratOKB
      simp only [s1', s2', h1, Bool.eq_false_iff.2 h2, Option.bind_some, if_true, spec_RatOK.j0]; simp
  · refine ⟨K1 + 1, fun k hk => ?_⟩
    obtain ⟨k, rfl⟩ : ∃ m, k = m + 1 := ⟨k - 1, by omega⟩
    have s1' := s1 (k + 1) (by omega)
    simp only at s1'
    show spec_RatOK.f (k + 1) b n d = _
    unfold spec_RatOK.f ratOKB
    simp only [s1', Bool.eq_false_iff.2 h1, Option.bind_some, spec_RatOK.j0]; simp

abbrev R3 := Bool × List Int × List Int
/-- Naturals of at most n limbs, over one that is not 0. -/
def Sm (n : Nat) (r : R3) : Prop := Nm r.2.1 ∧ Nm r.2.2 ∧ r.2.2 ≠ [] ∧ r.2.1.length ≤ n ∧ r.2.2.length ≤ n
theorem RO.sm {r : R3} (h : RO r) {n : Nat} (h1 : r.2.1.length ≤ n) (h2 : r.2.2.length ≤ n) : Sm n r := ⟨h.1, h.2.1, h.2.2.1, h1, h2⟩
theorem mulIE {a b : List Int} (ha : Nm a) (hb : Nm b) (hla : a.length ≤ 1000000) (hlb : b.length ≤ 1000000) : Ev (fun k => impl_natMul.f k a b) (nat (vl a * vl b)) := impl_natMul_ev ha.1 hb.1 (by omega) (by omega)
theorem pw_mul {n : Nat} {a b : Int} (ha : 0 ≤ a ∧ a < 10000 ^ n) (hb : 0 ≤ b ∧ b < 10000 ^ n) : 0 ≤ a * b ∧ a * b < 10000 ^ (n + n) := by
  rw [Int.pow_add]; exact mul_lt2 ha hb
theorem nm_bd {l : List Int} (h : Nm l) {n : Nat} (hl : l.length ≤ n) : 0 ≤ vl l ∧ vl l < 10000 ^ n := ⟨vl_nonneg h.1, Int.lt_of_lt_of_le (vl_lt h.1) (pow_mono' hl)⟩
theorem pw_up {n m : Nat} {a : Int} (h : a < 10000 ^ n) (hm : n ≤ m) : a < 10000 ^ m := Int.lt_of_lt_of_le h (pow_mono' hm)

def mulZ (r s : R3) : R3 := low (r.1 != s.1) (vl r.2.1 * vl s.2.1) (vl r.2.2 * vl s.2.2)
theorem timesE {r s : R3} {n : Nat} (hr : Sm n r) (hs : Sm n s) (hn : n ≤ 400) : Ev (fun k => impl_Rat_times.f k r.1 r.2.1 r.2.2 s.1 s.2.1 s.2.2) (mulZ r s) := by
  obtain ⟨r1, r2, r3, r4, r5⟩ := hr
  obtain ⟨s1, s2, s3, s4, s5⟩ := hs
  obtain ⟨K1, e1⟩ := mulIE r1 s1 (by omega) (by omega)
  obtain ⟨K2, e2⟩ := mulIE r2 s2 (by omega) (by omega)
  have b1 := pw_mul (nm_bd r1 r4) (nm_bd s1 s4)
  have b2 := pw_mul (nm_bd r2 r5) (nm_bd s2 s5)
  obtain ⟨K3, e3⟩ := lowestE (neg := r.1 != s.1) b1.1 (Int.mul_pos (vl_pos r2 r3) (vl_pos s2 s3)) (pw_up b1.2 (by omega)) (pw_up b2.2 (by omega))
  refine ⟨K1 + K2 + K3, fun k hk => ?_⟩
  have e1' := e1 k (by omega)
  have e2' := e2 k (by omega)
  have e3' := e3 k (by omega)
  simp only at e1' e2' e3'
  show impl_Rat_times.f k _ _ _ _ _ _ = _
  unfold impl_Rat_times.f mulZ
  simp only [e1', e2', e3', Option.bind_some]
def divZ (r s : R3) : R3 := low (r.1 != s.1) (vl r.2.1 * vl s.2.2) (vl r.2.2 * vl s.2.1)
theorem overE {r s : R3} {n : Nat} (hr : Sm n r) (hs : Sm n s) (h0 : s.2.1 ≠ []) (hn : n ≤ 400) : Ev (fun k => impl_Rat_over.f k r.1 r.2.1 r.2.2 s.1 s.2.1 s.2.2) (divZ r s) := by
  obtain ⟨r1, r2, r3, r4, r5⟩ := hr
  obtain ⟨s1, s2, s3, s4, s5⟩ := hs
  obtain ⟨K1, e1⟩ := mulIE r1 s2 (by omega) (by omega)
  obtain ⟨K2, e2⟩ := mulIE r2 s1 (by omega) (by omega)
  have b1 := pw_mul (nm_bd r1 r4) (nm_bd s2 s5)
  have b2 := pw_mul (nm_bd r2 r5) (nm_bd s1 s4)
  obtain ⟨K3, e3⟩ := lowestE (neg := r.1 != s.1) b1.1 (Int.mul_pos (vl_pos r2 r3) (vl_pos s1 h0)) (pw_up b1.2 (by omega)) (pw_up b2.2 (by omega))
  refine ⟨K1 + K2 + K3, fun k hk => ?_⟩
  have e1' := e1 k (by omega)
  have e2' := e2 k (by omega)
  have e3' := e3 k (by omega)
  simp only at e1' e2' e3'
  show impl_Rat_over.f k _ _ _ _ _ _ = _
  unfold impl_Rat_over.f divZ
  simp only [e1', e2', e3', Option.bind_some]
def addZ (r s : R3) : R3 :=
  if r.1 = s.1 then low r.1 (vl r.2.1 * vl s.2.2 + vl s.2.1 * vl r.2.2) (vl r.2.2 * vl s.2.2)
  else if vl s.2.1 * vl r.2.2 ≤ vl r.2.1 * vl s.2.2 then low r.1 (vl r.2.1 * vl s.2.2 - vl s.2.1 * vl r.2.2) (vl r.2.2 * vl s.2.2)
  else low s.1 (vl s.2.1 * vl r.2.2 - vl r.2.1 * vl s.2.2) (vl r.2.2 * vl s.2.2)
theorem natCmp_nat {x y : Int} (hx : 0 ≤ x) (hy : 0 ≤ y) : impl_natCmp.f (nat x) (nat y) = some (cmpI x y) := by
  unfold impl_natCmp.f
  rw [ncmp_vl (nm_nat x) (nm_nat y), vl_nat x hx, vl_nat y hy]
theorem subIE {x y : Int} (hx : 0 ≤ x) (hy : 0 ≤ y) (hle : y ≤ x) {n : Nat} (hn : x < 10000 ^ n) (hb : n ≤ 1000000000) : Ev (fun k => impl_natSub.f k (nat x) (nat y)) (nat (x - y)) := by
  have h := impl_natSub_ev (lm_nat x) (lm_nat y) (by have := nat_len x n hn; omega) (by rw [vl_nat x hx, vl_nat y hy]; exact hle)
  rw [vl_nat x hx, vl_nat y hy] at h
  exact h
theorem addE {x y : Int} (hx : 0 ≤ x) (hy : 0 ≤ y) {n m : Nat} (hn : x < 10000 ^ n) (hm : y < 10000 ^ m) (hb : n ≤ 1000000000) (hb' : m ≤ 1000000000) : Ev (fun k => spec_l01Add.f k (nat x) (nat y)) (nat (x + y)) := by
  have h := spec_l01Add_ev (nm_nat x) (nm_nat y) (by have := nat_len x n hn; omega) (by have := nat_len y m hm; omega)
  rw [vl_nat x hx, vl_nat y hy] at h
  exact h
theorem addIE {x y : Int} (hx : 0 ≤ x) (hy : 0 ≤ y) {n m : Nat} (hn : x < 10000 ^ n) (hm : y < 10000 ^ m) (hb : n ≤ 1000000000) (hb' : m ≤ 1000000000) : Ev (fun k => impl_natAdd.f k (nat x) (nat y)) (nat (x + y)) := by
  have h := impl_natAdd_ev (nm_nat x) (nm_nat y) (by have := nat_len x n hn; omega) (by have := nat_len y m hm; omega)
  rw [vl_nat x hx, vl_nat y hy] at h
  exact h
theorem plusE {r s : R3} {n : Nat} (hr : Sm n r) (hs : Sm n s) (hn : n ≤ 400) : Ev (fun k => impl_Rat_plus.f k r.1 r.2.1 r.2.2 s.1 s.2.1 s.2.2) (addZ r s) := by
  obtain ⟨r1, r2, r3, r4, r5⟩ := hr
  obtain ⟨s1, s2, s3, s4, s5⟩ := hs
  obtain ⟨K1, e1⟩ := mulIE r1 s2 (by omega) (by omega)
  obtain ⟨K2, e2⟩ := mulIE s1 r2 (by omega) (by omega)
  obtain ⟨K3, e3⟩ := mulIE r2 s2 (by omega) (by omega)
  have b1 := pw_mul (nm_bd r1 r4) (nm_bd s2 s5)
  have b2 := pw_mul (nm_bd s1 s4) (nm_bd r2 r5)
  have b3 := pw_mul (nm_bd r2 r5) (nm_bd s2 s5)
  have hd : 0 < vl r.2.2 * vl s.2.2 := Int.mul_pos (vl_pos r2 r3) (vl_pos s2 s3)
  have hc := natCmp_nat b1.1 b2.1
  have p1 := pow_pos' (n + n)
  have p2 : (10000 : Int) ^ (n + n + 1) = 10000 ^ (n + n) * 10000 := Int.pow_succ _ _
  have u3 := pw_up b3.2 (show n + n ≤ 900 by omega)
  unfold addZ
  generalize vl r.2.1 * vl s.2.2 = A at *
  generalize vl s.2.1 * vl r.2.2 = B at *
  generalize vl r.2.2 * vl s.2.2 = D at *
  by_cases h1 : r.1 = s.1
  · rw [if_pos h1]
    obtain ⟨K4, e4⟩ := addIE b1.1 b2.1 b1.2 b2.2 (by omega) (by omega)
    obtain ⟨K5, e5⟩ := lowestE (neg := r.1) (a := A + B) (d := D) (by omega) hd (pw_up (n := n + n + 1) (by omega) (by omega)) u3
    refine ⟨K1 + K2 + K3 + K4 + K5, fun k hk => ?_⟩
    have e1' := e1 k (by omega)
    have e2' := e2 k (by omega)
    have e3' := e3 k (by omega)
    have e4' := e4 k (by omega)
    have e5' := e5 k (by omega)
    simp only at e1' e2' e3' e4' e5'
    show impl_Rat_plus.f k _ _ _ _ _ _ = _
    unfold impl_Rat_plus.f
    simp only [e1', e2', e3', Option.bind_some]
    rw [if_pos (beq_iff_eq.2 h1)]
    simp only [e4', e5', Option.bind_some]
  · rw [if_neg h1]
    by_cases h2 : B ≤ A
    · rw [if_pos h2]
      obtain ⟨K4, e4⟩ := subIE b1.1 b2.1 h2 b1.2 (by omega)
      obtain ⟨K5, e5⟩ := lowestE (neg := r.1) (a := A - B) (d := D) (by omega) hd (pw_up (n := n + n) (by omega) (by omega)) u3
      refine ⟨K1 + K2 + K3 + K4 + K5, fun k hk => ?_⟩
      have e1' := e1 k (by omega)
      have e2' := e2 k (by omega)
      have e3' := e3 k (by omega)
      have e4' := e4 k (by omega)
      have e5' := e5 k (by omega)
      simp only at e1' e2' e3' e4' e5'
      show impl_Rat_plus.f k _ _ _ _ _ _ = _
      unfold impl_Rat_plus.f
      simp only [e1', e2', e3', Option.bind_some]
      rw [if_neg (fun z => h1 (beq_iff_eq.1 z))]
      simp only [hc, Option.bind_some]
      rw [if_pos ((cmpI_ge _ _).2 h2)]
      simp only [e4', e5', Option.bind_some]
    · rw [if_neg h2]
      obtain ⟨K4, e4⟩ := subIE b2.1 b1.1 (by omega) b2.2 (by omega)
      obtain ⟨K5, e5⟩ := lowestE (neg := s.1) (a := B - A) (d := D) (by omega) hd (pw_up (n := n + n) (by omega) (by omega)) u3
      refine ⟨K1 + K2 + K3 + K4 + K5, fun k hk => ?_⟩
      have e1' := e1 k (by omega)
      have e2' := e2 k (by omega)
      have e3' := e3 k (by omega)
      have e4' := e4 k (by omega)
      have e5' := e5 k (by omega)
      simp only at e1' e2' e3' e4' e5'
      show impl_Rat_plus.f k _ _ _ _ _ _ = _
      unfold impl_Rat_plus.f
      simp only [e1', e2', e3', Option.bind_some]
      rw [if_neg (fun z => h1 (beq_iff_eq.1 z))]
      simp only [hc, Option.bind_some]
      rw [if_neg (fun z => h2 ((cmpI_ge _ _).1 z))]
      simp only [e4', e5', Option.bind_some]
def negZ (r : R3) : R3 := (!r.1 && !decide (r.2.1 = []), r.2.1, r.2.2)
open Go.RowKit Go.Proofs.Ytacdaijalkkogaa.Q Go.Proofs.Ytacdaijalkkogaa.Pn Go.Proofs.YtacdaijalkkogaaW.PrintWords Go.Proofs.YtacdaijalkkogaaW.PrintLast Go.Proofs.YtacdaijalkkogaaW.PrintMore
abbrev R4 := Bool × List Int × List Int × Int
def bad4 (c : Int) : R4 := (false, [], [], c)
def ok4 (r : R3) : R4 := (r.1, r.2.1, r.2.2, 0)
def fit4 (r : R3) : R4 := if r.2.1.length ≤ 40 ∧ r.2.2.length ≤ 40 then ok4 r else bad4 7
theorem fullRat_f (r : R3) : impl_fullRat.f r.1 r.2.1 r.2.2 = some (fit4 r) := by
  unfold impl_fullRat.f impl_Rat_fits.f fit4
  by_cases h1 : (r.2.1.length : Int) ≤ 40
  · rw [if_pos h1]
    by_cases h2 : (r.2.2.length : Int) ≤ 40
    · rw [decide_eq_true h2, if_pos ⟨by omega, by omega⟩]; rfl
    · rw [decide_eq_false h2, if_neg (by omega)]; rfl
  · rw [if_neg h1, if_neg (by omega)]; rfl
theorem own_f (r : R3) (h1 : r.2.1.length ≤ 1000000) (h2 : r.2.2.length ≤ 1000000) : spec_l02Own.f r.1 r.2.1 r.2.2 = some r := by
  unfold spec_l02Own.f
  simp only [Option.bind_some, List.length_nil, Nat.zero_add, List.nil_append]
  rw [if_pos (by omega), if_pos (by omega)]
theorem l02Fit_f (r : R3) : spec_l02Fit.f r.1 r.2.1 r.2.2 = some (fit4 r) := by
  unfold spec_l02Fit.f spec_l02Fits.f fit4
  by_cases h1 : (r.2.1.length : Int) ≤ 40
  · rw [if_pos h1]
    by_cases h2 : (r.2.2.length : Int) ≤ 40
    · rw [decide_eq_true h2, if_pos ⟨by omega, by omega⟩]
      simp only [Option.bind_some, if_true, own_f r (by omega) (by omega)]; rfl
    · rw [decide_eq_false h2, if_neg (by omega)]; rfl
  · rw [if_neg h1, if_neg (by omega)]; rfl
theorem badR_ev (b : Bool) (n d : List Int) : Ev (fun k => impl_ratsCode_1.f k b n d) (!ratOKB (b, n, d)) := by
  obtain ⟨K, e⟩ := implRatOK_ev b n d
  refine ⟨K, fun k hk => ?_⟩
  have e' := e k hk
  simp only at e'
  show impl_ratsCode_1.f k b n d = _
  unfold impl_ratsCode_1.f
  simp only [e', Option.bind_some]
theorem ratsCode1 (b : Bool) (n d : List Int) : Ev (fun k => impl_ratsCode.f k [(⟨b, n, d⟩ : S24)]) (if ratOKB (b, n, d) = true then 0 else 1) := by
  obtain ⟨K, e⟩ := badR_ev b n d
  refine ⟨K + 2, fun k hk => ?_⟩
  obtain ⟨k, rfl⟩ : ∃ m, k = m + 2 := ⟨k - 2, by omega⟩
  have e' := e (k + 1) (by omega)
  simp only at e'
  have w1 : wrap64 (0 + 1) = 1 := by rw [wrap_in (by omega) (by omega)]; rfl
  have r0 : rd_T24 [(⟨b, n, d⟩ : S24)] 0 = ⟨b, n, d⟩ := rfl
  show impl_ratsCode.f (k + 2) _ = _
  unfold impl_ratsCode.f impl_Rat_100.f impl_Rat_119.f impl_unless.f
  simp only [impl_Rat_119.l0, List.length_cons, List.length_nil, r0, e', w1, Option.bind_some]
  cases ratOKB (b, n, d) <;> simp
theorem ratsCode2 (b : Bool) (n d : List Int) (b' : Bool) (n' d' : List Int) : Ev (fun k => impl_ratsCode.f k [(⟨b, n, d⟩ : S24), (⟨b', n', d'⟩ : S24)]) (if ratOKB (b, n, d) = true ∧ ratOKB (b', n', d') = true then 0 else 1) := by
  obtain ⟨K, e⟩ := badR_ev b n d
  obtain ⟨K1, e1⟩ := badR_ev b' n' d'
  refine ⟨K + K1 + 3, fun k hk => ?_⟩
  obtain ⟨k, rfl⟩ : ∃ m, k = m + 3 := ⟨k - 3, by omega⟩
  have e' := e (k + 2) (by omega)
  have e1' := e1 (k + 1) (by omega)
  simp only at e' e1'
  have w1 : wrap64 (0 + 1) = 1 := by rw [wrap_in (by omega) (by omega)]; rfl
  have w2 : wrap64 (1 + 1) = 2 := by rw [wrap_in (by omega) (by omega)]; rfl
  have r0 : rd_T24 [(⟨b, n, d⟩ : S24), (⟨b', n', d'⟩ : S24)] 0 = ⟨b, n, d⟩ := rfl
  have r1 : rd_T24 [(⟨b, n, d⟩ : S24), (⟨b', n', d'⟩ : S24)] 1 = ⟨b', n', d'⟩ := rfl
  show impl_ratsCode.f (k + 3) _ = _
  unfold impl_ratsCode.f impl_Rat_100.f impl_Rat_119.f impl_unless.f
  simp only [impl_Rat_119.l0, List.length_cons, List.length_nil, r0, r1, e', e1', w1, w2, Option.bind_some]
  cases ratOKB (b, n, d) <;> cases ratOKB (b', n', d') <;> simp
theorem addZ_eq {r s : R3} (hr : RO r) (hs : RO s) : addZ r s = lowZ (tp r * bt s + tp s * bt r) (bt r * bt s) := by
  have h1 := vl_nonneg hr.1.1
  have h2 := vl_nonneg hs.1.1
  have h3 := vl_pos hr.2.1 hr.2.2.1
  have h4 := vl_pos hs.2.1 hs.2.2.1
  have p1 := Int.mul_nonneg h1 (Int.le_of_lt h4)
  have p2 := Int.mul_nonneg h2 (Int.le_of_lt h3)
  unfold addZ tp bt
  cases hb : r.1 <;> cases hc : s.1 <;> simp only [Bool.false_eq_true, if_false, if_true, Int.neg_mul, reduceCtorEq]
  · rw [low_eq (by omega)]; simp
  · split
    · rw [low_eq (by omega)]; simp; congr 1
    · rw [low_eq (by omega)]; simp; congr 1; omega
  · split
    · rw [low_eq (by omega)]; simp; congr 1; omega
    · rw [low_eq (by omega)]; simp; congr 1; omega
  · rw [low_eq (by omega)]; simp; congr 1; omega
def sgI (x : Int) : Int := if x < 0 then -1 else if x = 0 then 0 else 1
def sgR (r : R3) : Int := if r.2.1 = [] then 0 else if r.1 = true then -1 else 1
theorem sign_f (r : R3) : impl_Rat_sign.f r.1 r.2.1 r.2.2 = some (sgR r) := by
  unfold impl_Rat_sign.f impl_Rat_isZero.f sgR
  by_cases h : r.2.1 = []
  · simp [h]
  · have : ((r.2.1.length : Int) == 0) = false := beq_eq_false_iff_ne.2 (fun z => h ((len0' _).1 z))
    simp only [this, Option.bind_some, h]
    cases r.1 <;> simp
theorem sgR_tp {r : R3} (h : RO r) : sgR r = sgI (tp r) := by
  unfold sgR sgI tp
  by_cases h0 : r.2.1 = []
  · rw [if_pos h0, h.2.2.2.1 h0, h0]; simp [vl]
  · have := vl_pos h.1 h0
    rw [if_neg h0]
    cases r.1 with
    | true => simp; omega
    | false => simp; omega
theorem sgI_mul {x d : Int} (hd : 0 < d) : sgI (x * d) = sgI x := by
  unfold sgI
  rcases Int.lt_trichotomy x 0 with h | h | h
  · rw [if_pos h, if_pos (Int.mul_neg_of_neg_of_pos h hd)]
  · rw [h]; simp
  · have := Int.mul_pos h hd
    rw [if_neg (by omega), if_neg (by omega), if_neg (by omega), if_neg (by omega)]
theorem cmp_sg (x y : Int) : cmpI x y = sgI (x - y) := by
  unfold cmpI sgI
  rcases Int.lt_trichotomy x y with h | h | h
  · rw [if_pos h, if_pos (by omega)]
  · rw [if_neg (by omega), if_pos h, if_neg (by omega), if_pos (by omega)]
  · rw [if_neg (by omega), if_neg (by omega), if_neg (by omega), if_neg (by omega)]

theorem ok_sm {r : R3} (h : ratOKB r = true) : Sm 40 r := ((ratOKB_iff r).1 h).1.sm ((ratOKB_iff r).1 h).2.1 ((ratOKB_iff r).1 h).2.2
def twoAns (op : R3 → R3 → R3) (r s : R3) : R4 := if ratOKB r = true ∧ ratOKB s = true then fit4 (op r s) else bad4 1
theorem fit_tail (z : R3) : ((impl_fullRat.f z.1 z.2.1 z.2.2).bind fun t => some (t.1, t.2.1, t.2.2.1, t.2.2.2)) = some (fit4 z) := by rw [fullRat_f, Option.bind_some]
theorem ev_two {op : R3 → R3 → R3} {r s : R3} {code : Nat → Option Int} {g : Nat → Option R3} (e : Ev code (if ratOKB r = true ∧ ratOKB s = true then 0 else 1)) (h : ratOKB r = true → ratOKB s = true → Ev g (op r s)) :
    Ev (fun k => (code k).bind fun t => if t = 0 then (g k).bind (fun z => (impl_fullRat.f z.1 z.2.1 z.2.2).bind fun t => some (t.1, t.2.1, t.2.2.1, t.2.2.2)) else some (false, ([] : List Int), ([] : List Int), t)) (twoAns op r s) := by
  refine Ev.bind (f := fun k t => if t = 0 then (g k).bind (fun z => (impl_fullRat.f z.1 z.2.1 z.2.2).bind fun t => some (t.1, t.2.1, t.2.2.1, t.2.2.2)) else some (false, ([] : List Int), ([] : List Int), t)) e ?_
  unfold twoAns
  by_cases c : ratOKB r = true ∧ ratOKB s = true
  · rw [if_pos c, if_pos c]
    refine Ev.congr (fun k => if_pos rfl) (Ev.bind (f := fun _ z => (impl_fullRat.f z.1 z.2.1 z.2.2).bind fun t => some (t.1, t.2.1, t.2.2.1, t.2.2.2)) (h c.1 c.2) ?_)
    exact Ev.congr (fun k => fit_tail _) (Ev.now _)
  · rw [if_neg c, if_neg c]
    exact Ev.congr (fun k => if_neg (by decide)) (Ev.now _)
theorem sameInts_ev (a b : List Int) (h : a.length ≤ 9223372036854775806) : Ev (fun k => laws_sameInts.f k a b) (decide (a = b)) := by
  by_cases hl : a.length = b.length
  · have loop : ∀ (d i : Nat), i + d = a.length → Ev (fun k => laws_sameInts.l0 k a b i) (decide (a.drop i = b.drop i)) := by
      intro d
      induction d with
      | zero =>
        intro i hi
        refine Ev.step (f := fun _ => some true) (fun k => by simp only [laws_sameInts.l0]; rw [if_neg (by omega)]) ?_
        rw [List.drop_eq_nil_of_le (by omega), List.drop_eq_nil_of_le (by omega)]
        exact Ev.now _
      | succ d ih =>
        intro i hi
        rw [drop_cons (l := a) (by omega), drop_cons (l := b) (by omega)]
        by_cases he : rd a i = rd b i
        · refine Ev.step (fun k => ?_) (show Ev (fun k => laws_sameInts.l0 k a b (i + 1 : Nat)) _ from ?_)
          · simp only [laws_sameInts.l0]; rw [if_pos (by omega), if_pos (by omega), if_pos (by omega), if_pos he, wsucc (by omega)]
          · have := ih (i + 1) (by omega)
            rw [he]
            simpa using this
        · refine Ev.step (f := fun _ => some false) (fun k => ?_) ?_
          · simp only [laws_sameInts.l0]; rw [if_pos (by omega), if_pos (by omega), if_pos (by omega), if_neg he]
          · have : decide (rd a i :: a.drop (i + 1) = rd b i :: b.drop (i + 1)) = false := by simp [he]
            rw [this]; exact Ev.now _
    have := loop a.length 0 (by omega)
    rw [List.drop_zero, List.drop_zero] at this
    refine Ev.congr (fun k => ?_) this
    unfold laws_sameInts.f
    rw [if_pos (by omega)]
    rfl
  · have e : decide (a = b) = false := decide_eq_false (fun e => hl (by rw [e]))
    rw [e]
    refine Ev.congr (fun k => ?_) (Ev.now false)
    unfold laws_sameInts.f
    rw [if_neg (by omega)]

/-- Bytes. -/
def By (l : List Int) : Prop := ∀ x ∈ l, 0 ≤ x ∧ x < 256
theorem by_wf {l : List Int} (h : ∀ x ∈ l, (Lit.int .u8 x).wf = true) : By l := fun x hx => by
  have := h x hx
  simp [Lit.wf] at this
  have e0 : IntKind.u8.min = 0 := rfl
  have e1 : IntKind.u8.max = 255 := rfl
  omega
theorem rd_by {l : List Int} (h : By l) {i : Int} (h0 : 0 ≤ i) (h1 : i < l.length) : 0 ≤ rd l i ∧ rd l i < 256 := by
  have : rd l i = l[i.toNat]'(by omega) := by unfold rd; rw [List.getD_eq_getElem?_getD, List.getElem?_eq_getElem (by omega)]; rfl
  rw [this]; exact h _ (List.getElem_mem _)
theorem byte_some {l : List Int} (h : By l) {a b : Int} (ha : 0 ≤ a ∧ a < 4294967296) (hb : 0 ≤ b ∧ b < 2147483648) :
    ∃ x s, spec_l00Src_byte.f l a b = some (x, a + 1, s) ∧ (0 ≤ x ∧ x < 256) ∧ (0 ≤ s ∧ s < 2147483648) := by
  unfold spec_l00Src_byte.f
  rw [if_pos ⟨ha.1, ha.2, hb.1, hb.2⟩]
  by_cases h1 : a < l.length
  · obtain ⟨x0, x1⟩ := rd_by h ha.1 h1
    rw [if_pos h1, if_pos ⟨x0, x1⟩]
    generalize rd l a = x at *
    exact ⟨_, _, rfl, ⟨x0, x1⟩, by omega⟩
  · rw [if_neg h1]
    by_cases h2 : 3000 < a + 1
    · rw [if_pos h2]; exact ⟨_, _, rfl, by omega, hb⟩
    · rw [if_neg h2]; exact ⟨_, _, rfl, by omega, by omega⟩
theorem next_some {l : List Int} (h : By l) {a b n : Int} (ha : 0 ≤ a ∧ a < 4294967290) (hb : 0 ≤ b ∧ b < 2147483648) (hn : 0 < n) :
    ∃ x a' s, spec_l00Src_next.f l a b n = some (x, a', s) ∧ (0 ≤ x ∧ x < n) ∧ (a ≤ a' ∧ a' ≤ a + 3) ∧ (0 ≤ s ∧ s < 2147483648) := by
  unfold spec_l00Src_next.f
  by_cases h1 : n ≤ 1
  · rw [if_pos h1]; exact ⟨_, _, _, rfl, by omega, by omega, hb⟩
  rw [if_neg h1]
  obtain ⟨x, s, e, hx, hs⟩ := byte_some h (a := a) (by omega) hb
  by_cases h2 : n ≤ 256
  · rw [if_pos h2]
    simp only [e, Option.bind_some]
    rw [if_neg (by omega)]
    refine ⟨_, _, _, rfl, ?_, by omega, hs⟩
    rw [Int.tmod_eq_emod_of_nonneg hx.1]
    exact ⟨Int.emod_nonneg _ (by omega), Int.emod_lt_of_pos _ hn⟩
  · rw [if_neg h2]
    obtain ⟨y, s2, e2, hy, hs2⟩ := byte_some h (a := a + 1) (by omega) hs
    obtain ⟨z, s3, e3, hz, hs3⟩ := byte_some h (a := a + 1 + 1) (by omega) hs2
    simp only [e, e2, e3, Option.bind_some]
    rw [if_neg (by omega)]
    refine ⟨_, _, _, rfl, ?_, by omega, hs3⟩
    rw [wrap_in (x := x * 65536) (by omega) (by omega), wrap_in (x := y * 256) (by omega) (by omega), wrap_in (x := x * 65536 + y * 256) (by omega) (by omega), wrap_in (by omega) (by omega), Int.tmod_eq_emod_of_nonneg (by omega)]
    exact ⟨Int.emod_nonneg _ (by omega), Int.emod_lt_of_pos _ hn⟩
theorem limb_in {x i : Int} (hx : 0 ≤ x ∧ x < 10000) (hi : 0 ≤ i ∧ i < 3) : 0 ≤ rd [x, 9999, 0] i ∧ rd [x, 9999, 0] i < 10000 := by
  have : i = 0 ∨ i = 1 ∨ i = 2 := by omega
  rcases this with rfl | rfl | rfl
  · show 0 ≤ x ∧ x < 10000; exact hx
  · show (0 : Int) ≤ 9999 ∧ (9999 : Int) < 10000; omega
  · show (0 : Int) ≤ 0 ∧ (0 : Int) < 10000; omega
theorem which_in {b c : Int} (hb : 0 ≤ b ∧ b < 9) (hc : 0 ≤ c ∧ c < 2) : 0 ≤ Int.tmod (wrap64 ((wrap64 (Int.tdiv b 7)) * (wrap64 (1 + c)))) 3 ∧ Int.tmod (wrap64 ((wrap64 (Int.tdiv b 7)) * (wrap64 (1 + c)))) 3 < 3 := by
  have e1 : Int.tdiv b 7 = b / 7 := Int.tdiv_eq_ediv_of_nonneg hb.1
  have e2 : wrap64 (b / 7) = b / 7 := wrap_in (by omega) (by omega)
  have e3 : wrap64 (1 + c) = 1 + c := wrap_in (by omega) (by omega)
  rw [e1, e2, e3]
  have hc' : c = 0 ∨ c = 1 := by omega
  rcases hc' with rfl | rfl
  · rw [wrap_in (by omega) (by omega), Int.tmod_eq_emod_of_nonneg (by omega)]; omega
  · rw [wrap_in (by omega) (by omega), Int.tmod_eq_emod_of_nonneg (by omega)]; omega
theorem drawn_loop {l : List Int} (h : By l) : ∀ (d : Nat) (out : List Int) (a b : Int), Lm out → out.length + d ≤ 4 → 0 ≤ a → a + 9 * d ≤ 4294967000 → 0 ≤ b ∧ b < 2147483648 →
    ∃ r a' s, Ev (fun k => spec_l00Src_nat.l0 k out d l a b) (r, a', s) ∧ Nm r ∧ r.length ≤ 4 ∧ (a ≤ a' ∧ a' ≤ a + 9 * d) ∧ (0 ≤ s ∧ s < 2147483648) := by
  intro d
  induction d with
  | zero =>
    intro out a b ho hl h0 h1 hb
    refine ⟨out.take (tlen out out.length), a, b, ?_, ?_, ?_, by omega, hb⟩
    · refine Ev.step (f := fun _ => some (out.take (tlen out out.length), a, b)) (fun k => ?_) (Ev.now _)
      simp only [spec_l00Src_nat.l0]
      rw [if_neg (by omega), specTrim out (by omega)]; rfl
    · rw [take_tlen ho]; exact nm_nat _
    · simp; omega
  | succ d ih =>
    intro out a b ho hl h0 h1 hb
    obtain ⟨x1, a1, s1, e1, hx1, ha1, hs1⟩ := next_some h (a := a) (b := b) (n := 10000) (by omega) hb (by omega)
    obtain ⟨x2, a2, s2, e2, hx2, ha2, hs2⟩ := next_some h (a := a1) (b := s1) (n := 9) (by omega) hs1 (by omega)
    obtain ⟨x3, a3, s3, e3, hx3, ha3, hs3⟩ := next_some h (a := a2) (b := s2) (n := 2) (by omega) hs2 (by omega)
    have hw := which_in hx2 hx3
    have hlimb := limb_in hx1 hw
    obtain ⟨r, a', s, ev, hr, hrl, ha', hs'⟩ := ih (out ++ [rd [x1, 9999, 0] (Int.tmod (wrap64 ((wrap64 (Int.tdiv x2 7)) * (wrap64 (1 + x3)))) 3)]) a3 s3 (ho.append (Lm.cons hlimb.1 hlimb.2 Lm.nil)) (by simp; omega) (by omega) (by omega) hs3
    refine ⟨r, a', s, Ev.step (fun k => ?_) ev, hr, hrl, by omega, hs'⟩
    simp only [spec_l00Src_nat.l0, e1, e2, e3, Option.bind_some]
    have ew : wrap64 (((d + 1 : Nat) : Int) - 1) = (d : Int) := by rw [wrap_in (by omega) (by omega)]; omega
    rw [if_pos (by omega), if_pos hw.1, if_pos (by simpa using hw.2), if_pos (by omega), ew]
/-- Between two powers. -/
def Bd (n : Nat) (x : Int) : Prop := -(10000 ^ n) < x ∧ x < 10000 ^ n
theorem pw_pos (n : Nat) : (0 : Int) < 10000 ^ n := Int.pow_pos (by decide)
theorem Bd.mono {n m : Nat} {x : Int} (h : Bd n x) (hm : n ≤ m) : Bd m x := by
  have := pow_mono' hm
  unfold Bd at *; omega
theorem Bd.add {n : Nat} {x y : Int} (hx : Bd n x) (hy : Bd n y) : Bd (n + 1) (x + y) := by
  have := pw_pos n
  unfold Bd at *
  rw [Int.pow_succ]
  omega
theorem Bd.abs {n : Nat} {x : Int} : Bd n x ↔ absI x < 10000 ^ n := by unfold Bd absI; omega
theorem Bd.mul {n m : Nat} {x y : Int} (hx : Bd n x) (hy : Bd m y) : Bd (n + m) (x * y) := by
  rw [Bd.abs] at *
  have e : absI (x * y) = absI x * absI y := by unfold absI; rw [Int.natAbs_mul, Int.natCast_mul]
  rw [e, Int.pow_add]
  exact (mul_lt2 ⟨absI_nonneg x, hx⟩ ⟨absI_nonneg y, hy⟩).2
/-- r is N over D. -/
def V (r : R3) (N D : Int) : Prop := 0 < D ∧ r = lowZ N D
section
variable {r s : R3} {N D M E : Int} {n : Nat}
theorem V.of_ro (h : RO r) : V r (tp r) (bt r) := ⟨h.bt, h.low⟩
theorem V.ro (h : V r N D) : RO r := by rw [h.2]; exact lowZ_ro h.1
theorem V.eq (h : V r N D) (k : V s M E) (e : N * E = M * D) : r = s := by rw [h.2, k.2]; exact lowZ_eq h.1 k.1 e
theorem V.num (h : V r N D) : tp r * D = N * bt r := by rw [h.2]; exact (lowZ_tp h.1).1
theorem V.len (h : V r N D) (h1 : Bd n N) (h2 : Bd n D) : r.2.1.length ≤ n ∧ r.2.2.length ≤ n := by
  have ha := absI_nonneg N
  have hd := h.1
  rw [Bd.abs] at h1
  have h2' := h2.2
  have q1 := Int.ediv_le_self (gcdI (absI N) D) ha
  have q2 := Int.ediv_le_self (gcdI (absI N) D) (Int.le_of_lt hd)
  rw [h.2]
  exact ⟨nat_len _ n (by omega), nat_len _ n (by omega)⟩
theorem V.ok (h : V r N D) (h1 : Bd 40 N) (h2 : Bd 40 D) : ratOKB r = true := (ratOKB_iff r).2 ⟨h.ro, h.len h1 h2⟩
theorem V.fit (h : V r N D) (h1 : Bd 40 N) (h2 : Bd 40 D) : fit4 r = ok4 r := by unfold fit4; rw [if_pos (h.len h1 h2)]
theorem V.bd (h : RO r) (h1 : r.2.1.length ≤ n) (h2 : r.2.2.length ≤ n) : Bd n (tp r) ∧ Bd n (bt r) := by
  have e := h.abs
  have b1 := nm_bd h.1 h1
  have b2 := nm_bd h.2.1 h2
  refine ⟨Bd.abs.2 (by rw [e]; exact b1.2), ?_⟩
  have := pw_pos n
  unfold Bd Pl.bt
  omega
theorem V.add (h : V r N D) (k : V s M E) : V (addZ r s) (N * E + M * D) (D * E) := by
  refine ⟨Int.mul_pos h.1 k.1, ?_⟩
  rw [addZ_eq h.ro k.ro]
  refine lowZ_eq (Int.mul_pos h.ro.bt k.ro.bt) (Int.mul_pos h.1 k.1) ?_
  have e1 := h.num
  have e2 := k.num
  have l1 : tp r * Pl.bt s * (D * E) = tp r * D * (Pl.bt s * E) := by simp only [Int.mul_assoc, Int.mul_comm, Int.mul_left_comm]
  have l2 : tp s * Pl.bt r * (D * E) = tp s * E * (Pl.bt r * D) := by simp only [Int.mul_assoc, Int.mul_comm, Int.mul_left_comm]
  rw [Int.add_mul, Int.add_mul, l1, l2, e1, e2]
  simp only [Int.mul_assoc, Int.mul_comm, Int.mul_left_comm]
theorem mulZ_eq (hr : RO r) (hs : RO s) : mulZ r s = lowZ (tp r * tp s) (Pl.bt r * Pl.bt s) := by
  have h1 := vl_nonneg hr.1.1
  have h2 := vl_nonneg hs.1.1
  have p1 := Int.mul_nonneg h1 h2
  unfold mulZ tp Pl.bt
  rw [low_eq p1]
  cases hb : r.1 <;> cases hc : s.1 <;> simp [Int.neg_mul, Int.mul_neg]
theorem V.mul (h : V r N D) (k : V s M E) : V (mulZ r s) (N * M) (D * E) := by
  refine ⟨Int.mul_pos h.1 k.1, ?_⟩
  rw [mulZ_eq h.ro k.ro]
  refine lowZ_eq (Int.mul_pos h.ro.bt k.ro.bt) (Int.mul_pos h.1 k.1) ?_
  have l1 : tp r * tp s * (D * E) = tp r * D * (tp s * E) := by simp only [Int.mul_assoc, Int.mul_comm, Int.mul_left_comm]
  rw [l1, h.num, k.num]
  simp only [Int.mul_assoc, Int.mul_comm, Int.mul_left_comm]
end
theorem sameRat_ev (r : R3) (h1 : r.2.1.length ≤ 1000) (h2 : r.2.2.length ≤ 1000) : Ev (fun k => laws_sameRat.f k r.1 r.2.1 r.2.2 r.1 r.2.1 r.2.2) true := by
  have e1 := sameInts_ev r.2.1 r.2.1 (by omega)
  have e2 := sameInts_ev r.2.2 r.2.2 (by omega)
  rw [decide_eq_true rfl] at e1 e2
  unfold laws_sameRat.f
  refine Ev.congr (f := fun k => (laws_sameInts.f k r.2.1 r.2.1).bind fun t616 => (if t616 = true then ((laws_sameInts.f k r.2.2 r.2.2).bind fun t617 => (some t617)) else (some false))) (fun k => if_pos (by simp)) ?_
  refine Ev.bind (f := fun k t616 => (if t616 = true then ((laws_sameInts.f k r.2.2 r.2.2).bind fun t617 => (some t617)) else (some false))) e1 ?_
  exact Ev.congr (fun k => if_pos rfl) (Ev.bind (f := fun _ t617 => some t617) e2 (Ev.now _))
theorem two_ok {op : R3 → R3 → R3} {r s : R3} (h1 : ratOKB r = true) (h2 : ratOKB s = true) (h : fit4 (op r s) = ok4 (op r s)) : twoAns op r s = ok4 (op r s) := by
  unfold twoAns; rw [if_pos ⟨h1, h2⟩, h]
theorem implAdd_ev (b : Bool) (n d : List Int) (b' : Bool) (n' d' : List Int) : Ev (fun k => impl_AddRat.f k b n d b' n' d') (twoAns addZ (b, n, d) (b', n', d')) := by
  have e := ev_two (op := addZ) (ratsCode2 b n d b' n' d') (g := fun k => impl_Rat_plus.f k b n d b' n' d') fun h1 h2 => plusE (ok_sm h1) (ok_sm h2) (by omega)
  exact Ev.bind (f := fun _ t => some (t.1, t.2.1, t.2.2.1, t.2.2.2)) (g := fun k => impl_ofTwo85.f k b n d b' n' d') e (Ev.now _)
theorem implMul_ev (b : Bool) (n d : List Int) (b' : Bool) (n' d' : List Int) : Ev (fun k => impl_MulRat.f k b n d b' n' d') (twoAns mulZ (b, n, d) (b', n', d')) := by
  have e := ev_two (op := mulZ) (ratsCode2 b n d b' n' d') (g := fun k => impl_Rat_times.f k b n d b' n' d') fun h1 h2 => timesE (ok_sm h1) (ok_sm h2) (by omega)
  exact Ev.bind (f := fun _ t => some (t.1, t.2.1, t.2.2.1, t.2.2.2)) (g := fun k => impl_ofTwo73.f k b n d b' n' d') e (Ev.now _)
theorem addOK {r s : R3} (hr : ratOKB r = true) (hs : ratOKB s = true) (hf : fit4 (addZ r s) = ok4 (addZ r s)) : Ev (fun k => impl_AddRat.f k r.1 r.2.1 r.2.2 s.1 s.2.1 s.2.2) (ok4 (addZ r s)) := by
  have e : Ev _ (twoAns addZ r s) := implAdd_ev r.1 r.2.1 r.2.2 s.1 s.2.1 s.2.2
  rw [two_ok hr hs hf] at e
  exact e
theorem mulOK {r s : R3} (hr : ratOKB r = true) (hs : ratOKB s = true) (hf : fit4 (mulZ r s) = ok4 (mulZ r s)) : Ev (fun k => impl_MulRat.f k r.1 r.2.1 r.2.2 s.1 s.2.1 s.2.2) (ok4 (mulZ r s)) := by
  have e : Ev _ (twoAns mulZ r s) := implMul_ev r.1 r.2.1 r.2.2 s.1 s.2.1 s.2.2
  rw [two_ok hr hs hf] at e
  exact e
theorem len40 {r : R3} (h : ratOKB r = true) : r.2.1.length ≤ 40 ∧ r.2.2.length ≤ 40 := ((ratOKB_iff r).1 h).2
theorem sameOK {r : R3} (h : ratOKB r = true) : Ev (fun k => laws_sameRat.f k r.1 r.2.1 r.2.2 r.1 r.2.1 r.2.2) true := sameRat_ev r (by have := len40 h; omega) (by have := len40 h; omega)
def makeAns (a b : Int) : Bool × List Int × List Int × Int :=
  if -1000000000 ≤ a ∧ a ≤ 1000000000 ∧ -1000000000 ≤ b ∧ b ≤ 1000000000 then (if b = 0 then (false, [], [], 9) else ((low (decide (a < 0) != decide (b < 0)) (absI a) (absI b)).1, (low (decide (a < 0) != decide (b < 0)) (absI a) (absI b)).2.1, (low (decide (a < 0) != decide (b < 0)) (absI a) (absI b)).2.2, 0)) else (false, [], [], 4)
theorem small9 {a : Int} (h : -1000000000 ≤ a ∧ a ≤ 1000000000) : 0 ≤ absI a ∧ absI a < 10000 ^ 3 := by unfold absI; omega
theorem specMake_ev (a b : Int) : Ev (fun k => spec_MakeRat.f k a b) (makeAns a b) := by
  by_cases h : -1000000000 ≤ a ∧ a ≤ 1000000000 ∧ -1000000000 ≤ b ∧ b ≤ 1000000000
  · obtain ⟨h1, h2, h3, h4⟩ := h
    by_cases hb : b = 0
    · refine ⟨1, fun k hk => ?_⟩
      obtain ⟨k, rfl⟩ : ∃ m, k = m + 1 := ⟨k - 1, by omega⟩
      show spec_MakeRat.f (k + 1) a b = _
      unfold spec_MakeRat.f makeAns
      simp only [in_some, Option.bind_some, decide_eq_true (show -1000000000 ≤ a ∧ a ≤ 1000000000 from ⟨h1, h2⟩), decide_eq_true (show -1000000000 ≤ b ∧ b ≤ 1000000000 from ⟨h3, h4⟩), if_true, spec_MakeRat.j0, Bool.not_true, Bool.false_eq_true, if_false]
      rw [if_pos hb, if_pos ⟨h1, h2, h3, h4⟩, if_pos hb]
    · obtain ⟨K1, e1⟩ := l02IntE h1 h2
      obtain ⟨K2, e2⟩ := l02IntE h3 h4
      have s1 := small9 ⟨h1, h2⟩
      have s2 := small9 ⟨h3, h4⟩
      have p2 : 0 < absI b := by
        have : absI b ≠ 0 := fun z => hb (absI_eq0.1 z)
        omega
      have u1 : absI a < 10000 ^ 900 := Int.lt_of_lt_of_le s1.2 (pow_mono' (by omega))
      have u2 : absI b < 10000 ^ 900 := Int.lt_of_lt_of_le s2.2 (pow_mono' (by omega))
      obtain ⟨K3, e3⟩ := makeE (neg := decide (a < 0) != decide (b < 0)) s1.1 p2 u1 u2
      unfold makeAns
      generalize low (decide (a < 0) != decide (b < 0)) (absI a) (absI b) = L at e3 ⊢
      refine ⟨K1 + K2 + K3 + 1, fun k hk => ?_⟩
      obtain ⟨k, rfl⟩ : ∃ m, k = m + 1 := ⟨k - 1, by omega⟩
      have e1' := e1 k (by omega)
      have e2' := e2 k (by omega)
      have e3' := e3 k (by omega)
      simp only at e1' e2' e3'
      show spec_MakeRat.f (k + 1) a b = _
      unfold spec_MakeRat.f
      simp only [in_some, Option.bind_some, decide_eq_true (show -1000000000 ≤ a ∧ a ≤ 1000000000 from ⟨h1, h2⟩), decide_eq_true (show -1000000000 ≤ b ∧ b ≤ 1000000000 from ⟨h3, h4⟩), if_true, spec_MakeRat.j0, Bool.not_true, Bool.false_eq_true, if_false, e1', e2', wholeR]
      rw [if_neg hb, if_pos ⟨h1, h2, h3, h4⟩, if_neg hb, e3', Option.bind_some]
  · refine ⟨1, fun k hk => ?_⟩
    obtain ⟨k, rfl⟩ : ∃ m, k = m + 1 := ⟨k - 1, by omega⟩
    show spec_MakeRat.f (k + 1) a b = _
    unfold spec_MakeRat.f makeAns
    rw [if_neg h]
    by_cases h1 : -1000000000 ≤ a ∧ a ≤ 1000000000
    · have h2 : ¬ (-1000000000 ≤ b ∧ b ≤ 1000000000) := fun z => h ⟨h1.1, h1.2, z.1, z.2⟩
      simp only [in_some, Option.bind_some, decide_eq_true h1, decide_eq_false h2, if_true, spec_MakeRat.j0, Bool.not_false]
    · simp only [in_some, Option.bind_some, decide_eq_false h1, Bool.false_eq_true, if_false, if_true, spec_MakeRat.j0]
theorem implMake_ev (a b : Int) : Ev (fun k => impl_MakeRat.f k a b) (makeAns a b) := by
  by_cases h : -1000000000 ≤ a ∧ a ≤ 1000000000 ∧ -1000000000 ≤ b ∧ b ≤ 1000000000
  · obtain ⟨h1, h2, h3, h4⟩ := h
    by_cases hb : b = 0
    · refine ⟨1, fun k hk => ?_⟩
      obtain ⟨k, rfl⟩ : ∃ m, k = m + 1 := ⟨k - 1, by omega⟩
      show impl_MakeRat.f (k + 1) a b = _
      unfold impl_MakeRat.f makeAns
      rw [if_neg (by omega), if_neg (by omega), if_neg (by omega), decide_eq_false (by omega), if_pos ⟨h1, h2, h3, h4⟩, if_pos hb]
      simp only [impl_MakeRat.j0, Bool.false_eq_true, if_false]
      rw [if_pos hb]
    · obtain ⟨K1, e1⟩ := wholeE h1 h2
      obtain ⟨K2, e2⟩ := wholeE h3 h4
      have s1 := small9 ⟨h1, h2⟩
      have s2 := small9 ⟨h3, h4⟩
      have p2 : 0 < absI b := by
        have : absI b ≠ 0 := fun z => hb (absI_eq0.1 z)
        omega
      have u1 : absI a < 10000 ^ 900 := Int.lt_of_lt_of_le s1.2 (pow_mono' (by omega))
      have u2 : absI b < 10000 ^ 900 := Int.lt_of_lt_of_le s2.2 (pow_mono' (by omega))
      have v1 : vl [1] = 1 := by simp [vl]
      have la := nat_len _ 3 s1.2
      have lb := nat_len _ 3 s2.2
      have hs0 : (wholeR b).2.1 ≠ [] := fun z => by have := nat_eq_nil z; omega
      obtain ⟨K3, e3⟩ := overE (n := 3) ((wholeR_ro a).1.sm la (by simp [wholeR])) ((wholeR_ro b).1.sm lb (by simp [wholeR])) hs0 (by omega)
      have hd : divZ (wholeR a) (wholeR b) = low (decide (a < 0) != decide (b < 0)) (absI a) (absI b) := by
        unfold divZ wholeR
        simp only
        rw [v1, vl_nat _ s1.1, vl_nat _ s2.1, Int.mul_one, Int.one_mul]
      rw [hd] at e3
      unfold makeAns
      rw [if_pos ⟨h1, h2, h3, h4⟩, if_neg hb]
      clear hd u1 u2 hs0 la lb s1 s2
      generalize low (decide (a < 0) != decide (b < 0)) (absI a) (absI b) = L at e3 ⊢
      generalize wholeR a = R at e1 e3
      generalize wholeR b = S at e2 e3
      have hf : ∀ k, impl_MakeRat.f k a b = impl_MakeRat.j0 k a b false := fun k => by
        unfold impl_MakeRat.f
        rw [if_neg (by omega), if_neg (by omega), if_neg (by omega), decide_eq_false (by omega)]
      have hj : ∀ k, impl_MakeRat.j0 (k + 1) a b false = (impl_whole.f k a).bind fun x => (impl_whole.f k b).bind fun y => (impl_Rat_over.f k x.1 x.2.1 x.2.2 y.1 y.2.1 y.2.2).bind fun z => some (z.1, z.2.1, z.2.2, 0) := fun k => by
        simp only [impl_MakeRat.j0, Bool.false_eq_true, if_false]
        rw [if_neg hb]
      refine ⟨K1 + K2 + K3 + 1, fun k hk => ?_⟩
      obtain ⟨k, rfl⟩ : ∃ m, k = m + 1 := ⟨k - 1, by omega⟩
      have e1' := e1 k (by omega)
      have e2' := e2 k (by omega)
      have e3' := e3 k (by omega)
      simp only at e1' e2' e3'
      show impl_MakeRat.f (k + 1) a b = _
      rw [hf, hj, e1', Option.bind_some, e2', Option.bind_some, e3', Option.bind_some]
  · refine ⟨1, fun k hk => ?_⟩
    obtain ⟨k, rfl⟩ : ∃ m, k = m + 1 := ⟨k - 1, by omega⟩
    show impl_MakeRat.f (k + 1) a b = _
    unfold impl_MakeRat.f makeAns
    rw [if_neg h]
    by_cases c1 : a < -1000000000
    · rw [if_pos c1]; simp only [impl_MakeRat.j0, if_true]
    · rw [if_neg c1]
      by_cases c2 : a > 1000000000
      · rw [if_pos c2]; simp only [impl_MakeRat.j0, if_true]
      · rw [if_neg c2]
        by_cases c3 : b < -1000000000
        · rw [if_pos c3]; simp only [impl_MakeRat.j0, if_true]
        · rw [if_neg c3, decide_eq_true (by omega)]; simp only [impl_MakeRat.j0, if_true]
theorem natSrc_ev {l : List Int} (h : By l) {a b : Int} (ha : 0 ≤ a ∧ a ≤ 4294966000) (hb : 0 ≤ b ∧ b < 2147483648) :
    ∃ r a' s, Ev (fun k => spec_l00Src_nat.f k l a b) (r, a', s) ∧ Nm r ∧ r.length ≤ 4 ∧ (a ≤ a' ∧ a' ≤ a + 40) ∧ (0 ≤ s ∧ s < 2147483648) := by
  obtain ⟨x, a1, s1, e1, hx, ha1, hs1⟩ := next_some h (a := a) (b := b) (n := 5) (by omega) hb (by omega)
  obtain ⟨d, rfl⟩ : ∃ d : Nat, x = d := ⟨x.toNat, by omega⟩
  obtain ⟨r, a', s, ev, hr, hrl, h2, h3⟩ := drawn_loop h d [] a1 s1 Lm.nil (by simp; omega) (by omega) (by omega) hs1
  refine ⟨r, a', s, Ev.congr (fun k => ?_) ev, hr, hrl, by omega, h3⟩
  unfold spec_l00Src_nat.f
  rw [e1]; rfl
theorem low_len {neg : Bool} {a d : Int} (ha : 0 ≤ a) (hd : 0 < d) {n : Nat} (h1 : a < 10000 ^ n) (h2 : d < 10000 ^ n) : (low neg a d).2.1.length ≤ n ∧ (low neg a d).2.2.length ≤ n := by
  have q1 := Int.ediv_le_self (gcdI a d) ha
  have q2 := Int.ediv_le_self (gcdI a d) (Int.le_of_lt hd)
  exact ⟨nat_len _ n (by omega), nat_len _ n (by omega)⟩
theorem low_ro {neg : Bool} {a d : Int} (ha : 0 ≤ a) (hd : 0 < d) : RO (low neg a d) := by
  rw [low_eq ha]; exact lowZ_ro hd
set_option maxRecDepth 100000 in
theorem wide_ev {l : List Int} (h : By l) (hl : l.length ≤ 140737488351232) : ∃ r : R3, Ev (fun k => spec_WideRat.f k l) (r.1, r.2.1, r.2.2) ∧ RO r ∧ r.2.1.length ≤ 4 ∧ r.2.2.length ≤ 4 := by
  have hm : 0 ≤ (l.length : Int) % 1000 ∧ (l.length : Int) % 1000 < 2147483648 := by omega
  obtain ⟨s0, hs0⟩ : ∃ s, s = (l.length : Int) % 1000 := ⟨_, rfl⟩
  rw [← hs0] at hm
  obtain ⟨den, a1, s1, e1, hd, hdl, ha1, hs1⟩ := natSrc_ev h (a := 0) (b := s0) (by omega) hm
  obtain ⟨x, a2, s2, e2, hx, ha2, hs2⟩ := next_some h (a := a1) (b := s1) (n := 2) (by omega) hs1 (by omega)
  obtain ⟨num, a3, s3, e3, hn, hnl, ha3, hs3⟩ := natSrc_ev h (a := a2) (b := s2) (by omega) hs2
  obtain ⟨D, hD, hDl⟩ : ∃ D : Int, (0 < D ∧ D < 10000 ^ 4) ∧ (if den = [] then [1] else den) = nat D := by
    by_cases hz : den = []
    · refine ⟨1, by omega, ?_⟩
      rw [if_pos hz, nat_pos (by omega), show (1 : Int) % 10000 = 1 by rfl, show (1 : Int) / 10000 = 0 by rfl, nat_zero]
    · refine ⟨vl den, ⟨vl_pos hd hz, Int.lt_of_lt_of_le (vl_lt hd.1) (pow_mono' hdl)⟩, ?_⟩
      rw [if_neg hz, nat_vl hd]
  have hN : 0 ≤ vl num ∧ vl num < 10000 ^ 4 := ⟨vl_nonneg hn.1, Int.lt_of_lt_of_le (vl_lt hn.1) (pow_mono' hnl)⟩
  have mk := makeE (neg := (x == wrap64 (2 - 1))) hN.1 hD.1 (Int.lt_of_lt_of_le hN.2 (pow_mono' (by omega))) (Int.lt_of_lt_of_le hD.2 (pow_mono' (by omega)))
  rw [nat_vl hn, ← hDl] at mk
  refine ⟨low (x == wrap64 (2 - 1)) (vl num) D, ?_, low_ro hN.1 hD.1, low_len hN.1 hD.1 hN.2 hD.2⟩
  have hch : spec_l00Src_chance.f l a1 s1 2 = some (x == wrap64 (2 - 1), a2, s2) := by unfold spec_l00Src_chance.f; rw [e2]; rfl
  have ev : Ev (fun k => spec_l00Src_wideRat.f k l 0 s0) ((low (x == wrap64 (2 - 1)) (vl num) D).1, (low (x == wrap64 (2 - 1)) (vl num) D).2.1, (low (x == wrap64 (2 - 1)) (vl num) D).2.2, a3, s3) := by
    unfold spec_l00Src_wideRat.f
    refine Ev.bind (f := fun k bt491 => (if (bt491.1.length : Int) = 0 then ((spec_l00Src_chance.f l bt491.2.1 bt491.2.2 2).bind fun bt499 => ((spec_l00Src_nat.f k l bt499.2.1 bt499.2.2).bind fun bt502 => ((spec_l02Make.f k bt499.1 bt502.1 (([1] : List Int))).bind fun bt507 => (some (bt507.1, bt507.2.1, bt507.2.2, bt502.2.1, bt502.2.2))))) else ((spec_l00Src_chance.f l bt491.2.1 bt491.2.2 2).bind fun bt514 => ((spec_l00Src_nat.f k l bt514.2.1 bt514.2.2).bind fun bt517 => ((spec_l02Make.f k bt514.1 bt517.1 bt491.1).bind fun bt522 => (some (bt522.1, bt522.2.1, bt522.2.2, bt517.2.1, bt517.2.2))))))) e1 ?_
    refine Ev.congr (f := fun k => (spec_l00Src_nat.f k l a2 s2).bind fun bt502 => ((spec_l02Make.f k (x == wrap64 (2 - 1)) bt502.1 (if den = [] then [1] else den)).bind fun bt507 => (some (bt507.1, bt507.2.1, bt507.2.2, bt502.2.1, bt502.2.2)))) (fun k => ?_) ?_
    · show (if ((den.length : Int)) = 0 then _ else _) = _
      by_cases hz : den = []
      · rw [if_pos (by rw [hz]; rfl), if_pos hz, hch]; rfl
      · rw [if_neg (by have := List.length_pos_iff.2 hz; omega), if_neg hz, hch]; rfl
    · refine Ev.bind (f := fun k bt502 => ((spec_l02Make.f k (x == wrap64 (2 - 1)) bt502.1 (if den = [] then [1] else den)).bind fun bt507 => (some (bt507.1, bt507.2.1, bt507.2.2, bt502.2.1, bt502.2.2)))) e3 ?_
      exact Ev.bind (f := fun _ bt507 => (some (bt507.1, bt507.2.1, bt507.2.2, a3, s3))) mk (Ev.now _)
  refine Ev.congr (f := fun k => (spec_l00Src_wideRat.f k l 0 s0).bind fun bt534 => some (bt534.1, bt534.2.1, bt534.2.2.1)) (fun k => ?_) (Ev.bind (f := fun _ bt534 => some (bt534.1, bt534.2.1, bt534.2.2.1)) ev (Ev.now _))
  unfold spec_WideRat.f spec_l00Source.f
  rw [← hs0, Option.bind_some]
set_option maxRecDepth 100000 in
theorem rat_ev {l : List Int} (h : By l) (hl : l.length ≤ 140737488351232) : ∃ r : R3, Ev (fun k => spec_RatDrawn.f k l) (r.1, r.2.1, r.2.2) ∧ RO r ∧ r.2.1.length ≤ 1 ∧ r.2.2.length ≤ 1 := by
  have hm : 0 ≤ (l.length : Int) % 1000 ∧ (l.length : Int) % 1000 < 2147483648 := by omega
  obtain ⟨s0, hs0⟩ : ∃ s, s = (l.length : Int) % 1000 := ⟨_, rfl⟩
  rw [← hs0] at hm
  obtain ⟨x, a1, s1, e1, hx, ha1, hs1⟩ := next_some h (a := 0) (b := s0) (n := 21) (by omega) hm (by omega)
  obtain ⟨y, a2, s2, e2, hy, ha2, hs2⟩ := next_some h (a := a1) (b := s1) (n := 6) (by omega) hs1 (by omega)
  have mk := specMake_ev (x - 10) (1 + y)
  unfold makeAns at mk
  rw [if_pos (by omega), if_neg (by omega)] at mk
  have n1 : 0 ≤ absI (x - 10) ∧ absI (x - 10) < 10000 ^ 1 := by unfold absI; omega
  have n2 : 0 < absI (1 + y) ∧ absI (1 + y) < 10000 ^ 1 := by unfold absI; omega
  generalize hL : low (decide (x - 10 < 0) != decide (1 + y < 0)) (absI (x - 10)) (absI (1 + y)) = L at mk
  refine ⟨L, ?_, by rw [← hL]; exact low_ro n1.1 n2.1, by rw [← hL]; exact low_len n1.1 n2.1 n1.2 n2.2⟩
  have ev : Ev (fun k => spec_l00Src_rat.f k l 0 s0) (L.1, L.2.1, L.2.2, a2, s2) := by
    refine Ev.congr (f := fun k => (spec_MakeRat.f k (x - 10) (1 + y)).bind fun bt589 => (some (bt589.1, bt589.2.1, bt589.2.2.1, a2, s2))) (fun k => ?_) (Ev.bind (f := fun _ bt589 => (some (bt589.1, bt589.2.1, bt589.2.2.1, a2, s2))) mk (Ev.now _))
    unfold spec_l00Src_rat.f
    rw [e1, Option.bind_some]
    show (spec_l00Src_next.f l a1 s1 6).bind _ = _
    rw [e2, Option.bind_some, wrap_in (by omega) (by omega), wrap_in (by omega) (by omega)]
  refine Ev.congr (f := fun k => (spec_l00Src_rat.f k l 0 s0).bind fun bt603 => some (bt603.1, bt603.2.1, bt603.2.2.1)) (fun k => ?_) (Ev.bind (f := fun _ bt603 => some (bt603.1, bt603.2.1, bt603.2.2.1)) ev (Ev.now _))
  unfold spec_RatDrawn.f spec_l00Source.f
  rw [← hs0, Option.bind_some]
/-- A floor. -/
def flZ (r : R3) : R3 := if r.1 = true ∧ 0 < vl r.2.1 % vl r.2.2 then (true, nat (vl r.2.1 / vl r.2.2 + 1), [1]) else (r.1 && decide (0 < vl r.2.1 / vl r.2.2), nat (vl r.2.1 / vl r.2.2), [1])
def flAns (r : R3) : R4 := if ratOKB r = true then fit4 (flZ r) else bad4 1
theorem low_one {neg : Bool} {q : Int} (h : 0 ≤ q) : low neg q 1 = (neg && decide (0 < q), nat q, [1]) := by
  unfold low
  rw [gcdI_one h, Int.ediv_one, Int.ediv_one, nat_1]
theorem implFl_ev (b : Bool) (n d : List Int) : Ev (fun k => impl_FloorRat.f k b n d) (flAns (b, n, d)) := by
  obtain ⟨K, e⟩ := ratsCode1 b n d
  by_cases h : ratOKB (b, n, d) = true
  · have h1 := (ratOKB_iff _).1 h
    have m1 : Nm n := h1.1.1
    have m2 : Nm d := h1.1.2.1
    have hl1 : n.length ≤ 40 := h1.2.1
    have hl2 : d.length ≤ 40 := h1.2.2
    have a1 := vl_nonneg m1.1
    have d1 := vl_pos m2 h1.1.2.2.1
    have q0 : 0 ≤ vl n / vl d := Int.ediv_nonneg a1 (by omega)
    have q1 : vl n / vl d ≤ vl n := Int.ediv_le_self _ a1
    have r0 : 0 ≤ vl n % vl d := Int.emod_nonneg _ (by omega)
    have hb := (nm_bd m1 hl1).2
    have hd := divI (A := vl n) (B := vl d) a1 d1 hb (by omega)
    rw [nat_vl m1, nat_vl m2] at hd
    obtain ⟨K1, e1⟩ := addIE (x := vl n / vl d) (y := 1) q0 (by omega) (n := 41) (m := 1) (by have := pw_up hb (show 40 ≤ 41 by omega); omega) (by omega) (by omega) (by omega)
    rw [nat_1] at e1
    have lp := nat_lp r0
    have lq := nat_lp q0
    have lq1 := nat_lp (show 0 ≤ vl n / vl d + 1 by omega)
    rw [decide_eq_true (show 0 < vl n / vl d + 1 by omega)] at lq1
    have f1 := fullRat_f (true, nat (vl n / vl d + 1), [1])
    have f2 := fullRat_f (b && decide (0 < vl n / vl d), nat (vl n / vl d), [1])
    simp only at f1 f2
    have hz : flZ (b, n, d) = if b = true ∧ 0 < vl n % vl d then (true, nat (vl n / vl d + 1), [1]) else (b && decide (0 < vl n / vl d), nat (vl n / vl d), [1]) := rfl
    unfold flAns
    rw [if_pos h, hz]
    clear hz
    generalize nat (vl n % vl d) = M at *
    generalize vl n % vl d = R at *
    generalize nat (vl n / vl d + 1) = X at *
    generalize nat (vl n / vl d) = Y at *
    generalize vl n / vl d = Q at *
    refine ⟨K + K1 + 1, fun k hk => ?_⟩
    obtain ⟨k, rfl⟩ : ∃ m, k = m + 1 := ⟨k - 1, by omega⟩
    have e' := e (k + 1) (by omega)
    have e1' := e1 k (by omega)
    simp only at e' e1'
    rw [if_pos h] at e'
    show impl_FloorRat.f (k + 1) b n d = _
    unfold impl_FloorRat.f
    rw [e', Option.bind_some, if_pos rfl, hd, Option.bind_some]
    cases b with
    | true =>
      rw [if_pos rfl]
      simp only
      rw [lp]
      by_cases hr : 0 < R
      · rw [decide_eq_true hr, if_pos ⟨trivial, hr⟩]
        simp only [impl_FloorRat.j0, if_true]
        rw [one_f, Option.bind_some, e1', Option.bind_some, Option.bind_some, lq1, f1, Option.bind_some]
      · rw [decide_eq_false hr, if_neg (fun z => hr z.2)]
        simp only [impl_FloorRat.j0, if_true, Bool.false_eq_true, if_false]
        rw [one_f, Option.bind_some, lq]
        simp only [Bool.true_and] at f2 ⊢
        rw [f2, Option.bind_some]
    | false =>
      rw [if_neg (by simp), if_neg (fun z => by simp at z)]
      simp only [impl_FloorRat.j0, Bool.false_eq_true, if_false]
      rw [one_f, Option.bind_some]
      simp only [Bool.false_and] at f2 ⊢
      rw [f2, Option.bind_some]
  · refine ⟨K, fun k hk => ?_⟩
    have e' := e k (by omega)
    simp only at e'
    show impl_FloorRat.f k b n d = _
    unfold impl_FloorRat.f flAns
    rw [e', Option.bind_some, if_neg h, if_neg (by omega), if_neg h]; rfl
theorem specFl_ev (b : Bool) (n d : List Int) (l1 : n.length ≤ 1048576) (l2 : d.length ≤ 1048576) : Ev (fun k => spec_FloorRat.f k b n d) (flAns (b, n, d)) := by
  obtain ⟨K, e⟩ := specRatOK_ev b n d l1 l2
  by_cases h : ratOKB (b, n, d) = true
  · have h1 := (ratOKB_iff _).1 h
    have m1 : Nm n := h1.1.1
    have m2 : Nm d := h1.1.2.1
    have hl1 : n.length ≤ 40 := h1.2.1
    have hl2 : d.length ≤ 40 := h1.2.2
    have a1 := vl_nonneg m1.1
    have d1 := vl_pos m2 h1.1.2.2.1
    have q0 : 0 ≤ vl n / vl d := Int.ediv_nonneg a1 (by omega)
    have q1 : vl n / vl d ≤ vl n := Int.ediv_le_self _ a1
    have r0 : 0 ≤ vl n % vl d := Int.emod_nonneg _ (by omega)
    have hb := (nm_bd m1 hl1).2
    have hb2 := (nm_bd m2 hl2).2
    obtain ⟨K2, e2⟩ := divE (A := vl n) (B := vl d) a1 d1 hb hb2 (by omega) (by omega)
    rw [nat_vl m1, nat_vl m2] at e2
    have u0 := pw_up hb (show 40 ≤ 41 by omega)
    have u1 : vl n / vl d < 10000 ^ 41 := by omega
    have u2 : vl n / vl d + 1 < 10000 ^ 42 := by
      have := pow_pos' 41
      have e : (10000 : Int) ^ 42 = 10000 ^ 41 * 10000 := Int.pow_succ _ _
      omega
    obtain ⟨K1, e1⟩ := addE (x := vl n / vl d) (y := 1) q0 (by omega) (n := 41) (m := 1) u1 (by omega) (by omega) (by omega)
    rw [nat_1] at e1
    have o1 : (1 : Int) < 10000 ^ 900 := Int.lt_of_lt_of_le (show (1 : Int) < 10000 ^ 1 by omega) (pow_mono' (by omega))
    obtain ⟨K3, e3⟩ := makeE (neg := b) (a := vl n / vl d) (d := 1) q0 (by omega) (pw_up u1 (by omega)) o1
    obtain ⟨K4, e4⟩ := makeE (neg := b) (a := vl n / vl d + 1) (d := 1) (by omega) (by omega) (pw_up u2 (by omega)) o1
    rw [nat_1, low_one q0] at e3
    rw [nat_1, low_one (by omega), decide_eq_true (show 0 < vl n / vl d + 1 by omega), Bool.and_true] at e4
    have lp := nat_lp r0
    have f1 := l02Fit_f (b, nat (vl n / vl d + 1), [1])
    have f2 := l02Fit_f (b && decide (0 < vl n / vl d), nat (vl n / vl d), [1])
    simp only at f1 f2
    have hz : flZ (b, n, d) = if b = true ∧ 0 < vl n % vl d then (true, nat (vl n / vl d + 1), [1]) else (b && decide (0 < vl n / vl d), nat (vl n / vl d), [1]) := rfl
    unfold flAns
    rw [if_pos h, hz]
    clear hz u0 u1 u2 o1 hb hb2
    generalize nat (vl n % vl d) = M at *
    generalize vl n % vl d = R at *
    generalize nat (vl n / vl d + 1) = X at *
    generalize nat (vl n / vl d) = Y at *
    generalize vl n / vl d = Q at *
    refine ⟨K + K1 + K2 + K3 + K4 + 1, fun k hk => ?_⟩
    obtain ⟨k, rfl⟩ : ∃ m, k = m + 1 := ⟨k - 1, by omega⟩
    have e' := e (k + 1) (by omega)
    have e2' := e2 (k + 1) (by omega)
    have e1' := e1 k (by omega)
    have e3' := e3 k (by omega)
    have e4' := e4 k (by omega)
    simp only at e' e1' e2' e3' e4'
    rw [h] at e'
    show spec_FloorRat.f (k + 1) b n d = _
    unfold spec_FloorRat.f spec_l02Floor.f
    rw [e', Option.bind_some, if_pos rfl, e2', Option.bind_some]
    cases b with
    | true =>
      rw [if_pos rfl]
      simp only
      rw [lp]
      by_cases hr : 0 < R
      · rw [decide_eq_true hr, if_pos ⟨trivial, hr⟩]
        simp only [spec_l02Floor.j0, if_true]
        rw [e1', Option.bind_some, e4', Option.bind_some, Option.bind_some, f1, Option.bind_some]
      · rw [decide_eq_false hr, if_neg (fun z => hr z.2)]
        simp only [spec_l02Floor.j0, Bool.false_eq_true, if_false]
        rw [e3', Option.bind_some, Option.bind_some, f2, Option.bind_some]
    | false =>
      rw [if_neg (by simp), if_neg (fun z => by simp at z)]
      simp only [spec_l02Floor.j0, Bool.false_eq_true, if_false]
      rw [e3', Option.bind_some, Option.bind_some, f2, Option.bind_some]
  · refine ⟨K, fun k hk => ?_⟩
    have e' := e k (by omega)
    simp only at e'
    show spec_FloorRat.f k b n d = _
    unfold spec_FloorRat.f flAns
    rw [e', Option.bind_some, if_neg h, if_neg h]; rfl

/-- The sign of a power. -/
def sg (neg : Bool) : Nat → Bool
  | 0 => false
  | k + 1 => sg neg k != neg
def pwZ (r : R3) (k : Nat) : R3 := (sg r.1 k && decide (0 < vl r.2.1 ^ k), nat (vl r.2.1 ^ k), nat (vl r.2.2 ^ k))
theorem ipow_pos {d : Int} (h : 0 < d) (k : Nat) : 0 < d ^ k := Int.pow_pos h
theorem ipow_nn {n : Int} (h : 0 ≤ n) (k : Nat) : 0 ≤ n ^ k := Int.pow_nonneg h
theorem ipow_lt {n : Int} (h : 0 ≤ n) (hb : n < 10000 ^ 40) : ∀ k : Nat, n ^ k ≤ 10000 ^ (40 * k) := by
  intro k
  induction k with
  | zero => rw [Int.pow_zero, Nat.mul_zero, Int.pow_zero]; exact Int.le_refl _
  | succ k ih =>
    rw [Int.pow_succ, Nat.mul_succ, Int.pow_add]
    exact Int.mul_le_mul ih (by omega) h (by have := pow_pos' (40 * k); omega)
theorem ipow_bd {n : Int} (h : 0 ≤ n) (hb : n < 10000 ^ 40) {k : Nat} (hk : k ≤ 9) : n ^ k < 10000 ^ 361 := by
  have h1 := ipow_lt h hb k
  have h2 := pow_mono' (show 40 * k ≤ 360 by omega)
  have h3 : (10000 : Int) ^ 361 = 10000 ^ 360 * 10000 := Int.pow_succ _ _
  have h4 := pow_pos' 360
  omega
theorem gcdI_pow {n d : Int} (hn : 0 ≤ n) (hd : 0 < d) (h : gcdI n d = 1) (k : Nat) : gcdI (n ^ k) (d ^ k) = 1 := by
  obtain ⟨a, rfl⟩ : ∃ a : Nat, n = a := ⟨n.toNat, by omega⟩
  obtain ⟨b, rfl⟩ : ∃ b : Nat, d = b := ⟨d.toNat, by omega⟩
  unfold gcdI at h ⊢
  rw [← Int.natCast_pow, ← Int.natCast_pow]
  simp only [Int.toNat_natCast] at h ⊢
  have h' : Nat.Coprime a b := by unfold Nat.Coprime; omega
  have := Nat.Coprime.pow k k h'
  unfold Nat.Coprime at this
  rw [this]; rfl
theorem pw_sign {n : Int} (hn : 0 ≤ n) (s neg : Bool) (k : Nat) : ((s && decide (0 < n ^ k)) != neg && decide (0 < n ^ (k + 1))) = ((s != neg) && decide (0 < n ^ (k + 1))) := by
  by_cases h : 0 < n ^ (k + 1)
  · have h0 : 0 < n := by
      rcases Int.lt_or_eq_of_le hn with g | g
      · exact g
      · rw [← g, Int.zero_pow (by omega)] at h; omega
    rw [decide_eq_true h, decide_eq_true (ipow_pos h0 k)]
    simp only [Bool.and_true]
  · rw [decide_eq_false h, Bool.and_false, Bool.and_false]
theorem mulZ_pw {r : R3} (h : RO r) (k : Nat) : mulZ (pwZ r k) r = pwZ r (k + 1) := by
  have a := vl_nonneg h.1.1
  have dp := vl_pos h.2.1 h.2.2.1
  have e1 : vl (pwZ r k).2.1 * vl r.2.1 = vl r.2.1 ^ (k + 1) := by
    show vl (nat (vl r.2.1 ^ k)) * vl r.2.1 = _
    rw [vl_nat _ (ipow_nn a k), Int.pow_succ]
  have e2 : vl (pwZ r k).2.2 * vl r.2.2 = vl r.2.2 ^ (k + 1) := by
    show vl (nat (vl r.2.2 ^ k)) * vl r.2.2 = _
    rw [vl_nat _ (by have := ipow_pos dp k; omega), Int.pow_succ]
  unfold mulZ
  rw [e1, e2]
  unfold low
  rw [gcdI_pow a dp h.2.2.2.2 (k + 1), Int.ediv_one, Int.ediv_one]
  show (_, _, _) = (_, _, _)
  refine Prod.ext ?_ rfl
  exact pw_sign a (sg r.1 k) r.1 k
theorem pwZ_0 (r : R3) : wholeR 1 = pwZ r 0 := by
  unfold wholeR pwZ
  rw [Int.pow_zero, Int.pow_zero, nat_1, show absI 1 = 1 from rfl, nat_1]; rfl
theorem impl_pw {r : R3} (h : RO r) (h1 : r.2.1.length ≤ 40) (h2 : r.2.2.length ≤ 40) (m : Nat) (hm : m ≤ 8) : ∀ (d i : Nat), i + d = m → Ev (fun k => impl_Rat_pow.l0 k (m : Int) (i : Int) r.1 r.2.1 r.2.2 (sg r.1 i) (nat (vl r.2.1 ^ i)) (nat (vl r.2.2 ^ i))) (pwZ r m) := by
  have a := nm_bd h.1 h1
  have d' := nm_bd h.2.1 h2
  have dp := vl_pos h.2.1 h.2.2.1
  intro d
  induction d with
  | zero =>
    intro i hd
    obtain rfl : i = m := by omega
    have hz : (((nat (vl r.2.1 ^ i)).length : Int) == 0) = !decide (0 < vl r.2.1 ^ i) := by
      have g := nat_lp (ipow_nn a.1 i)
      by_cases e : 0 < vl r.2.1 ^ i
      · rw [decide_eq_true e] at g ⊢
        have g' := of_decide_eq_true g
        exact beq_eq_false_iff_ne.2 (by omega)
      · rw [decide_eq_false e] at g ⊢
        have g' := of_decide_eq_false g
        rw [show ((nat (vl r.2.1 ^ i)).length : Int) = 0 by omega]; rfl
    have hj : ∀ k s, impl_Rat_pow.j1 (k + 1) s (nat (vl r.2.1 ^ i)) (nat (vl r.2.2 ^ i)) = some (s, nat (vl r.2.1 ^ i), nat (vl r.2.2 ^ i)) := by
      intro k s
      rw [impl_Rat_pow.j1]
      unfold impl_Rat_isZero.f
      rw [hz, Option.bind_some]
      by_cases e : 0 < vl r.2.1 ^ i
      · rw [decide_eq_true e]; rfl
      · rw [decide_eq_false e, Bool.not_false, if_pos rfl, one_f, Option.bind_some]
        have hn : vl r.2.1 = 0 := by
          rcases Int.lt_or_eq_of_le a.1 with g | g
          · exact absurd (ipow_pos g i) e
          · omega
        have hg := h.2.2.2.2
        rw [hn, gcdI_zl (by omega)] at hg
        rw [hg, Int.one_pow, nat_1]
    refine ⟨2, fun k hk => ?_⟩
    obtain ⟨k, rfl⟩ : ∃ q, k = q + 2 := ⟨k - 2, by omega⟩
    show impl_Rat_pow.l0 (k + 2) _ _ _ _ _ _ _ _ = _
    rw [impl_Rat_pow.l0, if_neg (by omega)]
    unfold impl_Rat_isZero.f
    rw [hz, Option.bind_some, Bool.not_not, hj, hj]
    unfold pwZ
    cases sg r.1 i with
    | true => rw [if_pos rfl, Bool.true_and]
    | false => rw [if_neg (by simp), Bool.false_and]
  | succ d ih =>
    intro i hd
    have s := ih (i + 1) (by omega)
    have n1 := ipow_bd a.1 a.2 (show i ≤ 9 by omega)
    have n2 := ipow_bd d'.1 d'.2 (show i ≤ 9 by omega)
    have e1 := mulIE (nm_nat (vl r.2.1 ^ i)) h.1 (by have := nat_len _ _ n1; omega) (by omega)
    have e2 := mulIE (nm_nat (vl r.2.2 ^ i)) h.2.1 (by have := nat_len _ _ n2; omega) (by omega)
    rw [vl_nat _ (ipow_nn a.1 i), ← Int.pow_succ] at e1
    rw [vl_nat _ (by have := ipow_pos dp i; omega), ← Int.pow_succ] at e2
    refine Ev.step (f := fun k => (impl_natMul.f k (nat (vl r.2.1 ^ i)) r.2.1).bind fun t618 => ((impl_natMul.f k (nat (vl r.2.2 ^ i)) r.2.2).bind fun t621 => (impl_Rat_pow.l0 k (m : Int) ((i + 1 : Nat) : Int) r.1 r.2.1 r.2.2 (sg r.1 (i + 1)) t618 t621))) (fun k => ?_) (Ev.bind e1 (Ev.bind e2 s))
    rw [impl_Rat_pow.l0, if_pos (by omega), wrap_in (x := (i : Int) + 1) (by omega) (by omega)]; rfl
theorem impl_pow_ev {r : R3} (h : RO r) (h1 : r.2.1.length ≤ 40) (h2 : r.2.2.length ≤ 40) (m : Nat) (hm : m ≤ 8) : Ev (fun k => impl_Rat_pow.f k r.1 r.2.1 r.2.2 (m : Int)) (pwZ r m) := by
  have s := impl_pw h h1 h2 m hm m 0 (by omega)
  refine Ev.bind (f := fun k bt => impl_Rat_pow.l0 k (m : Int) 0 r.1 r.2.1 r.2.2 bt.1 bt.2.1 bt.2.2) (wholeE (n := 1) (by omega) (by omega)) ?_
  have e : wholeR 1 = (sg r.1 0, nat (vl r.2.1 ^ 0), nat (vl r.2.2 ^ 0)) := by
    rw [Int.pow_zero, Int.pow_zero, nat_1]; unfold wholeR; rw [show absI 1 = 1 from rfl, nat_1]; rfl
  rw [e]
  exact s
def powAns (r : R3) (n : Int) : R4 := if ratOKB r = true then (if 0 ≤ n ∧ n ≤ 8 then fit4 (pwZ r n.toNat) else bad4 4) else bad4 1
theorem first2 (a b : Int) : Ev (fun k => impl_first.f k [a, b]) (if a = 0 then b else a) := by
  refine ⟨3, fun k hk => ?_⟩
  obtain ⟨k, rfl⟩ : ∃ q, k = q + 3 := ⟨k - 3, by omega⟩
  show impl_first.f (k + 3) [a, b] = _
  unfold impl_first.f
  rw [impl_first.l0, if_pos (by simp), if_pos (by omega), if_pos (by simp), show rd [a, b] 0 = a from rfl]
  by_cases h : a = 0
  · rw [if_pos h, if_pos h, show wrap64 (0 + 1) = 1 from by simp only [wrap64]; omega, impl_first.l0, if_pos (by simp), if_pos (by omega), if_pos (by simp), show rd [a, b] 1 = b from rfl]
    by_cases h' : b = 0
    · rw [if_pos h', h', show wrap64 (1 + 1) = 2 from by simp only [wrap64]; omega, impl_first.l0, if_neg (by simp)]
    · rw [if_neg h']
  · rw [if_neg h, if_neg h]
theorem implPow_ev (b : Bool) (n d : List Int) (m : Int) : Ev (fun k => impl_PowRat.f k b n d m) (powAns (b, n, d) m) := by
  have e := ratsCode1 b n d
  have tail : ∀ u : Int, (u = if 0 ≤ m ∧ m ≤ 8 then 0 else 4) → Ev (fun k => (impl_first.f k [(if ratOKB (b, n, d) = true then 0 else 1), u]).bind fun t => impl_PowRat.j0 k m t b n d) (powAns (b, n, d) m) := by
    intro u hu
    refine Ev.bind (first2 _ _) ?_
    unfold powAns
    by_cases h : ratOKB (b, n, d) = true
    · have hr := (ratOKB_iff _).1 h
      rw [if_pos h, if_pos h, if_pos rfl, hu]
      by_cases hm : 0 ≤ m ∧ m ≤ 8
      · rw [if_pos hm, if_pos hm]
        obtain ⟨q, rfl⟩ : ∃ q : Nat, m = q := ⟨m.toNat, by omega⟩
        have e2 := impl_pow_ev hr.1 hr.2.1 hr.2.2 q (by omega)
        rw [Int.toNat_natCast]
        generalize pwZ (b, n, d) q = z at e2
        refine Ev.step (f := fun k => (impl_Rat_pow.f k b n d (q : Int)).bind fun bt => (impl_fullRat.f bt.1 bt.2.1 bt.2.2).bind fun bt => some (bt.1, bt.2.1, bt.2.2.1, bt.2.2.2)) (fun k => ?_) (Ev.bind e2 ?_)
        · rw [impl_PowRat.j0, if_pos rfl]
        · rw [fullRat_f z]
          exact Ev.congr (fun k => rfl) (Ev.now _)
      · rw [if_neg hm, if_neg hm]
        refine Ev.step (f := fun _ => some (bad4 4)) (fun k => ?_) (Ev.now _)
        rw [impl_PowRat.j0, if_neg (by omega)]; rfl
    · rw [if_neg h, if_neg h, if_neg (by omega)]
      refine Ev.step (f := fun _ => some (bad4 1)) (fun k => ?_) (Ev.now _)
      rw [impl_PowRat.j0, if_neg (by omega)]; rfl
  unfold impl_PowRat.f impl_unless.f
  refine Ev.bind e ?_
  by_cases h0 : 0 ≤ m
  · refine Ev.congr (fun k => (if_pos h0 : (if _ then _ else _) = _)) ?_
    by_cases h8 : m ≤ 8
    · rw [decide_eq_true h8, if_pos rfl]
      exact tail 0 (by rw [if_pos ⟨h0, h8⟩])
    · rw [decide_eq_false h8, if_neg (by simp)]
      exact tail 4 (by rw [if_neg fun g => h8 g.2])
  · refine Ev.congr (fun k => (if_neg h0 : (if _ then _ else _) = _)) ?_
    rw [if_neg (by simp)]
    exact tail 4 (by rw [if_neg fun g => h0 g.1])
end Go.Proofs.Ytacdaijalkkogaa.Pl
