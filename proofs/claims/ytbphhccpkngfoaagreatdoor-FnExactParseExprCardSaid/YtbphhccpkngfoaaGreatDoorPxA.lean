/-
Numbers in a text: what the program and the reference make of digits.
-/
import Derived.Test.YtbphhccpkngfoaaGreatDoorQsm
import Derived.Lib.AtoiTie
namespace Go.Proofs.YtbphhccpkngfoaaGreatDoor.Pl
open Go.RowKit Go.Proofs.YtbphhccpkngfoaaGreatDoor.Q Go.Proofs.YtbphhccpkngfoaaGreatDoorW.PrintWords Go.Proofs.YtbphhccpkngfoaaGreatDoorW.PrintLast Go.Proofs.YtbphhccpkngfoaaGreatDoorW.PrintMore
set_option linter.unusedVariables false
set_option linter.unusedSimpArgs false

theorem wrap_in {x : Int} (h0 : -9223372036854775808 ≤ x) (h1 : x ≤ 9223372036854775807) : wrap64 x = x := by
  unfold wrap64; omega
theorem wsucc {i : Nat} (h : (i : Int) < 9223372036854775807) : wrap64 ((i : Int) + 1) = ((i + 1 : Nat) : Int) := by rw [wrap_in (by omega) (by omega)]; omega
theorem evT {α : Type} {g : Nat → Option α} {r : α} (h : ∀ k, g (k + 1) = some r) : Ev g r := Ev.step (f := fun _ => some r) h (Ev.now _)
/-- A text of these bytes. -/
def tx (l : List UInt8) : ByteArray := ⟨l.toArray⟩
theorem tx_list (l : List UInt8) : (tx l).data.toList = l := rfl
theorem tx_size (l : List UInt8) : (tx l).size = l.length := by show l.toArray.size = _; rw [List.size_toArray]
theorem tx_of {a : ByteArray} {l : List UInt8} (h : a.data.toList = l) : a = tx l := by
  cases a with
  | mk d =>
    subst h
    unfold tx
    simp
theorem tx_append (a b : List UInt8) : tx a ++ tx b = tx (a ++ b) := tx_of (by rw [ByteArray.data_append, Array.toList_append]; rfl)
theorem tx_toList (l : List UInt8) : (tx l).toList = l := by rw [Lib.toList_data]; rfl
theorem tx_ext (l : List UInt8) (i j : Nat) : (tx l).extract i j = tx ((l.drop i).take (j - i)) := by
  refine tx_of ?_
  rw [ByteArray.data_extract, Array.toList_extract, List.extract_eq_take_drop]
  rfl
theorem tx_bt (l : List UInt8) (i : Nat) : bt (tx l) (i : Int) = ((l[i]?.getD 0).toNat : Int) := by
  unfold bt
  by_cases h : i < l.length
  · rw [dif_pos (show (i : Int).toNat < (tx l).size by rw [tx_size]; simpa using h), List.getElem?_eq_getElem h]
    rfl
  · rw [dif_neg (show ¬ (i : Int).toNat < (tx l).size by rw [tx_size]; simpa using h), List.getElem?_eq_none (by omega)]
    rfl
theorem nums1 (x : Int) : strOfNums [x] = tx [UInt8.ofNat x.toNat] := rfl
theorem digit_byte {y : Int} (h0 : 0 ≤ y) (h1 : y < 10) : UInt8.ofNat ((wrap64 (48 + y)) % 256).toNat = UInt8.ofNat (48 + y.toNat) := by
  rw [wrap_in (by omega) (by omega)]
  congr 1
  omega
theorem dd_step (u : Nat) (h : ¬ u < 10) : Lib.decDigits u = Lib.decDigits (u / 10) ++ [UInt8.ofNat (48 + u % 10)] := by
  rw [Lib.decDigits, dif_neg h]
theorem dd_one (u : Nat) (h : u < 10) : Lib.decDigits u = [UInt8.ofNat (48 + u)] := by
  rw [Lib.decDigits, dif_pos h]
theorem dd_len : ∀ (d u : Nat), u < 10 ^ (d + 1) → (Lib.decDigits u).length ≤ d + 1 ∧ 1 ≤ (Lib.decDigits u).length
  | 0, u, h => by rw [dd_one u (by simpa using h)]; simp
  | d + 1, u, h => by
    by_cases h10 : u < 10
    · rw [dd_one u h10]; simp
    · have := dd_len d (u / 10) (by rw [Nat.pow_succ] at h; omega)
      rw [dd_step u h10]
      simp; omega
/-- The reference's digits of a number that is not below 0. -/
theorem l00_ev : ∀ (d : Nat) (x : Int), 0 ≤ x → x.toNat < 10 ^ (d + 1) → d ≤ 100 → x ≤ 1000000000 → Ev (fun k => spec_l00Digits.f k x) (tx (Lib.decDigits x.toNat))
  | 0, x, h0, h1, _, hb => by
    have hx : x.toNat < 10 := by simpa using h1
    rw [dd_one _ hx]
    refine evT fun k => ?_
    rw [spec_l00Digits.f, if_neg (by omega), if_neg (by omega), if_pos (by omega), nums1, digit_byte h0 (by omega)]
  | d + 1, x, h0, h1, hd, hb => by
    by_cases h10 : x < 10
    · rw [dd_one _ (by omega)]
      refine evT fun k => ?_
      rw [spec_l00Digits.f, if_neg (by omega), if_neg (by omega), if_pos h10, nums1, digit_byte h0 h10]
    · have ht : Int.tdiv x 10 = x / 10 := Int.tdiv_eq_ediv_of_nonneg h0
      have hm : Int.tmod x 10 = x % 10 := Int.tmod_eq_emod_of_nonneg h0
      have hq : (x / 10).toNat = x.toNat / 10 := by omega
      have ih := l00_ev d (x / 10) (by omega) (by rw [hq]; rw [Nat.pow_succ] at h1; omega) (by omega) (by omega)
      have hl := dd_len d (x.toNat / 10) (by rw [Nat.pow_succ] at h1; omega)
      rw [hq] at ih
      rw [dd_step _ (show ¬ x.toNat < 10 by omega)]
      refine Ev.step (f := fun k => (spec_l00Digits.f k (x / 10)).bind fun t => if t.size + 1 ≤ 9223372036854775807 then some (t ++ tx [UInt8.ofNat (48 + x.toNat % 10)]) else none) (fun k => ?_) (Ev.bind ih ?_)
      · rw [spec_l00Digits.f, if_neg (by omega), if_neg (by omega), if_neg h10, ht, hm, wrap_in (x := x / 10) (by omega) (by omega)]
        congr 1
        funext t
        rw [Option.bind_some, nums1, digit_byte (y := x % 10) (by omega) (by omega), tx_size]
        rw [show (x % 10).toNat = x.toNat % 10 by omega]
        rfl
      · refine Ev.congr (fun k => if_pos (by rw [tx_size]; omega)) ?_
        rw [tx_append]
        exact Ev.now _
/-- A digit's byte. -/
def dgb (b : UInt8) : Bool := decide (48 ≤ b.toNat) && decide (b.toNat ≤ 57)
theorem dgb_iff {b : UInt8} : dgb b = true ↔ 48 ≤ b.toNat ∧ b.toNat ≤ 57 := by unfold dgb; simp
/-- All are digits. -/
def dgs (l : List UInt8) : Prop := ∀ b ∈ l, 48 ≤ b.toNat ∧ b.toNat ≤ 57
/-- The number that a row of digits spells behind the number a. -/
def vL : List UInt8 → Nat → Nat
  | [], a => a
  | b :: r, a => vL r (a * 10 + (b.toNat - 48))
theorem vL_append (x y : List UInt8) : ∀ a, vL (x ++ y) a = vL y (vL x a) := by
  induction x with
  | nil => intro a; rfl
  | cons b r ih => intro a; exact ih _
theorem vL_lt : ∀ (l : List UInt8) (a k : Nat), dgs l → a < 10 ^ k → vL l a < 10 ^ (k + l.length)
  | [], a, k, _, h => h
  | b :: r, a, k, hd, h => by
    have h1 := hd b (List.mem_cons_self ..)
    have := vL_lt r (a * 10 + (b.toNat - 48)) (k + 1) (fun x hx => hd x (List.mem_cons_of_mem _ hx)) (by rw [Nat.pow_succ]; omega)
    rw [List.length_cons, show k + (r.length + 1) = k + 1 + r.length by omega]
    exact this
theorem decFrom_vL : ∀ (l : List UInt8) (a : Nat), dgs l → Lib.decFrom a l = some (vL l a)
  | [], a, _ => rfl
  | b :: r, a, hd => by
    have h1 := hd b (List.mem_cons_self ..)
    have hv : Lib.digitVal b = some (b.toNat - 48) := by unfold Lib.digitVal; rw [if_pos h1]
    rw [Lib.decFrom, hv]
    exact decFrom_vL r _ (fun x hx => hd x (List.mem_cons_of_mem _ hx))
theorem byte_of {d : Nat} (h : d < 10) : (UInt8.ofNat (48 + d)).toNat = 48 + d := by
  rw [UInt8.toNat_ofNat']
  omega
/-- No nought ahead of other digits. -/
def noLead (l : List UInt8) : Prop := l.length = 1 ∨ l.head? ≠ some 48
theorem byte_eq {b : UInt8} (h : 48 ≤ b.toNat ∧ b.toNat ≤ 57) : UInt8.ofNat (48 + (b.toNat - 48)) = b := by
  rw [show 48 + (b.toNat - 48) = b.toNat by omega, UInt8.ofNat_toNat]
theorem dd_snoc (r : List UInt8) (b : UInt8) (hb : 48 ≤ b.toNat ∧ b.toNat ≤ 57) (h1 : 1 ≤ vL r 0) (ih : Lib.decDigits (vL r 0) = r) : Lib.decDigits (vL (r ++ [b]) 0) = r ++ [b] := by
  have e : vL (r ++ [b]) 0 = vL r 0 * 10 + (b.toNat - 48) := by rw [vL_append]; rfl
  rw [e, dd_step _ (by omega), show (vL r 0 * 10 + (b.toNat - 48)) / 10 = vL r 0 by omega, ih, show (vL r 0 * 10 + (b.toNat - 48)) % 10 = b.toNat - 48 by omega, byte_eq hb]
theorem dd_vL : ∀ (n : Nat) (l : List UInt8), l.length = n + 1 → dgs l → l.head? ≠ some 48 → Lib.decDigits (vL l 0) = l ∧ 1 ≤ vL l 0
  | 0, l, hl, hd, hh => by
    obtain ⟨b, rfl⟩ := List.length_eq_one_iff.1 hl
    have hb := hd b (List.mem_cons_self ..)
    have hn : b.toNat ≠ 48 := fun e => hh (by rw [List.head?_cons]; exact congrArg some (UInt8.toNat_inj.1 e))
    have e : vL [b] 0 = b.toNat - 48 := by rw [vL, vL]; omega
    rw [e, dd_one _ (by omega), byte_eq hb]
    exact ⟨rfl, by omega⟩
  | n + 1, l, hl, hd, hh => by
    have hne : l ≠ [] := by intro e; rw [e] at hl; simp at hl
    obtain ⟨r, b, rfl⟩ : ∃ r b, l = r ++ [b] := ⟨l.dropLast, l.getLast hne, (List.dropLast_concat_getLast hne).symm⟩
    have hr : r.length = n + 1 := by simp at hl; exact hl
    have hb := hd b (by simp)
    have hr0 : r ≠ [] := by intro e; rw [e] at hr; simp at hr
    have ih := dd_vL n r hr (fun x hx => hd x (by simp [hx])) (fun e => hh (by rw [List.head?_append, e]; rfl))
    refine ⟨dd_snoc r b hb ih.2 ih.1, ?_⟩
    rw [vL_append, vL, vL]
    have := ih.2
    omega
theorem dd_noLead {l : List UInt8} (h0 : l ≠ []) (hd : dgs l) (hn : noLead l) : Lib.decDigits (vL l 0) = l := by
  rcases hn with h1 | hh
  · obtain ⟨b, rfl⟩ := List.length_eq_one_iff.1 h1
    have hb := hd b (List.mem_cons_self ..)
    have e : vL [b] 0 = b.toNat - 48 := by rw [vL, vL]; omega
    rw [e, dd_one _ (by omega), byte_eq hb]
  · exact (dd_vL (l.length - 1) l (by have := List.length_pos_iff.2 h0; omega) hd hh).1
theorem dd_head : ∀ (u : Nat) (r : List UInt8), Lib.decDigits u = 48 :: r → u = 0 ∧ r = [] := by
  intro u
  induction u using Nat.strongRecOn with
  | ind u ih =>
    intro r h
    by_cases h10 : u < 10
    · rw [dd_one u h10] at h
      injection h with h1 h2
      have : (UInt8.ofNat (48 + u)).toNat = 48 := by rw [h1]; rfl
      rw [byte_of h10] at this
      exact ⟨by omega, h2.symm⟩
    · rw [dd_step u h10] at h
      cases hq : Lib.decDigits (u / 10) with
      | nil =>
        have : 1 ≤ (Lib.decDigits (u / 10)).length := by
          have hk : ∀ v : Nat, 1 ≤ (Lib.decDigits v).length := fun v => by
            by_cases hv : v < 10
            · rw [dd_one v hv]; simp
            · rw [dd_step v hv]; simp
          exact hk _
        rw [hq] at this
        simp at this
      | cons c q =>
        rw [hq] at h
        injection h with h1 h2
        have := ih (u / 10) (by omega) q (by rw [hq, h1])
        omega
/-- Digits that are a token's number. -/
def numOk (l : List UInt8) : Bool := decide (l.length ≤ 18) && !(decide (l.head? = some 48) && decide (l.length ≠ 1)) && decide (vL l 0 ≤ 999999999)
theorem itoa_nat (n : Nat) : Lib.itoa (n : Int) = Lib.decDigits n := by unfold Lib.itoa; rw [if_neg (by omega)]; rfl
theorem atoi_digits {l : List UInt8} (h0 : l ≠ []) (hd : dgs l) : Lib.atoi l = some (vL l 0 : Int) := by
  cases l with
  | nil => exact absurd rfl h0
  | cons b r =>
    have hb := hd b (List.mem_cons_self ..)
    have n1 : (b == 45) = false := by
      rw [beq_eq_false_iff_ne]
      intro e
      rw [e] at hb
      have : (45 : UInt8).toNat = 45 := rfl
      omega
    have n2 : (b == 43) = false := by
      rw [beq_eq_false_iff_ne]
      intro e
      rw [e] at hb
      have : (43 : UInt8).toNat = 43 := rfl
      omega
    unfold Lib.atoi
    simp only [n1, n2, Bool.false_eq_true, if_false]
    unfold Lib.decNat
    rw [if_neg (by simp), decFrom_vL _ _ hd]
    rfl
/-- The program's small number. -/
theorem small_f {l : List UInt8} (h0 : l ≠ []) (hd : dgs l) (hl : l.length ≤ 100000) : ∃ n, impl_smallNumber.f (tx l) = some (n, numOk l) ∧ (numOk l = true → n = vL l 0) := by
  unfold impl_smallNumber.f
  rw [if_pos (by rw [tx_size]; omega), tx_list]
  by_cases h18 : l.length ≤ 18
  · rw [Lib.atoiAll_short l h18, atoi_digits h0 hd]
    refine ⟨vL l 0, ?_, fun _ => rfl⟩
    show some _ = _
    congr 2
    rw [itoa_nat, tx_toList]
    unfold numOk
    rw [decide_eq_true h18, Bool.true_and]
    by_cases hv : vL l 0 ≤ 999999999
    · rw [decide_eq_true hv, decide_eq_true (show (vL l 0 : Int) ≤ 999999999 by omega), Bool.true_and, Bool.and_true]
      by_cases hn : noLead l
      · rw [dd_noLead h0 hd hn, beq_self_eq_true]
        rcases hn with h1 | h1
        · simp [h1]
        · simp [h1]
      · have hn' : l.head? = some 48 ∧ l.length ≠ 1 := by
          unfold noLead at hn
          refine ⟨Decidable.byContradiction fun h => hn (.inr h), fun h => hn (.inl h)⟩
        rw [decide_eq_true hn'.1, decide_eq_true hn'.2]
        show (_ : Bool) = false
        rw [beq_eq_false_iff_ne]
        intro e
        cases l with
        | nil => exact h0 rfl
        | cons b r =>
          have hb : b = 48 := by simpa using hn'.1
          rw [hb] at e hn'
          have := dd_head _ _ e
          exact hn'.2 (by rw [this.2]; rfl)
    · rw [decide_eq_false hv, decide_eq_false (show ¬ (vL l 0 : Int) ≤ 999999999 by omega), Bool.false_and, Bool.and_false]
  · have hno : numOk l = false := by unfold numOk; rw [decide_eq_false h18, Bool.false_and, Bool.false_and]
    rw [hno]
    cases ha : Lib.atoiAll l with
    | ok v =>
      refine ⟨v, ?_, fun h => by cases h⟩
      show some _ = _
      congr 2
      rw [tx_toList]
      by_cases hv : v ≤ 999999999
      · rw [decide_eq_true hv, Bool.true_and, beq_eq_false_iff_ne]
        intro e
        by_cases hv0 : v < 0
        · unfold Lib.itoa at e
          rw [if_pos hv0] at e
          have := hd 45 (by rw [← e]; exact List.mem_cons_self ..)
          have h45 : (45 : UInt8).toNat = 45 := rfl
          omega
        · have h9 := dd_len 8 v.toNat (by show v.toNat < 1000000000; omega)
          unfold Lib.itoa at e
          rw [if_neg hv0] at e
          rw [e] at h9
          omega
      · rw [decide_eq_false hv, Bool.false_and]
    | «syntax» => exact ⟨_, rfl, fun h => by cases h⟩
    | range => exact ⟨_, rfl, fun h => by cases h⟩
/-- The reference's reading of digits. -/
theorem l00Number_loop (l : List UInt8) (hd : dgs l) (hl : l.length ≤ 18) : ∀ (d i : Nat), i + d = l.length → Ev (fun k => spec_l00Number.l0 k (tx l) 1 (vL (l.take i) 0 : Int) (i : Int)) ((vL l 0 : Int), true) := by
  intro d
  induction d with
  | zero =>
    intro i hi
    rw [List.take_of_length_le (by omega)]
    have hv := vL_lt l 0 0 hd (by decide)
    have h18 : (10 : Nat) ^ (0 + l.length) ≤ 10 ^ 18 := Nat.pow_le_pow_right (by decide) (by omega)
    have e18 : (10 : Nat) ^ 18 = 1000000000000000000 := by decide
    refine evT fun k => ?_
    rw [spec_l00Number.l0, if_neg (by rw [tx_size]; omega), wrap_in (by omega) (by omega), Int.one_mul]
  | succ d ih =>
    intro i hi
    have hil : i < l.length := by omega
    have hb := hd (l[i]'hil) (List.getElem_mem _)
    have e : l.take (i + 1) = l.take i ++ [l[i]'hil] := by rw [List.take_add_one, List.getElem?_eq_getElem hil]; rfl
    have hbt : bt (tx l) (i : Int) = ((l[i]'hil).toNat : Int) := by rw [tx_bt, List.getElem?_eq_getElem hil]; rfl
    have hv := vL_lt (l.take i) 0 0 (fun x hx => hd x (List.mem_of_mem_take hx)) (by decide)
    have hlt : (l.take i).length ≤ 17 := by rw [List.length_take]; omega
    have h18 : (10 : Nat) ^ (0 + (l.take i).length) ≤ 10 ^ 17 := Nat.pow_le_pow_right (by decide) (by omega)
    have e18 : (10 : Nat) ^ 17 = 100000000000000000 := by decide
    have hn := ih (i + 1) (by omega)
    rw [e, vL_append, vL, vL] at hn
    refine Ev.step (fun k => ?_) hn
    generalize vL (l.take i) 0 = a at *
    rw [spec_l00Number.l0, if_pos (by rw [tx_size]; omega), if_pos (by omega), hbt, if_neg (by omega), if_neg (by omega), wsucc (by omega)]
    rw [wrap_in (x := (a : Int) * 10) (by omega) (by omega), wrap_in (x := ((l[i]'hil).toNat : Int)) (by omega) (by omega), wrap_in (x := (a : Int) * 10 + ((l[i]'hil).toNat : Int)) (by omega) (by omega), wrap_in (by omega) (by omega)]
    congr 1
    omega
theorem l00Number_ev {l : List UInt8} (h0 : l ≠ []) (hd : dgs l) (hl : l.length ≤ 100000) : ∃ n, Ev (fun k => spec_l00Number.f k (tx l)) (n, decide (l.length ≤ 18) && !(decide (l.head? = some 48) && decide (l.length ≠ 1))) ∧
    ((decide (l.length ≤ 18) && !(decide (l.head? = some 48) && decide (l.length ≠ 1))) = true → n = vL l 0) := by
  have hpos : 0 < l.length := List.length_pos_iff.2 h0
  obtain ⟨b, r, hbr⟩ : ∃ b r, l = b :: r := List.exists_cons_of_ne_nil h0
  have hb := hd b (by rw [hbr]; exact List.mem_cons_self ..)
  have hb0 : bt (tx l) 0 = (b.toNat : Int) := by have := tx_bt l 0; rw [hbr] at this ⊢; exact this
  have hh : l.head? = some b := by rw [hbr]; rfl
  have toj1 : ∀ {x}, Ev (fun k => spec_l00Number.j1 k (tx l) 1) x → Ev (fun k => spec_l00Number.f k (tx l)) x := fun {x} h => by
    refine Ev.congr (f := fun k => spec_l00Number.j0 k (tx l) 1 false) (fun k => ?_) (Ev.step (fun k => ?_) h)
    · unfold spec_l00Number.f
      rw [if_pos (by rw [tx_size]; omega), if_pos (by rw [tx_size]; omega), hb0]
      congr 1
      rw [beq_eq_false_iff_ne]; omega
    · rw [spec_l00Number.j0, if_neg (by decide)]
  have no : Ev (fun k => spec_l00Number.j2 k (tx l) 1 true) (0, false) := evT fun k => by rw [spec_l00Number.j2, if_pos rfl]
  by_cases h18 : l.length ≤ 18
  · by_cases h48 : b = 48
    · by_cases h1 : l.length = 1
      · refine ⟨vL l 0, ?_, fun _ => rfl⟩
        rw [decide_eq_true h18, decide_eq_false (show ¬ l.length ≠ 1 by omega), Bool.and_false]
        have lp := l00Number_loop l hd h18 l.length 0 (by omega)
        refine toj1 (Ev.step (f := fun k => spec_l00Number.j2 k (tx l) 1 false) (fun k => ?_) (Ev.step (fun k => ?_) lp))
        · rw [spec_l00Number.j1, if_neg (by rw [tx_size]; omega), if_neg (by rw [tx_size]; omega), if_pos (by rw [tx_size]; omega), hb0, if_pos (by rw [h48]; rfl), if_neg (by rw [tx_size]; omega)]
          rfl
        · rw [spec_l00Number.j2, if_neg (by decide)]; rfl
      · have hf : (decide (l.length ≤ 18) && !(decide (l.head? = some 48) && decide (l.length ≠ 1))) = false := by rw [hh, h48]; simp [h1]
        rw [hf]
        refine ⟨0, toj1 (Ev.step (fun k => ?_) no), fun h => by cases h⟩
        rw [spec_l00Number.j1, if_neg (by rw [tx_size]; omega), if_neg (by rw [tx_size]; omega), if_pos (by rw [tx_size]; omega), hb0, if_pos (by rw [h48]; rfl), if_pos (by rw [tx_size]; omega)]
    · have hf : (decide (l.length ≤ 18) && !(decide (l.head? = some 48) && decide (l.length ≠ 1))) = true := by rw [hh]; simp [h18, h48]
      rw [hf]
      refine ⟨vL l 0, ?_, fun _ => rfl⟩
      have lp := l00Number_loop l hd h18 l.length 0 (by omega)
      have hbn : b.toNat ≠ 48 := fun e => h48 (UInt8.toNat_inj.1 e)
      refine toj1 (Ev.step (f := fun k => spec_l00Number.j2 k (tx l) 1 false) (fun k => ?_) (Ev.step (fun k => ?_) lp))
      · rw [spec_l00Number.j1, if_neg (by rw [tx_size]; omega), if_neg (by rw [tx_size]; omega), if_pos (by rw [tx_size]; omega), hb0, if_neg (by omega)]
      · rw [spec_l00Number.j2, if_neg (by decide)]; rfl
  · rw [decide_eq_false h18, Bool.false_and]
    refine ⟨0, toj1 (Ev.step (fun k => ?_) no), fun h => by cases h⟩
    rw [spec_l00Number.j1, if_neg (by rw [tx_size]; omega), if_pos (by rw [tx_size]; omega)]
/-- The reference's number of a token. -/
theorem l04Number_ev {l : List UInt8} (h0 : l ≠ []) (hd : dgs l) (hl : l.length ≤ 100000) : ∃ n, Ev (fun k => spec_l04Number.f k (tx l)) (n, numOk l) ∧ (numOk l = true → n = vL l 0) := by
  obtain ⟨n, e, hn⟩ := l00Number_ev h0 hd hl
  cases hc : (decide (l.length ≤ 18) && !(decide (l.head? = some 48) && decide (l.length ≠ 1))) with
  | false =>
    rw [hc] at e
    have hno : numOk l = false := by unfold numOk; rw [hc]; rfl
    rw [hno]
    refine ⟨n, ?_, fun h => by cases h⟩
    unfold spec_l04Number.f
    exact Ev.bind (f := fun k bt109 => (if bt109.2 = true then ((spec_l01In.f bt109.1 0 999999999).bind fun t111 => (if t111 = true then ((spec_l00Digits.f k bt109.1).bind fun t112 => (some (bt109.1, (t112.toList == (tx l).toList)))) else (some (bt109.1, false)))) else (some (bt109.1, false)))) e (Ev.congr (f := fun _ => some (n, false)) (fun k => rfl) (Ev.now _))
  | true =>
    rw [hc] at e
    obtain rfl := hn hc
    refine ⟨vL l 0, ?_, fun _ => rfl⟩
    unfold spec_l04Number.f
    refine Ev.bind (f := fun k bt109 => (if bt109.2 = true then ((spec_l01In.f bt109.1 0 999999999).bind fun t111 => (if t111 = true then ((spec_l00Digits.f k bt109.1).bind fun t112 => (some (bt109.1, (t112.toList == (tx l).toList)))) else (some (bt109.1, false)))) else (some (bt109.1, false)))) e ?_
    have hIn : spec_l01In.f (vL l 0 : Int) 0 999999999 = some (decide (vL l 0 ≤ 999999999)) := by
      unfold spec_l01In.f
      rw [if_pos (by omega)]
      exact congrArg some (decide_eq_decide.2 (by omega))
    by_cases hv : vL l 0 ≤ 999999999
    · have hno : numOk l = true := by unfold numOk; rw [hc, decide_eq_true hv]; rfl
      have hc' : noLead l := by
        unfold noLead
        by_cases h1 : l.length = 1
        · exact .inl h1
        · refine .inr fun h => ?_
          rw [h] at hc
          simp [h1] at hc
      have dd := l00_ev 8 (vL l 0 : Int) (by omega) (by rw [Int.toNat_natCast]; show _ < 1000000000; omega) (by omega) (by omega)
      rw [Int.toNat_natCast, dd_noLead h0 hd hc'] at dd
      rw [hno]
      refine Ev.congr (f := fun k => (spec_l00Digits.f k (vL l 0 : Int)).bind fun t112 => some ((vL l 0 : Int), (t112.toList == (tx l).toList))) (fun k => ?_) (Ev.bind (f := fun _ t112 => some ((vL l 0 : Int), (t112.toList == (tx l).toList))) dd ?_)
      · rw [if_pos rfl, hIn, decide_eq_true hv, Option.bind_some, if_pos rfl]
      · rw [beq_self_eq_true]; exact Ev.now _
    · have hno : numOk l = false := by unfold numOk; rw [decide_eq_false hv, Bool.and_false]
      rw [hno]
      refine Ev.congr (fun k => ?_) (Ev.now _)
      rw [if_pos rfl, hIn, decide_eq_false hv, Option.bind_some, if_neg (by decide)]
end Go.Proofs.YtbphhccpkngfoaaGreatDoor.Pl
