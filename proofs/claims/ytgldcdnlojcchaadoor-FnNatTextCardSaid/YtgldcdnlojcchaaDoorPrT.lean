/-
A natural's digits: what the program and the reference write.
-/
import Derived.Test.YtgldcdnlojcchaaDoorPrN
import Derived.Test.YtgldcdnlojcchaaDoorQxNatText
namespace Go.Proofs.YtgldcdnlojcchaaDoor.Pl
open Go.RowKit Go.Proofs.YtgldcdnlojcchaaDoor.Q Go.Proofs.YtgldcdnlojcchaaDoor.Pn Go.Proofs.YtgldcdnlojcchaaDoorW.PrintWords Go.Proofs.YtgldcdnlojcchaaDoorW.PrintLast Go.Proofs.YtgldcdnlojcchaaDoorW.PrintMore
set_option linter.unusedVariables false
set_option linter.unusedSimpArgs false

theorem evT {α : Type} {g : Nat → Option α} {r : α} (h : ∀ k, g (k + 1) = some r) : Ev g r := Ev.step (f := fun _ => some r) h (Ev.now _)
/-- A text of these bytes. -/
def tx (l : List UInt8) : ByteArray := ⟨l.toArray⟩
theorem tx_list (l : List UInt8) : (tx l).data.toList = l := rfl
theorem tx_size (l : List UInt8) : (tx l).size = l.length := by show l.toArray.size = _; rw [List.size_toArray]
theorem tx_of {a : ByteArray} {l : List UInt8} (h : a.data.toList = l) : a = tx l := by
  cases a with
  | mk d =>
    subst h
    unfold tx
    simp
theorem tx_append (a b : List UInt8) : tx a ++ tx b = tx (a ++ b) := tx_of (by rw [ByteArray.data_append, Array.toList_append]; rfl)
theorem tx_drop1 (l : List UInt8) : (tx l).extract 1 (tx l).size = tx (l.drop 1) := by
  refine tx_of ?_
  rw [ByteArray.data_extract, Array.toList_extract, List.extract_eq_take_drop, tx_size]
  show (l.drop 1).take (l.length - 1) = _
  rw [List.take_of_length_le (by simp)]
theorem nums1 (x : Int) : strOfNums [x] = tx [UInt8.ofNat x.toNat] := rfl
theorem digit_byte {y : Int} (h0 : 0 ≤ y) (h1 : y < 10) : UInt8.ofNat ((wrap64 (48 + y)) % 256).toNat = UInt8.ofNat (48 + y.toNat) := by
  rw [wrap_in (by omega) (by omega)]
  congr 1
  omega
theorem dd_step (u : Nat) (h : ¬ u < 10) : Lib.decDigits u = Lib.decDigits (u / 10) ++ [UInt8.ofNat (48 + u % 10)] := by
  rw [Lib.decDigits, dif_neg h]
theorem dd_one (u : Nat) (h : u < 10) : Lib.decDigits u = [UInt8.ofNat (48 + u)] := by
  rw [Lib.decDigits, dif_pos h]
theorem dd_len : ∀ (d u : Nat), u < 10 ^ (d + 1) → (Lib.decDigits u).length ≤ d + 1 ∧ 1 ≤ (Lib.decDigits u).length
  | 0, u, h => by rw [dd_one u (by simpa using h)]; simp
  | d + 1, u, h => by
    by_cases h10 : u < 10
    · rw [dd_one u h10]; simp
    · have := dd_len d (u / 10) (by rw [Nat.pow_succ] at h; omega)
      rw [dd_step u h10]
      simp; omega
/-- The reference's digits of a number that is not below 0. -/
theorem l00_ev : ∀ (d : Nat) (x : Int), 0 ≤ x → x.toNat < 10 ^ (d + 1) → d ≤ 100 → x ≤ 1000000000 → Ev (fun k => spec_l00Digits.f k x) (tx (Lib.decDigits x.toNat))
  | 0, x, h0, h1, _, hb => by
    have hx : x.toNat < 10 := by simpa using h1
    rw [dd_one _ hx]
    refine evT fun k => ?_
    rw [spec_l00Digits.f, if_neg (by omega), if_neg (by omega), if_pos (by omega), nums1, digit_byte h0 (by omega)]
  | d + 1, x, h0, h1, hd, hb => by
    by_cases h10 : x < 10
    · rw [dd_one _ (by omega)]
      refine evT fun k => ?_
      rw [spec_l00Digits.f, if_neg (by omega), if_neg (by omega), if_pos h10, nums1, digit_byte h0 h10]
    · have ht : Int.tdiv x 10 = x / 10 := Int.tdiv_eq_ediv_of_nonneg h0
      have hm : Int.tmod x 10 = x % 10 := Int.tmod_eq_emod_of_nonneg h0
      have hq : (x / 10).toNat = x.toNat / 10 := by omega
      have ih := l00_ev d (x / 10) (by omega) (by rw [hq]; rw [Nat.pow_succ] at h1; omega) (by omega) (by omega)
      have hl := dd_len d (x.toNat / 10) (by rw [Nat.pow_succ] at h1; omega)
      rw [hq] at ih
      rw [dd_step _ (show ¬ x.toNat < 10 by omega)]
      refine Ev.step (f := fun k => (spec_l00Digits.f k (x / 10)).bind fun t => if t.size + 1 ≤ 9223372036854775807 then some (t ++ tx [UInt8.ofNat (48 + x.toNat % 10)]) else none) (fun k => ?_) (Ev.bind ih ?_)
      · rw [spec_l00Digits.f, if_neg (by omega), if_neg (by omega), if_neg h10, ht, hm, wrap_in (x := x / 10) (by omega) (by omega)]
        congr 1
        funext t
        rw [Option.bind_some, nums1, digit_byte (y := x % 10) (by omega) (by omega), tx_size]
        rw [show (x % 10).toNat = x.toNat % 10 by omega]
        rfl
      · refine Ev.congr (fun k => if_pos (by rw [tx_size]; omega)) ?_
        rw [tx_append]
        exact Ev.now _
/-! ### four digits -/
def P4 : Nat → Nat → List UInt8
  | 0, _ => []
  | m + 1, x => P4 m (x / 10) ++ [UInt8.ofNat (48 + x % 10)]
theorem dd_lead : ∀ (m x : Nat), x < 10 ^ m → Lib.decDigits (10 ^ m + x) = 49 :: P4 m x
  | 0, x, h => by
    have : x = 0 := by simpa using h
    subst this
    rw [dd_one _ (by decide)]; rfl
  | m + 1, x, h => by
    rw [Nat.pow_succ] at h ⊢
    have hp : 0 < 10 ^ m := Nat.pow_pos (by decide)
    rw [dd_step _ (by omega), show (10 ^ m * 10 + x) / 10 = 10 ^ m + x / 10 by omega, show (10 ^ m * 10 + x) % 10 = x % 10 by omega, dd_lead m (x / 10) (by omega), P4]
    rfl
theorem rep_snoc (c : Nat) : Lib.repeatL [48] c ++ [48] = Lib.repeatL [48] (c + 1) := by
  induction c with
  | zero => rfl
  | succ c ih => rw [Lib.repeatL, List.append_assoc, ih]; rfl
theorem dd_pad : ∀ (m x : Nat), x < 10 ^ (m + 1) → Lib.repeatL [48] (m + 1 - (Lib.decDigits x).length) ++ Lib.decDigits x = P4 (m + 1) x
  | 0, x, h => by
    have hx : x < 10 := by simpa using h
    rw [dd_one x hx, P4, P4, Nat.mod_eq_of_lt hx]; rfl
  | m + 1, x, h => by
    by_cases h10 : x < 10
    · have b := dd_pad m 0 (Nat.pow_pos (by decide))
      rw [dd_one 0 (by decide)] at b
      rw [dd_one x h10, P4, Nat.div_eq_of_lt h10, Nat.mod_eq_of_lt h10, ← b]
      congr 1
      exact (rep_snoc m).symm
    · have hx : x / 10 < 10 ^ (m + 1) := by rw [Nat.pow_succ] at h; omega
      have b := dd_pad m (x / 10) hx
      have hl := dd_len m (x / 10) hx
      rw [dd_step x h10, P4, ← b, List.length_append, List.append_assoc]
      congr 2
      simp
/-- What the reference adds for a limb behind the first. -/
theorem limb_pad {x : Int} (h0 : 0 ≤ x) (h1 : x < 10000) : (Lib.decDigits (10000 + x).toNat).drop 1 = Lib.repeatL [48] (4 - (Lib.itoa x).length) ++ Lib.itoa x := by
  have e : (10000 + x).toNat = 10 ^ 4 + x.toNat := by omega
  have hi : Lib.itoa x = Lib.decDigits x.toNat := by unfold Lib.itoa; rw [if_neg (by omega)]
  rw [e, dd_lead 4 x.toNat (by omega), hi, dd_pad 3 x.toNat (by omega)]; rfl
/-! ### the texts -/
def down : Nat → List Nat
  | 0 => []
  | d + 1 => d :: down d
theorem dn_down : ∀ n, dn n n = down n
  | 0 => rfl
  | n + 1 => by
    have ih := dn_down n
    rw [down, ← ih]
    unfold dn
    rw [List.range_succ_eq_map, List.map_cons, List.map_map]
    congr 1
    refine List.map_congr_left fun j _ => ?_
    simp only [Function.comp]
    omega
theorem down_len (l : List Int) (hl : ∀ x ∈ l, 0 ≤ x ∧ x < 10000) : ∀ d, d ≤ l.length → (ntText l (down d)).length ≤ 4 * d
  | 0, _ => by simp [down, ntText]
  | d + 1, h => by
    have h1 := ntPiece_len l hl d (by omega)
    have h2 := down_len l hl d (by omega)
    rw [down, ntText, List.length_append]
    omega
theorem text_loop (l : List Int) (hl : ∀ x ∈ l, 0 ≤ x ∧ x < 10000) (hn : l.length ≤ 1000) : ∀ (d : Nat), d + 1 ≤ l.length → ∀ t : List UInt8, t.length + 4 * d ≤ 100000 → Ev (fun k => spec_l01Text.l0 k l (tx t) ((d : Int) - 1)) (tx (t ++ ntText l (down d))) := by
  intro d
  induction d with
  | zero =>
    intro _ t _
    rw [down, ntText, List.append_nil]
    refine evT fun k => ?_
    rw [spec_l01Text.l0, if_neg (by omega)]
  | succ d ih =>
    intro hd t ht
    have hi : d < l.length := by omega
    have hx := hl (l[d]?.getD 0) (by rw [List.getElem?_eq_getElem hi, Option.getD_some]; exact List.getElem_mem _)
    have hp := limb_pad hx.1 hx.2
    have hpl := ntPiece_len l hl d hi
    have hpc : ntPiece l d = Lib.repeatL [48] (4 - (Lib.itoa (l[d]?.getD 0)).length) ++ Lib.itoa (l[d]?.getD 0) := by unfold ntPiece; rw [if_pos (by omega)]
    rw [← hpc] at hp
    have e := l00_ev 4 (10000 + l[d]?.getD 0) (by omega) (by omega) (by omega) (by omega)
    have hdl := dd_len 4 (10000 + l[d]?.getD 0).toNat (by omega)
    have nx := ih (by omega) (t ++ ntPiece l d) (by rw [List.length_append]; omega)
    rw [List.append_assoc] at nx
    rw [down, ntText]
    refine Ev.step (f := fun k => (spec_l00Digits.f k (10000 + l[d]?.getD 0)).bind fun s => if 1 ≤ (s.size : Int) then (if t.length + (s.extract 1 s.size).size ≤ 9223372036854775807 then spec_l01Text.l0 k l (tx t ++ s.extract 1 s.size) ((d : Int) - 1) else none) else none) (fun k => ?_) (Ev.bind e ?_)
    · rw [spec_l01Text.l0, if_pos (by omega), if_pos (by omega), if_pos (by omega)]
      rw [show ((d + 1 : Nat) : Int) - 1 = (d : Int) by omega, rd_nat, wrap_in (x := 10000 + l[d]?.getD 0) (by omega) (by omega), wrap_in (x := (d : Int) - 1) (by omega) (by omega), tx_size]
    · rw [tx_drop1, hp, tx_append]
      refine Ev.congr (fun k => (if_pos (by rw [tx_size]; omega)).trans (if_pos (by rw [tx_size]; omega))) nx
theorem text_both (l : List Int) (h0 : l ≠ []) (hl : ∀ x ∈ l, 0 ≤ x ∧ x < 10000) (hn : l.length ≤ 1000) : Ev (fun k => spec_l01Text.f k l) (tx (ntText l (dn l.length l.length))) ∧ impl_natText.f l = some (tx (ntText l (dn l.length l.length))) := by
  constructor
  · obtain ⟨n, hn1⟩ : ∃ n, l.length = n + 1 := ⟨l.length - 1, by have := List.length_pos_iff.2 h0; omega⟩
    have hi : n < l.length := by omega
    have hx := hl (l[n]?.getD 0) (by rw [List.getElem?_eq_getElem hi, Option.getD_some]; exact List.getElem_mem _)
    have hit : Lib.itoa (l[n]?.getD 0) = Lib.decDigits (l[n]?.getD 0).toNat := by unfold Lib.itoa; rw [if_neg (by omega)]
    have e := l00_ev 3 (l[n]?.getD 0) hx.1 (by omega) (by omega) (by omega)
    have hpc : ntPiece l n = Lib.decDigits (l[n]?.getD 0).toNat := by unfold ntPiece; rw [if_neg (by omega), hit]
    have hpl := ntPiece_len l hl n hi
    rw [← hpc] at e
    have nx := text_loop l hl hn n (by omega) (ntPiece l n) (by omega)
    rw [dn_down, hn1, down, ntText]
    refine Ev.congr (fun k => ?_) (Ev.bind (f := fun k t => spec_l01Text.l0 k l t ((n : Int) - 1)) e nx)
    unfold spec_l01Text.f
    rw [if_neg (by omega), wrap_in (x := (l.length : Int) - 1) (by omega) (by omega), wrap_in (x := (l.length : Int) - 2) (by omega) (by omega), if_pos (by omega), if_pos (by omega)]
    rw [show (l.length : Int) - 1 = (n : Int) by omega, show (l.length : Int) - 2 = (n : Int) - 1 by omega, rd_nat]
  · unfold impl_natText.f
    rw [if_neg h0, if_pos ⟨hn, List.all_eq_true.2 fun x hx => decide_eq_true (hl x hx)⟩]
    rfl
/-- What NatText answers. -/
def textAns (l : List Int) : ByteArray × Int := if askCode l [] = 0 then (if l = [] then (tx [48], 0) else (tx (ntText l (dn l.length l.length)), 0)) else (tx [], askCode l [])
theorem text_ok {l : List Int} (h : askCode l [] = 0) : (∀ x ∈ l, 0 ≤ x ∧ x < 10000) ∧ l.length ≤ 1000 := by
  have := ask_small h
  exact ⟨fun x hx => this.2.2.1.1 x hx, by omega⟩
theorem textLow (l : List Int) (h : askCode l [] = 0) : Ev (fun k => spec_l01Text.f k l) (textAns l).1 ∧ impl_natText.f l = some (textAns l).1 ∧ (textAns l).2 = 0 := by
  unfold textAns
  rw [if_pos h]
  by_cases h0 : l = []
  · rw [if_pos h0]
    subst h0
    refine ⟨Ev.congr (fun k => ?_) (Ev.now _), rfl, rfl⟩
    unfold spec_l01Text.f
    rw [if_pos (by simp)]; rfl
  · rw [if_neg h0]
    have h2 := text_ok h
    have := text_both l h0 h2.1 h2.2
    exact ⟨this.1, this.2, rfl⟩
theorem specText_ev (l : List Int) (hb : l.length ≤ 1048576) : Ev (fun k => spec_NatText.f k l) (textAns l) := by
  unfold spec_NatText.f
  by_cases hbig : (l.length : Int) > 4096
  · have e : askCode l [] = 2 := by unfold askCode; rw [if_pos (Or.inl (by omega))]
    have e2 : textAns l = (tx [], 2) := by unfold textAns; rw [if_neg (by omega), e]
    rw [e2]
    exact Ev.congr (fun k => if_pos hbig) (Ev.now _)
  · refine Ev.congr (fun k => if_neg hbig) (Ev.bind (l01Ask_ev l [] (by omega) (by simp)) ?_)
    by_cases h : askCode l [] = 0
    · obtain ⟨e1, _, e3⟩ := textLow l h
      have e4 : textAns l = ((textAns l).1, 0) := by rw [← e3]
      rw [e4]
      refine Ev.congr (fun k => if_pos h) (Ev.bind (f := fun _ t => some (t, 0)) e1 (Ev.now _))
    · have e2 : textAns l = (tx [], askCode l []) := by unfold textAns; rw [if_neg h]
      rw [e2]
      exact Ev.congr (fun k => if_neg h) (Ev.now _)
theorem implText_ev (l : List Int) : Ev (fun k => impl_NatText.f k l) (textAns l) := by
  unfold impl_NatText.f
  refine Ev.bind (natsCode_ev1 l) ?_
  by_cases h : askCode l [] = 0
  · obtain ⟨_, e1, e3⟩ := textLow l h
    have e4 : textAns l = ((textAns l).1, 0) := by rw [← e3]
    rw [e4]
    refine Ev.congr (fun k => ?_) (Ev.now _)
    rw [if_pos h, e1]; rfl
  · have e2 : textAns l = (tx [], askCode l []) := by unfold textAns; rw [if_neg h]
    rw [e2]
    exact Ev.congr (fun k => if_neg h) (Ev.now _)
end Go.Proofs.YtgldcdnlojcchaaDoor.Pl
