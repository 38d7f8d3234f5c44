/-
A natural's digits are read back.
-/
import Derived.Test.YtgldcdnlojcchaaDoorPrB
import Derived.Test.YtgldcdnlojcchaaDoorPrT
namespace Go.Proofs.YtgldcdnlojcchaaDoor.Pl
open Go.RowKit Go.Proofs.YtgldcdnlojcchaaDoor.Q Go.Proofs.YtgldcdnlojcchaaDoor.Pn Go.Proofs.YtgldcdnlojcchaaDoorW.PrintWords Go.Proofs.YtgldcdnlojcchaaDoorW.PrintLast Go.Proofs.YtgldcdnlojcchaaDoorW.PrintMore
set_option linter.unusedVariables false
set_option linter.unusedSimpArgs false

/-- The number that a row of digits spells behind the number a. -/
def vL : List UInt8 → Int → Int
  | [], a => a
  | b :: r, a => vL r (10 * a + ((b.toNat : Int) - 48))
theorem vL_append (x y : List UInt8) : ∀ a, vL (x ++ y) a = vL y (vL x a) := by
  induction x with
  | nil => intro a; rfl
  | cons b r ih => intro a; exact ih _
theorem bt_tx (l : List UInt8) (i : Nat) (h : i < l.length) : bt (tx l) (i : Int) = ((l[i]'h).toNat : Int) := by
  have hs : i < (tx l).size := by rw [tx_size]; exact h
  rw [bt_at (tx l) i hs]
  rfl
theorem dv_tx : ∀ (B A C : List UInt8) (a : Int), dv (tx (A ++ (B ++ C))) B.length A.length a = vL B a
  | [], A, C, a => rfl
  | b :: B, A, C, a => by
    have hb : bt (tx (A ++ (b :: B ++ C))) (A.length : Int) = (b.toNat : Int) := by
      rw [bt_tx _ _ (by simp)]
      rw [List.getElem_append_right (Nat.le_refl _)]
      simp
    have e : A ++ (b :: B ++ C) = (A ++ [b]) ++ (B ++ C) := by simp
    have ih := dv_tx B (A ++ [b]) C (10 * a + ((b.toNat : Int) - 48))
    rw [List.length_append, List.length_singleton] at ih
    rw [List.length_cons, dv, hb, vL, e]
    exact ih
/-- All are digits. -/
def dgs (l : List UInt8) : Prop := ∀ b ∈ l, 48 ≤ b.toNat ∧ b.toNat ≤ 57
theorem dgs_append {x y : List UInt8} (hx : dgs x) (hy : dgs y) : dgs (x ++ y) := fun b hb => (List.mem_append.1 hb).elim (hx b) (hy b)
theorem byte_of {d : Nat} (h : d < 10) : (UInt8.ofNat (48 + d)).toNat = 48 + d := by
  rw [UInt8.toNat_ofNat']
  omega
theorem dd_dgs : ∀ (d u : Nat), u < 10 ^ (d + 1) → dgs (Lib.decDigits u) ∧ vL (Lib.decDigits u) 0 = u
  | 0, u, h => by
    have hu : u < 10 := by simpa using h
    rw [dd_one u hu]
    refine ⟨fun b hb => ?_, ?_⟩
    · obtain rfl := List.mem_singleton.1 hb
      rw [byte_of hu]; omega
    · rw [vL, vL, byte_of hu]; omega
  | d + 1, u, h => by
    by_cases h10 : u < 10
    · rw [dd_one u h10]
      refine ⟨fun b hb => ?_, ?_⟩
      · obtain rfl := List.mem_singleton.1 hb
        rw [byte_of h10]; omega
      · rw [vL, vL, byte_of h10]; omega
    · have ih := dd_dgs d (u / 10) (by rw [Nat.pow_succ] at h; omega)
      have hm : u % 10 < 10 := Nat.mod_lt _ (by decide)
      rw [dd_step u h10]
      refine ⟨dgs_append ih.1 fun b hb => ?_, ?_⟩
      · obtain rfl := List.mem_singleton.1 hb
        rw [byte_of hm]; omega
      · rw [vL_append, ih.2, vL, vL, byte_of hm]; omega
theorem dd_head : ∀ (d u : Nat), u < 10 ^ (d + 1) → 0 < u → ∃ b r, Lib.decDigits u = b :: r ∧ b.toNat ≠ 48
  | 0, u, h, h0 => by
    have hu : u < 10 := by simpa using h
    exact ⟨_, [], dd_one u hu, by rw [byte_of hu]; omega⟩
  | d + 1, u, h, h0 => by
    by_cases h10 : u < 10
    · exact ⟨_, [], dd_one u h10, by rw [byte_of h10]; omega⟩
    · obtain ⟨b, r, e, hb⟩ := dd_head d (u / 10) (by rw [Nat.pow_succ] at h; omega) (by omega)
      exact ⟨b, r ++ [UInt8.ofNat (48 + u % 10)], by rw [dd_step u h10, e]; rfl, hb⟩
theorem rep_dgs (c : Nat) : dgs (Lib.repeatL [48] c) ∧ vL (Lib.repeatL [48] c) 0 = 0 := by
  induction c with
  | zero => exact ⟨fun b hb => (by cases hb), rfl⟩
  | succ c ih =>
    refine ⟨fun b hb => ?_, ?_⟩
    · rw [Lib.repeatL] at hb
      rcases List.mem_append.1 hb with h | h
      · obtain rfl := List.mem_singleton.1 h
        decide
      · exact ih.1 b h
    · rw [Lib.repeatL, vL_append]
      exact ih.2
theorem itoa_nn {x : Int} (h0 : 0 ≤ x) : Lib.itoa x = Lib.decDigits x.toNat := by unfold Lib.itoa; rw [if_neg (by omega)]
theorem piece_val (l : List Int) (hl : ∀ x ∈ l, 0 ≤ x ∧ x < 10000) (j : Nat) (hj : j < l.length) : dgs (ntPiece l j) ∧ vL (ntPiece l j) 0 = l[j]?.getD 0 ∧ 1 ≤ (ntPiece l j).length ∧ (j + 1 < l.length → (ntPiece l j).length = 4) := by
  have hx := hl (l[j]?.getD 0) (by rw [List.getElem?_eq_getElem hj, Option.getD_some]; exact List.getElem_mem _)
  have hd := dd_dgs 3 (l[j]?.getD 0).toNat (by omega)
  have hn := dd_len 3 (l[j]?.getD 0).toNat (by omega)
  have hz : (((l[j]?.getD 0).toNat : Nat) : Int) = l[j]?.getD 0 := Int.toNat_of_nonneg hx.1
  unfold ntPiece
  rw [itoa_nn hx.1]
  split
  · have hr := rep_dgs (4 - (Lib.decDigits (l[j]?.getD 0).toNat).length)
    refine ⟨dgs_append hr.1 hd.1, ?_, ?_, ?_⟩
    · rw [vL_append, hr.2, hd.2, hz]
    · rw [List.length_append]; omega
    · intro _
      rw [List.length_append, Lib.repeatL_length]
      simp
      omega
  · refine ⟨hd.1, by rw [hd.2, hz], hn.2, fun h => absurd h (by assumption)⟩
theorem text_dgs (l : List Int) (hl : ∀ x ∈ l, 0 ≤ x ∧ x < 10000) : ∀ d, d ≤ l.length → dgs (ntText l (dn l.length d))
  | 0, _ => fun b hb => by cases hb
  | d + 1, h => by
    rw [dn_succ, ntText_snoc]
    exact dgs_append (text_dgs l hl d (by omega)) (piece_val l hl _ (by omega)).1
theorem text_pre (l : List Int) : ∀ (k d : Nat), d + k = l.length → ∃ C, ntText l (dn l.length l.length) = ntText l (dn l.length d) ++ C
  | 0, d, h => ⟨[], by rw [show d = l.length by omega, List.append_nil]⟩
  | k + 1, d, h => by
    obtain ⟨C, e⟩ := text_pre l k (d + 1) (by omega)
    rw [dn_succ, ntText_snoc, List.append_assoc] at e
    exact ⟨_, e⟩
theorem ch_zero (s : ByteArray) (f : Nat) (out : List Int) : ch s f 0 out = out := by
  cases f with
  | zero => rfl
  | succ f => rw [ch, if_pos rfl]
theorem ch_text (l : List Int) (hl : ∀ x ∈ l, 0 ≤ x ∧ x < 10000) : ∀ (d : Nat), d ≤ l.length → ∀ (f : Nat) (out : List Int), (ntText l (dn l.length d)).length ≤ f → ch (tx (ntText l (dn l.length l.length))) f (ntText l (dn l.length d)).length out = out ++ l.drop (l.length - d)
  | 0, _, f, out, _ => by
    rw [show (ntText l (dn l.length 0)).length = 0 from rfl, ch_zero, Nat.sub_zero, List.drop_length, List.append_nil]
  | d + 1, h, f, out, hf => by
    have hj : l.length - 1 - d < l.length := by omega
    obtain ⟨p1, p2, p3, p4⟩ := piece_val l hl (l.length - 1 - d) hj
    obtain ⟨C, hC⟩ := text_pre l (l.length - (d + 1)) (d + 1) (by omega)
    have e1 : ntText l (dn l.length (d + 1)) = ntText l (dn l.length d) ++ ntPiece l (l.length - 1 - d) := by rw [dn_succ, ntText_snoc]
    have e2 : (ntText l (dn l.length (d + 1))).length = (ntText l (dn l.length d)).length + (ntPiece l (l.length - 1 - d)).length := by rw [e1, List.length_append]
    have e3 : (ntText l (dn l.length (d + 1))).length - 4 = (ntText l (dn l.length d)).length := by
      rcases Nat.eq_zero_or_pos d with rfl | hd
      · have z : (ntText l (dn l.length 0)).length = 0 := rfl
        have := ntPiece_len l hl (l.length - 1 - 0) hj
        rw [e2, z]; omega
      · rw [e2, p4 (by omega)]; omega
    obtain ⟨f, rfl⟩ : ∃ g, f = g + 1 := ⟨f - 1, by omega⟩
    have hv : dv (tx (ntText l (dn l.length l.length))) (ntPiece l (l.length - 1 - d)).length (ntText l (dn l.length d)).length 0 = l[l.length - 1 - d]?.getD 0 := by
      rw [hC, e1, List.append_assoc, dv_tx, p2]
    rw [ch, if_neg (by omega), e3, show (ntText l (dn l.length (d + 1))).length - (ntText l (dn l.length d)).length = (ntPiece l (l.length - 1 - d)).length by omega, hv, ch_text l hl d (by omega) f _ (by omega), List.append_assoc]
    congr 1
    rw [show l.length - (d + 1) = l.length - 1 - d by omega, List.drop_eq_getElem_cons hj, List.getElem?_eq_getElem hj, Option.getD_some, show l.length - 1 - d + 1 = l.length - d by omega]
    rfl
theorem tlen_full {l : List Int} (h : Nm l) : l.take (tlen l l.length) = l := by
  have h2 := h.2
  rcases Nat.eq_zero_or_pos l.length with h0 | h0
  · rw [List.length_eq_zero_iff.1 h0]; rfl
  · obtain ⟨n, hn⟩ : ∃ n, l.length = n + 1 := ⟨l.length - 1, by omega⟩
    have hi : n < l.length := by omega
    have hz : l[n]?.getD 0 ≠ 0 := by
      intro z
      apply h2
      rw [List.getLast?_eq_getElem?, hn, Nat.add_sub_cancel, List.getElem?_eq_getElem hi]
      rw [List.getElem?_eq_getElem hi, Option.getD_some] at z
      rw [z]
    rw [hn, tlen, if_neg hz, ← hn, List.take_length]
theorem bt_dg {M : List UInt8} (h : dgs M) : ∀ i : Nat, i < (tx M).size → dg (bt (tx M) (i : Int)) := by
  intro i hi
  rw [tx_size] at hi
  rw [bt_tx M i hi]
  have := h _ (List.getElem_mem hi)
  unfold dg
  omega
/-- The digits of a natural are read back. -/
theorem read_back {a : List Int} (h : Nm a) (hlen : a.length ≤ 30) (h0 : a ≠ []) : rnAns (tx (ntText a (dn a.length a.length))) = (a, 0) := by
  have hl : ∀ x ∈ a, 0 ≤ x ∧ x < 10000 := fun x hx => h.1 x hx
  have hd := text_dgs a hl a.length (Nat.le_refl _)
  have hL := down_len a hl a.length (Nat.le_refl _)
  rw [← dn_down] at hL
  obtain ⟨n, hn⟩ : ∃ n, a.length = n + 1 := ⟨a.length - 1, by have := List.length_pos_iff.2 h0; omega⟩
  have hi : n < a.length := by omega
  have hx := hl (a[n]?.getD 0) (by rw [List.getElem?_eq_getElem hi, Option.getD_some]; exact List.getElem_mem _)
  have hz : a[n]?.getD 0 ≠ 0 := by
    intro z
    apply h.2
    rw [List.getLast?_eq_getElem?, hn, Nat.add_sub_cancel, List.getElem?_eq_getElem hi]
    rw [List.getElem?_eq_getElem hi, Option.getD_some] at z
    rw [z]
  obtain ⟨b, r, e, hb⟩ := dd_head 3 (a[n]?.getD 0).toNat (by omega) (by omega)
  have hp : ntPiece a n = b :: r := by unfold ntPiece; rw [if_neg (by omega), itoa_nn hx.1, e]
  obtain ⟨C, hC⟩ := text_pre a (a.length - 1) 1 (by omega)
  have hT : ntText a (dn a.length 1) = b :: r := by
    rw [dn_succ, ntText_snoc, show a.length - 1 - 0 = n by omega, hp]; rfl
  rw [hT] at hC
  have hsz : 1 ≤ (ntText a (dn a.length a.length)).length := by rw [hC]; simp
  have hb0 : bt (tx (ntText a (dn a.length a.length))) 0 ≠ 48 := by
    have := bt_tx (ntText a (dn a.length a.length)) 0 (by omega)
    rw [show ((0 : Nat) : Int) = 0 from rfl] at this
    rw [this]
    simp only [hC, List.cons_append, List.getElem_cons_zero]
    omega
  have hc := ch_text a hl a.length (Nat.le_refl _) (ntText a (dn a.length a.length)).length [] (Nat.le_refl _)
  rw [Nat.sub_self, List.drop_zero, List.nil_append] at hc
  have hr : readAns (tx (ntText a (dn a.length a.length))) = (a, true) := by
    unfold readAns
    rw [if_neg, tx_size, hc, tlen_full h]
    rw [tx_size]
    rintro (z | z | z | z)
    · omega
    · omega
    · exact hb0 z.1
    · exact z fun i hi => bt_dg hd i (by rw [tx_size]; exact hi)
  unfold rnAns
  rw [if_neg (by rw [tx_size]; omega), hr]; rfl
theorem read_zero : rnAns (tx [48]) = ([], 0) := by
  have hg : dgs [48] := fun b hb => by
    obtain rfl := List.mem_singleton.1 hb
    decide
  have hb : bt (tx [48]) ((0 : Nat) : Int) = 48 := by rw [bt_tx [48] 0 (by decide)]; rfl
  have hc : ch (tx [48]) 1 1 [] = [0] := by
    rw [ch, if_neg (by decide), show 1 - (1 - 4) = 1 from rfl, show 1 - 4 = 0 from rfl, dv, dv, hb]; rfl
  have hr : readAns (tx [48]) = ([], true) := by
    unfold readAns
    rw [if_neg, tx_size, show [(48 : UInt8)].length = 1 from rfl, hc]
    · rfl
    · rw [tx_size]
      rintro (z | z | z | z)
      · exact absurd z (by decide)
      · exact absurd z (by decide)
      · exact absurd z.2 (by decide)
      · exact z fun i hi => bt_dg hg i (by rw [tx_size]; exact hi)
  unfold rnAns
  rw [if_neg (by rw [tx_size]; decide), hr]; rfl
/-- A nought ahead. -/
theorem read_nought (M : List UInt8) (h : 1 ≤ M.length) (h2 : M.length ≤ 1000) : rnAns (tx [48] ++ tx M) = ([], 3) := by
  rw [tx_append]
  have hb : bt (tx ([48] ++ M)) 0 = 48 := by
    have := bt_tx ([48] ++ M) 0 (by simp)
    rw [show ((0 : Nat) : Int) = 0 from rfl] at this
    rw [this]; rfl
  have hr : readAns (tx ([48] ++ M)) = ([], false) := by
    unfold readAns
    rw [if_pos (Or.inr (Or.inr (Or.inl ⟨hb, by rw [tx_size]; simp; omega⟩)))]
  unfold rnAns
  rw [if_neg (by rw [tx_size]; simp; omega), hr]; rfl
theorem nat_code {a : List Int} (h : Nm a) (hl : a.length ≤ 40) : askCode a [] = 0 := by
  unfold askCode
  rw [if_neg (by simp; omega), if_pos ⟨(natOKB_iff a).2 ⟨hl, h⟩, rfl⟩]
/-- What is written of a natural; what is read of it, and of it behind a nought. -/
theorem text_read {a : List Int} (h : Nm a) (hlen : a.length ≤ 4) : ∃ M : List UInt8, textAns a = (tx M, 0) ∧ rnAns (tx M) = (a, 0) ∧ rnAns (tx [48] ++ tx M) = ([], 3) ∧ M.length ≤ 100 := by
  unfold textAns
  rw [if_pos (nat_code h (by omega))]
  by_cases h0 : a = []
  · subst h0
    exact ⟨[48], if_pos rfl, read_zero, read_nought [48] (by decide) (by decide), by decide⟩
  · have hl : ∀ x ∈ a, 0 ≤ x ∧ x < 10000 := fun x hx => h.1 x hx
    have hL := down_len a hl a.length (Nat.le_refl _)
    rw [← dn_down] at hL
    refine ⟨_, if_neg h0, read_back h (by omega) h0, read_nought _ ?_ (by omega), by omega⟩
    have hp := List.length_pos_iff.2 h0
    obtain ⟨C, hC⟩ := text_pre a (a.length - 1) 1 (by omega)
    have hv := (piece_val a hl (a.length - 1) (by omega)).2.2.1
    rw [hC, List.length_append, dn_succ, ntText_snoc, List.length_append, show a.length - 1 - 0 = a.length - 1 by omega]
    omega
end Go.Proofs.YtgldcdnlojcchaaDoor.Pl
