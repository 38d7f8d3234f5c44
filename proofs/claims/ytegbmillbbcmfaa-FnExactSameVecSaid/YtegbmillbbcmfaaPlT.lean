import Derived.Test.YtegbmillbbcmfaaPlA
import Derived.Test.YtegbmillbbcmfaaQxtrim
namespace Go.Proofs.Ytegbmillbbcmfaa.Pl
open Go.RowKit Go.Proofs.Ytegbmillbbcmfaa.Q Go.Proofs.Ytegbmillbbcmfaa.Pn Go.Proofs.YtegbmillbbcmfaaW.PrintWords Go.Proofs.YtegbmillbbcmfaaW.PrintLast
set_option linter.unusedVariables false
set_option linter.unusedSimpArgs false

theorem ncmpAux_cons (x y : Int) (xs ys : List Int) : ∀ (k : Nat), ncmpAux (x :: xs) (y :: ys) (k + 1) = if ncmpAux xs ys k = 0 then (if x = y then 0 else if x < y then -1 else 1) else ncmpAux xs ys k
  | 0 => by simp [ncmpAux]
  | k + 1 => by
    rw [ncmpAux, ncmpAux_cons x y xs ys k]
    rw [show ncmpAux xs ys (k + 1) = if xs[k]?.getD 0 = ys[k]?.getD 0 then ncmpAux xs ys k else if xs[k]?.getD 0 < ys[k]?.getD 0 then -1 else 1 from rfl]
    simp only [List.getElem?_cons_succ]
    by_cases h1 : xs[k]?.getD 0 = ys[k]?.getD 0
    · rw [if_pos h1, if_pos h1]
    · rw [if_neg h1, if_neg h1]
      by_cases h2 : xs[k]?.getD 0 < ys[k]?.getD 0
      · rw [if_pos h2]; simp
      · rw [if_neg h2]; simp
theorem ncmpAux_vl : ∀ {a b : List Int}, Lm a → Lm b → a.length = b.length → ncmpAux a b a.length = cmpI (vl a) (vl b)
  | [], [], _, _, _ => by simp [ncmpAux, vl, cmpI]
  | x :: xs, y :: ys, ha, hb, hl => by
    have ih := ncmpAux_vl ha.tail hb.tail (by simpa using hl)
    have hx := ha.head; have hy := hb.head
    rw [List.length_cons, ncmpAux_cons, ih]
    unfold cmpI
    simp only [vl]
    split <;> split <;> (try split) <;> (try split) <;> (try split) <;> first | rfl | omega
theorem ncmp_vl {a b : List Int} (ha : Nm a) (hb : Nm b) : ncmp a b = cmpI (vl a) (vl b) := by
  unfold ncmp
  by_cases hl : a.length = b.length
  · rw [if_pos hl]; exact ncmpAux_vl ha.1 hb.1 hl
  · rw [if_neg hl]
    unfold cmpI
    by_cases h2 : a.length < b.length
    · rw [if_pos h2, if_pos (vl_lt_of_len ha.1 hb h2)]
    · have := vl_lt_of_len hb.1 ha (by omega)
      rw [if_neg h2, if_neg (by omega), if_neg (by omega)]

theorem take_trim (l : List Int) : ∀ (k : Nat), k ≤ l.length → l.take (tlen l k) = trim (l.take k)
  | 0, _ => by simp [tlen, trim]
  | k + 1, h => by
    have ih := take_trim l k (by omega)
    have hk : k < l.length := by omega
    have e : l.take (k + 1) = l.take k ++ [l[k]?.getD 0] := by rw [List.take_add_one]; simp [hk]
    unfold tlen
    by_cases h0 : l[k]?.getD 0 = 0
    · rw [if_pos h0, ih, e, h0, trim_snoc_zero]
    · rw [if_neg h0, trim_of_last]
      rw [e, List.getLast?_append]; simp; simpa [hk] using h0
theorem take_tlen {l : List Int} (h : Lm l) : l.take (tlen l l.length) = nat (vl l) := by
  rw [take_trim l l.length (Nat.le_refl _), List.take_length, trim_nat h]
theorem trimmed_ev (l : List Int) (h : l.length ≤ 4000000000) : Ev (fun k => impl_trimmed.f k l) (l.take (tlen l l.length)) := by
  have loop : ∀ (j : Nat), j ≤ l.length → Ev (fun k => impl_trimmed.l0 k l j) (l.take (tlen l j)) := by
    intro j
    induction j with
    | zero =>
      intro _
      refine Ev.step (f := fun _ => some (l.take 0)) (fun k => ?_) (Ev.now _)
      simp only [impl_trimmed.l0]; rw [if_neg (by omega), if_pos (by omega), if_pos (by omega)]; rfl
    | succ j ih =>
      intro hj
      have hw : wrap64 (((j + 1 : Nat) : Int) - 1) = (j : Int) := by rw [wrap_in (by omega) (by omega)]; omega
      unfold tlen
      by_cases h0 : l[j]?.getD 0 = 0
      · rw [if_pos h0]
        refine Ev.step (fun k => ?_) (ih (by omega))
        simp only [impl_trimmed.l0]; rw [hw, if_pos (by omega), if_pos (by omega), if_pos (by omega), rd_nat, if_pos h0]
      · rw [if_neg h0]
        refine Ev.step (f := fun _ => some (l.take (j + 1))) (fun k => ?_) (Ev.now _)
        simp only [impl_trimmed.l0]; rw [hw, if_pos (by omega), if_pos (by omega), if_pos (by omega), rd_nat, if_neg h0, if_pos (by omega), if_pos (by omega)]; rfl
  exact loop l.length (Nat.le_refl _)
theorem specTrim (l : List Int) (h : l.length ≤ 4000000000) : spec_l01Trim.f l = some (l.take (tlen l l.length)) := by
  unfold spec_l01Trim.f; rw [if_pos (by omega)]

theorem cmpI_neg (x y : Int) : (cmpI x y < 0) ↔ x < y := by unfold cmpI; split <;> (try split) <;> omega

theorem set_mid {l r : List Int} {x v : Int} {i : Nat} (h : l.length = i) : (l ++ x :: r).set i v = l ++ v :: r := by
  rw [List.set_append_right _ _ (by omega), show i - l.length = 0 by omega, List.set_cons_zero]
theorem rd_mid {l r : List Int} {x : Int} {i : Nat} (h : l.length = i) : rd (l ++ x :: r) i = x := by
  rw [rd_nat, List.getElem?_append_right (by omega), show i - l.length = 0 by omega]; rfl

end Go.Proofs.Ytegbmillbbcmfaa.Pl
