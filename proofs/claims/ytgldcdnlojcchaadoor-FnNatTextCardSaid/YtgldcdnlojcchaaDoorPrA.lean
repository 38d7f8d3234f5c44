/-
Lists of integers: their marks, and the list without the noughts at its end.
-/
import Derived.Test.YtgldcdnlojcchaaDoorPnA
import Derived.Test.YtgldcdnlojcchaaDoorQxbase
import Derived.Test.YtgldcdnlojcchaaDoorQxmark
import Derived.Test.YtgldcdnlojcchaaDoorQxtrim
namespace Go.Proofs.YtgldcdnlojcchaaDoor.Pl
open Go.RowKit Go.Proofs.YtgldcdnlojcchaaDoor.Q Go.Proofs.YtgldcdnlojcchaaDoor.Pn Go.Proofs.YtgldcdnlojcchaaDoorW.PrintWords Go.Proofs.YtgldcdnlojcchaaDoorW.PrintLast
set_option linter.unusedVariables false
set_option linter.unusedSimpArgs false

theorem wrap_in {x : Int} (h0 : -9223372036854775808 ≤ x) (h1 : x ≤ 9223372036854775807) : wrap64 x = x := by
  unfold wrap64; omega
theorem rd_nat (l : List Int) (i : Nat) : rd l (i : Int) = l[i]?.getD 0 := by simp [rd, List.getD_eq_getElem?_getD]
theorem drop_cons {l : List Int} {i : Nat} (h : i < l.length) : l.drop i = rd l (i : Int) :: l.drop (i + 1) := by
  rw [rd_nat, List.drop_eq_getElem_cons h]; simp [h]
theorem wsucc {i : Nat} (h : (i : Int) < 9223372036854775807) : wrap64 ((i : Int) + 1) = ((i + 1 : Nat) : Int) := by rw [wrap_in (by omega) (by omega)]; omega
theorem set_take {l : List Int} {i : Nat} {x : Int} (h : i < l.length) : (l.set i x).take (i + 1) = l.take i ++ [x] := by
  rw [List.take_add_one, List.take_set_of_le (Nat.le_refl _)]
  simp [h]
theorem eqIntS_ev (a b : List Int) (h : a.length ≤ 9223372036854775806) : Ev (fun k => laws_eqIntS.f k a b) (decide (a = b)) := by
  by_cases hl : a.length = b.length
  · have loop : ∀ (d i : Nat), i + d = a.length → Ev (fun k => laws_eqIntS.l0 k a b i) (decide (a.drop i = b.drop i)) := by
      intro d
      induction d with
      | zero =>
        intro i hi
        refine Ev.step (f := fun _ => some true) (fun k => by simp only [laws_eqIntS.l0]; rw [if_neg (by omega)]) ?_
        rw [List.drop_eq_nil_of_le (by omega), List.drop_eq_nil_of_le (by omega)]
        exact Ev.now _
      | succ d ih =>
        intro i hi
        rw [drop_cons (l := a) (by omega), drop_cons (l := b) (by omega)]
        by_cases he : rd a i = rd b i
        · refine Ev.step (fun k => ?_) (show Ev (fun k => laws_eqIntS.l0 k a b (i + 1 : Nat)) _ from ?_)
          · simp only [laws_eqIntS.l0]; rw [if_pos (by omega), if_pos (by omega), if_pos (by omega), if_pos he, wsucc (by omega)]
          · have := ih (i + 1) (by omega)
            rw [he]
            simpa using this
        · refine Ev.step (f := fun _ => some false) (fun k => ?_) ?_
          · simp only [laws_eqIntS.l0]; rw [if_pos (by omega), if_pos (by omega), if_pos (by omega), if_neg he]
          · have : decide (rd a i :: a.drop (i + 1) = rd b i :: b.drop (i + 1)) = false := by simp [he]
            rw [this]; exact Ev.now _
    have := loop a.length 0 (by omega)
    rw [List.drop_zero, List.drop_zero] at this
    refine Ev.congr (fun k => ?_) this
    unfold laws_eqIntS.f
    rw [if_pos (by omega)]
    rfl
  · have e : decide (a = b) = false := decide_eq_false (fun e => hl (by rw [e]))
    rw [e]
    refine Ev.congr (fun k => ?_) (Ev.now false)
    unfold laws_eqIntS.f
    rw [if_neg (by omega)]
def marks (k0 : Int) (n : Nat) : List Int := (List.range n).map fun (i : Nat) => k0 + (i : Int)
theorem marks_length (k0 : Int) (n : Nat) : (marks k0 n).length = n := by simp [marks]
theorem marks_rd (k0 : Int) {n i : Nat} (h : i < n) : rd (marks k0 n) i = k0 + i := by
  rw [rd_nat]; simp [marks, h]
theorem mark_ev (l : List Int) (k0 : Int) (h0 : 0 ≤ k0) (hk : k0 ≤ 4000000000000000000) (h : l.length ≤ 4000000000000000000) :
    Ev (fun k => laws_markIntS.f k l k0) (k0 + l.length, marks k0 l.length) := by
  have loop : ∀ (d i : Nat) (out : List Int), out.length = l.length → i + d = l.length → out.take i = (marks k0 l.length).take i →
      Ev (fun k => laws_markIntS.l0 k out (k0 + i) i) (k0 + l.length, marks k0 l.length) := by
    intro d
    induction d with
    | zero =>
      intro i out ho hi ht
      refine Ev.step (f := fun _ => some (k0 + i, out)) (fun k => by simp only [laws_markIntS.l0]; rw [if_neg (by omega)]) ?_
      have e : out = marks k0 l.length := by
        have h1 : out.take i = out := List.take_of_length_le (by omega)
        have h2 : (marks k0 l.length).take i = marks k0 l.length := List.take_of_length_le (by rw [marks_length]; omega)
        rw [h1, h2] at ht; exact ht
      rw [e, show i = l.length by omega]; exact Ev.now _
    | succ d ih =>
      intro i out ho hi ht
      have hs : (out.set i (k0 + i)).take (i + 1) = (marks k0 l.length).take (i + 1) := by
        rw [set_take (by omega), ht, List.take_add_one]
        simp [marks, show i < l.length by omega]
      have := ih (i + 1) (out.set i (k0 + i)) (by simp [ho]) (by omega) hs
      refine Ev.step (fun k => ?_) this
      simp only [laws_markIntS.l0]; rw [if_pos (by omega), if_pos (by omega), wsucc (by omega), wrap_in (by omega) (by omega)]
      rw [show k0 + (i : Int) + 1 = k0 + ((i + 1 : Nat) : Int) by omega]; rfl
  have := loop l.length 0 l rfl (by omega) (by simp)
  refine Ev.congr (fun k => ?_) this
  unfold laws_markIntS.f
  simp
theorem held_ev (n : Nat) (k0 : Int) (h0 : 0 ≤ k0) (hk : k0 ≤ 4000000000000000000) (h : n ≤ 4000000000000000000) :
    Ev (fun k => laws_heldIntS.f k (marks k0 n) k0) (k0 + n) := by
  have loop : ∀ (d i : Nat), i + d = n → Ev (fun k => laws_heldIntS.l0 k (marks k0 n) (k0 + i) i) (k0 + n) := by
    intro d
    induction d with
    | zero =>
      intro i hi
      refine Ev.step (f := fun _ => some (k0 + i)) (fun k => by simp only [laws_heldIntS.l0]; rw [if_neg (by rw [marks_length]; omega)]) ?_
      rw [show i = n by omega]; exact Ev.now _
    | succ d ih =>
      intro i hi
      refine Ev.step (fun k => ?_) (ih (i + 1) (by omega))
      simp only [laws_heldIntS.l0]; rw [if_pos (by rw [marks_length]; omega), if_pos (by omega), if_pos (marks_rd k0 (by omega)), wsucc (by omega), wrap_in (by omega) (by omega)]
      rw [show k0 + (i : Int) + 1 = k0 + ((i + 1 : Nat) : Int) by omega]
  have := loop n 0 (by omega)
  refine Ev.congr (fun k => ?_) this
  unfold laws_heldIntS.f
  simp
theorem trimmed_ev (l : List Int) (h : l.length ≤ 4000000000) : Ev (fun k => impl_trimmed.f k l) (l.take (tlen l l.length)) := by
  have loop : ∀ (j : Nat), j ≤ l.length → Ev (fun k => impl_trimmed.l0 k l j) (l.take (tlen l j)) := by
    intro j
    induction j with
    | zero =>
      intro _
      refine Ev.step (f := fun _ => some (l.take 0)) (fun k => ?_) (Ev.now _)
      simp only [impl_trimmed.l0]; rw [if_neg (by omega), if_pos (by omega), if_pos (by omega)]; rfl
    | succ j ih =>
      intro hj
      have hw : wrap64 (((j + 1 : Nat) : Int) - 1) = (j : Int) := by rw [wrap_in (by omega) (by omega)]; omega
      unfold tlen
      by_cases h0 : l[j]?.getD 0 = 0
      · rw [if_pos h0]
        refine Ev.step (fun k => ?_) (ih (by omega))
        simp only [impl_trimmed.l0]; rw [hw, if_pos (by omega), if_pos (by omega), if_pos (by omega), rd_nat, if_pos h0]
      · rw [if_neg h0]
        refine Ev.step (f := fun _ => some (l.take (j + 1))) (fun k => ?_) (Ev.now _)
        simp only [impl_trimmed.l0]; rw [hw, if_pos (by omega), if_pos (by omega), if_pos (by omega), rd_nat, if_neg h0, if_pos (by omega), if_pos (by omega)]; rfl
  exact loop l.length (Nat.le_refl _)
theorem specTrim (l : List Int) (h : l.length ≤ 4000000000) : spec_l01Trim.f l = some (l.take (tlen l l.length)) := by
  unfold spec_l01Trim.f; rw [if_pos (by omega)]
end Go.Proofs.YtgldcdnlojcchaaDoor.Pl
