/-
Whether two lists of rationals are alike.
-/
import Derived.Test.YtegbmillbbcmfaaPvA
import Derived.Test.YtegbmillbbcmfaaPvB
import Derived.Test.YtegbmillbbcmfaaQxrsv
namespace Go.Proofs.Ytegbmillbbcmfaa.Pl
open Go.RowKit Go.Proofs.Ytegbmillbbcmfaa.Q Go.Proofs.Ytegbmillbbcmfaa.Pn Go.Proofs.YtegbmillbbcmfaaW.PrintWords Go.Proofs.YtegbmillbbcmfaaW.PrintLast Go.Proofs.YtegbmillbbcmfaaW.PrintMore
set_option linter.unusedVariables false
set_option linter.unusedSimpArgs false

def r3 (y : S32) : R3 := (y.f0, y.f1, y.f2)
/-- Two rationals are one number. -/
def eqZ (a b : S32) : Bool := sgI (tp (r3 a) * bt (r3 b) - tp (r3 b) * bt (r3 a)) == 0
def sameL : List S32 → List S32 → Bool
  | a :: x, b :: y => eqZ a b && sameL x y
  | _, _ => true
theorem allR_at {x : List S32} (hx : allR x = true) {i : Nat} (hi : i < x.length) : RO (r3 (x[i]?.getD z32)) ∧ (x[i]?.getD z32).f1.length ≤ 40 ∧ (x[i]?.getD z32).f2.length ≤ 40 := by
  have h := List.all_eq_true.1 hx (x[i]?.getD z32) (by rw [List.getElem?_eq_getElem hi, Option.getD_some]; exact List.getElem_mem _)
  exact (ratOKB_iff _).1 h
theorem specSame_loop (x y : List S32) (hl : x.length = y.length) (hb : x.length ≤ 1048576) (hx : allR x = true) (hy : allR y = true) : ∀ (d i : Nat), i + d = x.length → Ev (fun k => spec_l03Same.l0 k x y (i : Int)) (sameL (x.drop i) (y.drop i)) := by
  intro d
  induction d with
  | zero =>
    intro i hd
    rw [List.drop_of_length_le (by omega), List.drop_of_length_le (by omega)]
    refine ev_const fun k => ?_
    rw [spec_l03Same.l0, if_neg (by omega)]; rfl
  | succ d ih =>
    intro i hd
    have hi : i < x.length := by omega
    have hj : i < y.length := by omega
    obtain ⟨a1, a2, a3⟩ := allR_at hx hi
    obtain ⟨b1, b2, b3⟩ := allR_at hy hj
    have e := specCmp_ev a1 b1 a2 a3 b2 b3
    rw [at_next (z := z32) hi, at_next (z := z32) hj, sameL]
    unfold eqZ
    refine Ev.step (f := fun k => (spec_l02Cmp.f k (x[i]?.getD z32).f0 (x[i]?.getD z32).f1 (x[i]?.getD z32).f2 (y[i]?.getD z32).f0 (y[i]?.getD z32).f1 (y[i]?.getD z32).f2).bind fun t => if t = 0 then spec_l03Same.l0 k x y ((i + 1 : Nat) : Int) else some false) (fun k => ?_) (Ev.bind e ?_)
    · rw [spec_l03Same.l0, if_pos (by omega), if_pos (by omega), if_pos (by omega), rdR, rdR, wsucc (by omega)]
    · generalize sgI (tp (r3 (x[i]?.getD z32)) * bt (r3 (y[i]?.getD z32)) - tp (r3 (y[i]?.getD z32)) * bt (r3 (x[i]?.getD z32))) = c
      by_cases hc : c = 0
      · rw [hc]
        exact Ev.congr (fun k => if_pos rfl) (ih (i + 1) (by omega))
      · rw [beq_eq_false_iff_ne.2 hc, Bool.false_and]
        exact Ev.congr (fun k => if_neg hc) (Ev.now _)
theorem implSame_loop (x y : List S32) (hl : x.length = y.length) (hb : x.length ≤ 1048576) (hx : allR x = true) (hy : allR y = true) : ∀ (d i : Nat), i + d = x.length → Ev (fun k => impl_Rat_48.l0 k y x (x.length : Int) (i : Int)) (sameL (x.drop i) (y.drop i)) := by
  intro d
  induction d with
  | zero =>
    intro i hd
    rw [List.drop_of_length_le (by omega), List.drop_of_length_le (by omega)]
    refine ev_const fun k => ?_
    rw [impl_Rat_48.l0, if_neg (by omega)]; rfl
  | succ d ih =>
    intro i hd
    have hi : i < x.length := by omega
    have hj : i < y.length := by omega
    obtain ⟨a1, a2, a3⟩ := allR_at hx hi
    obtain ⟨b1, b2, b3⟩ := allR_at hy hj
    obtain ⟨c, e, hc⟩ := implCmp_zero a1 b1 a2 a3 b2 b3
    rw [at_next (z := z32) hi, at_next (z := z32) hj, sameL]
    unfold eqZ
    rw [← hc]
    have e2 : Ev (fun k => impl_sameVec_1.f k (x[i]?.getD z32).f0 (x[i]?.getD z32).f1 (x[i]?.getD z32).f2 (y[i]?.getD z32).f0 (y[i]?.getD z32).f1 (y[i]?.getD z32).f2) (c == 0) := by
      unfold impl_sameVec_1.f
      exact Ev.bind (f := fun _ t => some (t == 0)) e (Ev.now _)
    refine Ev.step (f := fun k => (impl_sameVec_1.f k (x[i]?.getD z32).f0 (x[i]?.getD z32).f1 (x[i]?.getD z32).f2 (y[i]?.getD z32).f0 (y[i]?.getD z32).f1 (y[i]?.getD z32).f2).bind fun t => if t = true then impl_Rat_48.l0 k y x (x.length : Int) ((i + 1 : Nat) : Int) else some false) (fun k => ?_) (Ev.bind e2 ?_)
    · rw [impl_Rat_48.l0, if_pos (by omega), if_pos (by omega), if_pos (by omega), if_pos (by omega), rdR, rdR, wsucc (by omega)]
    · cases c == 0 with
      | true => exact Ev.congr (fun k => if_pos rfl) (ih (i + 1) (by omega))
      | false =>
        rw [Bool.false_and]
        exact Ev.congr (fun k => if_neg (by simp)) (Ev.now _)
/-- What SameVec answers. -/
def sameAns (x y : List S32) : Bool := vecAns x && (vecAns y && (decide (x.length = y.length) && sameL x y))
theorem vec_all {x : List S32} (h : vecAns x = true) : allR x = true := by
  unfold vecAns at h
  exact (Bool.and_eq_true_iff.1 h).2
theorem specL03_ev (x y : List S32) (hb : x.length ≤ 1048576) (hx : allR x = true) (hy : allR y = true) : Ev (fun k => spec_l03Same.f k x y) (decide (x.length = y.length) && sameL x y) := by
  unfold spec_l03Same.f
  by_cases h : x.length = y.length
  · rw [decide_eq_true h, Bool.true_and]
    exact Ev.congr (fun k => if_pos (by omega)) (specSame_loop x y h hb hx hy x.length 0 (by omega))
  · rw [decide_eq_false h, Bool.false_and]
    exact Ev.congr (fun k => if_neg (by omega)) (Ev.now _)
theorem implL03_ev (x y : List S32) (hb : x.length ≤ 1048576) (hx : allR x = true) (hy : allR y = true) : Ev (fun k => impl_sameVec.f k x y) (decide (x.length = y.length) && sameL x y) := by
  unfold impl_sameVec.f impl_Rat_48.f
  by_cases h : x.length = y.length
  · rw [decide_eq_true h, Bool.true_and]
    refine Ev.bind (f := fun _ t => some t) (Ev.congr (fun k => if_pos (by omega)) (implSame_loop x y h hb hx hy x.length 0 (by omega))) (Ev.now _)
  · rw [decide_eq_false h, Bool.false_and]
    exact Ev.bind (f := fun _ t => some t) (Ev.congr (fun k => if_neg (by omega)) (Ev.now _)) (Ev.now _)
theorem implSameVec_ev (x y : List S32) (hb : x.length ≤ 1048576) (hc : y.length ≤ 1048576) : Ev (fun k => impl_SameVec.f k x y) (sameAns x y) := by
  unfold impl_SameVec.f sameAns
  refine Ev.bind (implVec_ev x hb) ?_
  cases h1 : vecAns x with
  | false => exact Ev.congr (fun k => if_neg (by simp)) (Ev.now _)
  | true =>
    refine Ev.congr (fun k => if_pos rfl) (Ev.bind (implVec_ev y hc) ?_)
    cases h2 : vecAns y with
    | false => exact Ev.congr (fun k => if_neg (by simp)) (Ev.now _)
    | true =>
      refine Ev.congr (fun k => if_pos rfl) (Ev.bind (f := fun _ t => some t) (implL03_ev x y hb (vec_all h1) (vec_all h2)) (Ev.now _))
theorem specSameVec_ev (x y : List S32) (hx : ∀ z ∈ x, Sh z.f1 z.f2) (hy : ∀ z ∈ y, Sh z.f1 z.f2) (hb : x.length ≤ 1048576) (hc : y.length ≤ 1048576) : Ev (fun k => spec_SameVec.f k x y) (sameAns x y) := by
  have vl : ∀ {l : List S32}, (l.length : Int) > 4096 → vecAns l = false := by
    intro l h
    unfold vecAns
    rw [decide_eq_false (show ¬ (1 ≤ l.length ∧ l.length ≤ 4) by omega), Bool.false_and]
  unfold spec_SameVec.f
  by_cases h1 : (x.length : Int) > 4096
  · refine Ev.congr (fun k => if_pos h1) (ev_const fun k => ?_)
    rw [spec_SameVec.j0, if_pos rfl]
    unfold sameAns
    rw [vl h1, Bool.false_and]
  · refine Ev.congr (fun k => if_neg h1) ?_
    by_cases h2 : (y.length : Int) > 4096
    · rw [decide_eq_true h2]
      refine ev_const fun k => ?_
      rw [spec_SameVec.j0, if_pos rfl]
      unfold sameAns
      rw [vl h2, Bool.false_and, Bool.and_false]
    · rw [decide_eq_false h2]
      refine Ev.step (f := fun k => (spec_VecOK.f k x).bind fun t => if t = true then (spec_VecOK.f k y).bind fun t => if t = true then (spec_l03Same.f k x y).bind fun t => some t else some false else some false) (fun k => ?_) ?_
      · rw [spec_SameVec.j0, if_neg (by simp)]
      · unfold sameAns
        refine Ev.bind (specVec_ev x hx hb) ?_
        cases h3 : vecAns x with
        | false => exact Ev.congr (fun k => if_neg (by simp)) (Ev.now _)
        | true =>
          refine Ev.congr (fun k => if_pos rfl) (Ev.bind (specVec_ev y hy hc) ?_)
          cases h4 : vecAns y with
          | false => exact Ev.congr (fun k => if_neg (by simp)) (Ev.now _)
          | true =>
            refine Ev.congr (fun k => if_pos rfl) (Ev.bind (f := fun _ t => some t) (specL03_ev x y hb (vec_all h3) (vec_all h4)) (Ev.now _))
end Go.Proofs.Ytegbmillbbcmfaa.Pl
