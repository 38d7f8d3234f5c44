/-
Lists of rationals: their copies, and whether each is a right one.
-/
import Derived.Test.YtegbmillbbcmfaaPl
import Derived.Test.YtegbmillbbcmfaaQxrim
import Derived.Test.YtegbmillbbcmfaaQxrv
namespace Go.Proofs.Ytegbmillbbcmfaa.Pl
open Go.RowKit Go.Proofs.Ytegbmillbbcmfaa.Q Go.Proofs.Ytegbmillbbcmfaa.Pn Go.Proofs.YtegbmillbbcmfaaW.PrintWords Go.Proofs.YtegbmillbbcmfaaW.PrintLast Go.Proofs.YtegbmillbbcmfaaW.PrintMore
set_option linter.unusedVariables false
set_option linter.unusedSimpArgs false

theorem ev_const {α : Type} {g : Nat → Option α} {r : α} (h : ∀ k, g (k + 1) = some r) : Ev g r := Ev.step (f := fun _ => some r) h (Ev.now _)
theorem at_next {α : Type} {x : List α} {i : Nat} {z : α} (h : i < x.length) : x.drop i = (x[i]?.getD z) :: x.drop (i + 1) := by
  rw [List.getElem?_eq_getElem h, Option.getD_some, List.drop_eq_getElem_cons h]
/-- A rational, as the program has it. -/
def cvR (x : S40) : S32 := ⟨x.f0, x.f1, x.f2⟩
theorem rdR (l : List S32) (i : Nat) : rd_T32 l (i : Int) = l[i]?.getD z32 := by simp [rd_T32, List.getD_eq_getElem?_getD]
theorem rdLR (l : List S40) (i : Nat) : rd_T40 l (i : Int) = l[i]?.getD z40 := by simp [rd_T40, List.getD_eq_getElem?_getD]
/-- Short enough to be copied. -/
def Sh (f1 f2 : List Int) : Prop := f1.length ≤ 1048576 ∧ f2.length ≤ 1048576
theorem sz_loop (x : List S40) (hx : ∀ y ∈ x, y.f1.length ≤ maxLen ∧ y.f2.length ≤ maxLen) (hb : x.length ≤ 1048576) : ∀ (d i : Nat) (left : Int), i + d = x.length → 0 ≤ left ∧ left ≤ 1048576 → ∃ r, Ev (fun k => laws_szRatS.l0 k x left (i : Int)) r ∧ r ≤ 1048576 ∧ (¬ r < 0 → ∀ y ∈ x.drop i, Sh y.f1 y.f2) := by
  intro d
  induction d with
  | zero =>
    intro i left hd hl
    refine ⟨left, ev_const fun k => ?_, hl.2, fun _ y hy => ?_⟩
    · rw [laws_szRatS.l0, if_neg (by omega)]
    · rw [List.drop_of_length_le (by omega)] at hy; cases hy
  | succ d ih =>
    intro i left hd hl
    have hi : i < x.length := by omega
    have hy := hx (x[i]?.getD z40) (by rw [List.getElem?_eq_getElem hi, Option.getD_some]; exact List.getElem_mem _)
    have hz := szRat_f (x[i]?.getD z40).f0 (x[i]?.getD z40).f1 (x[i]?.getD z40).f2 left hl hy.1 hy.2
    by_cases hbig : szR (x[i]?.getD z40).f1 (x[i]?.getD z40).f2 left < 0
    · refine ⟨-1, ev_const fun k => ?_, by omega, fun h => absurd (show (-1 : Int) < 0 by omega) h⟩
      rw [laws_szRatS.l0, if_pos (by omega), if_pos (by omega), rdLR, hz, Option.bind_some, if_pos hbig]
    · have hs : Sh (x[i]?.getD z40).f1 (x[i]?.getD z40).f2 ∧ (0 ≤ szR (x[i]?.getD z40).f1 (x[i]?.getD z40).f2 left ∧ szR (x[i]?.getD z40).f1 (x[i]?.getD z40).f2 left ≤ 1048576) := by
        unfold szR at hbig ⊢
        unfold Sh
        split at hbig <;> (rename_i q; simp only [q, if_true, if_false]; omega)
      obtain ⟨r, s, h1, h2⟩ := ih (i + 1) _ (by omega) hs.2
      refine ⟨r, Ev.step (fun k => ?_) s, h1, fun h y hy => ?_⟩
      · rw [laws_szRatS.l0, if_pos (by omega), if_pos (by omega), rdLR, hz, Option.bind_some, if_neg hbig, wsucc (by omega)]
      · rw [at_next (z := z40) hi] at hy
        rcases List.mem_cons.1 hy with rfl | hy
        · exact hs.1
        · exact h2 h y hy
theorem szRatS_ev (x : List S40) (hx : ∀ y ∈ x, y.f1.length ≤ maxLen ∧ y.f2.length ≤ maxLen) (hm : x.length ≤ maxLen) (left : Int) (hl : 0 ≤ left ∧ left ≤ 1048576) : ∃ r, Ev (fun k => laws_szRatS.f k x left) r ∧ r ≤ 1048576 ∧ (¬ r < 0 → x.length ≤ 1048576 ∧ ∀ y ∈ x, Sh y.f1 y.f2) := by
  simp only [maxLen] at hm
  unfold laws_szRatS.f
  rw [wrap_in (x := left - x.length) (by omega) (by omega)]
  by_cases h : left - (x.length : Int) < 0
  · exact ⟨-1, Ev.congr (fun k => if_pos h) (Ev.now _), by omega, fun g => absurd (show (-1 : Int) < 0 by omega) g⟩
  · obtain ⟨r, s, h1, h2⟩ := sz_loop x hx (by omega) x.length 0 _ (by omega) (show 0 ≤ left - (x.length : Int) ∧ left - (x.length : Int) ≤ 1048576 by omega)
    exact ⟨r, Ev.congr (fun k => if_neg h) s, h1, fun g => ⟨by omega, h2 g⟩⟩
theorem setv_mid {α : Type} {l r : List α} {x v : α} {i : Nat} (h : l.length = i) : (l ++ x :: r).set i v = l ++ v :: r := by
  rw [List.set_append_right _ _ (by omega), show i - l.length = 0 by omega, List.set_cons_zero]
theorem toRatS_loop (x : List S40) (hx : ∀ y ∈ x, Sh y.f1 y.f2) (hb : x.length ≤ 1048576) : ∀ (d i : Nat), i + d = x.length → Ev (fun k => laws_toRatS.l0 k x ((x.take i).map cvR ++ List.replicate d z32) (i : Int)) (x.map cvR) := by
  intro d
  induction d with
  | zero =>
    intro i hd
    rw [List.take_of_length_le (by omega), List.replicate_zero, List.append_nil]
    refine ev_const fun k => ?_
    rw [laws_toRatS.l0, if_neg (by omega)]
  | succ d ih =>
    intro i hd
    have hi : i < x.length := by omega
    have ht : (x.take i).length = i := by rw [List.length_take]; omega
    have e : (x.take (i + 1)).map cvR = (x.take i).map cvR ++ [cvR (x[i]?.getD z40)] := by
      rw [List.take_add_one, List.getElem?_eq_getElem hi, List.map_append]; rfl
    have hy := hx (x[i]?.getD z40) (by rw [List.getElem?_eq_getElem hi, Option.getD_some]; exact List.getElem_mem _)
    have s := ih (i + 1) (by omega)
    rw [e] at s
    refine Ev.step (f := fun k => (laws_toRat.f k (x[i]?.getD z40).f0 (x[i]?.getD z40).f1 (x[i]?.getD z40).f2).bind fun bt => laws_toRatS.l0 k x ((x.take i).map cvR ++ [⟨bt.1, bt.2.1, bt.2.2⟩] ++ List.replicate d z32) ((i + 1 : Nat) : Int)) (fun k => ?_) (Ev.bind (toRat_ev _ _ _ hy.1 hy.2) s)
    rw [laws_toRatS.l0, if_pos (by omega), if_pos (by omega), rdLR]
    congr 1
    funext bt
    rw [if_pos (by simp; omega), wsucc (by omega), Int.toNat_natCast, List.replicate_succ, setv_mid (by simp; omega), List.append_assoc]; rfl
theorem toRatS_ev (x : List S40) (hx : ∀ y ∈ x, Sh y.f1 y.f2) (hb : x.length ≤ 1048576) : Ev (fun k => laws_toRatS.f k x) (x.map cvR) := by
  have s := toRatS_loop x hx hb x.length 0 (by omega)
  refine Ev.congr (fun k => ?_) s
  unfold laws_toRatS.f
  rw [if_pos (by omega), if_pos (by omega), Int.toNat_natCast]
  rfl
theorem eqRatS_loop (x : List S32) (hx : ∀ y ∈ x, Sh y.f1 y.f2) (hb : x.length ≤ 1048576) : ∀ (d i : Nat), i + d = x.length → Ev (fun k => laws_eqRatS.l0 k x x (i : Int)) true := by
  intro d
  induction d with
  | zero =>
    intro i hd
    refine ev_const fun k => ?_
    rw [laws_eqRatS.l0, if_neg (by omega)]
  | succ d ih =>
    intro i hd
    have hi : i < x.length := by omega
    have hy := hx (x[i]?.getD z32) (by rw [List.getElem?_eq_getElem hi, Option.getD_some]; exact List.getElem_mem _)
    unfold Sh at hy
    have e := eqRat_self ((x[i]?.getD z32).f0, (x[i]?.getD z32).f1, (x[i]?.getD z32).f2) (by simp only; omega) (by simp only; omega)
    simp only at e
    refine Ev.step (f := fun k => (laws_eqRat.f k (x[i]?.getD z32).f0 (x[i]?.getD z32).f1 (x[i]?.getD z32).f2 (x[i]?.getD z32).f0 (x[i]?.getD z32).f1 (x[i]?.getD z32).f2).bind fun t => if t = true then laws_eqRatS.l0 k x x ((i + 1 : Nat) : Int) else some false) (fun k => ?_) (Ev.bind e ?_)
    · rw [laws_eqRatS.l0, if_pos (by omega), if_pos (by omega), if_pos (by omega), rdR, wsucc (by omega)]
    · exact Ev.congr (fun k => if_pos rfl) (ih (i + 1) (by omega))
theorem eqRatS_ev (x : List S32) (hx : ∀ y ∈ x, Sh y.f1 y.f2) (hb : x.length ≤ 1048576) : Ev (fun k => laws_eqRatS.f k x x) true := by
  unfold laws_eqRatS.f
  exact Ev.congr (fun k => if_pos rfl) (eqRatS_loop x hx hb x.length 0 (by omega))
theorem map_sh {x : List S40} (hx : ∀ y ∈ x, Sh y.f1 y.f2) : ∀ y ∈ x.map cvR, Sh y.f1 y.f2 := by
  intro y hy
  obtain ⟨z, hz, rfl⟩ := List.mem_map.1 hy
  exact hx z hz
/-- Each is a right rational. -/
def okR (y : S32) : Bool := ratOKB (y.f0, y.f1, y.f2)
def allR (x : List S32) : Bool := x.all okR
theorem allR_drop (x : List S32) (i : Nat) (h : i < x.length) : allR (x.drop i) = (okR (x[i]?.getD z32) && allR (x.drop (i + 1))) := by
  unfold allR
  rw [at_next (z := z32) h, List.all_cons]
theorem bad_ev (y : S32) : Ev (fun k => impl_ratsCode_1.f k y.f0 y.f1 y.f2) (!okR y) := by
  unfold impl_ratsCode_1.f
  exact Ev.bind (f := fun _ t => some (!t)) (implRatOK_ev y.f0 y.f1 y.f2) (Ev.now _)
theorem bads_loop (x : List S32) (hb : x.length ≤ 4000000000000000000) : ∀ (d i : Nat), i + d = x.length → ∃ r : Int, Ev (fun k => impl_Rat_63.l0 k x (x.length : Int) (i : Int)) r ∧ decide (r ≥ 0) = !allR (x.drop i) := by
  intro d
  induction d with
  | zero =>
    intro i hd
    refine ⟨-1, ev_const fun k => ?_, ?_⟩
    · rw [impl_Rat_63.l0, if_neg (by omega)]
    · rw [List.drop_of_length_le (by omega)]; rfl
  | succ d ih =>
    intro i hd
    have e := bad_ev (x[i]?.getD z32)
    obtain ⟨r, s, hr⟩ := ih (i + 1) (by omega)
    rw [allR_drop x i (by omega)]
    have st : ∀ k, impl_Rat_63.l0 (k + 1) x (x.length : Int) (i : Int) = (impl_ratsCode_1.f k (x[i]?.getD z32).f0 (x[i]?.getD z32).f1 (x[i]?.getD z32).f2).bind fun t => if t = true then some (i : Int) else impl_Rat_63.l0 k x (x.length : Int) ((i + 1 : Nat) : Int) := by
      intro k
      rw [impl_Rat_63.l0, if_pos (by omega), if_pos (by omega), if_pos (by omega), rdR, wsucc (by omega)]
    cases ho : okR (x[i]?.getD z32) with
    | false =>
      rw [ho] at e
      refine ⟨i, Ev.step st (Ev.bind e (Ev.congr (fun k => if_pos rfl) (Ev.now _))), ?_⟩
      rw [decide_eq_true (by omega)]; rfl
    | true =>
      rw [ho] at e
      refine ⟨r, Ev.step st (Ev.bind e (Ev.congr (fun k => if_neg (by simp)) s)), ?_⟩
      rw [hr]; rfl
theorem rats_ev (x : List S32) (hb : x.length ≤ 4000000000000000000) : Ev (fun k => impl_ratsCode.f k x) (if allR x = true then 0 else 1) := by
  obtain ⟨r, s, hr⟩ := bads_loop x hb x.length 0 (by omega)
  rw [List.drop_zero] at hr
  unfold impl_ratsCode.f impl_Rat_44.f impl_Rat_63.f
  refine Ev.bind (Ev.bind s (Ev.now _)) ?_
  rw [hr]
  unfold impl_unless.f
  cases allR x with
  | true => exact Ev.now _
  | false => exact Ev.now _
/-- What VecOK answers. -/
def vecAns (x : List S32) : Bool := decide (1 ≤ x.length ∧ x.length ≤ 4) && allR x
theorem implVec_ev (x : List S32) (hb : x.length ≤ 1048576) : Ev (fun k => impl_VecOK.f k x) (vecAns x) := by
  unfold impl_VecOK.f vecAns
  by_cases h1 : (x.length : Int) ≥ 1
  · refine Ev.congr (fun k => (if_pos h1 : (if _ then _ else _) = _)) ?_
    by_cases h2 : (x.length : Int) ≤ 4
    · refine Ev.congr (fun k => (if_pos h2 : (if _ then _ else _) = _)) ?_
      rw [decide_eq_true (show 1 ≤ x.length ∧ x.length ≤ 4 by omega), Bool.true_and]
      refine Ev.bind (f := fun _ t => some (t == 0)) (rats_ev x (by omega)) ?_
      cases allR x with
      | true => exact Ev.now _
      | false => exact Ev.now _
    · rw [decide_eq_false (show ¬ (1 ≤ x.length ∧ x.length ≤ 4) by omega), Bool.false_and]
      exact Ev.congr (fun k => (if_neg h2 : (if _ then _ else _) = _)) (Ev.now _)
  · rw [decide_eq_false (show ¬ (1 ≤ x.length ∧ x.length ≤ 4) by omega), Bool.false_and]
    exact Ev.congr (fun k => (if_neg h1 : (if _ then _ else _) = _)) (Ev.now _)
theorem specVec_loop (x : List S32) (hx : ∀ y ∈ x, Sh y.f1 y.f2) (hb : x.length ≤ 1048576) : ∀ (d i : Nat), i + d = x.length → Ev (fun k => spec_VecOK.l0 k x (i : Int)) (decide (1 ≤ x.length ∧ x.length ≤ 4) && allR (x.drop i)) := by
  intro d
  induction d with
  | zero =>
    intro i hd
    rw [List.drop_of_length_le (by omega), show allR ([] : List S32) = true from rfl, Bool.and_true]
    refine ev_const fun k => ?_
    rw [spec_VecOK.l0, if_neg (by omega)]
    unfold spec_l01In.f
    by_cases h1 : 1 ≤ (x.length : Int)
    · rw [if_pos h1, Option.bind_some]
      exact congrArg some (decide_eq_decide.2 (by omega))
    · rw [if_neg h1, Option.bind_some, decide_eq_false (by omega)]
  | succ d ih =>
    intro i hd
    have hi : i < x.length := by omega
    have hy := hx (x[i]?.getD z32) (by rw [List.getElem?_eq_getElem hi, Option.getD_some]; exact List.getElem_mem _)
    have e := specRatOK_ev (x[i]?.getD z32).f0 (x[i]?.getD z32).f1 (x[i]?.getD z32).f2 hy.1 hy.2
    rw [allR_drop x i hi]
    refine Ev.step (f := fun k => (spec_RatOK.f k (x[i]?.getD z32).f0 (x[i]?.getD z32).f1 (x[i]?.getD z32).f2).bind fun t => if t = true then spec_VecOK.l0 k x ((i + 1 : Nat) : Int) else some false) (fun k => ?_) (Ev.bind e ?_)
    · rw [spec_VecOK.l0, if_pos (by omega), if_pos (by omega), rdR, wsucc (by omega)]
    · show Ev (fun k => if okR (x[i]?.getD z32) = true then spec_VecOK.l0 k x ((i + 1 : Nat) : Int) else some false) _
      cases okR (x[i]?.getD z32) with
      | true => exact Ev.congr (fun k => if_pos rfl) (ih (i + 1) (by omega))
      | false =>
        rw [Bool.false_and, Bool.and_false]
        exact Ev.congr (fun k => if_neg (by simp)) (Ev.now _)
theorem specVec_ev (x : List S32) (hx : ∀ y ∈ x, Sh y.f1 y.f2) (hb : x.length ≤ 1048576) : Ev (fun k => spec_VecOK.f k x) (vecAns x) := by
  unfold spec_VecOK.f vecAns
  by_cases h : (x.length : Int) > 4096
  · rw [decide_eq_false (show ¬ (1 ≤ x.length ∧ x.length ≤ 4) by omega), Bool.false_and]
    exact Ev.congr (fun k => (if_pos h : (if _ then _ else _) = _)) (Ev.now _)
  · exact Ev.congr (fun k => (if_neg h : (if _ then _ else _) = _)) (specVec_loop x hx hb x.length 0 (by omega))
end Go.Proofs.Ytegbmillbbcmfaa.Pl
