/-
The dot product, by the program and by the reference.
-/
import Derived.Test.YtegbmillbbcmfaaPvD
import Derived.Test.YtegbmillbbcmfaaQxNorm2
namespace Go.Proofs.Ytegbmillbbcmfaa.Pl
open Go.RowKit Go.Proofs.Ytegbmillbbcmfaa.Q Go.Proofs.Ytegbmillbbcmfaa.Pn Go.Proofs.YtegbmillbbcmfaaW.PrintWords Go.Proofs.YtegbmillbbcmfaaW.PrintLast Go.Proofs.YtegbmillbbcmfaaW.PrintMore
set_option linter.unusedVariables false
set_option linter.unusedSimpArgs false

def q3 (y : S32) : R3 := (y.f0, y.f1, y.f2)
theorem allR_mem {x : List S32} (hx : allR x = true) {i : Nat} (hi : i < x.length) : RO (q3 (x[i]?.getD z32)) ∧ (x[i]?.getD z32).f1.length ≤ 40 ∧ (x[i]?.getD z32).f2.length ≤ 40 := by
  have h := List.all_eq_true.1 hx (x[i]?.getD z32) (by rw [List.getElem?_eq_getElem hi, Option.getD_some]; exact List.getElem_mem _)
  exact (ratOKB_iff _).1 h
theorem vecs_all {x : List S32} (h : vecAns x = true) : allR x = true ∧ x.length ≤ 4 := by
  unfold vecAns at h
  have h' := Bool.and_eq_true_iff.1 h
  exact ⟨h'.2, (of_decide_eq_true h'.1).2⟩
def askC (x y : List S32) : Int := if 4096 < x.length ∨ 4096 < y.length then 2 else if vecAns x = true ∧ vecAns y = true then (if x.length = y.length then 0 else 8) else 1
theorem l03Ask_ev (x y : List S32) (hx : ∀ z ∈ x, Sh z.f1 z.f2) (hy : ∀ z ∈ y, Sh z.f1 z.f2) (hb : x.length ≤ 1048576) (hc : y.length ≤ 1048576) : Ev (fun k => spec_l03Ask.f k x y) (askC x y) := by
  unfold spec_l03Ask.f askC
  by_cases h1 : (x.length : Int) > 4096
  · rw [if_pos (show 4096 < x.length ∨ 4096 < y.length by omega)]
    refine Ev.congr (fun k => if_pos h1) (ev_const fun k => ?_)
    rw [spec_l03Ask.j0, if_pos rfl]
  · refine Ev.congr (fun k => if_neg h1) ?_
    by_cases h2 : (y.length : Int) > 4096
    · rw [if_pos (show 4096 < x.length ∨ 4096 < y.length by omega), decide_eq_true h2]
      refine ev_const fun k => ?_
      rw [spec_l03Ask.j0, if_pos rfl]
    · rw [if_neg (show ¬ (4096 < x.length ∨ 4096 < y.length) by omega), decide_eq_false h2]
      have j1 : ∀ b : Bool, Ev (fun k => spec_l03Ask.j1 k x y b) (if b = true then 1 else if x.length = y.length then 0 else 8) := fun b => ev_const fun k => by
        rw [spec_l03Ask.j1]
        cases b
        · rw [if_neg (show ¬ (false = true) by simp), if_neg (show ¬ (false = true) by simp)]
          by_cases e : x.length = y.length
          · rw [if_pos (by omega), if_pos e]
          · rw [if_neg (by omega), if_neg e]
        · rw [if_pos rfl, if_pos rfl]
      refine Ev.step (f := fun k => (spec_VecOK.f k x).bind fun t => if t = true then (spec_VecOK.f k y).bind fun t => spec_l03Ask.j1 k x y (!t) else spec_l03Ask.j1 k x y true) (fun k => ?_) ?_
      · rw [spec_l03Ask.j0, if_neg (by simp)]
      · refine Ev.bind (specVec_ev x hx hb) ?_
        cases h3 : vecAns x with
        | false =>
          rw [if_neg (show ¬ (false = true ∧ vecAns y = true) by simp)]
          exact Ev.congr (fun k => if_neg (by simp)) (j1 true)
        | true =>
          refine Ev.congr (fun k => if_pos rfl) (Ev.bind (f := fun k t => spec_l03Ask.j1 k x y (!t)) (specVec_ev y hy hc) ?_)
          cases h4 : vecAns y with
          | false =>
            rw [if_neg (show ¬ (true = true ∧ false = true) by simp)]
            exact j1 true
          | true =>
            rw [if_pos (show true = true ∧ true = true by simp)]
            exact j1 false
theorem w01 : wrap64 (0 + 1) = 1 := wrap_in (x := 0 + 1) (by omega) (by omega)
theorem w12 : wrap64 (1 + 1) = 2 := wrap_in (x := 1 + 1) (by omega) (by omega)
theorem longCode2 (a b : Int) : Ev (fun k => impl_longCode.f k 4096 [a, b]) (if a > 4096 ∨ b > 4096 then 2 else 0) := by
  unfold impl_longCode.f
  have s2 : Ev (fun k => impl_longCode.l0 k 4096 [a, b] 2 2) 0 := ev_const fun k => by rw [impl_longCode.l0, if_neg (by omega)]
  have s1 : Ev (fun k => impl_longCode.l0 k 4096 [a, b] 2 1) (if b > 4096 then 2 else 0) := by
    refine Ev.step (f := fun k => if b > 4096 then some 2 else impl_longCode.l0 k 4096 [a, b] 2 2) (fun k => ?_) ?_
    · rw [impl_longCode.l0, if_pos (by omega), if_pos (by omega), if_pos (by simp), w12]; rfl
    · by_cases h : b > 4096
      · rw [if_pos h]; exact Ev.congr (fun k => if_pos h) (Ev.now _)
      · rw [if_neg h]; exact Ev.congr (fun k => if_neg h) s2
  refine Ev.step (f := fun k => if a > 4096 then some 2 else impl_longCode.l0 k 4096 [a, b] 2 1) (fun k => ?_) ?_
  · show impl_longCode.l0 (k + 1) 4096 [a, b] 2 0 = _
    rw [impl_longCode.l0, if_pos (by omega), if_pos (by omega), if_pos (by simp), w01]; rfl
  · by_cases h : a > 4096
    · rw [if_pos (.inl h)]; exact Ev.congr (fun k => if_pos h) (Ev.now _)
    · refine Ev.congr (fun k => if_neg h) ?_
      by_cases h' : b > 4096
      · rw [if_pos h'] at s1; rw [if_pos (.inr h')]; exact s1
      · rw [if_neg h'] at s1; rw [if_neg (by omega)]; exact s1
theorem listsCode2 (x y : List S32) : Ev (fun k => impl_listsCode.f k [x, y]) (if (x.length : Int) > 4096 ∨ (y.length : Int) > 4096 then 2 else 0) := by
  unfold impl_listsCode.f
  refine Ev.step (f := fun k => impl_listsCode.l0 k [(x.length : Int)] [x, y] 2 1) (fun k => ?_) ?_
  · show impl_listsCode.l0 (k + 1) [] [x, y] 2 0 = _
    rw [impl_listsCode.l0, if_pos (by omega), if_pos (by omega), if_pos (by simp), if_pos (by simp), w01]; rfl
  refine Ev.step (f := fun k => impl_listsCode.l0 k [(x.length : Int), (y.length : Int)] [x, y] 2 2) (fun k => ?_) ?_
  · show impl_listsCode.l0 (k + 1) [(x.length : Int)] [x, y] 2 1 = _
    rw [impl_listsCode.l0, if_pos (by omega), if_pos (by omega), if_pos (by simp), if_pos (by simp), w12]; rfl
  refine Ev.step (f := fun k => (impl_longCode.f k 4096 [(x.length : Int), (y.length : Int)]).bind fun t => some t) (fun k => ?_) (Ev.bind (f := fun _ t => some t) (longCode2 _ _) (Ev.now _))
  show impl_listsCode.l0 (k + 1) [(x.length : Int), (y.length : Int)] [x, y] 2 2 = _
  rw [impl_listsCode.l0, if_neg (by omega)]
theorem vecsCode_ev (x y : List S32) (hb : x.length ≤ 1048576) (hc : y.length ≤ 1048576) : Ev (fun k => impl_vecsCode.f k [x, y]) (askC x y) := by
  unfold impl_vecsCode.f askC
  refine Ev.bind (listsCode2 x y) ?_
  by_cases h : 4096 < x.length ∨ 4096 < y.length
  · rw [if_pos (show (x.length : Int) > 4096 ∨ (y.length : Int) > 4096 by omega), if_pos h]
    exact Ev.congr (fun k => if_neg (by omega)) (Ev.now _)
  rw [if_neg (show ¬ ((x.length : Int) > 4096 ∨ (y.length : Int) > 4096) by omega), if_neg h]
  refine Ev.congr (fun k => if_pos rfl) ?_
  have t2 : Ev (fun k => impl_vecsCode.l1 k [x, y] [x, y] 2 2) 0 := ev_const fun k => by rw [impl_vecsCode.l1, if_neg (by omega)]
  have t1 : Ev (fun k => impl_vecsCode.l1 k [x, y] [x, y] 2 1) (if x.length = y.length then 0 else 8) := by
    refine Ev.step (f := fun k => if (y.length : Int) = (x.length : Int) then impl_vecsCode.l1 k [x, y] [x, y] 2 2 else some 8) (fun k => ?_) ?_
    · rw [impl_vecsCode.l1, if_pos (by omega), if_pos (by omega), if_pos (by simp), if_pos (by simp), w12]; rfl
    · by_cases e : x.length = y.length
      · rw [if_pos e]; exact Ev.congr (fun k => if_pos (by omega)) t2
      · rw [if_neg e]; exact Ev.congr (fun k => if_neg (by omega)) (Ev.now _)
  have t0 : Ev (fun k => impl_vecsCode.l1 k [x, y] [x, y] 2 0) (if x.length = y.length then 0 else 8) := by
    refine Ev.step (f := fun k => impl_vecsCode.l1 k [x, y] [x, y] 2 1) (fun k => ?_) t1
    rw [impl_vecsCode.l1, if_pos (by omega), if_pos (by omega), if_pos (by simp), if_pos (by simp), w01]
    exact if_pos rfl
  have v2 : Ev (fun k => impl_vecsCode.l0 k [x, y] [x, y] 2 2) (if x.length = y.length then 0 else 8) := by
    refine Ev.step (f := fun k => impl_vecsCode.l1 k [x, y] [x, y] 2 0) (fun k => ?_) t0
    rw [impl_vecsCode.l0, if_neg (by omega)]; rfl
  have v1 : Ev (fun k => impl_vecsCode.l0 k [x, y] [x, y] 2 1) (if vecAns y = true then (if x.length = y.length then 0 else 8) else 1) := by
    refine Ev.step (f := fun k => (impl_VecOK.f k y).bind fun t => if t = true then impl_vecsCode.l0 k [x, y] [x, y] 2 2 else some 1) (fun k => ?_) (Ev.bind (implVec_ev y hc) ?_)
    · rw [impl_vecsCode.l0, if_pos (by omega), if_pos (by omega), if_pos (by simp), w12]; rfl
    · cases vecAns y with
      | false => rw [if_neg (by simp)]; exact Ev.congr (fun k => if_neg (by simp)) (Ev.now _)
      | true => rw [if_pos rfl]; exact Ev.congr (fun k => if_pos rfl) v2
  refine Ev.step (f := fun k => (impl_VecOK.f k x).bind fun t => if t = true then impl_vecsCode.l0 k [x, y] [x, y] 2 1 else some 1) (fun k => ?_) (Ev.bind (implVec_ev x hb) ?_)
  · show impl_vecsCode.l0 (k + 1) [x, y] [x, y] 2 0 = _
    rw [impl_vecsCode.l0, if_pos (by omega), if_pos (by omega), if_pos (by simp), w01]; rfl
  · cases vecAns x with
    | false => rw [if_neg (by simp)]; exact Ev.congr (fun k => if_neg (by simp)) (Ev.now _)
    | true =>
      refine Ev.congr (fun k => if_pos rfl) ?_
      cases hy : vecAns y with
      | false => rw [hy, if_neg (by simp)] at v1; rw [if_neg (by simp)]; exact v1
      | true => rw [hy, if_pos rfl] at v1; rw [if_pos (by simp)]; exact v1
def dotL : R3 → List S32 → List S32 → R3
  | o, x :: xs, y :: ys => dotL (addZ o (mulZ (q3 x) (q3 y))) xs ys
  | o, _, _ => o
theorem mulZ_b {r s : R3} {m n : Nat} (hr : RO r) (hs : RO s) (h1 : r.2.1.length ≤ m) (h2 : r.2.2.length ≤ m) (h3 : s.2.1.length ≤ n) (h4 : s.2.2.length ≤ n) : RO (mulZ r s) ∧ (mulZ r s).2.1.length ≤ m + n ∧ (mulZ r s).2.2.length ≤ m + n := by
  have a1 := nm_bd hr.1 h1
  have a2 := nm_bd hr.2.1 h2
  have b1 := nm_bd hs.1 h3
  have b2 := nm_bd hs.2.1 h4
  have p1 := mul_lt2 a1 b1
  have p2 := mul_lt2 a2 b2
  rw [← Int.pow_add] at p1 p2
  have hd := Int.mul_pos (show 0 < vl r.2.2 from hr.bt) (show 0 < vl s.2.2 from hs.bt)
  exact ⟨low_ro p1.1 hd, low_len p1.1 hd p1.2 p2.2⟩
theorem addZ_b {r s : R3} {m n : Nat} (hr : RO r) (hs : RO s) (h1 : r.2.1.length ≤ m) (h2 : r.2.2.length ≤ m) (h3 : s.2.1.length ≤ n) (h4 : s.2.2.length ≤ n) : RO (addZ r s) ∧ (addZ r s).2.1.length ≤ m + n + 1 ∧ (addZ r s).2.2.length ≤ m + n + 1 := by
  have a1 := nm_bd hr.1 h1
  have a2 := nm_bd hr.2.1 h2
  have b1 := nm_bd hs.1 h3
  have b2 := nm_bd hs.2.1 h4
  have p1 := mul_lt2 a1 b2
  have p2 := mul_lt2 b1 a2
  have p3 := mul_lt2 a2 b2
  rw [Int.mul_comm (10000 ^ n)] at p2
  rw [← Int.pow_add] at p1 p2 p3
  have hd := Int.mul_pos (show 0 < vl r.2.2 from hr.bt) (show 0 < vl s.2.2 from hs.bt)
  have e := Int.pow_succ (10000 : Int) (m + n)
  unfold addZ
  split
  · exact ⟨low_ro (by omega) hd, low_len (by omega) hd (by omega) (by omega)⟩
  · split
    · exact ⟨low_ro (by omega) hd, low_len (by omega) hd (by omega) (by omega)⟩
    · exact ⟨low_ro (by omega) hd, low_len (by omega) hd (by omega) (by omega)⟩
theorem specDot_loop (x y : List S32) (hl : x.length = y.length) (hb : x.length ≤ 4) (hx : allR x = true) (hy : allR y = true) : ∀ (d i : Nat) (o : R3), i + d = x.length → RO o → o.2.1.length ≤ 81 * i + 1 → o.2.2.length ≤ 81 * i + 1 → Ev (fun k => spec_l03Dot.l0 k x y (i : Int) o.1 o.2.1 o.2.2) (dotL o (x.drop i) (y.drop i)) := by
  intro d
  induction d with
  | zero =>
    intro i o hd _ _ _
    rw [List.drop_of_length_le (by omega), List.drop_of_length_le (by omega)]
    refine ev_const fun k => ?_
    rw [spec_l03Dot.l0, if_neg (by omega)]; rfl
  | succ d ih =>
    intro i o hd ho h1 h2
    have hi : i < x.length := by omega
    have hj : i < y.length := by omega
    obtain ⟨a1, a2, a3⟩ := allR_mem hx hi
    obtain ⟨b1, b2, b3⟩ := allR_mem hy hj
    obtain ⟨c1, c2, c3⟩ := mulZ_b (m := 40) (n := 40) a1 b1 a2 a3 b2 b3
    obtain ⟨e1, e2, e3⟩ := addZ_b ho c1 h1 h2 c2 c3
    have em : Ev (fun k => spec_l02Mul.f k (x[i]?.getD z32).f0 (x[i]?.getD z32).f1 (x[i]?.getD z32).f2 (y[i]?.getD z32).f0 (y[i]?.getD z32).f1 (y[i]?.getD z32).f2) (mulZ (q3 (x[i]?.getD z32)) (q3 (y[i]?.getD z32))) := mulRE (r := q3 (x[i]?.getD z32)) (s := q3 (y[i]?.getD z32)) (n := 40) (RO.sm a1 a2 a3) (RO.sm b1 b2 b3) (by omega)
    rw [at_next (z := z32) hi, at_next (z := z32) hj, dotL]
    generalize mulZ (q3 (x[i]?.getD z32)) (q3 (y[i]?.getD z32)) = t at em c1 c2 c3 e1 e2 e3 ⊢
    have ea : Ev (fun k => spec_l02Add.f k o.1 o.2.1 o.2.2 t.1 t.2.1 t.2.2) (addZ o t) := addRE (n := 400) (RO.sm ho (by omega) (by omega)) (RO.sm c1 (by omega) (by omega)) (by omega)
    refine Ev.step (f := fun k => (spec_l02Mul.f k (x[i]?.getD z32).f0 (x[i]?.getD z32).f1 (x[i]?.getD z32).f2 (y[i]?.getD z32).f0 (y[i]?.getD z32).f1 (y[i]?.getD z32).f2).bind fun (t : R3) => (spec_l02Add.f k o.1 o.2.1 o.2.2 t.1 t.2.1 t.2.2).bind fun (u : R3) => spec_l03Dot.l0 k x y ((i + 1 : Nat) : Int) u.1 u.2.1 u.2.2) (fun k => ?_) ?_
    · rw [spec_l03Dot.l0, if_pos (by omega), if_pos (by omega), if_pos (by omega), rdR, rdR, wsucc (by omega)]
    · refine Ev.bind (f := fun k (t : R3) => (spec_l02Add.f k o.1 o.2.1 o.2.2 t.1 t.2.1 t.2.2).bind fun (u : R3) => spec_l03Dot.l0 k x y ((i + 1 : Nat) : Int) u.1 u.2.1 u.2.2) em ?_
      refine Ev.bind (f := fun k (u : R3) => spec_l03Dot.l0 k x y ((i + 1 : Nat) : Int) u.1 u.2.1 u.2.2) ea ?_
      exact ih (i + 1) _ (by omega) e1 (by omega) (by omega)
theorem implDot_loop (x y : List S32) (hl : x.length = y.length) (hb : x.length ≤ 4) (hx : allR x = true) (hy : allR y = true) : ∀ (d i : Nat) (o : R3), i + d = x.length → RO o → o.2.1.length ≤ 81 * i + 1 → o.2.2.length ≤ 81 * i + 1 → Ev (fun k => impl_dot.l0 k y x (x.length : Int) (i : Int) o.1 o.2.1 o.2.2) (dotL o (x.drop i) (y.drop i)) := by
  intro d
  induction d with
  | zero =>
    intro i o hd _ _ _
    rw [List.drop_of_length_le (by omega), List.drop_of_length_le (by omega)]
    refine ev_const fun k => ?_
    rw [impl_dot.l0, if_neg (by omega)]; rfl
  | succ d ih =>
    intro i o hd ho h1 h2
    have hi : i < x.length := by omega
    have hj : i < y.length := by omega
    obtain ⟨a1, a2, a3⟩ := allR_mem hx hi
    obtain ⟨b1, b2, b3⟩ := allR_mem hy hj
    obtain ⟨c1, c2, c3⟩ := mulZ_b (m := 40) (n := 40) a1 b1 a2 a3 b2 b3
    obtain ⟨e1, e2, e3⟩ := addZ_b ho c1 h1 h2 c2 c3
    have em : Ev (fun k => impl_Rat_times.f k (x[i]?.getD z32).f0 (x[i]?.getD z32).f1 (x[i]?.getD z32).f2 (y[i]?.getD z32).f0 (y[i]?.getD z32).f1 (y[i]?.getD z32).f2) (mulZ (q3 (x[i]?.getD z32)) (q3 (y[i]?.getD z32))) := timesE (r := q3 (x[i]?.getD z32)) (s := q3 (y[i]?.getD z32)) (n := 40) (RO.sm a1 a2 a3) (RO.sm b1 b2 b3) (by omega)
    rw [at_next (z := z32) hi, at_next (z := z32) hj, dotL]
    generalize mulZ (q3 (x[i]?.getD z32)) (q3 (y[i]?.getD z32)) = t at em c1 c2 c3 e1 e2 e3 ⊢
    have ea : Ev (fun k => impl_Rat_plus.f k o.1 o.2.1 o.2.2 t.1 t.2.1 t.2.2) (addZ o t) := plusE (n := 400) (RO.sm ho (by omega) (by omega)) (RO.sm c1 (by omega) (by omega)) (by omega)
    refine Ev.step (f := fun k => (impl_Rat_times.f k (x[i]?.getD z32).f0 (x[i]?.getD z32).f1 (x[i]?.getD z32).f2 (y[i]?.getD z32).f0 (y[i]?.getD z32).f1 (y[i]?.getD z32).f2).bind fun (t : R3) => (impl_Rat_plus.f k o.1 o.2.1 o.2.2 t.1 t.2.1 t.2.2).bind fun (u : R3) => impl_dot.l0 k y x (x.length : Int) ((i + 1 : Nat) : Int) u.1 u.2.1 u.2.2) (fun k => ?_) ?_
    · rw [impl_dot.l0, if_pos (by omega), if_pos (by omega), if_pos (by omega), if_pos (by omega), rdR, rdR, wsucc (by omega)]
    · refine Ev.bind (f := fun k (t : R3) => (impl_Rat_plus.f k o.1 o.2.1 o.2.2 t.1 t.2.1 t.2.2).bind fun (u : R3) => impl_dot.l0 k y x (x.length : Int) ((i + 1 : Nat) : Int) u.1 u.2.1 u.2.2) em ?_
      refine Ev.bind (f := fun k (u : R3) => impl_dot.l0 k y x (x.length : Int) ((i + 1 : Nat) : Int) u.1 u.2.1 u.2.2) ea ?_
      exact ih (i + 1) _ (by omega) e1 (by omega) (by omega)
theorem whole0 : RO (wholeR 0) ∧ (wholeR 0).2.1.length ≤ 81 * 0 + 1 ∧ (wholeR 0).2.2.length ≤ 81 * 0 + 1 := by
  refine ⟨(wholeR_ro 0).1, ?_, ?_⟩
  · exact nat_len _ 1 (by decide)
  · exact Nat.le_refl _
/-- What Dot answers. -/
def dotAns (x y : List S32) : R4 := if askC x y = 0 then fit4 (dotL (wholeR 0) x y) else bad4 (askC x y)
theorem askC_0 {x y : List S32} (h : askC x y = 0) : x.length = y.length ∧ x.length ≤ 4 ∧ allR x = true ∧ allR y = true := by
  unfold askC at h
  split at h
  · cases h
  · split at h
    · rename_i g
      split at h
      · rename_i e
        exact ⟨e, (vecs_all g.1).2, (vecs_all g.1).1, (vecs_all g.2).1⟩
      · cases h
    · cases h
theorem dotAns_len (x y : List S32) : (dotAns x y).2.1.length ≤ 40 ∧ (dotAns x y).2.2.1.length ≤ 40 := by
  unfold dotAns
  split
  · exact fit4_len _
  · exact ⟨Nat.zero_le _, Nat.zero_le _⟩
theorem implDot_ev (x y : List S32) (hb : x.length ≤ 1048576) (hc : y.length ≤ 1048576) : Ev (fun k => impl_Dot.f k x y) (dotAns x y) := by
  unfold impl_Dot.f dotAns
  refine Ev.bind (vecsCode_ev x y hb hc) ?_
  by_cases h : askC x y = 0
  · rw [if_pos h]
    refine Ev.congr (fun k => if_pos h) ?_
    obtain ⟨h1, h2, h3, h4⟩ := askC_0 h
    have e : Ev (fun k => impl_dot.f k x y) (dotL (wholeR 0) x y) := by
      unfold impl_dot.f
      refine Ev.bind (wholeE (n := 0) (by omega) (by omega)) ?_
      exact implDot_loop x y h1 h2 h3 h4 x.length 0 _ (by omega) whole0.1 whole0.2.1 whole0.2.2
    exact Ev.bind e (Ev.congr (fun k => fit_tail _) (Ev.now _))
  · rw [if_neg h]
    exact Ev.congr (fun k => if_neg h) (Ev.now _)
theorem specTail_ev (x y : List S32) (hx : ∀ z ∈ x, Sh z.f1 z.f2) (hy : ∀ z ∈ y, Sh z.f1 z.f2) (hb : x.length ≤ 1048576) (hc : y.length ≤ 1048576) : Ev (fun k => (spec_l03Ask.f k x y).bind fun t => if t = 0 then (spec_l03Dot.f k x y).bind fun u => (spec_l02Fit.f u.1 u.2.1 u.2.2).bind fun v => some (v.1, v.2.1, v.2.2.1, v.2.2.2) else some (false, ([] : List Int), ([] : List Int), t)) (dotAns x y) := by
  unfold dotAns
  refine Ev.bind (l03Ask_ev x y hx hy hb hc) ?_
  by_cases h : askC x y = 0
  · rw [if_pos h]
    refine Ev.congr (fun k => if_pos h) ?_
    obtain ⟨h1, h2, h3, h4⟩ := askC_0 h
    have e : Ev (fun k => spec_l03Dot.f k x y) (dotL (wholeR 0) x y) := by
      unfold spec_l03Dot.f
      refine Ev.bind (l02IntE (n := 0) (by omega) (by omega)) ?_
      exact specDot_loop x y h1 h2 h3 h4 x.length 0 _ (by omega) whole0.1 whole0.2.1 whole0.2.2
    exact Ev.bind e (Ev.congr (fun k => fitR_tail _) (Ev.now _))
  · rw [if_neg h]
    exact Ev.congr (fun k => if_neg h) (Ev.now _)
theorem long_dot {x y : List S32} (h : 4096 < x.length ∨ 4096 < y.length) : dotAns x y = (false, [], [], 2) := by
  have : askC x y = 2 := by unfold askC; rw [if_pos h]
  unfold dotAns
  rw [this, if_neg (by omega)]; rfl
theorem implNorm_ev (x : List S32) (hb : x.length ≤ 1048576) : Ev (fun k => impl_Norm2.f k x) (dotAns x x) := by
  unfold impl_Norm2.f
  exact Ev.bind (f := fun _ t => some (t.1, t.2.1, t.2.2.1, t.2.2.2)) (implDot_ev x x hb hb) (Ev.now _)
theorem specNorm_ev (x : List S32) (hx : ∀ z ∈ x, Sh z.f1 z.f2) (hb : x.length ≤ 1048576) : Ev (fun k => spec_Norm2.f k x) (dotAns x x) := by
  unfold spec_Norm2.f
  by_cases h1 : (x.length : Int) > 4096
  · rw [long_dot (by omega)]
    exact Ev.congr (fun k => if_pos h1) (Ev.now _)
  · exact Ev.congr (fun k => if_neg h1) (specTail_ev x x hx hx hb hb)
end Go.Proofs.Ytegbmillbbcmfaa.Pl
