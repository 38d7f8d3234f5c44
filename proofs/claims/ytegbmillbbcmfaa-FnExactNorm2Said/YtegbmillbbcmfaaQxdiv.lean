-- written by a program of this claim's session (myprint.py) out of the translation; Lean checks it.
import Derived.Test.YtegbmillbbcmfaaQx0
import Derived.Test.YtegbmillbbcmfaaWords
import Derived.Test.YtegbmillbbcmfaaQxcmp
import Derived.Test.YtegbmillbbcmfaaQxtrim
import Derived.Test.YtegbmillbbcmfaaQxmul
import Derived.Test.YtegbmillbbcmfaaQxsub
namespace Go.Proofs.Ytegbmillbbcmfaa.Q
open Go.RowKit Go.Proofs.YtegbmillbbcmfaaW.PrintWords Go.Proofs.YtegbmillbbcmfaaW.PrintLast Go.Proofs.YtegbmillbbcmfaaW.PrintMore
attribute [local go_sem] max2_int min2_int max_two min_two max_three min_three max_four min_four   -- for this text's walks alone
set_option linter.unusedVariables false
set_option linter.unusedSimpArgs false

def spec_l01Small.l0 : Nat → Int → List Int → Option (List Int)
 | 0, _, _ => none
 | k + 1, x0, x3 => if x0 > 0 then (if x3.length < 17592186044416 then (spec_l01Small.l0 k (wrap64 (Int.tdiv x0 10000)) (x3 ++ [Int.tmod x0 10000])) else (none)) else (some x3)
def spec_l01Small.f (k : Nat) (a0 : Int) : Option (List Int) := spec_l01Small.l0 k a0 (([] : List Int))
theorem spec_l01Small.mono_l : ∀ k, (∀ y0 y1, LeO (spec_l01Small.l0 k y0 y1) (spec_l01Small.l0 (k + 1) y0 y1))
 | 0 => fun _ _ r h => by simp [spec_l01Small.l0] at h
 | k + 1 => by
  have ih0 := spec_l01Small.mono_l k
  ·
   intro y0 y1
   unfold spec_l01Small.l0
   repeat' first
   | (with_reducible exact ih0 _ _)
   | (with_reducible exact LeO.refl _)
   | (with_reducible exact LeO.none _)
   | (with_reducible refine LeO.ite ?_ ?_)
   | (with_reducible refine LeO.bind ?_ (fun _ => ?_))
   | exact ih0 _ _
   | exact LeO.none _
   | refine LeO.ite ?_ ?_
   | refine LeO.bind ?_ (fun _ => ?_)
set_option maxHeartbeats 8000000 in
set_option maxRecDepth 100000 in
theorem spec_l01Small.calls (k : Nat) (a0 : Int) (r : List Int) (w : World) (h : spec_l01Small.f k a0 = some r) :
  Calls Try.prog 73 #[.int .i64 a0] w fun e w' => ∃ v0_ : Value, e = .returned (v0_) ∧ Kd.R (Kd.int .i64) 3 w' w.heap.size (fun _ => True) v0_ r ∧ Below w.heap.size w w' := by
 have HB := Aside0.mk (Below.refl w.heap.size w)
 have H : (spec_l01Small.l0 k a0 (([] : List Int))) = some r := h
 clear h
 obtain ⟨yD6, hy150⟩ : ∃ y_ : List Int, y_ = (([] : List Int)) := ⟨_, rfl⟩
 replace H : (spec_l01Small.l0 k a0 yD6) = some r := by subst hy150; first | with_reducible exact H | with_reducible exact (Option.bind_some _ _).symm.trans H | exact H
 have NyD6 := Aside0.mk hy150
 clear hy150
 have H' := Aside0.mk H
 clear H
 go_enter Try.func73, Try.ntmps73
 go_wp2_with (first | ((with_reducible refine gate_dst (N := 4) rfl ?_); refine Kd.R_lit (Kd.int .i64) _ 3 ?hg (N := 4) ?hd (xs := ([] : List Int)) (inner := []) (ok := fun _ => True) (okp := fun _ => True) ?hr ?hp (fun _ hk => hk) trivial (Below.refl _ _) (Nat.le_refl _) (by simp) ?_; (case hd => rfl); (case hg => rfl); (case hr => first | (go_simp; done) | (go_simp; rfl)); (case hp => exact (Reps.none _ _)); intro vH1 w2 ho3 hb hg_ hnew_; clear hg_ hnew_; (first | rw [← NyD6.out] at ho3 | (simp only [Int.reduceToNat] at ho3; rw [← NyD6.out] at ho3)); have HOF7 := lwR ho3 HB; replace HB := bst HB hb; clear hb ho3))
 go_loopg [0, 3] k (fun kq v0 v3 w' => ∃ (x0_1 : Int) (x3_1 : List Int), v0 = .int .i64 x0_1 ∧ Aside0 (spec_l01Small.l0 kq x0_1 x3_1 = some r) ∧ Aside0 (kq ≤ k) ∧ Aside0 (Kd.R (Kd.int .i64) 3 w' w.heap.size (fun _ => True) v3 x3_1) ∧ Aside0 (Below w.heap.size w w'))
 case atStart => exact ⟨(a0), (yD6), rs_, H', ⟨Nat.le_refl _⟩, ⟨crR HOF7⟩, ⟨blw HB⟩⟩
 case round =>
  clear H'
  try clear p2
  obtain ⟨x0_1, x3_1, rfl, HA, HK1, HO_3, HB⟩ := hrel
  cases gk with
  | zero => exact absurd HA.out (by simp [spec_l01Small.l0])
  | succ k1 =>
   have H := HA.out
   clear HA
   simp only [spec_l01Small.l0] at H
   by_cases c4 : x0_1 > 0
   ·
    rw [if_pos c4] at H
    have c4b0 : decide (0 < x0_1) = true := decide_eq_true c4
    clear c4
    by_cases c5 : x3_1.length < 17592186044416
    ·
     rw [if_pos c5] at H
     have LMc5 := Aside0.mk c5
     clear c5
     obtain ⟨yE1, hy153⟩ : ∃ y_ : List Int, y_ = (x3_1 ++ [Int.tmod x0_1 10000]) := ⟨_, rfl⟩
     replace H : (spec_l01Small.l0 k1 (wrap64 (Int.tdiv x0_1 10000)) yE1) = some r := by subst hy153; first | with_reducible exact H | with_reducible exact (Option.bind_some _ _).symm.trans H | exact H
     have NyE1 := Aside0.mk hy153
     clear hy153
     have H' := Aside0.mk H
     clear H
     go_wp2_with (first | ((with_reducible refine gate_builtin (b := .append) (xs := #[.tmp 7, .tmp 10]) rfl ?_); at_builtin; refine Kd.R_append (Kd.int .i64) (w0 := w) w.heap.size rfl (.tmp 7) (.tmp 10) 30 3 (.int .i64 0) 8 rfl Try.underlying30 info3 rfl (by decide) (by omega) u3 x3_1 (Int.tmod x0_1 10000) [.int .i64 (Int.tmod x0_1 10000)] (fun _ => True) (fun _ => False) rfl rfl ?aP (fun _ hk => hk.elim) ?aF ?aO ?aB ?aS ?aL ?_; (case aP => exact rfl); (case aB => exact (blw HB)); (case aF => exact (fun _ _ => trivial)); (case aO => exact (crR HO_3)); (case aS => exact (bsz HB)); (case aL => have := LMc5.out; omega); intro vH2 w6 ho hb hg hat; rw [← NyE1.out] at ho; replace HB := Aside0.mk (hb); have HOF8 := Aside0.mk (ho); clear HO_3; clear ho hb hg hat))
     go_roundg k1
     case measure => have := HK1.out; omega
     case rel => exact ⟨(wrap64 (Int.tdiv x0_1 10000)), (yE1), rs_, H', ⟨by have := HK1.out; omega⟩, ⟨crR HOF8⟩, ⟨blw HB⟩⟩
    ·
     rw [if_neg c5] at H
     exact absurd H (by simp)
   ·
    rw [if_neg c4] at H
    have c4b0 : decide (0 < x0_1) = false := decide_eq_false c4
    clear c4
    obtain rfl := Option.some.inj H
    go_wp2
    go_ret
    exact ⟨_, er_, by (with_reducible repeat (first | apply Kd.R_alloc | apply Kd.R_drewN | apply Kd.R_drew)); exact HO_3.out, blw HB⟩

mutual
def spec_l01Div.l0 : Nat → List Int → List Int → List Int → List Int → Int → Option (List Int × List Int)
 | 0, _, _, _, _, _ => none
 | k + 1, x0, x1, x6, x7, x8 => if x8 ≥ 0 then (if 0 ≤ x8 then (if x8 < (x0.length : Int) then ((some (([rd x0 x8] : List Int) : List Int)).bind fun yB3 => (if yB3.length + x7.length < 17592186044416 then ((spec_l01Trim.f (yB3 ++ x7)).bind fun tA0 => ((spec_l01Cmp.f k tA0 x1).bind fun tB4 => (if tB4 < 0 then (spec_l01Div.l0 k x0 x1 x6 tA0 (wrap64 (x8 - 1))) else (spec_l01Div.l1 k x0 x1 x6 tA0 x8 0 10000)))) else (none))) else (none)) else (none)) else ((spec_l01Trim.f x6).bind fun tE2 => (some (tE2, x7)))
def spec_l01Div.l1 : Nat → List Int → List Int → List Int → List Int → Int → Int → Int → Option (List Int × List Int)
 | 0, _, _, _, _, _, _, _ => none
 | k + 1, x0, x1, x6, x7, x8, x9, x10 => if (wrap64 (x10 - x9)) > 1 then ((spec_l01Small.f k (wrap64 (Int.tdiv (wrap64 (x9 + x10)) 2))).bind fun tC4 => ((spec_l01Mul.f k x1 tC4).bind fun tB9 => ((spec_l01Cmp.f k tB9 x7).bind fun tB7 => (if tB7 ≤ 0 then (spec_l01Div.l1 k x0 x1 x6 x7 x8 (wrap64 (Int.tdiv (wrap64 (x9 + x10)) 2)) x10) else (spec_l01Div.l1 k x0 x1 x6 x7 x8 x9 (wrap64 (Int.tdiv (wrap64 (x9 + x10)) 2))))))) else (if 0 ≤ x8 then (if x8 < (x6.length : Int) then ((spec_l01Small.f k x9).bind fun tC7 => ((spec_l01Mul.f k x1 tC7).bind fun tC3 => ((spec_l01Sub.f k x7 tC3).bind fun tC0 => (spec_l01Div.l0 k x0 x1 (x6.set (x8 : Int).toNat x9) tC0 (wrap64 (x8 - 1)))))) else (none)) else (none))
end
def spec_l01Div.f (k : Nat) (l0 : List Int) (l1 : List Int) : Option (List Int × List Int) := if 0 ≤ (l0.length : Int) then (if ((l0.length : Int) : Int).toNat ≤ 35184372088832 then (spec_l01Div.l0 k l0 l1 (List.replicate ((l0.length : Int) : Int).toNat 0) (([] : List Int)) (wrap64 ((l0.length : Int) - 1))) else (none)) else (none)
set_option maxHeartbeats 8000000 in
set_option maxRecDepth 100000 in
theorem spec_l01Div.calls (k : Nat) (A0 : Option Addr) (c0 : Nat) (l0 : List Int) (A1 : Option Addr) (c1 : Nat) (l1 : List Int) (r1 : List Int) (r2 : List Int) (w : World) (hr0 : Kd.C (Kd.int .i64) w A0 l0.length l0) (hc0 : l0.length ≤ c0) (hr1 : Kd.C (Kd.int .i64) w A1 l1.length l1) (hc1 : l1.length ≤ c1) (h : spec_l01Div.f k l0 l1 = some (r1, r2)) :
  Calls Try.prog 62 #[.slice A0 l0.length c0, .slice A1 l1.length c1] w fun e w' => ∃ v0_ v1_ : Value, e = .returned (.tuple #[v0_, v1_]) ∧ Kd.R (Kd.int .i64) 3 w' w.heap.size (fun k_ => nO k_ v1_) v0_ r1 ∧ Kd.R (Kd.int .i64) 3 w' w.heap.size (fun k_ => nO k_ v0_) v1_ r2 ∧ Below w.heap.size w w' := by
 have HR0 := Aside0.mk hr0
 have HC0 := Aside0.mk hc0
 clear hr0 hc0
 have HR1 := Aside0.mk hr1
 have HC1 := Aside0.mk hc1
 clear hr1 hc1
 have HB := Aside0.mk (Below.refl w.heap.size w)
 have H : (if 0 ≤ (l0.length : Int) then (if ((l0.length : Int) : Int).toNat ≤ 35184372088832 then (spec_l01Div.l0 k l0 l1 (List.replicate ((l0.length : Int) : Int).toNat 0) (([] : List Int)) (wrap64 ((l0.length : Int) - 1))) else (none)) else (none)) = some (r1, r2) := h
 clear h
 by_cases c3 : 0 ≤ (l0.length : Int)
 ·
  rw [if_pos c3] at H
  have c3b0 := eq_true c3
  have c3b1 : decide (0 ≤ (l0.length : Int)) = true := decide_eq_true c3
  clear c3
  by_cases c4 : ((l0.length : Int) : Int).toNat ≤ 35184372088832
  ·
   rw [if_pos c4] at H
   have c4b0 := eq_true c4
   have c4b1 : decide (((l0.length : Int) : Int).toNat ≤ 35184372088832) = true := decide_eq_true c4
   clear c4
   obtain ⟨yD4, hy183⟩ : ∃ y_ : List Int, y_ = (List.replicate ((l0.length : Int) : Int).toNat 0) := ⟨_, rfl⟩
   replace H : (spec_l01Div.l0 k l0 l1 yD4 (([] : List Int)) (wrap64 ((l0.length : Int) - 1))) = some (r1, r2) := by subst hy183; first | with_reducible exact H | with_reducible exact (Option.bind_some _ _).symm.trans H | exact H
   have NyD4 := Aside0.mk hy183
   clear hy183
   obtain ⟨yD7, hy186⟩ : ∃ y_ : List Int, y_ = (([] : List Int)) := ⟨_, rfl⟩
   replace H : (spec_l01Div.l0 k l0 l1 yD4 yD7 (wrap64 ((l0.length : Int) - 1))) = some (r1, r2) := by subst hy186; first | with_reducible exact H | with_reducible exact (Option.bind_some _ _).symm.trans H | exact H
   have NyD7 := Aside0.mk hy186
   clear hy186
   have H' := Aside0.mk H
   clear H
   go_enter Try.func62, Try.ntmps62
   go_wp2_with (first | ((with_reducible refine gate_dst (N := 14) rfl ?_); refine Kd.R_make (Kd.int .i64) _ 3 rfl (N := 14) rfl 30 _ _ rfl (l0.length : Int) rfl rfl Try.underlying30 (.int .i64 0) 8 info3 rfl (by decide) (by omega) 0 (ok := fun _ => True) (okp := fun _ => True) rfl (fun _ hk => hk) trivial (of_decide_eq_true (by first | (with_reducible assumption) | assumption)) (Nat.le_trans (Nat.mul_le_mul_right _ (of_decide_eq_true (by first | (with_reducible assumption) | assumption) : (l0.length : Int).toNat ≤ 35184372088832)) (by omega)) (Below.refl _ _) (Nat.le_refl _) ?_; intro vC8 w5 ho6 hb hg_ hnew_; clear hg_ hnew_; (first | rw [← NyD4.out] at ho6 | (simp only [Int.reduceToNat] at ho6; rw [← NyD4.out] at ho6)); have HOE3 := lwR ho6 HB; replace HB := bst HB hb; clear hb ho6) | ((with_reducible refine gate_dst (N := 15) rfl ?_); refine Kd.R_lit (Kd.int .i64) _ 3 ?hg (N := 15) ?hd (xs := ([] : List Int)) (inner := []) (ok := fun _ => True) (okp := fun _ => True) ?hr ?hp (fun _ hk => hk) trivial (Below.refl _ _) (Nat.le_refl _) (by simp) ?_; (case hd => rfl); (case hg => rfl); (case hr => first | (go_simp; done) | (go_simp; rfl)); (case hp => exact (Reps.none _ _)); intro vH3 w7 ho8 hb hg_ hnew_; clear hg_ hnew_; (first | rw [← NyD7.out] at ho8 | (simp only [Int.reduceToNat] at ho8; rw [← NyD7.out] at ho8)); have HOF9 := lwR (nwR ho8 HOE3) HB; replace HOE3 := eldR HOE3 (Kd.R_base ho8) hb; replace HB := bst HB hb; clear hb ho8))
   go_loopg [7, 8] k (fun kq v7 v8 w' => ∃ (x6_1 : List Int) (x7_1 : List Int) (x8_1 : Int), v8 = .int .i64 x8_1 ∧ Aside0 (spec_l01Div.l0 kq l0 l1 x6_1 x7_1 x8_1 = some (r1, r2)) ∧ Aside0 (kq ≤ k) ∧ Aside0 (Kd.R (Kd.int .i64) 3 w' w.heap.size (fun k_ => nO k_ v7) vC8 x6_1) ∧ Aside0 (Kd.R (Kd.int .i64) 3 w' w.heap.size (fun k_ => nO k_ vC8) v7 x7_1) ∧ Aside0 (Below w.heap.size w w'))
   case atStart => exact ⟨(yD4), (yD7), (wrap64 ((l0.length : Int) - 1)), rs_, H', ⟨Nat.le_refl _⟩, ⟨crM HOE3 fun _ hk => hk.2⟩, ⟨crM HOF9 fun _ hk => hk.2⟩, ⟨blw HB⟩⟩
   case round =>
    clear H'
    try clear c1
    try clear p2
    try clear c3
    try clear c3b0
    try clear c3b1
    try clear c4
    try clear c4b0
    try clear c4b1
    try clear c6
    try clear p6
    obtain ⟨x6_1, x7_1, x8_1, rfl, HA, HK1, HO_6, HO_7, HB⟩ := hrel
    cases gk with
    | zero => exact absurd HA.out (by simp [spec_l01Div.l0])
    | succ k1 =>
     have H := HA.out
     clear HA
     simp only [spec_l01Div.l0] at H
     by_cases c9 : x8_1 ≥ 0
     ·
      rw [if_pos c9] at H
      have c9b0 : decide (0 ≤ x8_1) = true := decide_eq_true c9
      clear c9
      by_cases c10 : 0 ≤ x8_1
      ·
       rw [if_pos c10] at H
       have c10b0 : decide (0 ≤ x8_1) = true := decide_eq_true c10
       clear c10
       by_cases c11 : x8_1 < (l0.length : Int)
       ·
        rw [if_pos c11] at H
        have c11b0 : decide (x8_1 < (l0.length : Int)) = true := decide_eq_true c11
        clear c11
        obtain ⟨yB3, hy193⟩ : ∃ y_ : List Int, y_ = (([rd l0 x8_1] : List Int)) := ⟨_, rfl⟩
        replace H : (if yB3.length + x7_1.length < 17592186044416 then ((spec_l01Trim.f (yB3 ++ x7_1)).bind fun tA0 => ((spec_l01Cmp.f k1 tA0 l1).bind fun tB4 => (if tB4 < 0 then (spec_l01Div.l0 k1 l0 l1 x6_1 tA0 (wrap64 (x8_1 - 1))) else (spec_l01Div.l1 k1 l0 l1 x6_1 tA0 x8_1 0 10000)))) else (none)) = some (r1, r2) := by subst hy193; first | with_reducible exact H | with_reducible exact (Option.bind_some _ _).symm.trans H | exact H
        have NyB3 := Aside0.mk hy193
        clear hy193
        by_cases c12 : yB3.length + x7_1.length < 17592186044416
        ·
         rw [if_pos c12] at H
         have LMc12 := Aside0.mk c12
         clear c12
         obtain ⟨yC9, hy196⟩ : ∃ y_ : List Int, y_ = (yB3 ++ x7_1) := ⟨_, rfl⟩
         replace H : ((spec_l01Trim.f yC9).bind fun tA0 => ((spec_l01Cmp.f k1 tA0 l1).bind fun tB4 => (if tB4 < 0 then (spec_l01Div.l0 k1 l0 l1 x6_1 tA0 (wrap64 (x8_1 - 1))) else (spec_l01Div.l1 k1 l0 l1 x6_1 tA0 x8_1 0 10000)))) = some (r1, r2) := by subst hy196; first | with_reducible exact H | with_reducible exact (Option.bind_some _ _).symm.trans H | exact H
         have NyC9 := Aside0.mk hy196
         clear hy196
         replace H := Option.bind_eq_some_iff.mp H
         obtain ⟨tA0, AE8, H⟩ := H
         replace H : ((spec_l01Cmp.f k1 tA0 l1).bind fun tB4 => (if tB4 < 0 then (spec_l01Div.l0 k1 l0 l1 x6_1 tA0 (wrap64 (x8_1 - 1))) else (spec_l01Div.l1 k1 l0 l1 x6_1 tA0 x8_1 0 10000))) = some (r1, r2) := H
         have A13 := Aside0.mk AE8
         clear AE8
         replace H := Option.bind_eq_some_iff.mp H
         obtain ⟨tB4, AE9, H⟩ := H
         replace H : (if tB4 < 0 then (spec_l01Div.l0 k1 l0 l1 x6_1 tA0 (wrap64 (x8_1 - 1))) else (spec_l01Div.l1 k1 l0 l1 x6_1 tA0 x8_1 0 10000)) = some (r1, r2) := H
         have A14 := Aside0.mk AE9
         clear AE9
         by_cases c15 : tB4 < 0
         ·
          rw [if_pos c15] at H
          have c15b0 : decide (tB4 < 0) = true := decide_eq_true c15
          clear c15
          have H' := Aside0.mk H
          clear H
          have pA4 : 0 ≤ (x8_1 : Int) := of_decide_eq_true (by first | (with_reducible assumption) | assumption)
          have qA4 : x8_1 < (l0.length : Int) := of_decide_eq_true (by first | (with_reducible assumption) | assumption)
          obtain ⟨adA4, eA4, hxA4_0⟩ := Kd.at_int HR0.out x8_1 pA4 qA4
          cases eA4
          replace hxA4_0 := (HB.out.cell (World.block_lt_of_cell? w _ hxA4_0)).trans hxA4_0
          replace pA4 := eq_true pA4
          replace qA4 := eq_true qA4
          go_wp2_with (first | ((with_reducible refine gate_dst (N := 27) rfl ?_); refine Kd.R_lit (Kd.int .i64) _ 3 ?hg (N := 27) ?hd (xs := ([rd l0 x8_1] : List Int)) (inner := [.int .i64 (rd l0 x8_1)]) (ok := fun _ => True) (okp := fun _ => True) ?hr ?hp (fun _ hk => hk) trivial (Below.refl _ _) (Nat.le_refl _) (by simp) ?_; (case hd => rfl); (case hg => rfl); (case hr => first | (go_simp; done) | (go_simp; rfl)); (case hp => exact (Reps.one (show Kd.M (Kd.int .i64) _ _ _ (rd l0 x8_1) [.int .i64 (rd l0 x8_1)] from rfl) (Reps.none _ _))); intro vE6 w16 ho17 hb hg_ hnew_; clear hg_ hnew_; (first | rw [← NyB3.out] at ho17 | (simp only [Int.reduceToNat] at ho17; rw [← NyB3.out] at ho17)); have HOD8 := lwR (nwR (nwR ho17 HO_6) HO_7) HB; replace HO_6 := eldR HO_6 (Kd.R_base ho17) hb; replace HO_7 := eldR HO_7 (Kd.R_base ho17) hb; replace HB := bst HB hb; clear hb ho17; obtain ⟨Ao19, co19, eo19⟩ := Kd.R_slice HO_7.out; subst eo19) | ((with_reducible refine gate_builtin (b := .append) (xs := #[.tmp 27, .tmp 28]) rfl ?_); at_builtin; refine Kd.R_append_rows (Kd.int .i64) (w0 := w) w.heap.size rfl (.tmp 27) (.tmp 28) 30 3 (.int .i64 0) 8 rfl Try.underlying30 info3 rfl (by decide) (by omega) vE6 yB3 x7_1 _ _ _ (fun k_ => nO k_ vC8 ∧ nO k_ (.slice Ao19 x7_1.length co19)) (fun _ => False) rfl rfl ?aO ?aR (fun _ _ h => h) (fun _ h => h.elim) ?aF ?aB ?aS ?aL ?_; (case aR => exact crC (Kd.R_reads' HO_7.out).2.2); (case aB => exact (blw HB)); (case aF => exact (fun k_ hk => ⟨Kd.fresh' (Kd.R_lt (crR HO_6)) k_ hk, Kd.fresh' (Kd.R_lt (crR HO_7)) k_ hk⟩)); (case aO => exact (crM HOD8 fun _ hk => ⟨hk.1.2, hk.2⟩)); (case aS => exact (bsz HB)); (case aL => have := LMc12.out; omega); intro vG0 w18 ho hb hg hat; rw [← NyC9.out] at ho; replace HO_6 := Aside0.mk (Kd.R_after (ok := (fun k_ => nO k_ (.slice Ao19 x7_1.length co19))) (crR HO_6) hg hat); replace HO_7 := Aside0.mk (Kd.R_after (ok := (fun k_ => nO k_ vC8)) (crR HO_7) hg hat); replace HB := Aside0.mk (hb); have HOB5 := Aside0.mk (ho); clear HOD8; clear ho hb hg hat; obtain ⟨Ao20, co20, eo20⟩ := Kd.R_slice HOB5.out; subst eo20) | ((with_reducible refine gate_callee (f := 83) rfl ?_); refine gL_ (some 30) Try.func83 #[.slice Ao20 yC9.length co20] ?_; (with_reducible refine (spec_l01Trim.calls _ _ yC9 tA0 _ ?side1 ?side2 A13.out).mono ?_); (case side1 => exact crC (Kd.R_reads' HOB5.out).2.2); (case side2 => exact (Kd.R_reads' HOB5.out).2.1); rintro e w21 ⟨vG1, rfl, ho0, hb⟩; refine ⟨_, rfl, ?_⟩; have HOC5 := lwR (nwR (nwR (nwR ho0 HO_6) HO_7) HOB5) HB; replace HO_6 := eldR HO_6 (Kd.R_base ho0) hb; replace HO_7 := eldR HO_7 (Kd.R_base ho0) hb; replace HOB5 := eldR HOB5 (Kd.R_base ho0) hb; replace HB := bst HB hb; (try clear hb); (try clear hb2); (try clear hk); (try clear hi); (try clear ho0); obtain ⟨Ao22, co22, eo22⟩ := Kd.R_slice HOC5.out; subst eo22) | ((with_reducible refine gate_callee (f := 40) rfl ?_); refine gL_ (some 33) Try.func40 #[.slice Ao22 tA0.length co22, .slice A1 l1.length c1] ?_; (with_reducible refine (spec_l01Cmp.calls k1 _ _ tA0 _ _ l1 tB4 _ ?side1 ?side2 ?side3 ?side4 A14.out).mono ?_); (case side1 => exact crC (Kd.R_reads' HOC5.out).2.2); (case side2 => exact (Kd.R_reads' HOC5.out).2.1); (case side3 => exact crC (Kd.C_below HR1.out HB.out)); (case side4 => exact HC1.out); rintro e w' ⟨rfl, ⟨nd, rfl⟩⟩; refine ⟨_, rfl, ?_⟩))
          go_roundg k1
          case measure => have := HK1.out; omega
          case rel => exact ⟨(x6_1), (tA0), (wrap64 (x8_1 - 1)), rs_, H', ⟨by have := HK1.out; omega⟩, ⟨crM HO_6 fun _ hk => hk.2⟩, ⟨crM HOC5 fun _ hk => hk.1.1.2⟩, ⟨blw HB⟩⟩
         ·
          rw [if_neg c15] at H
          have c15b0 : decide (tB4 < 0) = false := decide_eq_false c15
          clear c15
          have H' := Aside0.mk H
          clear H
          have pA4 : 0 ≤ (x8_1 : Int) := of_decide_eq_true (by first | (with_reducible assumption) | assumption)
          have qA4 : x8_1 < (l0.length : Int) := of_decide_eq_true (by first | (with_reducible assumption) | assumption)
          obtain ⟨adA4, eA4, hxA4_0⟩ := Kd.at_int HR0.out x8_1 pA4 qA4
          cases eA4
          replace hxA4_0 := (HB.out.cell (World.block_lt_of_cell? w _ hxA4_0)).trans hxA4_0
          replace pA4 := eq_true pA4
          replace qA4 := eq_true qA4
          go_wp2_with (first | ((with_reducible refine gate_dst (N := 27) rfl ?_); refine Kd.R_lit (Kd.int .i64) _ 3 ?hg (N := 27) ?hd (xs := ([rd l0 x8_1] : List Int)) (inner := [.int .i64 (rd l0 x8_1)]) (ok := fun _ => True) (okp := fun _ => True) ?hr ?hp (fun _ hk => hk) trivial (Below.refl _ _) (Nat.le_refl _) (by simp) ?_; (case hd => rfl); (case hg => rfl); (case hr => first | (go_simp; done) | (go_simp; rfl)); (case hp => exact (Reps.one (show Kd.M (Kd.int .i64) _ _ _ (rd l0 x8_1) [.int .i64 (rd l0 x8_1)] from rfl) (Reps.none _ _))); intro vE6 w23 ho24 hb hg_ hnew_; clear hg_ hnew_; (first | rw [← NyB3.out] at ho24 | (simp only [Int.reduceToNat] at ho24; rw [← NyB3.out] at ho24)); have HOD8 := lwR (nwR (nwR ho24 HO_6) HO_7) HB; replace HO_6 := eldR HO_6 (Kd.R_base ho24) hb; replace HO_7 := eldR HO_7 (Kd.R_base ho24) hb; replace HB := bst HB hb; clear hb ho24; obtain ⟨Ao26, co26, eo26⟩ := Kd.R_slice HO_7.out; subst eo26) | ((with_reducible refine gate_builtin (b := .append) (xs := #[.tmp 27, .tmp 28]) rfl ?_); at_builtin; refine Kd.R_append_rows (Kd.int .i64) (w0 := w) w.heap.size rfl (.tmp 27) (.tmp 28) 30 3 (.int .i64 0) 8 rfl Try.underlying30 info3 rfl (by decide) (by omega) vE6 yB3 x7_1 _ _ _ (fun k_ => nO k_ vC8 ∧ nO k_ (.slice Ao26 x7_1.length co26)) (fun _ => False) rfl rfl ?aO ?aR (fun _ _ h => h) (fun _ h => h.elim) ?aF ?aB ?aS ?aL ?_; (case aR => exact crC (Kd.R_reads' HO_7.out).2.2); (case aB => exact (blw HB)); (case aF => exact (fun k_ hk => ⟨Kd.fresh' (Kd.R_lt (crR HO_6)) k_ hk, Kd.fresh' (Kd.R_lt (crR HO_7)) k_ hk⟩)); (case aO => exact (crM HOD8 fun _ hk => ⟨hk.1.2, hk.2⟩)); (case aS => exact (bsz HB)); (case aL => have := LMc12.out; omega); intro vG0 w25 ho hb hg hat; rw [← NyC9.out] at ho; replace HO_6 := Aside0.mk (Kd.R_after (ok := (fun k_ => nO k_ (.slice Ao26 x7_1.length co26))) (crR HO_6) hg hat); replace HO_7 := Aside0.mk (Kd.R_after (ok := (fun k_ => nO k_ vC8)) (crR HO_7) hg hat); replace HB := Aside0.mk (hb); have HOB5 := Aside0.mk (ho); clear HOD8; clear ho hb hg hat; obtain ⟨Ao27, co27, eo27⟩ := Kd.R_slice HOB5.out; subst eo27) | ((with_reducible refine gate_callee (f := 83) rfl ?_); refine gL_ (some 30) Try.func83 #[.slice Ao27 yC9.length co27] ?_; (with_reducible refine (spec_l01Trim.calls _ _ yC9 tA0 _ ?side1 ?side2 A13.out).mono ?_); (case side1 => exact crC (Kd.R_reads' HOB5.out).2.2); (case side2 => exact (Kd.R_reads' HOB5.out).2.1); rintro e w28 ⟨vG1, rfl, ho0, hb⟩; refine ⟨_, rfl, ?_⟩; have HOC5 := lwR (nwR (nwR (nwR ho0 HO_6) HO_7) HOB5) HB; replace HO_6 := eldR HO_6 (Kd.R_base ho0) hb; replace HO_7 := eldR HO_7 (Kd.R_base ho0) hb; replace HOB5 := eldR HOB5 (Kd.R_base ho0) hb; replace HB := bst HB hb; (try clear hb); (try clear hb2); (try clear hk); (try clear hi); (try clear ho0); obtain ⟨Ao29, co29, eo29⟩ := Kd.R_slice HOC5.out; subst eo29) | ((with_reducible refine gate_callee (f := 40) rfl ?_); refine gL_ (some 33) Try.func40 #[.slice Ao29 tA0.length co29, .slice A1 l1.length c1] ?_; (with_reducible refine (spec_l01Cmp.calls k1 _ _ tA0 _ _ l1 tB4 _ ?side1 ?side2 ?side3 ?side4 A14.out).mono ?_); (case side1 => exact crC (Kd.R_reads' HOC5.out).2.2); (case side2 => exact (Kd.R_reads' HOC5.out).2.1); (case side3 => exact crC (Kd.C_below HR1.out HB.out)); (case side4 => exact HC1.out); rintro e w' ⟨rfl, ⟨nd, rfl⟩⟩; refine ⟨_, rfl, ?_⟩))
          go_loopg [9, 10] k1 (fun kq v9 v10 w' => ∃ (x9_2 : Int) (x10_2 : Int), v9 = .int .i64 x9_2 ∧ v10 = .int .i64 x10_2 ∧ Aside0 (spec_l01Div.l1 kq l0 l1 x6_1 tA0 x8_1 x9_2 x10_2 = some (r1, r2)) ∧ Aside0 (kq ≤ k1) ∧ Aside0 (Kd.R (Kd.int .i64) 3 w' w.heap.size (fun k_ => nO k_ (.slice Ao29 tA0.length co29)) vC8 x6_1) ∧ Aside0 (Kd.R (Kd.int .i64) 3 w' w.heap.size (fun k_ => nO k_ vC8) (.slice Ao29 tA0.length co29) tA0) ∧ Aside0 (Below w.heap.size w w'))
          case atStart => exact ⟨(0), (10000), rs_, rs_, H', ⟨Nat.le_refl _⟩, ⟨crM HO_6 fun _ hk => hk.2⟩, ⟨crM HOC5 fun _ hk => hk.1.1.2⟩, ⟨blw HB⟩⟩
          case round =>
           clear H'
           try clear c1
           try clear p1
           try clear q1
           try clear hx1
           try clear p2
           try clear c3
           try clear c3b0
           try clear c3b1
           try clear c4
           try clear c4b0
           try clear c4b1
           try clear c6
           try clear p6
           try clear c8
           try clear c9
           try clear c9b0
           try clear c10
           try clear c10b0
           try clear c11
           try clear c11b0
           try clear c12
           try clear c15
           try clear c15b0
           try clear p19
           try clear q19
           try clear hx19
           try clear hxA4_0
           try clear pA4
           try clear p2
           try clear p6
           try clear qA4
           obtain ⟨x9_2, x10_2, rfl, rfl, HA, HK2, HO_6, HO_7, HB⟩ := hrel
           cases gk with
           | zero => exact absurd HA.out (by simp [spec_l01Div.l1])
           | succ k2 =>
            have H := HA.out
            clear HA
            simp only [spec_l01Div.l1] at H
            by_cases c30 : (wrap64 (x10_2 - x9_2)) > 1
            ·
             rw [if_pos c30] at H
             have c30b0 : decide (1 < (wrap64 (x10_2 - x9_2))) = true := decide_eq_true c30
             clear c30
             replace H := Option.bind_eq_some_iff.mp H
             obtain ⟨tC4, AF0, H⟩ := H
             replace H : ((spec_l01Mul.f k2 l1 tC4).bind fun tB9 => ((spec_l01Cmp.f k2 tB9 tA0).bind fun tB7 => (if tB7 ≤ 0 then (spec_l01Div.l1 k2 l0 l1 x6_1 tA0 x8_1 (wrap64 (Int.tdiv (wrap64 (x9_2 + x10_2)) 2)) x10_2) else (spec_l01Div.l1 k2 l0 l1 x6_1 tA0 x8_1 x9_2 (wrap64 (Int.tdiv (wrap64 (x9_2 + x10_2)) 2)))))) = some (r1, r2) := H
             have A31 := Aside0.mk AF0
             clear AF0
             replace H := Option.bind_eq_some_iff.mp H
             obtain ⟨tB9, AF1, H⟩ := H
             replace H : ((spec_l01Cmp.f k2 tB9 tA0).bind fun tB7 => (if tB7 ≤ 0 then (spec_l01Div.l1 k2 l0 l1 x6_1 tA0 x8_1 (wrap64 (Int.tdiv (wrap64 (x9_2 + x10_2)) 2)) x10_2) else (spec_l01Div.l1 k2 l0 l1 x6_1 tA0 x8_1 x9_2 (wrap64 (Int.tdiv (wrap64 (x9_2 + x10_2)) 2))))) = some (r1, r2) := H
             have A32 := Aside0.mk AF1
             clear AF1
             replace H := Option.bind_eq_some_iff.mp H
             obtain ⟨tB7, AF2, H⟩ := H
             replace H : (if tB7 ≤ 0 then (spec_l01Div.l1 k2 l0 l1 x6_1 tA0 x8_1 (wrap64 (Int.tdiv (wrap64 (x9_2 + x10_2)) 2)) x10_2) else (spec_l01Div.l1 k2 l0 l1 x6_1 tA0 x8_1 x9_2 (wrap64 (Int.tdiv (wrap64 (x9_2 + x10_2)) 2)))) = some (r1, r2) := H
             have A33 := Aside0.mk AF2
             clear AF2
             by_cases c34 : tB7 ≤ 0
             ·
              rw [if_pos c34] at H
              have c34b0 : decide (tB7 ≤ 0) = true := decide_eq_true c34
              clear c34
              have H' := Aside0.mk H
              clear H
              go_wp2_with (first | ((with_reducible refine gate_callee (f := 73) rfl ?_); refine gL_ (some 45) Try.func73 #[.int .i64 (wrap64 (Int.tdiv (wrap64 (x9_2 + x10_2)) 2))] ?_; (with_reducible refine (spec_l01Small.calls k2 (wrap64 (Int.tdiv (wrap64 (x9_2 + x10_2)) 2)) tC4 _ A31.out).mono ?_); rintro e w35 ⟨vG2, rfl, ho0, hb⟩; refine ⟨_, rfl, ?_⟩; have HOB6 := lwR (nwR (nwR ho0 HO_6) HO_7) HB; replace HO_6 := eldR HO_6 (Kd.R_base ho0) hb; replace HO_7 := eldR HO_7 (Kd.R_base ho0) hb; replace HB := bst HB hb; (try clear hb); (try clear hb2); (try clear hk); (try clear hi); (try clear ho0); obtain ⟨Ao36, co36, eo36⟩ := Kd.R_slice HOB6.out; subst eo36) | ((with_reducible refine gate_callee (f := 74) rfl ?_); refine gL_ (some 46) Try.func74 #[.slice A1 l1.length c1, .slice Ao36 tC4.length co36] ?_; (with_reducible refine (spec_l01Mul.calls k2 _ _ l1 _ _ tC4 tB9 _ ?side1 ?side2 ?side3 ?side4 A32.out).mono ?_); (case side1 => exact crC (Kd.C_below HR1.out HB.out)); (case side2 => exact HC1.out); (case side3 => exact crC (Kd.R_reads' HOB6.out).2.2); (case side4 => exact (Kd.R_reads' HOB6.out).2.1); rintro e w37 ⟨vG3, rfl, ho0, hb⟩; refine ⟨_, rfl, ?_⟩; have HOD3 := lwR (nwR (nwR (nwR ho0 HO_6) HO_7) HOB6) HB; replace HO_6 := eldR HO_6 (Kd.R_base ho0) hb; replace HO_7 := eldR HO_7 (Kd.R_base ho0) hb; replace HOB6 := eldR HOB6 (Kd.R_base ho0) hb; replace HB := bst HB hb; (try clear hb); (try clear hb2); (try clear hk); (try clear hi); (try clear ho0); obtain ⟨Ao38, co38, eo38⟩ := Kd.R_slice HOD3.out; subst eo38) | ((with_reducible refine gate_callee (f := 40) rfl ?_); refine gL_ (some 48) Try.func40 #[.slice Ao38 tB9.length co38, .slice Ao29 tA0.length co29] ?_; (with_reducible refine (spec_l01Cmp.calls k2 _ _ tB9 _ _ tA0 tB7 _ ?side1 ?side2 ?side3 ?side4 A33.out).mono ?_); (case side1 => exact crC (Kd.R_reads' HOD3.out).2.2); (case side2 => exact (Kd.R_reads' HOD3.out).2.1); (case side3 => exact crC (Kd.R_reads' HO_7.out).2.2); (case side4 => exact (Kd.R_reads' HO_7.out).2.1); rintro e w' ⟨rfl, ⟨nd, rfl⟩⟩; refine ⟨_, rfl, ?_⟩))
              go_roundg k2
              case measure => have := HK1.out; have := HK2.out; omega
              case rel => exact ⟨(wrap64 (Int.tdiv (wrap64 (x9_2 + x10_2)) 2)), (x10_2), rs_, rs_, H', ⟨by have := HK1.out; have := HK2.out; omega⟩, ⟨crM HO_6 fun _ hk => hk.1.1⟩, ⟨crM HO_7 fun _ hk => hk.1.1⟩, ⟨blw HB⟩⟩
             ·
              rw [if_neg c34] at H
              have c34b0 : decide (tB7 ≤ 0) = false := decide_eq_false c34
              clear c34
              have H' := Aside0.mk H
              clear H
              go_wp2_with (first | ((with_reducible refine gate_callee (f := 73) rfl ?_); refine gL_ (some 45) Try.func73 #[.int .i64 (wrap64 (Int.tdiv (wrap64 (x9_2 + x10_2)) 2))] ?_; (with_reducible refine (spec_l01Small.calls k2 (wrap64 (Int.tdiv (wrap64 (x9_2 + x10_2)) 2)) tC4 _ A31.out).mono ?_); rintro e w39 ⟨vG2, rfl, ho0, hb⟩; refine ⟨_, rfl, ?_⟩; have HOB6 := lwR (nwR (nwR ho0 HO_6) HO_7) HB; replace HO_6 := eldR HO_6 (Kd.R_base ho0) hb; replace HO_7 := eldR HO_7 (Kd.R_base ho0) hb; replace HB := bst HB hb; (try clear hb); (try clear hb2); (try clear hk); (try clear hi); (try clear ho0); obtain ⟨Ao40, co40, eo40⟩ := Kd.R_slice HOB6.out; subst eo40) | ((with_reducible refine gate_callee (f := 74) rfl ?_); refine gL_ (some 46) Try.func74 #[.slice A1 l1.length c1, .slice Ao40 tC4.length co40] ?_; (with_reducible refine (spec_l01Mul.calls k2 _ _ l1 _ _ tC4 tB9 _ ?side1 ?side2 ?side3 ?side4 A32.out).mono ?_); (case side1 => exact crC (Kd.C_below HR1.out HB.out)); (case side2 => exact HC1.out); (case side3 => exact crC (Kd.R_reads' HOB6.out).2.2); (case side4 => exact (Kd.R_reads' HOB6.out).2.1); rintro e w41 ⟨vG3, rfl, ho0, hb⟩; refine ⟨_, rfl, ?_⟩; have HOD3 := lwR (nwR (nwR (nwR ho0 HO_6) HO_7) HOB6) HB; replace HO_6 := eldR HO_6 (Kd.R_base ho0) hb; replace HO_7 := eldR HO_7 (Kd.R_base ho0) hb; replace HOB6 := eldR HOB6 (Kd.R_base ho0) hb; replace HB := bst HB hb; (try clear hb); (try clear hb2); (try clear hk); (try clear hi); (try clear ho0); obtain ⟨Ao42, co42, eo42⟩ := Kd.R_slice HOD3.out; subst eo42) | ((with_reducible refine gate_callee (f := 40) rfl ?_); refine gL_ (some 48) Try.func40 #[.slice Ao42 tB9.length co42, .slice Ao29 tA0.length co29] ?_; (with_reducible refine (spec_l01Cmp.calls k2 _ _ tB9 _ _ tA0 tB7 _ ?side1 ?side2 ?side3 ?side4 A33.out).mono ?_); (case side1 => exact crC (Kd.R_reads' HOD3.out).2.2); (case side2 => exact (Kd.R_reads' HOD3.out).2.1); (case side3 => exact crC (Kd.R_reads' HO_7.out).2.2); (case side4 => exact (Kd.R_reads' HO_7.out).2.1); rintro e w' ⟨rfl, ⟨nd, rfl⟩⟩; refine ⟨_, rfl, ?_⟩))
              go_roundg k2
              case measure => have := HK1.out; have := HK2.out; omega
              case rel => exact ⟨(x9_2), (wrap64 (Int.tdiv (wrap64 (x9_2 + x10_2)) 2)), rs_, rs_, H', ⟨by have := HK1.out; have := HK2.out; omega⟩, ⟨crM HO_6 fun _ hk => hk.1.1⟩, ⟨crM HO_7 fun _ hk => hk.1.1⟩, ⟨blw HB⟩⟩
            ·
             rw [if_neg c30] at H
             have c30b0 : decide (1 < (wrap64 (x10_2 - x9_2))) = false := decide_eq_false c30
             clear c30
             by_cases c43 : 0 ≤ x8_1
             ·
              rw [if_pos c43] at H
              have c43b0 : decide (0 ≤ x8_1) = true := decide_eq_true c43
              clear c43
              by_cases c44 : x8_1 < (x6_1.length : Int)
              ·
               rw [if_pos c44] at H
               have c44b0 : decide (x8_1 < (x6_1.length : Int)) = true := decide_eq_true c44
               clear c44
               obtain ⟨yD0, hy203⟩ : ∃ y_ : List Int, y_ = (x6_1.set (x8_1 : Int).toNat x9_2) := ⟨_, rfl⟩
               replace H : ((spec_l01Small.f k2 x9_2).bind fun tC7 => ((spec_l01Mul.f k2 l1 tC7).bind fun tC3 => ((spec_l01Sub.f k2 tA0 tC3).bind fun tC0 => (spec_l01Div.l0 k2 l0 l1 yD0 tC0 (wrap64 (x8_1 - 1)))))) = some (r1, r2) := by subst hy203; first | with_reducible exact H | with_reducible exact (Option.bind_some _ _).symm.trans H | exact H
               have NyD0 := Aside0.mk hy203
               clear hy203
               replace H := Option.bind_eq_some_iff.mp H
               obtain ⟨tC7, AF3, H⟩ := H
               replace H : ((spec_l01Mul.f k2 l1 tC7).bind fun tC3 => ((spec_l01Sub.f k2 tA0 tC3).bind fun tC0 => (spec_l01Div.l0 k2 l0 l1 yD0 tC0 (wrap64 (x8_1 - 1))))) = some (r1, r2) := H
               have A46 := Aside0.mk AF3
               clear AF3
               replace H := Option.bind_eq_some_iff.mp H
               obtain ⟨tC3, AF4, H⟩ := H
               replace H : ((spec_l01Sub.f k2 tA0 tC3).bind fun tC0 => (spec_l01Div.l0 k2 l0 l1 yD0 tC0 (wrap64 (x8_1 - 1)))) = some (r1, r2) := H
               have A47 := Aside0.mk AF4
               clear AF4
               replace H := Option.bind_eq_some_iff.mp H
               obtain ⟨tC0, AF5, H⟩ := H
               replace H : (spec_l01Div.l0 k2 l0 l1 yD0 tC0 (wrap64 (x8_1 - 1))) = some (r1, r2) := H
               have A48 := Aside0.mk AF5
               clear AF5
               have H' := Aside0.mk H
               clear H
               have p45 : 0 ≤ (x8_1 : Int) := of_decide_eq_true (by first | (with_reducible assumption) | assumption)
               have q45 : (x8_1 : Int) < ((x6_1.length : Int) : Int) := of_decide_eq_true (by first | (with_reducible assumption) | assumption)
               obtain ⟨go45, co45, eo45, gb45, gl45, cl45, HG45⟩ := Kd.R_form HO_6.out (by omega)
               (first | cases eo45 | (injection eo45 with ea_ en_ ec_; (first | subst ea_ | (injection ea_ with ea_; subst ea_)); subst ec_; clear en_))
               have GB45 := Aside0.mk gb45
               have GG45 := Aside0.mk HG45
               clear gb45 gl45 HG45
               obtain ⟨hx45_0, hf45_0⟩ := Kd.R_celln 0 HO_6.out (x8_1 : Int) p45 q45
               replace p45 := eq_true p45
               replace q45 := eq_true q45
               have HP49 := Kd.R_putg HO_6.out (x8_1 : Int) x9_2
               go_wp2_with (first | ((with_reducible refine gate_store (t := 3) (p := 55) rfl ?_); refine store_event (t := 3) (p := 55) (v := ?vo_w50) (w1 := (wr.setCell ⟨go45, (x8_1 : Int).toNat, none⟩ (.int .i64 x9_2))) ?hg ?ho ?hn ?hr ?_; (case ho => rfl); (case hg => rfl); (case hn => rfl); (case hr => first | (go_simp; done) | (go_simp; rfl)); intro w50 hw; have hg : wr.grownBy w50 (some go45) := (by rw [hw]; exact HP49.2); have hp_ : Kd.R (Kd.int .i64) 3 w50 w.heap.size (fun k_ => nO k_ (.slice Ao29 tA0.length co29)) (.slice (some ⟨go45, 0, none⟩) x6_1.length co45) yD0 := (by rw [hw, NyD0.out]; exact HP49.1); clear HP49; replace HO_6 := Aside0.mk (hp_); replace HO_7 := Aside0.mk (Kd.R_after (v := (.slice (some ⟨go45, 0, none⟩) x6_1.length co45)) (v1 := (.slice (some ⟨go45, 0, none⟩) x6_1.length co45)) (ok := (fun _ => True)) (crM HO_7 fun _ hk => ⟨trivial, hk⟩) hg (.inl rfl)); replace HB := Aside0.mk ((by rw [hw]; exact below_set (HB.out) GB45.out : Below w.heap.size w w50)); clear hg hw hp_) | ((with_reducible refine gate_callee (f := 73) rfl ?_); refine gL_ (some 59) Try.func73 #[.int .i64 x9_2] ?_; (with_reducible refine (spec_l01Small.calls k2 x9_2 tC7 _ A46.out).mono ?_); rintro e w51 ⟨vH4, rfl, ho0, hb⟩; refine ⟨_, rfl, ?_⟩; have HOC6 := lwR (nwR (nwR ho0 HO_6) HO_7) HB; replace HO_6 := eldR HO_6 (Kd.R_base ho0) hb; replace HO_7 := eldR HO_7 (Kd.R_base ho0) hb; replace HB := bst HB hb; (try clear hb); (try clear hb2); (try clear hk); (try clear hi); (try clear ho0); obtain ⟨Ao52, co52, eo52⟩ := Kd.R_slice HOC6.out; subst eo52) | ((with_reducible refine gate_callee (f := 74) rfl ?_); refine gL_ (some 60) Try.func74 #[.slice A1 l1.length c1, .slice Ao52 tC7.length co52] ?_; (with_reducible refine (spec_l01Mul.calls k2 _ _ l1 _ _ tC7 tC3 _ ?side1 ?side2 ?side3 ?side4 A47.out).mono ?_); (case side1 => exact crC (Kd.C_below HR1.out HB.out)); (case side2 => exact HC1.out); (case side3 => exact crC (Kd.R_reads' HOC6.out).2.2); (case side4 => exact (Kd.R_reads' HOC6.out).2.1); rintro e w53 ⟨vH5, rfl, ho0, hb⟩; refine ⟨_, rfl, ?_⟩; have HOD5 := lwR (nwR (nwR (nwR ho0 HO_6) HO_7) HOC6) HB; replace HO_6 := eldR HO_6 (Kd.R_base ho0) hb; replace HO_7 := eldR HO_7 (Kd.R_base ho0) hb; replace HOC6 := eldR HOC6 (Kd.R_base ho0) hb; replace HB := bst HB hb; (try clear hb); (try clear hb2); (try clear hk); (try clear hi); (try clear ho0); obtain ⟨Ao54, co54, eo54⟩ := Kd.R_slice HOD5.out; subst eo54) | ((with_reducible refine gate_callee (f := 77) rfl ?_); refine gL_ (some 61) Try.func77 #[.slice Ao29 tA0.length co29, .slice Ao54 tC3.length co54] ?_; (with_reducible refine (spec_l01Sub.calls k2 _ _ tA0 _ _ tC3 tC0 _ ?side1 ?side2 ?side3 ?side4 A48.out).mono ?_); (case side1 => exact crC (Kd.R_reads' HO_7.out).2.2); (case side2 => exact (Kd.R_reads' HO_7.out).2.1); (case side3 => exact crC (Kd.R_reads' HOD5.out).2.2); (case side4 => exact (Kd.R_reads' HOD5.out).2.1); rintro e w55 ⟨vH6, rfl, ho0, hb⟩; refine ⟨_, rfl, ?_⟩; have HOG4 := lwR (nwR (nwR (nwR (nwR ho0 HO_6) HO_7) HOC6) HOD5) HB; replace HO_6 := eldR HO_6 (Kd.R_base ho0) hb; replace HO_7 := eldR HO_7 (Kd.R_base ho0) hb; replace HOC6 := eldR HOC6 (Kd.R_base ho0) hb; replace HOD5 := eldR HOD5 (Kd.R_base ho0) hb; replace HB := bst HB hb; (try clear hb); (try clear hb2); (try clear hk); (try clear hi); (try clear ho0)))
               go_roundg k2
               case measure => have := HK1.out; have := HK2.out; omega
               case rel => exact ⟨(yD0), (tC0), (wrap64 (x8_1 - 1)), rs_, H', ⟨by have := HK1.out; have := HK2.out; omega⟩, ⟨crM HO_6 fun _ hk => hk.2⟩, ⟨crM HOG4 fun _ hk => hk.1.1.1.2⟩, ⟨blw HB⟩⟩
              ·
               rw [if_neg c44] at H
               exact absurd H (by simp)
             ·
              rw [if_neg c43] at H
              exact absurd H (by simp)
        ·
         rw [if_neg c12] at H
         exact absurd H (by simp)
       ·
        rw [if_neg c11] at H
        exact absurd H (by simp)
      ·
       rw [if_neg c10] at H
       exact absurd H (by simp)
     ·
      rw [if_neg c9] at H
      have c9b0 : decide (0 ≤ x8_1) = false := decide_eq_false c9
      clear c9
      replace H := Option.bind_eq_some_iff.mp H
      obtain ⟨tE2, AF6, H⟩ := H
      replace H : (some (tE2, x7_1)) = some (r1, r2) := H
      have A56 := Aside0.mk AF6
      clear AF6
      simp only [Option.some.injEq, Prod.mk.injEq] at H
      obtain ⟨rfl, rfl⟩ := H
      obtain ⟨Ao57, co57, eo57⟩ := Kd.R_slice HO_6.out
      subst eo57
      go_wp2_with (first | ((with_reducible refine gate_callee (f := 83) rfl ?_); refine gL_ (some 63) Try.func83 #[.slice Ao57 x6_1.length co57] ?_; (with_reducible refine (spec_l01Trim.calls _ _ x6_1 tE2 _ ?side1 ?side2 A56.out).mono ?_); (case side1 => exact crC (Kd.R_reads' HO_6.out).2.2); (case side2 => exact (Kd.R_reads' HO_6.out).2.1); rintro e w58 ⟨vH7, rfl, ho0, hb⟩; refine ⟨_, rfl, ?_⟩; have HOG5 := lwR (nwR (nwR ho0 HO_6) HO_7) HB; replace HO_6 := eldR HO_6 (Kd.R_base ho0) hb; replace HO_7 := eldR HO_7 (Kd.R_base ho0) hb; replace HB := bst HB hb; (try clear hb); (try clear hb2); (try clear hk); (try clear hi); (try clear ho0)))
      go_ret2
      exact ⟨_, _, er_, by (with_reducible repeat (first | apply Kd.R_alloc | apply Kd.R_drewN | apply Kd.R_drew)); exact Kd.R_mono HOG5.out (fun _ hk => hk.2), by (with_reducible repeat (first | apply Kd.R_alloc | apply Kd.R_drewN | apply Kd.R_drew)); exact Kd.R_mono HO_7.out (fun _ hk => hk.2), blw HB⟩
  ·
   rw [if_neg c4] at H
   exact absurd H (by simp)
 ·
  rw [if_neg c3] at H
  exact absurd H (by simp)

def impl_natOf.l0 : Nat → Int → List Int → Option (List Int)
 | 0, _, _ => none
 | k + 1, x0, x3 => if x0 > 0 then (if x3.length < 17592186044416 then (impl_natOf.l0 k (wrap64 (Int.tdiv x0 10000)) (x3 ++ [Int.tmod x0 10000])) else (none)) else (some x3)
def impl_natOf.f (k : Nat) (a0 : Int) : Option (List Int) := impl_natOf.l0 k a0 (([] : List Int))
theorem impl_natOf.mono_l : ∀ k, (∀ y0 y1, LeO (impl_natOf.l0 k y0 y1) (impl_natOf.l0 (k + 1) y0 y1))
 | 0 => fun _ _ r h => by simp [impl_natOf.l0] at h
 | k + 1 => by
  have ih0 := impl_natOf.mono_l k
  ·
   intro y0 y1
   unfold impl_natOf.l0
   repeat' first
   | (with_reducible exact ih0 _ _)
   | (with_reducible exact LeO.refl _)
   | (with_reducible exact LeO.none _)
   | (with_reducible refine LeO.ite ?_ ?_)
   | (with_reducible refine LeO.bind ?_ (fun _ => ?_))
   | exact ih0 _ _
   | exact LeO.none _
   | refine LeO.ite ?_ ?_
   | refine LeO.bind ?_ (fun _ => ?_)
theorem impl_natOf.mono : ∀ a0 k, LeO (impl_natOf.f k a0) (impl_natOf.f (k + 1) a0) := by
 intro a0 k
 have ih0 := impl_natOf.mono_l k
 unfold impl_natOf.f
 repeat' first
   | (with_reducible exact ih0 _ _)
   | (with_reducible exact LeO.refl _)
   | (with_reducible exact LeO.none _)
   | (with_reducible refine LeO.ite ?_ ?_)
   | (with_reducible refine LeO.bind ?_ (fun _ => ?_))
   | exact ih0 _ _
   | exact LeO.none _
   | refine LeO.ite ?_ ?_
   | refine LeO.bind ?_ (fun _ => ?_)
set_option maxHeartbeats 8000000 in
set_option maxRecDepth 100000 in
theorem impl_natOf.calls (k : Nat) (a0 : Int) (r : List Int) (w : World) (h : impl_natOf.f k a0 = some r) :
  Calls Try.prog 79 #[.int .i64 a0] w fun e w' => ∃ v0_ : Value, e = .returned (v0_) ∧ Kd.R (Kd.int .i64) 3 w' w.heap.size (fun _ => True) v0_ r ∧ Below w.heap.size w w' := by
 have HB := Aside0.mk (Below.refl w.heap.size w)
 have H : (impl_natOf.l0 k a0 (([] : List Int))) = some r := h
 clear h
 obtain ⟨yD9, hy442⟩ : ∃ y_ : List Int, y_ = (([] : List Int)) := ⟨_, rfl⟩
 replace H : (impl_natOf.l0 k a0 yD9) = some r := by subst hy442; first | with_reducible exact H | with_reducible exact (Option.bind_some _ _).symm.trans H | exact H
 have NyD9 := Aside0.mk hy442
 clear hy442
 have H' := Aside0.mk H
 clear H
 go_enter Try.func79, Try.ntmps79
 go_wp2_with (first | ((with_reducible refine gate_dst (N := 4) rfl ?_); refine Kd.R_lit (Kd.int .i64) _ 3 ?hg (N := 4) ?hd (xs := ([] : List Int)) (inner := []) (ok := fun _ => True) (okp := fun _ => True) ?hr ?hp (fun _ hk => hk) trivial (Below.refl _ _) (Nat.le_refl _) (by simp) ?_; (case hd => rfl); (case hg => rfl); (case hr => first | (go_simp; done) | (go_simp; rfl)); (case hp => exact (Reps.none _ _)); intro vH8 w2 ho3 hb hg_ hnew_; clear hg_ hnew_; (first | rw [← NyD9.out] at ho3 | (simp only [Int.reduceToNat] at ho3; rw [← NyD9.out] at ho3)); have HOG6 := lwR ho3 HB; replace HB := bst HB hb; clear hb ho3))
 go_loopg [0, 3] k (fun kq v0 v3 w' => ∃ (x0_1 : Int) (x3_1 : List Int), v0 = .int .i64 x0_1 ∧ Aside0 (impl_natOf.l0 kq x0_1 x3_1 = some r) ∧ Aside0 (kq ≤ k) ∧ Aside0 (Kd.R (Kd.int .i64) 3 w' w.heap.size (fun _ => True) v3 x3_1) ∧ Aside0 (Below w.heap.size w w'))
 case atStart => exact ⟨(a0), (yD9), rs_, H', ⟨Nat.le_refl _⟩, ⟨crR HOG6⟩, ⟨blw HB⟩⟩
 case round =>
  clear H'
  try clear p2
  obtain ⟨x0_1, x3_1, rfl, HA, HK1, HO_3, HB⟩ := hrel
  cases gk with
  | zero => exact absurd HA.out (by simp [impl_natOf.l0])
  | succ k1 =>
   have H := HA.out
   clear HA
   simp only [impl_natOf.l0] at H
   by_cases c4 : x0_1 > 0
   ·
    rw [if_pos c4] at H
    have c4b0 : decide (0 < x0_1) = true := decide_eq_true c4
    clear c4
    by_cases c5 : x3_1.length < 17592186044416
    ·
     rw [if_pos c5] at H
     have LMc5 := Aside0.mk c5
     clear c5
     obtain ⟨yE4, hy445⟩ : ∃ y_ : List Int, y_ = (x3_1 ++ [Int.tmod x0_1 10000]) := ⟨_, rfl⟩
     replace H : (impl_natOf.l0 k1 (wrap64 (Int.tdiv x0_1 10000)) yE4) = some r := by subst hy445; first | with_reducible exact H | with_reducible exact (Option.bind_some _ _).symm.trans H | exact H
     have NyE4 := Aside0.mk hy445
     clear hy445
     have H' := Aside0.mk H
     clear H
     go_wp2_with (first | ((with_reducible refine gate_builtin (b := .append) (xs := #[.tmp 9, .tmp 12]) rfl ?_); at_builtin; refine Kd.R_append (Kd.int .i64) (w0 := w) w.heap.size rfl (.tmp 9) (.tmp 12) 30 3 (.int .i64 0) 8 rfl Try.underlying30 info3 rfl (by decide) (by omega) u3 x3_1 (Int.tmod x0_1 10000) [.int .i64 (Int.tmod x0_1 10000)] (fun _ => True) (fun _ => False) rfl rfl ?aP (fun _ hk => hk.elim) ?aF ?aO ?aB ?aS ?aL ?_; (case aP => exact rfl); (case aB => exact (blw HB)); (case aF => exact (fun _ _ => trivial)); (case aO => exact (crR HO_3)); (case aS => exact (bsz HB)); (case aL => have := LMc5.out; omega); intro vH9 w6 ho hb hg hat; rw [← NyE4.out] at ho; replace HB := Aside0.mk (hb); have HOG7 := Aside0.mk (ho); clear HO_3; clear ho hb hg hat))
     go_roundg k1
     case measure => have := HK1.out; omega
     case rel => exact ⟨(wrap64 (Int.tdiv x0_1 10000)), (yE4), rs_, H', ⟨by have := HK1.out; omega⟩, ⟨crR HOG7⟩, ⟨blw HB⟩⟩
    ·
     rw [if_neg c5] at H
     exact absurd H (by simp)
   ·
    rw [if_neg c4] at H
    have c4b0 : decide (0 < x0_1) = false := decide_eq_false c4
    clear c4
    obtain rfl := Option.some.inj H
    go_wp2
    go_ret
    exact ⟨_, er_, by (with_reducible repeat (first | apply Kd.R_alloc | apply Kd.R_drewN | apply Kd.R_drew)); exact HO_3.out, blw HB⟩

/-- A row of whole numbers, as a block's cells. -/
def mk64 (T : List Value) (l : List Int) : Array Value := (l.map (Value.int .i64) ++ T).toArray
theorem mk64_cell {w : World} {g : Nat} {t : TypeId} {T : List Value} {l : List Int} {k : Nat} {x : Int} (h : w.heap[g]? = some (.cells (mk64 T l) t (0, 0))) (hx : l[k]? = some x) : w.cell? ⟨g, k, none⟩ = some (.int .i64 x) := by
 have hk := (List.getElem?_eq_some_iff.1 hx).1
 refine (blk_cell h k).trans ?_
 rw [mk64, List.getElem?_toArray, List.getElem?_append_left (by simpa using hk), List.getElem?_map, hx]; rfl
theorem mk64_set {w : World} {g : Nat} {t : TypeId} {T : List Value} {l : List Int} {k : Nat} (x : Int) (hk : k < l.length) (h : w.heap[g]? = some (.cells (mk64 T l) t (0, 0))) : (w.setCell ⟨g, k, none⟩ (.int .i64 x)).heap[g]? = some (.cells (mk64 T (l.set k x)) t (0, 0)) := by
 have := blk_set h k (.int .i64 x)
 rw [this]
 simp only [mk64, List.map_set, List.setIfInBounds_toArray]
 rw [List.set_append_left _ _ (by simpa using hk)]
theorem mid_at {P D R S : List Int} {r : Int} {k : Nat} (hk : k = P.length + D.length) : (P ++ (D ++ r :: R) ++ S)[k]? = some r := by
 subst hk
 rw [List.append_assoc, List.getElem?_append_right (by omega), Nat.add_sub_cancel_left, List.append_assoc, List.getElem?_append_right (Nat.le_refl _), Nat.sub_self]
 rfl
theorem mid_set {P D R S : List Int} {r x : Int} {k : Nat} (hk : k = P.length + D.length) : (P ++ (D ++ r :: R) ++ S).set k x = P ++ ((D ++ [x]) ++ R) ++ S := by
 subst hk
 rw [List.append_assoc, List.set_append_right _ _ (by omega), Nat.add_sub_cancel_left, List.append_assoc, List.set_append_right _ _ (Nat.le_refl _), Nat.sub_self]
 simp
theorem drop_head (l : List Int) (k : Nat) : (l.drop k).headD 0 = l[k]?.getD 0 := by
 rw [List.headD_eq_head?_getD, List.head?_drop]
theorem dig_round {D R W1 l1 : List Int} {q r c C1 c' d' y : Int} (E1 : D ++ (Pn.pas q (r :: R) (l1.drop D.length) c).1 = W1) (E2 : (Pn.pas q (r :: R) (l1.drop D.length) c).2 = C1)
  (hy : l1[D.length]?.getD 0 = y) (hc' : c' = (r + c - q * y) / 10000) (hd' : d' = (r + c - q * y) % 10000) :
  (D ++ [d']) ++ (Pn.pas q R (l1.drop (D ++ [d']).length) c').1 = W1 ∧ (Pn.pas q R (l1.drop (D ++ [d']).length) c').2 = C1 := by
 simp only [Pn.pas, drop_head, hy, ← hc', ← hd', List.tail_drop] at E1 E2
 rw [List.length_append, List.length_singleton, List.append_assoc]
 exact ⟨E1, E2⟩
theorem len_snoc {D R : List Int} {r d : Int} {n : Nat} (h : D.length + (r :: R).length = n) : (D ++ [d]).length + R.length = n := by
 simp at h ⊢; omega
theorem len_lt {D R : List Int} {r : Int} {n : Nat} (h : D.length + (r :: R).length = n) : D.length < n := by
 simp at h; omega
theorem win_set {w : World} {g : Nat} {t : TypeId} {T : List Value} {P D R S : List Int} {r d : Int} (h : w.heap[g]? = some (.cells (mk64 T (P ++ (D ++ r :: R) ++ S)) t (0, 0))) :
  (w.setCell ⟨g, P.length + D.length, none⟩ (.int .i64 d)).heap[g]? = some (.cells (mk64 T (P ++ ((D ++ [d]) ++ R) ++ S)) t (0, 0)) := by
 rw [← mid_set rfl]; exact mk64_set _ (by simp) h
set_option maxHeartbeats 4000000 in
set_option maxRecDepth 100000 in
theorem impl_natDigit.calls (g cap : Nat) (t : TypeId) (T : List Value) (P W S : List Int) (n : Nat) (A1 : Option Addr) (c1 : Nat) (l1 : List Int) (base : Nat) (w0 w : World)
  (hg : w.heap[g]? = some (.cells (mk64 T (P ++ W ++ S)) t (0, 0))) (hbig : W.length ≤ 4294967296) (hbase : base ≤ g) (hB : Below base w0 w)
  (hr1 : Kd.C (Kd.int .i64) w A1 l1.length l1) (hc1 : l1.length ≤ c1) (hne : ∀ ad, A1 = some ad → 0 < l1.length → ad.block ≠ g)
  (hW : W.length = n + 3) (hb : l1.length = n + 2) (lw : Pn.Lm W) (lb : Pn.Lm l1) (htop : 0 < l1[n + 1]?.getD 0) (hlt : Pn.vl W < 10000 * Pn.vl l1) :
  Calls Try.prog 94 #[.slice (some ⟨g, P.length, none⟩) W.length cap, .slice A1 l1.length c1] w fun e w' => ∃ W1, e = .returned (.int .i64 (Pn.vl W / Pn.vl l1)) ∧ Pn.Lm W1 ∧ W1.length = W.length ∧ Pn.vl W1 = Pn.vl W % Pn.vl l1 ∧ w'.heap[g]? = some (.cells (mk64 T (P ++ W1 ++ S)) t (0, 0)) ∧ Below base w0 w' ∧ KeepBut w w' g none := by
 have HR := Aside0.mk (Kd.C_foot_ne (g := g) (fun h => h) hr1 hne)
 obtain ⟨ad, rfl⟩ : ∃ ad, A1 = some ad := by
  obtain ⟨ad, e, _⟩ := hr1.2.2 (by omega)
  exact ⟨ad, e⟩
 have HG := Aside0.mk hg
 have HK := Aside0.mk (KeepBut.refl w g none)
 have HB := Aside0.mk hB
 clear hr1 hne hg hB
 have hw0 := mk64_cell (k := P.length + n) (x := W[n]?.getD 0) HG.out (by rw [List.append_assoc, List.getElem?_append_right (by omega), Nat.add_sub_cancel_left, List.getElem?_append_left (by omega), List.getElem?_eq_getElem (by omega)]; rfl)
 have hw1 := mk64_cell (k := P.length + (n + 1)) (x := W[n + 1]?.getD 0) HG.out (by rw [List.append_assoc, List.getElem?_append_right (by omega), Nat.add_sub_cancel_left, List.getElem?_append_left (by omega), List.getElem?_eq_getElem (by omega)]; rfl)
 have hw2 := mk64_cell (k := P.length + (n + 2)) (x := W[n + 2]?.getD 0) HG.out (by rw [List.append_assoc, List.getElem?_append_right (by omega), Nat.add_sub_cancel_left, List.getElem?_append_left (by omega), List.getElem?_eq_getElem (by omega)]; rfl)
 have hn64 : (n : Int) < 4294967296 := by omega
 have hvw0 : 0 ≤ W[n]?.getD 0 ∧ W[n]?.getD 0 < 10000 := lw _ (by rw [List.getElem?_eq_getElem (by omega)]; exact List.getElem_mem _)
 have hvw1 : 0 ≤ W[n + 1]?.getD 0 ∧ W[n + 1]?.getD 0 < 10000 := lw _ (by rw [List.getElem?_eq_getElem (by omega)]; exact List.getElem_mem _)
 have hvw2 : 0 ≤ W[n + 2]?.getD 0 ∧ W[n + 2]?.getD 0 < 10000 := lw _ (by rw [List.getElem?_eq_getElem (by omega)]; exact List.getElem_mem _)
 have hvb0 : 0 ≤ l1[n]?.getD 0 ∧ l1[n]?.getD 0 < 10000 := lb _ (by rw [List.getElem?_eq_getElem (by omega)]; exact List.getElem_mem _)
 have hvb1 : 0 ≤ l1[n + 1]?.getD 0 ∧ l1[n + 1]?.getD 0 < 10000 := lb _ (by rw [List.getElem?_eq_getElem (by omega)]; exact List.getElem_mem _)
 obtain ⟨ad0, e0, hb0⟩ := Kd.at_int (HR.out w HK.out) (n : Int) (by omega) (by omega)
 cases e0
 obtain ⟨ad1, e1, hb1⟩ := Kd.at_int (HR.out w HK.out) ((n + 1 : Nat) : Int) (by omega) (by omega)
 cases e1
 rw [show rd l1 (n : Int) = l1[n]?.getD 0 from by simp [rd, List.getD_eq_getElem?_getD], Int.toNat_natCast] at hb0
 rw [show rd l1 ((n + 1 : Nat) : Int) = l1[n + 1]?.getD 0 from by simp [rd, List.getD_eq_getElem?_getD], Int.toNat_natCast] at hb1
 obtain ⟨q0, hq0⟩ : ∃ q, q = min (Pn.guess W l1 n) 9999 := ⟨_, rfl⟩
 have HQ := Aside0.mk hq0
 obtain ⟨D0, q0p⟩ := Pn.dig_start hW hb lw lb htop hlt
 rw [← hq0] at D0 q0p
 have q0m : q0 ≤ 9999 := by omega
 have HD := Aside0.mk D0
 unfold Pn.guess at hq0
 clear D0
 have HW := Aside0.mk hW
 have HLB := Aside0.mk hb
 rw [hb] at HR hc1 ⊢
 rw [hW] at hbig ⊢
 clear hW hb
 generalize W[n]?.getD 0 = x0 at *
 generalize W[n + 1]?.getD 0 = x1 at *
 generalize W[n + 2]?.getD 0 = x2 at *
 generalize l1[n]?.getD 0 = y0 at *
 generalize l1[n + 1]?.getD 0 = y1 at *
 have i0 : (0 ≤ (n : Int)) = True := eq_true (by omega)
 have i1 : (0 ≤ (n : Int) + 1) = True := eq_true (by omega)
 have i2 : (0 ≤ (n : Int) + 2) = True := eq_true (by omega)
 have t1 : ((n : Int) + 1).toNat = n + 1 := by omega
 have t2 : ((n : Int) + 2).toNat = n + 2 := by omega
 have k1 : IntKind.i64.wrap ((n : Int) + 2 - 1) = (n : Int) + 1 := by rw [IntKind.wrap_i64]; omega
 have k2 : IntKind.i64.wrap ((n : Int) + 2 - 2) = (n : Int) := by rw [IntKind.wrap_i64]; omega
 have m1 : IntKind.i64.wrap (x2 * 10000) = x2 * 10000 := by rw [IntKind.wrap_i64]; omega
 have m2 : IntKind.i64.wrap (x2 * 10000 + x1) = x2 * 10000 + x1 := by rw [IntKind.wrap_i64]; omega
 have m3 : IntKind.i64.wrap ((x2 * 10000 + x1) * 10000) = (x2 * 10000 + x1) * 10000 := by rw [IntKind.wrap_i64]; omega
 obtain ⟨X, hX⟩ : ∃ X, X = (x2 * 10000 + x1) * 10000 + x0 := ⟨_, rfl⟩
 obtain ⟨Y, hY⟩ : ∃ Y, Y = y1 * 10000 + y0 := ⟨_, rfl⟩
 rw [← hX, ← hY] at hq0
 obtain ⟨Z, hZ⟩ : ∃ Z, Z = X / Y := ⟨_, rfl⟩
 rw [← hZ] at hq0
 have m4 : IntKind.i64.wrap ((x2 * 10000 + x1) * 10000 + x0) = X := by rw [IntKind.wrap_i64]; omega
 have m5 : IntKind.i64.wrap (y1 * 10000) = y1 * 10000 := by rw [IntKind.wrap_i64]; omega
 have m6 : IntKind.i64.wrap (y1 * 10000 + y0) = Y := by rw [IntKind.wrap_i64]; omega
 have hx : 0 ≤ X ∧ X < 1000000000000 := by omega
 have hy : 0 < Y := by omega
 have m7 : (Y = 0) = False := eq_false (by omega)
 have m8 : Int.tdiv X Y = Z := by rw [hZ]; exact Int.tdiv_eq_ediv_of_nonneg hx.1
 have g1 : Z ≤ X := by rw [hZ]; exact Int.ediv_le_self _ hx.1
 have g0 : 0 ≤ Z := by rw [hZ]; exact Int.ediv_nonneg hx.1 (by omega)
 have m9 : IntKind.i64.wrap Z = Z := by rw [IntKind.wrap_i64]; omega
 have mq : (if (9999 : Int) < Z then 9999 else Z) = q0 := by rw [hq0]; split <;> omega
 clear hX hY hZ hq0
 have hb1' := hb1
 simp only [Addr.add, Nat.add_eq_zero_iff, Nat.succ_ne_self, Nat.one_ne_zero, and_false, if_false] at hb1'
 go_enter Try.func94, Try.ntmps94
 go_wp2
 go_quiet (fail)
 go_wp2
 go_quiet (fail)
 clear hw0 hw1 hw2 hb0 hb1 hb1' k1 k2 m1 m2 m3 m4 m5 m6 m7 m8 m9 hx hy mq g0 g1 i0 i1 i2 t1 t2 hvw0 hvw1 hvw2 hvb0 hvb1 htop
 have HN64 := Aside0.mk hn64
 clear hn64 hbig hc1
 have L1 := Pn.pas_len q0 W l1 0
 obtain ⟨W1, hW1⟩ : ∃ W1, W1 = (Pn.pas q0 W l1 0).1 := ⟨_, rfl⟩
 obtain ⟨C1, hC1⟩ : ∃ C1, C1 = (Pn.pas q0 W l1 0).2 := ⟨_, rfl⟩
 rw [← hW1, ← hC1] at HD
 have HW1 := Aside0.mk hW1
 have HC1 := Aside0.mk hC1
 clear hW1 hC1
 go_wp2
 go_loopw [8, 51] (fun c i wr => ∃ (D R : List Int) (cc : Int), c = .int .i64 cc ∧ i = .int .i64 (D.length : Int) ∧ Aside0 (D.length + R.length = n + 3) ∧ Aside0 (Pn.Lm R) ∧ -10000 ≤ cc ∧ cc ≤ 0 ∧ Aside0 (D ++ (Pn.pas q0 R (l1.drop D.length) cc).1 = W1) ∧ Aside0 ((Pn.pas q0 R (l1.drop D.length) cc).2 = C1) ∧ Aside0 (wr.heap[g]? = some (.cells (mk64 T (P ++ (D ++ R) ++ S)) t (0, 0))) ∧ Aside0 (Below base w0 wr) ∧ Aside0 (KeepBut w wr g none)) (fun c i wr => n + 3 - (intOf i).toNat)
 case atStart => exact ⟨[], W, 0, rfl, rfl, ⟨by simp [HW.out]⟩, ⟨lw⟩, by omega, by omega, ⟨by rw [HW1.out]; rfl⟩, ⟨by rw [HC1.out]; rfl⟩, ⟨HG.out⟩, ⟨pw_below_drewN HB.out _⟩, ⟨keep_drewN HK.out _⟩⟩
 case round =>
  clear HG HB HK L1
  obtain ⟨D, R, c, rfl, rfl, hDR, LR, hc0, hc1', E1, E2, HG, HB, HK⟩ := hrel
  cases R with
  | nil =>
   have hD : (D.length : Int) = (n : Int) + 3 := by have h_ := hDR.out; simp at h_; omega
   rw [hD]
   have j1 : decide ((n : Int) + 3 < (n : Int) + 3) = false := decide_eq_false (by omega)
   go_wp2
   have hDW : D = W1 := by
    have h_ := E1.out
    simpa [Pn.pas] using h_
   have hcC : c = C1 := by
    have h_ := E2.out
    simpa [Pn.pas] using h_
   rw [← hDW, ← hcC] at HD
   have HG2 := HG.out
   rw [List.append_nil] at HG2
   have HG' := Aside0.mk HG2
   clear hDW hcC E1 E2 HW1 HC1 hDR LR HG HG2
   have hvb : 0 < Pn.vl l1 := by
    have h_ := Pn.vl_nonneg lw
    omega
   go_loopw [7, 8] (fun qv cv wr => ∃ (Wk : List Int) (qq cc : Int), qv = .int .i64 qq ∧ cv = .int .i64 cc ∧ Aside0 (Pn.Dig W l1 Wk qq cc) ∧ qq ≤ 9999 ∧ 0 ≤ qq ∧ -10000 ≤ cc ∧ cc ≤ 0 ∧ Aside0 (wr.heap[g]? = some (.cells (mk64 T (P ++ Wk ++ S)) t (0, 0))) ∧ Aside0 (Below base w0 wr) ∧ Aside0 (KeepBut w wr g none)) (fun qv cv wr => (intOf qv).toNat)
   case atStart => exact ⟨D, q0, c, rfl, rfl, HD, q0m, q0p, hc0, hc1', HG', HB, HK⟩
   case round =>
    clear HG' HB HK HD j1 hD hc0 hc1' HQ q0p q0m
    obtain ⟨Wk, q, cc, rfl, rfl, HDG, hq9, hq0', hcc0, hcc1, HG, HB, HK⟩ := hrel
    by_cases hneg : cc < 0
    ·
     have hnd : decide (cc < 0) = true := decide_eq_true hneg
     have s1 : IntKind.i64.wrap (q - 1) = q - 1 := by rw [IntKind.wrap_i64]; omega
     obtain ⟨hst, hqp⟩ := Pn.dig_step HDG.out (by have h1_ := HW.out; have h2_ := HLB.out; omega) lw lb hvb hneg
     obtain ⟨W2, hW2⟩ : ∃ W2, W2 = (Pn.pas (-1) Wk l1 0).1 := ⟨_, rfl⟩
     obtain ⟨C2, hC2⟩ : ∃ C2, C2 = (Pn.pas (-1) Wk l1 0).2 := ⟨_, rfl⟩
     rw [← hW2, ← hC2] at hst
     have HST := Aside0.mk hst
     have HW2 := Aside0.mk hW2
     have HC2 := Aside0.mk hC2
     clear hst hW2 hC2
     go_wp2
     go_loopw [11, 91] (fun mv iv wr => ∃ (E R : List Int) (mm : Int), mv = .int .i64 mm ∧ iv = .int .i64 (E.length : Int) ∧ Aside0 (E.length + R.length = n + 3) ∧ Aside0 (Pn.Lm R) ∧ 0 ≤ mm ∧ mm ≤ 1 ∧ Aside0 (E ++ (Pn.pas (-1) R (l1.drop E.length) mm).1 = W2) ∧ Aside0 ((Pn.pas (-1) R (l1.drop E.length) mm).2 = C2) ∧ Aside0 (wr.heap[g]? = some (.cells (mk64 T (P ++ (E ++ R) ++ S)) t (0, 0))) ∧ Aside0 (Below base w0 wr) ∧ Aside0 (KeepBut w wr g none)) (fun mv iv wr => n + 3 - (intOf iv).toNat)
     case atStart => exact ⟨[], Wk, 0, rfl, rfl, ⟨by rw [List.length_nil, Nat.zero_add, HDG.out.2.1]; exact HW.out⟩, ⟨HDG.out.1⟩, by omega, by omega, ⟨by rw [HW2.out]; rfl⟩, ⟨by rw [HC2.out]; rfl⟩, HG, HB, HK⟩
     case round =>
      clear HG HB HK
      obtain ⟨E, R, m, rfl, rfl, hER, LR, hm0, hm1, E1, E2, HG, HB, HK⟩ := hrel
      cases R with
      | nil =>
       have hE : (E.length : Int) = (n : Int) + 3 := by have h_ := hER.out; simp at h_; omega
       have hEW : E = W2 := by
        have h_ := E1.out
        simpa [Pn.pas] using h_
       have hmC : m = C2 := by
        have h_ := E2.out
        simpa [Pn.pas] using h_
       rw [← hEW, ← hmC] at HST
       have HG2 := HG.out
       rw [List.append_nil] at HG2
       have HG' := Aside0.mk HG2
       clear hEW hmC E1 E2 HW2 HC2 hER LR HG HG2
       have s2 : IntKind.i64.wrap (cc + m) = cc + m := by rw [IntKind.wrap_i64]; omega
       have hcm := HST.out.2.2.2.2
       rw [hE]
       have j1 : decide ((n : Int) + 3 < (n : Int) + 3) = false := decide_eq_false (by omega)
       go_wp2
       go_roundw
       case rel => exact ⟨E, q - 1, cc + m, rfl, rfl, HST, by omega, by omega, by omega, hcm, HG', HB, HK⟩
       case measure =>
        simp only [intOf]; omega
      | cons r R =>
       have hElt : decide ((E.length : Int) < (n : Int) + 3) = true := decide_eq_true (by have h_ := hER.out; simp at h_; omega)
       have hE0 : 0 ≤ (E.length : Int) := by omega
       have hE3 : (E.length : Int) < (n : Int) + 3 := by have h_ := len_lt hER.out; omega
       have hcell := mk64_cell (k := P.length + E.length) HG.out (mid_at rfl)
       have hfz := blk_frozen HG.out (P.length + E.length)
       have hr := LR.out.head
       have s0 : IntKind.i64.wrap ((E.length : Int) + 1) = (E.length : Int) + 1 := by
        have h_ := len_lt hER.out
        have h2_ := HN64.out
        rw [IntKind.wrap_i64]; omega
       have s2 : IntKind.i64.wrap (r + m) = r + m := by rw [IntKind.wrap_i64]; omega
       by_cases hi : (E.length : Int) < (n : Int) + 2
       ·
        have hid : decide ((E.length : Int) < (n : Int) + 2) = true := decide_eq_true hi
        obtain ⟨ad0, e0, hb0⟩ := Kd.at_int (HR.out wr HK.out) (E.length : Int) hE0 (by omega)
        cases e0
        rw [Int.toNat_natCast, show rd l1 (E.length : Int) = l1[E.length]?.getD 0 from by simp [rd, List.getD_eq_getElem?_getD]] at hb0
        have hyb : 0 ≤ l1[E.length]?.getD 0 ∧ l1[E.length]?.getD 0 < 10000 := lb _ (by rw [List.getElem?_eq_getElem (by have := HLB.out; omega)]; exact List.getElem_mem _)
        obtain ⟨y, hy⟩ : ∃ y, l1[E.length]?.getD 0 = y := ⟨_, rfl⟩
        rw [hy] at hb0 hyb
        have HY := Aside0.mk hy
        clear hy
        have s3 : IntKind.i64.wrap (r + m + y) = r + m + y := by rw [IntKind.wrap_i64]; omega
        have s4 : Int.tmod (r + m + y) 10000 = (r + m + y) % 10000 := Int.tmod_eq_emod_of_nonneg (by omega)
        have s5 : Int.tdiv (r + m + y) 10000 = (r + m + y) / 10000 := Int.tdiv_eq_ediv_of_nonneg (by omega)
        have s6 : IntKind.i64.wrap ((r + m + y) / 10000) = (r + m + y) / 10000 := by rw [IntKind.wrap_i64]; omega
        have HX : Aside0 (r + m - (-1) * y = r + m + y) := ⟨by omega⟩
        go_wp2
        go_roundw
        case rel =>
         exact ⟨E ++ [_], R, _, rfl, by simp, ⟨len_snoc hER.out⟩, ⟨LR.out.tail⟩, by omega, by omega, ⟨(dig_round E1.out E2.out HY.out (by rw [HX.out]) (by rw [HX.out])).1⟩, ⟨(dig_round E1.out E2.out HY.out (by rw [HX.out]) (by rw [HX.out])).2⟩, ⟨win_set HG.out⟩, ⟨HB.out.setCell hbase _⟩, ⟨HK.out.set_ _ _⟩⟩
        case measure =>
         have h_ := len_lt hER.out
         simp only [intOf]; omega
       ·
        have hid : decide ((E.length : Int) < (n : Int) + 2) = false := decide_eq_false hi
        have HY : Aside0 (l1[E.length]?.getD 0 = 0) := ⟨by rw [List.getElem?_eq_none (by have := HLB.out; omega)]; rfl⟩
        have s4 : Int.tmod (r + m) 10000 = (r + m) % 10000 := Int.tmod_eq_emod_of_nonneg (by omega)
        have s5 : Int.tdiv (r + m) 10000 = (r + m) / 10000 := Int.tdiv_eq_ediv_of_nonneg (by omega)
        have s6 : IntKind.i64.wrap ((r + m) / 10000) = (r + m) / 10000 := by rw [IntKind.wrap_i64]; omega
        have HX : Aside0 (r + m - (-1) * 0 = r + m) := ⟨by omega⟩
        go_wp2
        go_roundw
        case rel =>
         exact ⟨E ++ [_], R, _, rfl, by simp, ⟨len_snoc hER.out⟩, ⟨LR.out.tail⟩, by omega, by omega, ⟨(dig_round E1.out E2.out HY.out (by rw [HX.out]) (by rw [HX.out])).1⟩, ⟨(dig_round E1.out E2.out HY.out (by rw [HX.out]) (by rw [HX.out])).2⟩, ⟨win_set HG.out⟩, ⟨HB.out.setCell hbase _⟩, ⟨HK.out.set_ _ _⟩⟩
        case measure =>
         have h_ := len_lt hER.out
         simp only [intOf]; omega
    ·
     have hnd : decide (cc < 0) = false := decide_eq_false hneg
     obtain ⟨hqe, hve⟩ := Pn.dig_end HDG.out lw hvb hneg
     have HQE := Aside0.mk hqe
     clear hqe
     go_wp2
     go_ret
     exact ⟨by rw [← HQE.out]; rfl, Wk, HDG.out.1, by rw [HDG.out.2.1]; exact HW.out, hve, by rw [← List.append_assoc]; exact HG.out, HB.out, HK.out⟩
  | cons r R =>
   have hDlt : decide ((D.length : Int) < (n : Int) + 3) = true := decide_eq_true (by have h_ := hDR.out; simp at h_; omega)
   have hD0 : 0 ≤ (D.length : Int) := by omega
   have hD3 : (D.length : Int) < (n : Int) + 3 := by have h_ := len_lt hDR.out; omega
   have hcell := mk64_cell (k := P.length + D.length) HG.out (mid_at rfl)
   have hfz := blk_frozen HG.out (P.length + D.length)
   have hr := LR.out.head
   have s0 : IntKind.i64.wrap ((D.length : Int) + 1) = (D.length : Int) + 1 := by
    have h_ := len_lt hDR.out
    have h2_ := HN64.out
    rw [IntKind.wrap_i64]; omega
   by_cases hi : (D.length : Int) < (n : Int) + 2
   ·
    have hid : decide ((D.length : Int) < (n : Int) + 2) = true := decide_eq_true hi
    obtain ⟨ad0, e0, hb0⟩ := Kd.at_int (HR.out wr HK.out) (D.length : Int) hD0 (by omega)
    cases e0
    rw [Int.toNat_natCast, show rd l1 (D.length : Int) = l1[D.length]?.getD 0 from by simp [rd, List.getD_eq_getElem?_getD]] at hb0
    have hyb : 0 ≤ l1[D.length]?.getD 0 ∧ l1[D.length]?.getD 0 < 10000 := lb _ (by rw [List.getElem?_eq_getElem (by have := HLB.out; omega)]; exact List.getElem_mem _)
    obtain ⟨y, hy⟩ : ∃ y, l1[D.length]?.getD 0 = y := ⟨_, rfl⟩
    rw [hy] at hb0 hyb
    have HY := Aside0.mk hy
    clear hy
    obtain ⟨Y, hY⟩ : ∃ Y, Y = q0 * y := ⟨_, rfl⟩
    have hYb : 0 ≤ Y ∧ Y ≤ 99980001 := by
     have h1 : 0 ≤ q0 * y := Int.mul_nonneg q0p hyb.1
     have h2 : q0 * y ≤ q0 * 9999 := Int.mul_le_mul_of_nonneg_left (by omega) q0p
     omega
    have s1 : IntKind.i64.wrap (r + c) = r + c := by rw [IntKind.wrap_i64]; omega
    have s2 : IntKind.i64.wrap (q0 * y) = Y := by rw [IntKind.wrap_i64, ← hY]; omega
    have HYq := Aside0.mk hY
    clear hY
    obtain ⟨x, hx⟩ : ∃ x, x = r + c - Y := ⟨_, rfl⟩
    have s3 : IntKind.i64.wrap (r + c - Y) = x := by rw [IntKind.wrap_i64]; omega
    have hxb : -100000000 ≤ x ∧ x < 10000 := by omega
    have HX : Aside0 (x = r + c - q0 * y) := ⟨by rw [← HYq.out]; exact hx⟩
    clear hx
    by_cases hneg : x < 0
    ·
     have hnd : decide (x < 0) = true := decide_eq_true hneg
     obtain ⟨c', hc'⟩ : ∃ c', c' = x / 10000 := ⟨_, rfl⟩
     obtain ⟨d', hd'⟩ : ∃ d', d' = x % 10000 := ⟨_, rfl⟩
     have s4 : IntKind.i64.wrap (x - 10000) = x - 10000 := by rw [IntKind.wrap_i64]; omega
     have s5 : IntKind.i64.wrap (x - 10000 + 1) = x - 10000 + 1 := by rw [IntKind.wrap_i64]; omega
     have s6 : Int.tdiv (x - 10000 + 1) 10000 = c' := by
      rw [hc', show x - 10000 + 1 = -(9999 - x) from by omega, Int.neg_tdiv, Int.tdiv_eq_ediv_of_nonneg (by omega)]; omega
     have s7 : IntKind.i64.wrap c' = c' := by rw [IntKind.wrap_i64]; omega
     have s8 : IntKind.i64.wrap (c' * 10000) = c' * 10000 := by rw [IntKind.wrap_i64]; omega
     have s9 : IntKind.i64.wrap (x - c' * 10000) = d' := by rw [IntKind.wrap_i64]; omega
     have HC' := Aside0.mk hc'
     have HD' := Aside0.mk hd'
     have hc'b : -10000 ≤ c' ∧ c' ≤ 0 := by omega
     clear hc' hd'
     go_wp2
     go_roundw
     case rel =>
      exact ⟨D ++ [d'], R, c', rfl, by simp, ⟨len_snoc hDR.out⟩, ⟨LR.out.tail⟩, hc'b.1, hc'b.2, ⟨(dig_round E1.out E2.out HY.out (by rw [← HX.out]; exact HC'.out) (by rw [← HX.out]; exact HD'.out)).1⟩, ⟨(dig_round E1.out E2.out HY.out (by rw [← HX.out]; exact HC'.out) (by rw [← HX.out]; exact HD'.out)).2⟩, ⟨win_set HG.out⟩, ⟨HB.out.setCell hbase _⟩, ⟨HK.out.set_ _ _⟩⟩
     case measure =>
      have h_ := len_lt hDR.out
      simp only [intOf]; omega
    ·
     have hnd : decide (x < 0) = false := decide_eq_false hneg
     obtain ⟨c', hc'⟩ : ∃ c' : Int, c' = 0 := ⟨_, rfl⟩
     obtain ⟨d', hd'⟩ : ∃ d', d' = x := ⟨_, rfl⟩
     have s4 : IntKind.i64.wrap x = x := by rw [IntKind.wrap_i64]; omega
     have hc'b : -10000 ≤ c' ∧ c' ≤ 0 := by omega
     have HC' : Aside0 (c' = x / 10000) := ⟨by omega⟩
     have HD' : Aside0 (d' = x % 10000) := ⟨by omega⟩
     subst hd' hc'
     go_wp2
     go_roundw
     case rel =>
      exact ⟨D ++ [_], R, 0, rfl, by simp, ⟨len_snoc hDR.out⟩, ⟨LR.out.tail⟩, hc'b.1, hc'b.2, ⟨(dig_round E1.out E2.out HY.out (by rw [← HX.out]; exact HC'.out) (by rw [← HX.out]; exact HD'.out)).1⟩, ⟨(dig_round E1.out E2.out HY.out (by rw [← HX.out]; exact HC'.out) (by rw [← HX.out]; exact HD'.out)).2⟩, ⟨win_set HG.out⟩, ⟨HB.out.setCell hbase _⟩, ⟨HK.out.set_ _ _⟩⟩
     case measure =>
      have h_ := len_lt hDR.out
      simp only [intOf]; omega
   ·
    have hid : decide ((D.length : Int) < (n : Int) + 2) = false := decide_eq_false hi
    have HY : Aside0 (l1[D.length]?.getD 0 = 0) := ⟨by rw [List.getElem?_eq_none (by have := HLB.out; omega)]; rfl⟩
    have s1 : IntKind.i64.wrap (r + c) = r + c := by rw [IntKind.wrap_i64]; omega
    have hxb : -100000000 ≤ r + c ∧ r + c < 10000 := by omega
    have HX : Aside0 (r + c = r + c - q0 * 0) := ⟨by rw [Int.mul_zero]; omega⟩
    clear hi
    by_cases hneg : (r + c) < 0
    ·
     have hnd : decide ((r + c) < 0) = true := decide_eq_true hneg
     obtain ⟨c', hc'⟩ : ∃ c', c' = (r + c) / 10000 := ⟨_, rfl⟩
     obtain ⟨d', hd'⟩ : ∃ d', d' = (r + c) % 10000 := ⟨_, rfl⟩
     have s4 : IntKind.i64.wrap ((r + c) - 10000) = (r + c) - 10000 := by rw [IntKind.wrap_i64]; omega
     have s5 : IntKind.i64.wrap ((r + c) - 10000 + 1) = (r + c) - 10000 + 1 := by rw [IntKind.wrap_i64]; omega
     have s6 : Int.tdiv ((r + c) - 10000 + 1) 10000 = c' := by
      rw [hc', show (r + c) - 10000 + 1 = -(9999 - (r + c)) from by omega, Int.neg_tdiv, Int.tdiv_eq_ediv_of_nonneg (by omega)]; omega
     have s7 : IntKind.i64.wrap c' = c' := by rw [IntKind.wrap_i64]; omega
     have s8 : IntKind.i64.wrap (c' * 10000) = c' * 10000 := by rw [IntKind.wrap_i64]; omega
     have s9 : IntKind.i64.wrap ((r + c) - c' * 10000) = d' := by rw [IntKind.wrap_i64]; omega
     have HC' := Aside0.mk hc'
     have HD' := Aside0.mk hd'
     have hc'b : -10000 ≤ c' ∧ c' ≤ 0 := by omega
     clear hc' hd'
     go_wp2
     go_roundw
     case rel =>
      exact ⟨D ++ [d'], R, c', rfl, by simp, ⟨len_snoc hDR.out⟩, ⟨LR.out.tail⟩, hc'b.1, hc'b.2, ⟨(dig_round E1.out E2.out HY.out (by rw [← HX.out]; exact HC'.out) (by rw [← HX.out]; exact HD'.out)).1⟩, ⟨(dig_round E1.out E2.out HY.out (by rw [← HX.out]; exact HC'.out) (by rw [← HX.out]; exact HD'.out)).2⟩, ⟨win_set HG.out⟩, ⟨HB.out.setCell hbase _⟩, ⟨HK.out.set_ _ _⟩⟩
     case measure =>
      have h_ := len_lt hDR.out
      simp only [intOf]; omega
    ·
     have hnd : decide ((r + c) < 0) = false := decide_eq_false hneg
     obtain ⟨c', hc'⟩ : ∃ c' : Int, c' = 0 := ⟨_, rfl⟩
     obtain ⟨d', hd'⟩ : ∃ d', d' = (r + c) := ⟨_, rfl⟩
     have s4 : IntKind.i64.wrap (r + c) = (r + c) := by rw [IntKind.wrap_i64]; omega
     have hc'b : -10000 ≤ c' ∧ c' ≤ 0 := by omega
     have HC' : Aside0 (c' = (r + c) / 10000) := ⟨by omega⟩
     have HD' : Aside0 (d' = (r + c) % 10000) := ⟨by omega⟩
     subst hd' hc'
     go_wp2
     go_roundw
     case rel =>
      exact ⟨D ++ [_], R, 0, rfl, by simp, ⟨len_snoc hDR.out⟩, ⟨LR.out.tail⟩, hc'b.1, hc'b.2, ⟨(dig_round E1.out E2.out HY.out (by rw [← HX.out]; exact HC'.out) (by rw [← HX.out]; exact HD'.out)).1⟩, ⟨(dig_round E1.out E2.out HY.out (by rw [← HX.out]; exact HC'.out) (by rw [← HX.out]; exact HD'.out)).2⟩, ⟨win_set HG.out⟩, ⟨HB.out.setCell hbase _⟩, ⟨HK.out.set_ _ _⟩⟩
     case measure =>
      have h_ := len_lt hDR.out
      simp only [intOf]; omega

theorem own_mk {e : Nat} {w : World} {base : Nat} {ok : Nat → Prop} {v : Value} {xs : List Int} (h : Kd.R (Kd.int .i64) e w base ok v xs) (hne : 0 < xs.length) :
  ∃ g cap T, v = .slice (some ⟨g, 0, none⟩) xs.length cap ∧ base ≤ g ∧ w.heap[g]? = some (.cells (mk64 T xs) e (0, 0)) ∧ xs.length ≤ cap ∧ cap ≤ maxLen ∧ T.length = cap - xs.length ∧ ok g := by
 have ho := Kd.own_of_R (enc := Value.int .i64) (h1 := fun _ => rfl) h
 obtain ⟨_, h2⟩ := ho
 rcases h2 with ⟨_, h2⟩ | ⟨g, cap, cur, hv, hb, hg, hn, hc, hs, ht⟩
 ·
  omega
 ·
  rw [Nat.mul_one] at hs ht
  have hcur : cur = mk64 (cur.toList.drop xs.length) xs := by
   have e1 : cur.toList = xs.map (Value.int .i64) ++ cur.toList.drop xs.length := by
    conv => lhs; rw [← List.take_append_drop xs.length cur.toList, ht]
    rfl
   rw [mk64, ← e1]
  refine ⟨g, cap, cur.toList.drop xs.length, hv, hb, by rw [← hcur]; exact hg, hn, hc, by simp [hs], h.1 g (by rw [hv]; rfl)⟩
theorem mk_own {e : Nat} {w : World} {base g cap : Nat} {ok : Nat → Prop} {T : List Value} {xs : List Int} (hb : base ≤ g) (hg : w.heap[g]? = some (.cells (mk64 T xs) e (0, 0))) (hn : xs.length ≤ cap) (hc : cap ≤ maxLen) (hT : T.length = cap - xs.length) (hok : ok g) :
  Kd.R (Kd.int .i64) e w base ok (.slice (some ⟨g, 0, none⟩) xs.length cap) xs := by
 refine Kd.R_of_own (enc := Value.int .i64) (h1 := fun _ => rfl) ⟨by simp [encs], .inr ⟨g, cap, _, rfl, hb, hg, hn, hc, by simp [mk64, hT]; omega, ?_⟩⟩ (fun k hk => by cases hk; exact hok)
 simp [mk64, encs]
theorem rep_set (k : Nat) (q : Int) (D : List Int) : (List.replicate (k + 1) 0 ++ D).set k q = List.replicate k 0 ++ (q :: D) := by
 rw [List.replicate_succ', List.append_assoc, List.set_append_right _ _ (by simp)]
 simp
theorem win3 {X : List Int} {k m : Nat} (h : k + m ≤ X.length) : ∃ P W S, X = P ++ W ++ S ∧ P.length = k ∧ W.length = m :=
 ⟨X.take k, (X.drop k).take m, X.drop (k + m), by rw [List.append_assoc, ← List.drop_drop, List.take_append_drop, List.take_append_drop], by simp; omega, by simp; omega⟩
theorem made_run (W : World) (n : Nat) (hn : n ≤ 1000000) : (Instr.makeSlice 30 (.int .i64 (n : Int)) (.int .i64 (n : Int))).run Try.prog W = .ok (.slice (some ⟨W.heap.size, 0, none⟩) n n) (W.alloc (.cells (mk64 [] (List.replicate n 0)) 3)) := by
 obtain ⟨i0, hi, hzz⟩ := Option.map_eq_some_iff.1 info3
 injection hzz with hz hzz
 injection hzz with hs hb
 have h := run_make (P := Try.prog) (w := W) 30 3 i0 (.int .i64 0) Try.underlying30 hi hz .i64 .i64 (n : Int) (n : Int) (by omega) (Int.le_refl _) (by rw [hb]; omega) (by omega)
 rw [Int.toNat_natCast, hs, Nat.mul_one] at h
 rw [h]
 congr 4
 apply Array.ext
 ·
  simp [mk64, size_madeCells]
 ·
  intro k h1 h2
  simp [madeCells, mk64, Value.cells, Nat.mod_one]
def impl_natDiv.T12 : Bool × List (List Nat × List Nat) := (true, [([], []), ([0], [0]), ([], []), ([1, 2, 1], [1, 2]), ([], []), ([4], [4]), ([], []), ([5, 6], [5, 6]), ([7], [7]), ([8, 8], [8]), ([3, 3, 0, 1, 2, 3], [3]), ([9, 10, 0, 1, 2, 3, 4, 5, 6, 7, 8, 9, 10], [9])])
def impl_natDiv.B12 : List Nat := [0, 1, 0, 7, 0, 16, 0, 112, 240, 496, 15, 2047]
theorem impl_natDiv.tab12 : rtab .any (opsOf Try.f87 12) = impl_natDiv.T12 := by kernel_rfl
theorem impl_natDiv.bits12 : waitsOk impl_natDiv.T12.2 impl_natDiv.B12 = true := by kernel_rfl
set_option maxHeartbeats 8000000 in
set_option maxRecDepth 100000 in
theorem impl_natDiv.more (kt : Nat) (A0 : Option Addr) (c0 : Nat) (l0 : List Int) (A1 : Option Addr) (c1 : Nat) (l1 : List Int) (tB2 : Int) (tD1 tD2 : List Int) (n : Nat) (w : World) (hr0 : Kd.C (Kd.int .i64) w A0 l0.length l0) (hc0 : l0.length ≤ c0) (hr1 : Kd.C (Kd.int .i64) w A1 l1.length l1) (hc1 : l1.length ≤ c1)
  (a3 : impl_natCmp.f l0 l1 = some tB2) (hneg : ¬ tB2 < 0) (hn : l1.length = n + 2) (hle : l1.length ≤ l0.length) (hbig : l0.length ≤ 1000000) (a12 : slices_Clone_int_int.f l0 = some l0)
  (lm0 : Pn.Lm l0) (lm1 : Pn.Lm l1) (htop : 0 < l1[n + 1]?.getD 0)
  (a17 : impl_trimmed.f kt (Pn.lims (l0.length - l1.length + 1) (Pn.vl l0 / Pn.vl l1)) = some tD1) (a18 : impl_trimmed.f kt (Pn.lims (l0.length + 1) (Pn.vl l0 % Pn.vl l1)) = some tD2) :
  Calls Try.prog 87 #[.slice A0 l0.length c0, .slice A1 l1.length c1] w fun e w' => ∃ v0_ v1_ : Value, e = .returned (.tuple #[v0_, v1_]) ∧ Kd.R (Kd.int .i64) 3 w' w.heap.size (fun k_ => nO k_ v1_) v0_ tD1 ∧ Kd.R (Kd.int .i64) 3 w' w.heap.size (fun k_ => nO k_ v0_) v1_ tD2 ∧ Below w.heap.size w w' := by
 have HR0 := Aside0.mk hr0
 have HC0 := Aside0.mk hc0
 clear hr0 hc0
 have HR1 := Aside0.mk hr1
 have HC1 := Aside0.mk hc1
 clear hr1 hc1
 have HB := Aside0.mk (Below.refl w.heap.size w)
 have A3 := Aside0.mk a3
 obtain ⟨tB1, h239⟩ : ∃ t, t = l0 := ⟨_, rfl⟩
 have A12 : Aside0 (slices_Clone_int_int.f l0 = some tB1) := ⟨by rw [h239]; exact a12⟩
 have NB1 := Aside0.mk h239
 have A17 := Aside0.mk a17
 have A18 := Aside0.mk a18
 clear a3 a12 a17 a18
 have c4b0 : decide (tB2 < 0) = false := decide_eq_false hneg
 have c10 : ¬ (l1.length : Int) = 1 := by omega
 have c10b0 : ((l1.length : Int) == 1) = false := beq_eq_false_iff_ne.mpr c10
 have c10b1 : ((l1.length : Int) != 1) = true := bne_iff_ne.mpr c10
 obtain ⟨yA3, hy242⟩ : ∃ y_ : List Int, y_ = (([0] : List Int)) := ⟨_, rfl⟩
 have NyA3 := Aside0.mk hy242
 have LMc13 : Aside0 (tB1.length + yA3.length < 17592186044416) := ⟨by rw [h239, hy242]; simp; omega⟩
 clear hy242 h239
 obtain ⟨yB8, hy245⟩ : ∃ y_ : List Int, y_ = (tB1 ++ yA3) := ⟨_, rfl⟩
 have NyB8 := Aside0.mk hy245
 clear hy245
 obtain ⟨ji14, hji14⟩ : ∃ j_ : Int, (wrap64 ((wrap64 ((l0.length : Int) - (l1.length : Int))) + 1)) = j_ := ⟨_, rfl⟩
 have hji14w : (IntKind.i64.wrap ((wrap64 ((l0.length : Int) - (l1.length : Int))) + 1)) = ji14 := (i64_w _).trans hji14
 have hjv : ji14 = (l0.length : Int) - l1.length + 1 := by
  rw [← hji14]; simp only [wrap64]; omega
 have HJV := Aside0.mk hjv
 have c15 : 0 ≤ ji14 := by omega
 have c15b0 := eq_true c15
 have c15b1 : decide (0 ≤ (ji14)) = true := decide_eq_true c15
 have c16 : (ji14 : Int).toNat ≤ 35184372088832 := by omega
 have c16b0 := eq_true c16
 have c16b1 : decide ((ji14 : Int).toNat ≤ 35184372088832) = true := decide_eq_true c16
 have HN := Aside0.mk hn
 have HLE := Aside0.mk hle
 have HBIG := Aside0.mk hbig
 have HTOP := Aside0.mk htop
 clear c15 c16 hjv hbig hle hn htop
 obtain ⟨yA9, hy248⟩ : ∃ y_ : List Int, y_ = (List.replicate (ji14 : Int).toNat 0) := ⟨_, rfl⟩
 have NyA9 := Aside0.mk hy248
 clear hy248
 go_enter Try.func87, Try.ntmps87
 go_wp2_with (first | ((with_reducible refine gate_callee (f := 66) rfl ?_); refine gL_ (some 16) Try.func66 #[.slice A0 l0.length c0, .slice A1 l1.length c1] ?_; (with_reducible refine (impl_natCmp.calls _ _ l0 _ _ l1 tB2 _ ?side1 ?side2 ?side3 ?side4 A3.out).mono ?_); (case side1 => repeat (first | exact HR0.out | (with_reducible refine Kd.C_alloc ?_ _) | (with_reducible refine Kd.C_drewN ?_ _) | (with_reducible refine Kd.C_drew ?_))); (case side2 => exact HC0.out); (case side3 => repeat (first | exact HR1.out | (with_reducible refine Kd.C_alloc ?_ _) | (with_reducible refine Kd.C_drewN ?_ _) | (with_reducible refine Kd.C_drew ?_))); (case side4 => exact HC1.out); rintro e w19 ⟨rfl, hb⟩; refine ⟨_, rfl, ?_⟩; have hbx := (hb.cell (p := ⟨w.heap.size, 0, none⟩) (by simp)).trans (Boxed.new w 30 (.slice A1 l1.length c1)).cell; replace HB := bst HB hb; (try clear hb); (try clear hb2); (try clear hk); (try clear hi)))
 replace HB := Aside0.mk (below_drew1 HB.out)
 have hbx : w19.drew.cell? ⟨w.heap.size, 0, none⟩ = some (.slice A1 l1.length c1) := hbx
 refine start_ (n := 12) (S := fun w' => True) (ds := []) (bm 12 0) (by kernel_rfl) rfl rfl trivial (fun hHeld => ?_); refine with_tabW impl_natDiv.tab12 impl_natDiv.bits12 (fun HT_ HW_ => ?_)
 generalize w19.drew = w20 at HB hHeld hbx ⊢
 have HBX := Aside0.mk hbx
 have n0_ := Aside0.mk (Kd.C_below HR0.out HB.out)
 have n1_ := Aside0.mk (Kd.C_below HR1.out HB.out)
 have HBW := HB
 clear HR0 HR1 hbx HB
 have HR0 := n0_
 have HR1 := n1_
 clear n0_ n1_
 have HB := Aside0.mk (Below.refl w20.heap.size w20)
 refine pu_ 0 (some 53) (bm 12 1) HT_.out ?_
 refine pu_ 4 (some 57) (bm 12 17) HT_.out ?_
 refine pu_ 5 (some 58) (bm 12 49) HT_.out ?_
 refine pu_ 6 (some 59) (bm 12 113) HT_.out ?_
 refine pu_ 7 (some 60) (bm 12 241) HT_.out ?_
 refine pu_ 8 (some 61) (bm 12 497) HT_.out ?_
 refine join_ (σ := Value × Value × Value × Value) 1 (bm 12 2047) (fun s_ => [(54, s_.1), (55, s_.2.1), (56, s_.2.2.1), (62, s_.2.2.2), (11, s_.2.2.1)]) (fun s_ w' => (Kd.R (Kd.int .i64) 3 w' w20.heap.size (fun k_ => nO k_ s_.2.2.1 ∧ nO k_ s_.2.2.2) s_.2.1 yA3) ∧ (Kd.R (Kd.int .i64) 3 w' w20.heap.size (fun k_ => nO k_ s_.2.1 ∧ nO k_ s_.2.2.2) s_.2.2.1 yB8) ∧ (Kd.R (Kd.int .i64) 3 w' w20.heap.size (fun k_ => nO k_ s_.2.1 ∧ nO k_ s_.2.2.1) s_.2.2.2 yA9) ∧ (Below w20.heap.size w20 w')) ?_ ?_
 rotate_left
 ·
  intro hJ1_2_3_9
  refine join_ (σ := Value × Value × Value) 2 (bm 12 1535) (fun s_ => [(54, s_.1), (55, s_.2.1), (56, s_.2.2), (11, s_.2.2)]) (fun s_ w' => (Kd.R (Kd.int .i64) 3 w' w20.heap.size (fun k_ => nO k_ s_.2.2) s_.2.1 yA3) ∧ (Kd.R (Kd.int .i64) 3 w' w20.heap.size (fun k_ => nO k_ s_.2.1) s_.2.2 yB8) ∧ (Below w20.heap.size w20 w')) ?_ ?_
  rotate_left
  ·
   intro hJ1_2_3
   refine join_ (σ := Value × Value × Value) 3 (bm 12 1015) (fun s_ => [(54, s_.1), (55, s_.2.1), (62, s_.2.2)]) (fun s_ w' => (Kd.R (Kd.int .i64) 3 w' w20.heap.size (fun k_ => nO k_ s_.2.1 ∧ nO k_ s_.2.2) s_.1 tB1) ∧ (Kd.R (Kd.int .i64) 3 w' w20.heap.size (fun k_ => nO k_ s_.1 ∧ nO k_ s_.2.2) s_.2.1 yA3) ∧ (Kd.R (Kd.int .i64) 3 w' w20.heap.size (fun k_ => nO k_ s_.1 ∧ nO k_ s_.2.1) s_.2.2 yA9) ∧ (Below w20.heap.size w20 w')) ?_ ?_
   rotate_left
   ·
    intro hJ1_2_9
    refine join_ (σ := Value × Value) 4 (bm 12 503) (fun s_ => [(54, s_.1), (55, s_.2)]) (fun s_ w' => (Kd.R (Kd.int .i64) 3 w' w20.heap.size (fun k_ => nO k_ s_.2) s_.1 tB1) ∧ (Kd.R (Kd.int .i64) 3 w' w20.heap.size (fun k_ => nO k_ s_.1) s_.2 yA3) ∧ (Below w20.heap.size w20 w')) ?_ ?_
    rotate_left
    ·
     intro hJ1_2
     refine join_ (σ := Value × Value) 4 (bm 12 1011) (fun s_ => [(54, s_.1), (62, s_.2)]) (fun s_ w' => (Kd.R (Kd.int .i64) 3 w' w20.heap.size (fun k_ => nO k_ s_.2) s_.1 tB1) ∧ (Kd.R (Kd.int .i64) 3 w' w20.heap.size (fun k_ => nO k_ s_.1) s_.2 yA9) ∧ (Below w20.heap.size w20 w')) ?_ ?_
     rotate_left
     ·
      intro hJ1_9
      refine join_ (σ := Value × Value) 4 (bm 12 1013) (fun s_ => [(55, s_.1), (62, s_.2)]) (fun s_ w' => (Kd.R (Kd.int .i64) 3 w' w20.heap.size (fun k_ => nO k_ s_.2) s_.1 yA3) ∧ (Kd.R (Kd.int .i64) 3 w' w20.heap.size (fun k_ => nO k_ s_.1) s_.2 yA9) ∧ (Below w20.heap.size w20 w')) ?_ ?_
      rotate_left
      ·
       intro hJ2_9
       refine join_ (σ := Value) 5 (bm 12 499) (fun s_ => [(54, s_)]) (fun s_ w' => (Kd.R (Kd.int .i64) 3 w' w20.heap.size (fun _ => True) s_ tB1) ∧ (Below w20.heap.size w20 w')) ?_ ?_
       rotate_left
       ·
        intro hJ1
        refine join_ (σ := Value) 5 (bm 12 501) (fun s_ => [(55, s_)]) (fun s_ w' => (Kd.R (Kd.int .i64) 3 w' w20.heap.size (fun _ => True) s_ yA3) ∧ (Below w20.heap.size w20 w')) ?_ ?_
        rotate_left
        ·
         intro hJ2
         refine join_ (σ := Value) 5 (bm 12 1009) (fun s_ => [(62, s_)]) (fun s_ w' => (Kd.R (Kd.int .i64) 3 w' w20.heap.size (fun _ => True) s_ yA9) ∧ (Below w20.heap.size w20 w')) ?_ ?_
         rotate_left
         ·
          intro hJ9
          refine three_ (i := 1) (j := 2) (k := 9) (Ni := some 54) (Nj := some 55) (Nk := some 62) (bm 12 499) (bm 12 501) (bm 12 1009) rfl rfl rfl rfl rfl rfl (three_of HT_.out (by kernel_rfl)) (by decide) (by decide) (by decide) (fun K hK => ?_) (fun K hK => ?_) (fun K hK => ?_)
          ·
           skip
           refine g_ Try.func91 #[.slice A0 l0.length c0] ?_
           with_reducible refine (slices_Clone_int_int.calls _ _ l0 tB1 _ ?side1 ?side2 A12.out).mono ?_
           (case side1 => exact crC (Kd.C_below HR0.out HB.out))
           (case side2 => exact HC0.out)
           rintro e w21 ⟨vA7, rfl, ho0, hb⟩
           refine ⟨_, rfl, ?_⟩
           have HOA6 := lwR ho0 HB
           replace HB := bst HB hb
           (try clear hb)
           (try clear hb2)
           (try clear hk)
           (try clear hi)
           (try clear ho0)
           refine hK.out _ _ trivial (fun hHeld => ?_)
           clear hK K
           refine nm_ 54 ?_
           exact nq_ (hJ1 (vA7) _ ⟨(crR HOA6), (blw HB)⟩)
          ·
           skip
           refine Kd.R_lit_step (Kd.int .i64) _ 3 ?hg (N := 55) ?hd (xs := ([0] : List Int)) (inner := [.int .i64 0]) (ok := fun _ => True) (okp := fun _ => True) ?hr ?hp (fun _ hk => hk) trivial (Below.refl _ _) (Nat.le_refl _) (by simp) ?_; (case hd => rfl); (case hg => rfl); (case hr => first | (go_simp; done) | (go_simp; rfl)); (case hp => exact (Reps.one (show Kd.M (Kd.int .i64) _ _ _ 0 [.int .i64 0] from rfl) (Reps.none _ _)))
           intro vA8 w21 ho22 hb hg_ hnew_
           clear hg_ hnew_
           (first | rw [← NyA3.out] at ho22 | (simp only [Int.reduceToNat] at ho22; rw [← NyA3.out] at ho22))
           have HOA1 := lwR ho22 HB
           replace HB := bst HB hb
           clear hb ho22
           refine hK.out _ _ trivial (fun hHeld => ?_)
           clear hK K
           refine nm_ 55 ?_
           exact nq_ (hJ2 (vA8) _ ⟨(crR HOA1), (blw HB)⟩)
          ·
           skip
           refine Kd.R_make_step (Kd.int .i64) _ 3 (by rfl) (N := 62) rfl 30 _ _ rfl ji14 rfl rfl Try.underlying30 (.int .i64 0) 8 info3 rfl (by decide) (by omega) 0 (ok := fun _ => True) (okp := fun _ => True) rfl (fun _ hk => hk) trivial (of_decide_eq_true (by first | (with_reducible assumption) | assumption)) (Nat.le_trans (Nat.mul_le_mul_right _ (of_decide_eq_true (by first | (with_reducible assumption) | assumption) : ji14.toNat ≤ 35184372088832)) (by omega)) (Below.refl _ _) (Nat.le_refl _) ?_
           intro vA5 w21 ho22 hb hg_ hnew_
           clear hg_ hnew_
           (first | rw [← NyA9.out] at ho22 | (simp only [Int.reduceToNat] at ho22; rw [← NyA9.out] at ho22))
           have HOA2 := lwR ho22 HB
           replace HB := bst HB hb
           clear hb ho22
           refine hK.out _ _ trivial (fun hHeld => ?_)
           clear hK K
           refine nm_ 62 ?_
           exact nq_ (hJ9 (vA5) _ ⟨(crR HOA2), (blw HB)⟩)
         ·
          skip
          rintro vA5 w23 ⟨h0_, h1_⟩
          have HOA2 : Aside0 (Kd.R (Kd.int .i64) 3 w23 w20.heap.size (fun _ => True) vA5 yA9) := ⟨h0_⟩
          replace HB : Aside0 (Below w20.heap.size w20 w23) := ⟨h1_⟩
          clear h0_ h1_
          have hHeld := trivial
          refine np_ ?_
          refine two_ (i := 1) (j := 2) (Ni := some 54) (Nj := some 55) (bm 12 1011) (bm 12 1013) rfl rfl rfl rfl (two_of HT_.out (by kernel_rfl)) (by decide) (by decide) (fun K hK => ?_) (fun K hK => ?_)
          ·
           skip
           refine g_ Try.func91 #[.slice A0 l0.length c0] ?_
           with_reducible refine (slices_Clone_int_int.calls _ _ l0 tB1 _ ?side1 ?side2 A12.out).mono ?_
           (case side1 => exact crC (Kd.C_below HR0.out HB.out))
           (case side2 => exact HC0.out)
           rintro e w24 ⟨vA7, rfl, ho0, hb⟩
           refine ⟨_, rfl, ?_⟩
           have HOA6 := lwR (nwR ho0 HOA2) HB
           replace HOA2 := eldR HOA2 (Kd.R_base ho0) hb
           replace HB := bst HB hb
           (try clear hb)
           (try clear hb2)
           (try clear hk)
           (try clear hi)
           (try clear ho0)
           refine hK.out _ _ trivial (fun hHeld => ?_)
           clear hK K
           refine nm_ 54 ?_
           exact nq_ (hJ1_9 (vA7, vA5) _ ⟨(crM HOA6 fun _ hk => hk.2), (crM HOA2 fun _ hk => hk.2), (blw HB)⟩)
          ·
           skip
           refine Kd.R_lit_step (Kd.int .i64) _ 3 ?hg (N := 55) ?hd (xs := ([0] : List Int)) (inner := [.int .i64 0]) (ok := fun _ => True) (okp := fun _ => True) ?hr ?hp (fun _ hk => hk) trivial (Below.refl _ _) (Nat.le_refl _) (by simp) ?_; (case hd => rfl); (case hg => rfl); (case hr => first | (go_simp; done) | (go_simp; rfl)); (case hp => exact (Reps.one (show Kd.M (Kd.int .i64) _ _ _ 0 [.int .i64 0] from rfl) (Reps.none _ _)))
           intro vA8 w24 ho25 hb hg_ hnew_
           clear hg_ hnew_
           (first | rw [← NyA3.out] at ho25 | (simp only [Int.reduceToNat] at ho25; rw [← NyA3.out] at ho25))
           have HOA1 := lwR (nwR ho25 HOA2) HB
           replace HOA2 := eldR HOA2 (Kd.R_base ho25) hb
           replace HB := bst HB hb
           clear hb ho25
           refine hK.out _ _ trivial (fun hHeld => ?_)
           clear hK K
           refine nm_ 55 ?_
           exact nq_ (hJ2_9 (vA8, vA5) _ ⟨(crM HOA1 fun _ hk => hk.2), (crM HOA2 fun _ hk => hk.2), (blw HB)⟩)
        ·
         skip
         rintro vA8 w23 ⟨h0_, h1_⟩
         have HOA1 : Aside0 (Kd.R (Kd.int .i64) 3 w23 w20.heap.size (fun _ => True) vA8 yA3) := ⟨h0_⟩
         replace HB : Aside0 (Below w20.heap.size w20 w23) := ⟨h1_⟩
         clear h0_ h1_
         have hHeld := trivial
         refine np_ ?_
         refine two_ (i := 1) (j := 9) (Ni := some 54) (Nj := some 62) (bm 12 503) (bm 12 1013) rfl rfl rfl rfl (two_of HT_.out (by kernel_rfl)) (by decide) (by decide) (fun K hK => ?_) (fun K hK => ?_)
         ·
          skip
          refine g_ Try.func91 #[.slice A0 l0.length c0] ?_
          with_reducible refine (slices_Clone_int_int.calls _ _ l0 tB1 _ ?side1 ?side2 A12.out).mono ?_
          (case side1 => exact crC (Kd.C_below HR0.out HB.out))
          (case side2 => exact HC0.out)
          rintro e w24 ⟨vA7, rfl, ho0, hb⟩
          refine ⟨_, rfl, ?_⟩
          have HOA6 := lwR (nwR ho0 HOA1) HB
          replace HOA1 := eldR HOA1 (Kd.R_base ho0) hb
          replace HB := bst HB hb
          (try clear hb)
          (try clear hb2)
          (try clear hk)
          (try clear hi)
          (try clear ho0)
          refine hK.out _ _ trivial (fun hHeld => ?_)
          clear hK K
          refine nm_ 54 ?_
          exact nq_ (hJ1_2 (vA7, vA8) _ ⟨(crM HOA6 fun _ hk => hk.2), (crM HOA1 fun _ hk => hk.2), (blw HB)⟩)
         ·
          skip
          refine Kd.R_make_step (Kd.int .i64) _ 3 (by rfl) (N := 62) rfl 30 _ _ rfl ji14 rfl rfl Try.underlying30 (.int .i64 0) 8 info3 rfl (by decide) (by omega) 0 (ok := fun _ => True) (okp := fun _ => True) rfl (fun _ hk => hk) trivial (of_decide_eq_true (by first | (with_reducible assumption) | assumption)) (Nat.le_trans (Nat.mul_le_mul_right _ (of_decide_eq_true (by first | (with_reducible assumption) | assumption) : ji14.toNat ≤ 35184372088832)) (by omega)) (Below.refl _ _) (Nat.le_refl _) ?_
          intro vA5 w24 ho25 hb hg_ hnew_
          clear hg_ hnew_
          (first | rw [← NyA9.out] at ho25 | (simp only [Int.reduceToNat] at ho25; rw [← NyA9.out] at ho25))
          have HOA2 := lwR (nwR ho25 HOA1) HB
          replace HOA1 := eldR HOA1 (Kd.R_base ho25) hb
          replace HB := bst HB hb
          clear hb ho25
          refine hK.out _ _ trivial (fun hHeld => ?_)
          clear hK K
          refine nm_ 62 ?_
          exact nq_ (hJ2_9 (vA8, vA5) _ ⟨(crM HOA1 fun _ hk => hk.2), (crM HOA2 fun _ hk => hk.2), (blw HB)⟩)
       ·
        skip
        rintro vA7 w22 ⟨h0_, h1_⟩
        have HOA6 : Aside0 (Kd.R (Kd.int .i64) 3 w22 w20.heap.size (fun _ => True) vA7 tB1) := ⟨h0_⟩
        replace HB : Aside0 (Below w20.heap.size w20 w22) := ⟨h1_⟩
        clear h0_ h1_
        have hHeld := trivial
        refine np_ ?_
        refine two_ (i := 2) (j := 9) (Ni := some 55) (Nj := some 62) (bm 12 503) (bm 12 1011) rfl rfl rfl rfl (two_of HT_.out (by kernel_rfl)) (by decide) (by decide) (fun K hK => ?_) (fun K hK => ?_)
        ·
         skip
         refine Kd.R_lit_step (Kd.int .i64) _ 3 ?hg (N := 55) ?hd (xs := ([0] : List Int)) (inner := [.int .i64 0]) (ok := fun _ => True) (okp := fun _ => True) ?hr ?hp (fun _ hk => hk) trivial (Below.refl _ _) (Nat.le_refl _) (by simp) ?_; (case hd => rfl); (case hg => rfl); (case hr => first | (go_simp; done) | (go_simp; rfl)); (case hp => exact (Reps.one (show Kd.M (Kd.int .i64) _ _ _ 0 [.int .i64 0] from rfl) (Reps.none _ _)))
         intro vA8 w23 ho24 hb hg_ hnew_
         clear hg_ hnew_
         (first | rw [← NyA3.out] at ho24 | (simp only [Int.reduceToNat] at ho24; rw [← NyA3.out] at ho24))
         have HOA1 := lwR (nwR ho24 HOA6) HB
         replace HOA6 := eldR HOA6 (Kd.R_base ho24) hb
         replace HB := bst HB hb
         clear hb ho24
         refine hK.out _ _ trivial (fun hHeld => ?_)
         clear hK K
         refine nm_ 55 ?_
         exact nq_ (hJ1_2 (vA7, vA8) _ ⟨(crM HOA6 fun _ hk => hk.2), (crM HOA1 fun _ hk => hk.2), (blw HB)⟩)
        ·
         skip
         refine Kd.R_make_step (Kd.int .i64) _ 3 (by rfl) (N := 62) rfl 30 _ _ rfl ji14 rfl rfl Try.underlying30 (.int .i64 0) 8 info3 rfl (by decide) (by omega) 0 (ok := fun _ => True) (okp := fun _ => True) rfl (fun _ hk => hk) trivial (of_decide_eq_true (by first | (with_reducible assumption) | assumption)) (Nat.le_trans (Nat.mul_le_mul_right _ (of_decide_eq_true (by first | (with_reducible assumption) | assumption) : ji14.toNat ≤ 35184372088832)) (by omega)) (Below.refl _ _) (Nat.le_refl _) ?_
         intro vA5 w23 ho24 hb hg_ hnew_
         clear hg_ hnew_
         (first | rw [← NyA9.out] at ho24 | (simp only [Int.reduceToNat] at ho24; rw [← NyA9.out] at ho24))
         have HOA2 := lwR (nwR ho24 HOA6) HB
         replace HOA6 := eldR HOA6 (Kd.R_base ho24) hb
         replace HB := bst HB hb
         clear hb ho24
         refine hK.out _ _ trivial (fun hHeld => ?_)
         clear hK K
         refine nm_ 62 ?_
         exact nq_ (hJ1_9 (vA7, vA5) _ ⟨(crM HOA6 fun _ hk => hk.2), (crM HOA2 fun _ hk => hk.2), (blw HB)⟩)
      ·
       skip
       rintro ⟨vA8, vA5⟩ w25 ⟨h0_, h1_, h2_⟩
       have HOA1 : Aside0 (Kd.R (Kd.int .i64) 3 w25 w20.heap.size (fun k_ => nO k_ vA5) vA8 yA3) := ⟨h0_⟩
       have HOA2 : Aside0 (Kd.R (Kd.int .i64) 3 w25 w20.heap.size (fun k_ => nO k_ vA8) vA5 yA9) := ⟨h1_⟩
       replace HB : Aside0 (Below w20.heap.size w20 w25) := ⟨h2_⟩
       clear h0_ h1_ h2_
       have hHeld := trivial
       refine np_ ?_
       refine one_ (i := 1) (N := some 54) (bm 12 1015) rfl rfl (one_of HT_.out (by kernel_rfl)) (by decide) (fun K hK => ?_)
       refine g_ Try.func91 #[.slice A0 l0.length c0] ?_
       with_reducible refine (slices_Clone_int_int.calls _ _ l0 tB1 _ ?side1 ?side2 A12.out).mono ?_
       (case side1 => exact crC (Kd.C_below HR0.out HB.out))
       (case side2 => exact HC0.out)
       rintro e w26 ⟨vA7, rfl, ho0, hb⟩
       refine ⟨_, rfl, ?_⟩
       have HOA6 := lwR (nwR (nwR ho0 HOA1) HOA2) HB
       replace HOA1 := eldR HOA1 (Kd.R_base ho0) hb
       replace HOA2 := eldR HOA2 (Kd.R_base ho0) hb
       replace HB := bst HB hb
       (try clear hb)
       (try clear hb2)
       (try clear hk)
       (try clear hi)
       (try clear ho0)
       refine hK.out _ _ trivial (fun hHeld => ?_)
       clear hK K
       refine nm_ 54 ?_
       exact nq_ (hJ1_2_9 (vA7, vA8, vA5) _ ⟨(crM HOA6 fun _ hk => ⟨hk.1.2, hk.2⟩), (crM HOA1 fun _ hk => ⟨hk.2, hk.1⟩), (crM HOA2 fun _ hk => ⟨hk.2, hk.1⟩), (blw HB)⟩)
     ·
      skip
      rintro ⟨vA7, vA5⟩ w24 ⟨h0_, h1_, h2_⟩
      have HOA6 : Aside0 (Kd.R (Kd.int .i64) 3 w24 w20.heap.size (fun k_ => nO k_ vA5) vA7 tB1) := ⟨h0_⟩
      have HOA2 : Aside0 (Kd.R (Kd.int .i64) 3 w24 w20.heap.size (fun k_ => nO k_ vA7) vA5 yA9) := ⟨h1_⟩
      replace HB : Aside0 (Below w20.heap.size w20 w24) := ⟨h2_⟩
      clear h0_ h1_ h2_
      have hHeld := trivial
      refine np_ ?_
      refine one_ (i := 2) (N := some 55) (bm 12 1015) rfl rfl (one_of HT_.out (by kernel_rfl)) (by decide) (fun K hK => ?_)
      refine Kd.R_lit_step (Kd.int .i64) _ 3 ?hg (N := 55) ?hd (xs := ([0] : List Int)) (inner := [.int .i64 0]) (ok := fun _ => True) (okp := fun _ => True) ?hr ?hp (fun _ hk => hk) trivial (Below.refl _ _) (Nat.le_refl _) (by simp) ?_; (case hd => rfl); (case hg => rfl); (case hr => first | (go_simp; done) | (go_simp; rfl)); (case hp => exact (Reps.one (show Kd.M (Kd.int .i64) _ _ _ 0 [.int .i64 0] from rfl) (Reps.none _ _)))
      intro vA8 w25 ho26 hb hg_ hnew_
      clear hg_ hnew_
      (first | rw [← NyA3.out] at ho26 | (simp only [Int.reduceToNat] at ho26; rw [← NyA3.out] at ho26))
      have HOA1 := lwR (nwR (nwR ho26 HOA6) HOA2) HB
      replace HOA6 := eldR HOA6 (Kd.R_base ho26) hb
      replace HOA2 := eldR HOA2 (Kd.R_base ho26) hb
      replace HB := bst HB hb
      clear hb ho26
      refine hK.out _ _ trivial (fun hHeld => ?_)
      clear hK K
      refine nm_ 55 ?_
      exact nq_ (hJ1_2_9 (vA7, vA8, vA5) _ ⟨(crM HOA6 fun _ hk => ⟨hk.2, hk.1⟩), (crM HOA1 fun _ hk => ⟨hk.1.2, hk.2⟩), (crR HOA2), (blw HB)⟩)
    ·
     skip
     rintro ⟨vA7, vA8⟩ w24 ⟨h0_, h1_, h2_⟩
     have HOA6 : Aside0 (Kd.R (Kd.int .i64) 3 w24 w20.heap.size (fun k_ => nO k_ vA8) vA7 tB1) := ⟨h0_⟩
     have HOA1 : Aside0 (Kd.R (Kd.int .i64) 3 w24 w20.heap.size (fun k_ => nO k_ vA7) vA8 yA3) := ⟨h1_⟩
     replace HB : Aside0 (Below w20.heap.size w20 w24) := ⟨h2_⟩
     clear h0_ h1_ h2_
     have hHeld := trivial
     obtain ⟨Ao26, co26, eo26⟩ := Kd.R_slice HOA1.out
     (first | subst eo26 | (injection eo26 with f1_ f2_ f3_; have f4_ := f1_.symm; have f5_ := f3_.symm; clear f1_ f2_ f3_; subst f4_; subst f5_))
     refine np_ ?_
     refine two_ (i := 3) (j := 9) (Ni := some 56) (Nj := some 62) (bm 12 511) (bm 12 1015) rfl rfl rfl rfl (two_of HT_.out (by kernel_rfl)) (by decide) (by decide) (fun K hK => ?_) (fun K hK => ?_)
     ·
      skip
      refine Kd.R_append_rows_step (Kd.int .i64) (w0 := w20) w20.heap.size (by rfl) (.tmp 54) (.tmp 55) 30 3 (.int .i64 0) 8 rfl Try.underlying30 info3 rfl (by decide) (by omega) vA7 tB1 yA3 _ _ _ (fun k_ => nO k_ (.slice Ao26 yA3.length co26)) (fun _ => False) rfl rfl ?aO ?aR (fun _ _ h => h) (fun _ h => h.elim) ?aF ?aB ?aS ?aL ?_
      (case aR => exact crC (Kd.R_reads' HOA1.out).2.2)
      (case aB => exact (blw HB))
      (case aF => exact (fun k_ hk => Kd.fresh' (Kd.R_lt (crR HOA1)) k_ hk))
      (case aO => exact (crR HOA6))
      (case aS => exact (bsz HB))
      (case aL => have := LMc13.out; omega)
      intro vC1 w25 ho hb hg hat
      rw [← NyB8.out] at ho
      replace HOA1 := Aside0.mk (Kd.R_after (ok := (fun _ => True)) (crM HOA1 fun _ hk => ⟨trivial, hk⟩) hg hat)
      replace HB := Aside0.mk (hb)
      have HOC2 := Aside0.mk (ho)
      clear HOA6
      clear ho hb hg hat
      refine hK.out _ _ trivial (fun hHeld => ?_)
      clear hK K
      refine nm_ 56 ?_
      refine pu_ 10 (some 11) (bm 12 1535) HT_.out ?_
      exact nq_ (hJ1_2_3 (vA7, .slice Ao26 yA3.length co26, vC1) _ ⟨(crM HOA1 fun _ hk => hk.2), (crR HOC2), (blw HB)⟩)
     ·
      skip
      refine Kd.R_make_step (Kd.int .i64) _ 3 (by rfl) (N := 62) rfl 30 _ _ rfl ji14 rfl rfl Try.underlying30 (.int .i64 0) 8 info3 rfl (by decide) (by omega) 0 (ok := fun _ => True) (okp := fun _ => True) rfl (fun _ hk => hk) trivial (of_decide_eq_true (by first | (with_reducible assumption) | assumption)) (Nat.le_trans (Nat.mul_le_mul_right _ (of_decide_eq_true (by first | (with_reducible assumption) | assumption) : ji14.toNat ≤ 35184372088832)) (by omega)) (Below.refl _ _) (Nat.le_refl _) ?_
      intro vA5 w25 ho26 hb hg_ hnew_
      clear hg_ hnew_
      (first | rw [← NyA9.out] at ho26 | (simp only [Int.reduceToNat] at ho26; rw [← NyA9.out] at ho26))
      have HOA2 := lwR (nwR (nwR ho26 HOA6) HOA1) HB
      replace HOA6 := eldR HOA6 (Kd.R_base ho26) hb
      replace HOA1 := eldR HOA1 (Kd.R_base ho26) hb
      replace HB := bst HB hb
      clear hb ho26
      refine hK.out _ _ trivial (fun hHeld => ?_)
      clear hK K
      refine nm_ 62 ?_
      exact nq_ (hJ1_2_9 (vA7, (.slice Ao26 yA3.length co26 : Value), vA5) _ ⟨(crR HOA6), (crR HOA1), (crM HOA2 fun _ hk => ⟨hk.1.2, hk.2⟩), (blw HB)⟩)
   ·
    skip
    rintro ⟨vA7, vA8, vA5⟩ w26 ⟨h0_, h1_, h2_, h3_⟩
    have HOA6 : Aside0 (Kd.R (Kd.int .i64) 3 w26 w20.heap.size (fun k_ => nO k_ vA8 ∧ nO k_ vA5) vA7 tB1) := ⟨h0_⟩
    have HOA1 : Aside0 (Kd.R (Kd.int .i64) 3 w26 w20.heap.size (fun k_ => nO k_ vA7 ∧ nO k_ vA5) vA8 yA3) := ⟨h1_⟩
    have HOA2 : Aside0 (Kd.R (Kd.int .i64) 3 w26 w20.heap.size (fun k_ => nO k_ vA7 ∧ nO k_ vA8) vA5 yA9) := ⟨h2_⟩
    replace HB : Aside0 (Below w20.heap.size w20 w26) := ⟨h3_⟩
    clear h0_ h1_ h2_ h3_
    have hHeld := trivial
    obtain ⟨Ao28, co28, eo28⟩ := Kd.R_slice HOA1.out
    (first | subst eo28 | (injection eo28 with f1_ f2_ f3_; have f4_ := f1_.symm; have f5_ := f3_.symm; clear f1_ f2_ f3_; subst f4_; subst f5_))
    refine np_ ?_
    refine one_ (i := 3) (N := some 56) (bm 12 1023) rfl rfl (one_of HT_.out (by kernel_rfl)) (by decide) (fun K hK => ?_)
    refine Kd.R_append_rows_step (Kd.int .i64) (w0 := w20) w20.heap.size (by rfl) (.tmp 54) (.tmp 55) 30 3 (.int .i64 0) 8 rfl Try.underlying30 info3 rfl (by decide) (by omega) vA7 tB1 yA3 _ _ _ (fun k_ => nO k_ (.slice Ao28 yA3.length co28) ∧ nO k_ vA5) (fun _ => False) rfl rfl ?aO ?aR (fun _ _ h => h) (fun _ h => h.elim) ?aF ?aB ?aS ?aL ?_
    (case aR => exact crC (Kd.R_reads' HOA1.out).2.2)
    (case aB => exact (blw HB))
    (case aF => exact (fun k_ hk => ⟨Kd.fresh' (Kd.R_lt (crR HOA1)) k_ hk, Kd.fresh' (Kd.R_lt (crR HOA2)) k_ hk⟩))
    (case aO => exact (crR HOA6))
    (case aS => exact (bsz HB))
    (case aL => have := LMc13.out; omega)
    intro vC1 w27 ho hb hg hat
    rw [← NyB8.out] at ho
    replace HOA1 := Aside0.mk (Kd.R_after (ok := (fun k_ => nO k_ vA5)) (crM HOA1 fun _ hk => ⟨hk.2, hk.1⟩) hg hat)
    replace HOA2 := Aside0.mk (Kd.R_after (ok := (fun k_ => nO k_ (.slice Ao28 yA3.length co28))) (crM HOA2 fun _ hk => ⟨hk.2, hk.1⟩) hg hat)
    replace HB := Aside0.mk (hb)
    have HOC2 := Aside0.mk (ho)
    clear HOA6
    clear ho hb hg hat
    refine hK.out _ _ trivial (fun hHeld => ?_)
    clear hK K
    refine nm_ 56 ?_
    refine pu_ 10 (some 11) (bm 12 2047) HT_.out ?_
    exact nq_ (hJ1_2_3_9 (vA7, .slice Ao28 yA3.length co28, vC1, vA5) _ ⟨(crM HOA1 fun _ hk => ⟨hk.2, hk.1⟩), (crR HOC2), (crR HOA2), (blw HB)⟩)
  ·
   skip
   rintro ⟨vA7, vA8, vC1⟩ w26 ⟨h0_, h1_, h2_⟩
   have HOA1 : Aside0 (Kd.R (Kd.int .i64) 3 w26 w20.heap.size (fun k_ => nO k_ vC1) vA8 yA3) := ⟨h0_⟩
   have HOC2 : Aside0 (Kd.R (Kd.int .i64) 3 w26 w20.heap.size (fun k_ => nO k_ vA8) vC1 yB8) := ⟨h1_⟩
   replace HB : Aside0 (Below w20.heap.size w20 w26) := ⟨h2_⟩
   clear h0_ h1_ h2_
   have hHeld := trivial
   refine np_ ?_
   refine one_ (i := 9) (N := some 62) (bm 12 2047) rfl rfl (one_of HT_.out (by kernel_rfl)) (by decide) (fun K hK => ?_)
   refine Kd.R_make_step (Kd.int .i64) _ 3 (by rfl) (N := 62) rfl 30 _ _ rfl ji14 rfl rfl Try.underlying30 (.int .i64 0) 8 info3 rfl (by decide) (by omega) 0 (ok := fun _ => True) (okp := fun _ => True) rfl (fun _ hk => hk) trivial (of_decide_eq_true (by first | (with_reducible assumption) | assumption)) (Nat.le_trans (Nat.mul_le_mul_right _ (of_decide_eq_true (by first | (with_reducible assumption) | assumption) : ji14.toNat ≤ 35184372088832)) (by omega)) (Below.refl _ _) (Nat.le_refl _) ?_
   intro vA5 w27 ho28 hb hg_ hnew_
   clear hg_ hnew_
   (first | rw [← NyA9.out] at ho28 | (simp only [Int.reduceToNat] at ho28; rw [← NyA9.out] at ho28))
   have HOA2 := lwR (nwR (nwR ho28 HOA1) HOC2) HB
   replace HOA1 := eldR HOA1 (Kd.R_base ho28) hb
   replace HOC2 := eldR HOC2 (Kd.R_base ho28) hb
   replace HB := bst HB hb
   clear hb ho28
   refine hK.out _ _ trivial (fun hHeld => ?_)
   clear hK K
   refine nm_ 62 ?_
   exact nq_ (hJ1_2_3_9 (vA7, vA8, vC1, vA5) _ ⟨(crR HOA1), (crR HOC2), (crM HOA2 fun _ hk => ⟨hk.1.2, hk.2⟩), (blw HB)⟩)
 rintro ⟨vA7, vA8, vC1, vA5⟩ w28 ⟨h0_, h1_, h2_, h3_⟩
 have HOA1 : Aside0 (Kd.R (Kd.int .i64) 3 w28 w20.heap.size (fun k_ => nO k_ vC1 ∧ nO k_ vA5) vA8 yA3) := ⟨h0_⟩
 have HOC2 : Aside0 (Kd.R (Kd.int .i64) 3 w28 w20.heap.size (fun k_ => nO k_ vA8 ∧ nO k_ vA5) vC1 yB8) := ⟨h1_⟩
 have HOA2 : Aside0 (Kd.R (Kd.int .i64) 3 w28 w20.heap.size (fun k_ => nO k_ vA8 ∧ nO k_ vC1) vA5 yA9) := ⟨h2_⟩
 replace HB : Aside0 (Below w20.heap.size w20 w28) := ⟨h3_⟩
 clear h0_ h1_ h2_ h3_
 have hHeld := trivial
 refine np_ ?_
 refine pu_ 11 (some 12) (bm 12 4095) HT_.out ?_
 refine done_ (done_of HT_.out (by kernel_rfl)) ?_
 obtain ⟨gR, capR, TR, eR, bR, hR, nR, cR, tR, okR⟩ := own_mk HOC2.out (by rw [NyB8.out, NyA3.out]; simp)
 obtain ⟨gO, capO, TO, eO, bO, hO, nO, cO, tO, okO⟩ := own_mk HOA2.out (by rw [NyA9.out, List.length_replicate]; have h1_ := HJV.out; have h2_ := HLE.out; omega)
 have HNE : Aside0 (gR ≠ gO) := ⟨fun e => okR.2 (by rw [e, eO]; rfl)⟩
 have ly : yB8.length = l0.length + 1 := by rw [NyB8.out, NyA3.out, NB1.out]; simp
 have lo : yA9.length = l0.length - l1.length + 1 := by rw [NyA9.out, List.length_replicate]; have h1_ := HJV.out; have h2_ := HLE.out; omega
 rw [ly] at eR nR tR
 rw [lo] at eO nO tO
 have HR_ := Aside0.mk hR
 have HO_ := Aside0.mk hO
 have HBR := Aside0.mk bR
 have HBO := Aside0.mk bO
 have HNR := Aside0.mk nR
 have HNO := Aside0.mk nO
 have HTR := Aside0.mk tR
 have HTO := Aside0.mk tO
 have HCR := Aside0.mk cR
 have HCO := Aside0.mk cO
 have HLY := Aside0.mk ly
 have HLO := Aside0.mk lo
 clear HOA1 HOC2 HOA2 okR okO hR hO bR bO nR nO tR tO cR cO ly lo
 subst eR eO
 have hwr : wrap64 ((l0.length : Int) - (l1.length : Int)) = (l0.length : Int) - l1.length := by
  have h1_ := HBIG.out
  have h2_ := HLE.out
  rw [wrap64]; omega
 have hvb : 0 < Pn.vl l1 := by
  have h1 := Pn.vl_nonneg lm1
  obtain ⟨lo, u, v, eb, el, eu, ev⟩ := Pn.split2 HN.out
  have h2 := HTOP.out
  rw [ev] at h2
  have h3 : Pn.Lm lo := fun t ht => lm1 t (by rw [eb]; exact List.mem_append_left _ ht)
  have h4 := lm1 u (by rw [eb]; simp)
  have h5 := Pn.vl_nonneg h3
  have h6 : 0 < (10000 : Int) ^ n * (u + 10000 * (v + 10000 * 0)) := Int.mul_pos (Pn.pow_pos' n) (by omega)
  rw [eb, Pn.vl_append, el]
  simp only [Pn.vl]
  omega
 have HVB := Aside0.mk hvb
 clear hvb
 go_wp2
 rw [hwr]
 clear hji14 hji14w c15b0 c15b1 c16b0 c16b1 hwr c10 c10b0 c10b1 c4b0 hneg
 go_loopw [13] (fun jv wr => ∃ (i : Nat) (jj : Int) (X D : List Int), jv = .int .i64 jj ∧ Aside0 (jj + 1 = (i : Int)) ∧ Aside0 (Pn.Lng l0 l1 X D i) ∧ Aside0 (X.length = l0.length + 1) ∧ Aside0 (i + D.length = l0.length - l1.length + 1) ∧ Aside0 (wr.heap[gR]? = some (.cells (mk64 TR X) 3 (0, 0))) ∧ Aside0 (wr.heap[gO]? = some (.cells (mk64 TO (List.replicate i 0 ++ D)) 3 (0, 0))) ∧ Aside0 (Below w20.heap.size w20 wr)) (fun jv wr => (intOf jv + 1).toNat)
 case atStart =>
  refine ⟨l0.length - l1.length + 1, _, yB8, [], rfl, ⟨by have h1_ := HLE.out; omega⟩, ⟨by rw [NyB8.out, NyA3.out, NB1.out]; exact Pn.lng_start lm0 lm1 HN.out HTOP.out HLE.out⟩, HLY, ⟨rfl⟩, HR_, ⟨?_⟩, HB⟩
  rw [List.append_nil]
  have h1_ : ji14.toNat = l0.length - l1.length + 1 := by have h1_ := HJV.out; have h2_ := HLE.out; omega
  rw [← h1_, ← NyA9.out]; exact HO_.out
 case round =>
  clear HR_ HO_ HB
  obtain ⟨i, jj, X, D, rfl, hji, HLN, HLX, HLD, HGR, HGO, HB⟩ := hrel
  cases i with
  | zero =>
   have hj : jj = -1 := by have h1_ := hji.out; omega
   subst hj
   obtain ⟨eD, eX⟩ := Pn.lng_end HLN.out HVB.out
   have hDl : D.length = l0.length - l1.length + 1 := by have h1_ := HLD.out; omega
   have hD : D = Pn.lims (l0.length - l1.length + 1) (Pn.vl l0 / Pn.vl l1) := Pn.lims_of HLN.out.2.1 hDl eD
   have hX : X = Pn.lims (l0.length + 1) (Pn.vl l0 % Pn.vl l1) := Pn.lims_of HLN.out.1 HLX.out eX
   have hgO : wr.heap[gO]? = some (.cells (mk64 TO D) 3 (0, 0)) := by
    have h1_ := HGO.out
    rwa [List.replicate_zero, List.nil_append] at h1_
   have RO := mk_own (base := w20.heap.size) (ok := fun k_ => some k_ = some gO) HBO.out hgO (by rw [hDl]; exact HNO.out) HCO.out (by rw [hDl]; exact HTO.out) rfl
   have RR : ∀ W_ : World, W_.heap[gR]? = some (.cells (mk64 TR X) 3 (0, 0)) → Kd.R (Kd.int .i64) 3 W_ w20.heap.size (fun k_ => some k_ = some gR) (.slice (some ⟨gR, 0, none⟩) (l0.length + 1) capR) (Pn.lims (l0.length + 1) (Pn.vl l0 % Pn.vl l1)) := by
    intro W_ h_
    have h2_ := mk_own (base := w20.heap.size) (ok := fun k_ => some k_ = some gR) HBR.out h_ (by rw [HLX.out]; exact HNR.out) HCR.out (by rw [HLX.out]; exact HTR.out) rfl
    rwa [HLX.out, hX] at h2_
   rw [hDl, hD] at RO
   have HRO := Aside0.mk RO
   have HRR := Aside0.mk RR
   have HLR := Aside0.mk (blk_lt HGR.out)
   clear RO RR hD hX hgO hDl eD eX HLN
   go_wp2_with (first | ((with_reducible refine gate_callee (f := 90) rfl ?_); refine goesL_ (some 84) rfl rfl Try.func90 (by kernel_rfl) rfl #[.slice (some ⟨gO, 0, none⟩) (l0.length - l1.length + 1) capO] rfl (by (try simp only [List.map_toArray, List.map_cons, List.map_nil]); first | done | rfl) ?_; (with_reducible refine (impl_trimmed.calls kt (fun k_ => some k_ = some gO) (.slice (some ⟨gO, 0, none⟩) (l0.length - l1.length + 1) capO) _ tD1 w20 _ HB.out HRO.out A17.out).mono ?_); rintro e w30 ⟨vG8, rfl, ho0, hb, hkp⟩; refine ⟨_, rfl, ?_⟩; have HO0 := Aside0.mk ho0; have HB0 := Aside0.mk hb; have HR2 := Aside0.mk (HRR.out w30 ((hkp.2 gR HLR.out (fun e => HNE.out (Option.some.inj e))).trans HGR.out)); have HSZ := Aside0.mk hkp.1; clear ho0 hb hkp) | ((with_reducible refine gate_callee (f := 90) rfl ?_); refine goesL_ (some 86) rfl rfl Try.func90 (by kernel_rfl) rfl #[.slice (some ⟨gR, 0, none⟩) (l0.length + 1) capR] rfl (by (try simp only [List.map_toArray, List.map_cons, List.map_nil]); first | done | rfl) ?_; (with_reducible refine (impl_trimmed.calls kt (fun k_ => some k_ = some gR) (.slice (some ⟨gR, 0, none⟩) (l0.length + 1) capR) _ tD2 w20 _ HB0.out HR2.out A18.out).mono ?_); rintro e w32 ⟨vG9, rfl, ho1, hb, hkp⟩; refine ⟨_, rfl, ?_⟩; have HO1 := Aside0.mk ho1; have HB1 := Aside0.mk hb; have HKP := Aside0.mk hkp; clear ho1 hb hkp))
   go_ret2
   exact ⟨_, _, rfl,
    Kd.R_lower (Kd.R_mono (ok' := fun k_ => nO k_ vG9) (Kd.R_keptB HO0.out HKP.out (fun k_ hk_ hs_ => Or.elim hk_ (fun h_ => HNE.out (Option.some.inj (hs_.symm.trans h_))) (fun hn_ => by have h_ := HLR.out; cases hs_; omega))) (fun k_ hk_ => fun e_ => Or.elim (HO1.out.1 k_ e_.symm) (fun hs_ => hk_.2.1 hs_) (fun hn_ => Nat.not_le.2 hk_.2.2 hn_))) (below_size HBW.out),
    Kd.R_lower (Kd.R_mono (ok' := fun k_ => nO k_ vG8) HO1.out (fun k_ hk_ => Or.elim hk_ (fun hs_ => fun e_ => Or.elim (HO0.out.1 k_ e_.symm) (fun h_ => HNE.out (Option.some.inj (hs_.symm.trans h_))) (fun hn_ => by have h_ := HLR.out; cases hs_; omega)) (fun hn_ => Kd.fresh' (Kd.R_lt HO0.out) k_ hn_))) (below_size HBW.out),
    below_step HBW.out HB1.out⟩
  | succ k =>
   have hj : jj = (k : Int) := by have h1_ := hji.out; omega
   subst hj
   obtain ⟨P, V, S, eX, hP, hV⟩ := win3 (X := X) (k := k) (m := l1.length + 1) (by have h1_ := HLX.out; have h2_ := HLD.out; have h3_ := HLE.out; omega)
   subst eX
   have HBXr : Aside0 (wr.cell? ⟨w.heap.size, 0, none⟩ = some (.slice A1 l1.length c1)) := ⟨(HB.out.cell (World.block_lt_of_cell? w20 _ HBX.out)).trans HBX.out⟩
   have hk0 : 0 ≤ (k : Int) := by omega
   have hkd : decide ((k : Int) ≥ 0) = true := decide_eq_true hk0
   have s1 : IntKind.i64.wrap ((k : Int) + (l1.length : Int)) = (k : Int) + l1.length := by
    have h1_ := HLD.out
    have h2_ := HBIG.out
    have h3_ := HLE.out
    rw [IntKind.wrap_i64]; omega
   have s2 : IntKind.i64.wrap ((k : Int) + (l1.length : Int) + 1) = (k : Int) + l1.length + 1 := by
    have h1_ := HLD.out
    have h2_ := HBIG.out
    have h3_ := HLE.out
    rw [IntKind.wrap_i64]; omega
   have q0 : ((k : Int) + (l1.length : Int) + 1).toNat = k + (l1.length + 1) := by omega
   have hle0 : k + (l1.length + 1) ≤ capR := by
    have h1_ := HNR.out
    have h2_ := HLD.out
    have h3_ := HLE.out
    omega
   have q1 : (0 ≤ (k : Int) + (l1.length : Int) + 1) = True := eq_true (by omega)
   have q2 : ((k : Int) + (l1.length : Int) + 1 ≤ (capR : Int)) = True := eq_true (by omega)
   have q3 : (capR = k) = False := eq_false (by omega)
   have q4 : ((k : Int) < ((l0.length - l1.length : Nat) : Int) + 1) = True := eq_true (by have h2_ := HLD.out; omega)
   clear hle0
   have HDIG : ∀ W_ : World, W_.heap[gR]? = some (.cells (mk64 TR (P ++ V ++ S)) 3 (0, 0)) → Below w20.heap.size w20 W_ → Calls Try.prog 94 #[.slice (some ⟨gR, k, none⟩) (l1.length + 1) (capR - k), .slice A1 l1.length c1] W_ fun e w' => ∃ W1, e = .returned (.int .i64 (Pn.vl V / Pn.vl l1)) ∧ Pn.Lm W1 ∧ W1.length = V.length ∧ Pn.vl W1 = Pn.vl V % Pn.vl l1 ∧ w'.heap[gR]? = some (.cells (mk64 TR (P ++ W1 ++ S)) 3 (0, 0)) ∧ Below w20.heap.size w20 w' ∧ KeepBut W_ w' gR none := by
    intro W_ h1_ h2_
    obtain ⟨hlt, _, _, lV, _⟩ := Pn.lng_win HLN.out hP hV lm1
    have h3_ := impl_natDigit.calls gR (capR - k) 3 TR P V S n A1 c1 l1 w20.heap.size w20 W_ h1_ (by rw [hV]; have h4_ := HBIG.out; have h5_ := HLE.out; omega) HBR.out h2_ (Kd.C_below HR1.out h2_) HC1.out (fun ad e _ => by
     subst e
     have h6_ := Kd.C_lt HR1.out (by have h7_ := HN.out; omega) (by decide)
     have h8_ := HBR.out
     omega) (by rw [hV, HN.out]) HN.out lV lm1 HTOP.out hlt
    rw [hP, hV] at h3_
    rw [hV]
    exact h3_
   go_wp2
   refine start_ (n := 13) (S := fun w' => w'.cell? ⟨w.heap.size, 0, none⟩ = some (.slice A1 l1.length c1) ∧ w'.heap[gR]? = some (.cells (mk64 TR (P ++ V ++ S)) 3 (0, 0)) ∧ w'.heap[gO]? = some (.cells (mk64 TO (List.replicate (k + 1) 0 ++ D)) 3 (0, 0)) ∧ Below w20.heap.size w20 w') (ds := [10, 12]) (bm 13 0) (by kernel_rfl) rfl rfl ⟨HBXr.out, HGR.out, HGO.out, (below_drew1 HB.out)⟩ (fun hHeld => ?_)
   refine pure_ (i := 0) (N := some 71) (v := ?_) (a' := ?_) (bm 13 1) rfl rfl (by kernel_rfl) (fun _ _ _ h => h) (Or.inl ⟨by rfl, ?_⟩) ?_ ?_
   rotate_left
   ·
    intro w'
    go_simp
    with_reducible rfl
   rotate_left
   ·
    simp only [Act.put, List.setIfInBounds_toArray, List.set_cons_zero, List.set_cons_succ, i64_w, i32_w]
    rfl
   refine pure_ (i := 1) (N := some 72) (v := ?_) (a' := ?_) (bm 13 3) rfl rfl (by kernel_rfl) (fun _ _ _ h => h) (Or.inl ⟨by rfl, ?_⟩) ?_ ?_
   rotate_left
   ·
    intro w'
    go_simp
    with_reducible rfl
   rotate_left
   ·
    simp only [Act.put, List.setIfInBounds_toArray, List.set_cons_zero, List.set_cons_succ, i64_w, i32_w]
    rfl
   refine pure_ (i := 2) (N := some 73) (v := ?_) (a' := ?_) (bm 13 7) rfl rfl (by kernel_rfl) (fun _ _ _ h => h) (Or.inl ⟨by rfl, ?_⟩) ?_ ?_
   rotate_left
   ·
    intro w'
    go_simp
    with_reducible rfl
   rotate_left
   ·
    simp only [Act.put, List.setIfInBounds_toArray, List.set_cons_zero, List.set_cons_succ, i64_w, i32_w]
    rfl
   refine pure_ (i := 3) (N := some 74) (v := ?_) (a' := ?_) (bm 13 15) rfl rfl (by kernel_rfl) (fun _ _ _ h => h) (Or.inl ⟨by rfl, ?_⟩) ?_ ?_
   rotate_left
   ·
    intro w'
    go_simp
    with_reducible rfl
   rotate_left
   ·
    simp only [Act.put, List.setIfInBounds_toArray, List.set_cons_zero, List.set_cons_succ, i64_w, i32_w]
    rfl
   refine pure_ (i := 4) (N := some 75) (v := ?_) (a' := ?_) (bm 13 31) rfl rfl (by kernel_rfl) (fun _ _ _ h => h) (Or.inl ⟨by rfl, ?_⟩) ?_ ?_
   rotate_left
   ·
    intro w'
    go_simp
    with_reducible rfl
   rotate_left
   ·
    simp only [Act.put, List.setIfInBounds_toArray, List.set_cons_zero, List.set_cons_succ, i64_w, i32_w]
    rfl
   refine pure_ (i := 5) (N := some 76) (v := ?_) (a' := ?_) (bm 13 63) rfl rfl (by kernel_rfl) (fun _ _ _ h => h) (Or.inl ⟨by rfl, ?_⟩) ?_ ?_
   rotate_left
   ·
    intro w'
    go_simp
    with_reducible rfl
   rotate_left
   ·
    simp only [Act.put, List.setIfInBounds_toArray, List.set_cons_zero, List.set_cons_succ, i64_w, i32_w]
    rfl
   refine pure_ (i := 6) (N := some 77) (v := ?_) (a' := ?_) (bm 13 127) rfl rfl (by kernel_rfl) (fun _ _ _ h => h) (Or.inl ⟨by rfl, ?_⟩) ?_ ?_
   rotate_left
   ·
    intro w'
    go_simp
    with_reducible rfl
   rotate_left
   ·
    simp only [Act.put, List.setIfInBounds_toArray, List.set_cons_zero, List.set_cons_succ, i64_w, i32_w]
    rfl
   refine pure_ (i := 7) (N := some 78) (v := ?_) (a' := ?_) (bm 13 255) rfl rfl (by kernel_rfl) (fun _ _ _ h => h) (Or.inl ⟨by rfl, ?_⟩) ?_ ?_
   rotate_left
   ·
    intro w'
    go_simp
    with_reducible rfl
   rotate_left
   ·
    simp only [Act.put, List.setIfInBounds_toArray, List.set_cons_zero, List.set_cons_succ, i64_w, i32_w]
    rfl
   refine pure_ (i := 8) (N := some 79) (v := ?_) (a' := ?_) (bm 13 511) rfl rfl (by kernel_rfl) (fun _ _ _ h => h) (Or.inl ⟨by rfl, ?_⟩) ?_ ?_
   rotate_left
   ·
    intro w'
    go_simp
    with_reducible rfl
   rotate_left
   ·
    simp only [Act.put, List.setIfInBounds_toArray, List.set_cons_zero, List.set_cons_succ, i64_w, i32_w]
    rfl
   refine take_ (i := 9) (N := some 80) (v := ?_) (a' := ?_) (bm 13 1023) rfl rfl (by kernel_rfl) (fun _ _ _ h => h) (Or.inl ⟨by rfl, ?_⟩) hHeld ?_ ?_
   rotate_left
   ·
    rintro w' ⟨s0, s1, s2, s3⟩
    go_simp
    with_reducible rfl
   rotate_left
   ·
    simp only [Act.put, List.setIfInBounds_toArray, List.set_cons_zero, List.set_cons_succ, i64_w, i32_w]
    rfl
   refine last_ (i := 10) (N := some 81) (bm 13 2047) rfl rfl (by kernel_rfl) (by decide) (fun K hK => ?_)
   refine goes_ Try.func94 (by kernel_rfl) rfl #[.slice (some ⟨gR, k, none⟩) (l1.length + 1) (capR - k), .slice A1 l1.length c1] (by rfl) rfl rfl (by simp only [List.map_toArray, List.map_cons, List.map_nil]; rfl) ?_
   with_reducible refine (HDIG _ hHeld.2.1 hHeld.2.2.2).mono ?_
   rintro e w31 ⟨W1, rfl, hl1, hlen, hv, hg1, hb1, hk1⟩
   refine ⟨_, rfl, ?_⟩
   have hgo1 := (hk1.2 gO (blk_lt hHeld.2.2.1) (Ne.symm HNE.out) (by simp)).trans hHeld.2.2.1
   have hfz1 := blk_frozen hgo1 k
   have hce1 := mk64_cell (k := k) (x := 0) hgo1 (by rw [List.getElem?_append_left (by simp)]; simp)
   refine hK.out _ _ ?_
   clear hK K
   refine nm_ 81 ?_
   refine pure_ (i := 11) (N := some 82) (v := ?_) (a' := ?_) (bm 13 4095) rfl rfl (by kernel_rfl) (fun _ _ _ h => h) (Or.inl ⟨by rfl, ?_⟩) ?_ ?_
   rotate_left
   ·
    intro w'
    go_simp
    with_reducible rfl
   rotate_left
   ·
    simp only [Act.put, List.setIfInBounds_toArray, List.set_cons_zero, List.set_cons_succ, i64_w, i32_w]
    rfl
   refine last_ (i := 12) (N := none) (bm 13 8191) rfl rfl (by kernel_rfl) (by decide) (fun K hK => ?_)
   refine skip_ (w1 := ?_) (by rfl) rfl ?_ ?_
   rotate_left
   ·
    go_simp
    rfl
   refine hK.out _ _ ?_
   clear hK K
   refine done_ (by kernel_rfl) ?_

   have HG1 := Aside0.mk (blk_far hg1 HNE.out (Value.int .i64 (Pn.vl V / Pn.vl l1)) (p := ⟨gO, k, none⟩))
   have HG2 := Aside0.mk (mk64_set (k := k) (Pn.vl V / Pn.vl l1) (by simp only [List.length_append, List.length_replicate]; omega) hgo1)
   have HB1 := Aside0.mk (hb1.setCell (p := ⟨gO, k, none⟩) HBO.out (.int .i64 (Pn.vl V / Pn.vl l1)))
   have HL1 := Aside0.mk (Pn.lng_step HLN.out hP hV lm1 hl1 hlen hv HVB.out)
   have HLX1 : Aside0 ((P ++ W1 ++ S).length = l0.length + 1) := ⟨by have h_ := HLX.out; simp only [List.length_append] at h_ ⊢; omega⟩
   have HLD1 : Aside0 (k + (Pn.vl V / Pn.vl l1 :: D).length = l0.length - l1.length + 1) := ⟨by have h_ := HLD.out; simp only [List.length_cons]; omega⟩
   rw [rep_set] at HG2
   generalize World.setCell w31 (⟨gO, k, none⟩ : Addr) (.int .i64 (Pn.vl V / Pn.vl l1)) = w33 at HG1 HG2 HB1 ⊢
   clear hl1 hlen hv hg1 hb1 hk1 hgo1 hfz1 hce1 HDIG HLN HLX HLD HGR HGO HB hHeld q0 q1 q2 q3 q4 s1 s2
   have s3 : IntKind.i64.wrap ((k : Int) - 1) = (k : Int) - 1 := by
    have h1_ := HLD1.out
    have h2_ := HBIG.out
    rw [IntKind.wrap_i64]; omega
   go_wp2
   go_roundw
   case rel => exact ⟨k, _, _, _, rfl, ⟨by omega⟩, HL1, HLX1, HLD1, HG1, HG2, HB1⟩
   case measure =>
    simp only [intOf]; omega
-- ALL BUILDS (tried alone behind the Dev head): start_in = the in-fence start_ for a drawn region of load, move, indexAddr, binOp, store, fieldAddr, assign, also inside a round (F.fn everything; Q must not let out)
theorem upon_in {F : Fence} {n : Nat} {P : Program} {o : Oper} {a : Act} {K : Act → World → Prop} {Q : Exit → Act → World → Prop} {r : Result Next}
  (h1 : ∀ f args w', r ≠ .ok (.enter f args) w') (h2 : ∀ s args w', r ≠ .ok (.row s args) w') (h : o.upon P a K Q r) : o.uponIn F n P a K Q r := by
 cases r with
 | ok x w' => cases x <;> first | exact h | exact absurd rfl (h1 _ _ _) | exact absurd rfl (h2 _ _ _) | exact h.elim
 | halt x w' => cases x <;> first | exact h | exact h.elim
theorem v_quiet {P : Program} {w : World} (s : Sem Value) : (∀ f args w', (do pure (Next.value (← s)) : Sem Next).run P w ≠ .ok (.enter f args) w') ∧ (∀ r args w', (do pure (Next.value (← s)) : Sem Next).run P w ≠ .ok (.row r args) w') := by
 constructor <;> (intro f args w' h; simp only [Sem.run_bind] at h; cases hs : s.run P w <;> rw [hs] at h <;> simp [Result.andThen] at h)
theorem u_quiet {P : Program} {w : World} (s : Sem Unit) : (∀ f args w', (do s; pure Next.skip : Sem Next).run P w ≠ .ok (.enter f args) w') ∧ (∀ r args w', (do s; pure Next.skip : Sem Next).run P w ≠ .ok (.row r args) w') := by
 constructor <;> (intro f args w' h; simp only [Sem.run_bind] at h; cases hs : s.run P w <;> rw [hs] at h <;> simp [Result.andThen] at h)
def tameOp : Op → Bool
 | .move _ => true
 | .assign _ => true
 | .load _ _ => true
 | .store _ _ _ => true
 | .binOp _ _ _ _ _ => true
 | .indexAddr _ _ _ => true
 | .fieldAddr _ _ _ => true
 | _ => false
theorem tame_quiet {P : Program} {w : World} {ρ : Operand → Value} {o : Oper} (h : tameOp o.op = true) : (∀ f args w', (execOp ρ o).run P w ≠ .ok (.enter f args) w') ∧ (∀ r args w', (execOp ρ o).run P w ≠ .ok (.row r args) w') := by
 unfold execOp
 cases ho : o.op <;> rw [ho] at h <;> first | (simp [tameOp] at h; done) | exact v_quiet _ | exact u_quiet _ | (constructor <;> intro f args w' h' <;> simp at h')
theorem op_in {F : Fence} {n : Nat} {P : Program} {ops : Array Oper} {Q : Exit → Act → World → Prop} {i : Nat} {K : Act → World → Prop} {a : Act} {w : World} (hF : ∀ f, F.fn f) (hq : ¬ LetsOut Q) (ht : ∀ (i : Nat) (o : Oper), ops[i]? = some o → tameOp o.op = true) (h : wpOp P ops Q i K a w) : wpOpIn F n P ops Q i K a w := by
 unfold wpOp at h
 unfold wpOpIn
 cases ho : ops[i]? with
 | none => rw [ho] at h; exact h
 | some o =>
  rw [ho] at h
  simp only at h ⊢
  by_cases hw : Region.wanted o (yielded ops a.tmps) = true
  ·
   rw [if_pos hw] at h ⊢
   rcases h with h | ⟨_, h⟩
   ·
    refine ⟨fun f _ => hF f, ?_⟩
    rw [Oper.semAt_eq _ _ _ (fun c e => by have := ht _ _ ho; rw [e] at this; simp [tameOp] at this)]
    exact upon_in (tame_quiet (ht _ _ ho)).1 (tame_quiet (ht _ _ ho)).2 h
   ·
    exact absurd h hq
  ·
   rw [if_neg hw] at h ⊢
   exact ⟨fun f _ => hF f, h⟩
theorem any_in {F : Fence} {n : Nat} {P : Program} {md : Region.Mode} {ops : Array Oper} {Q : Exit → Act → World → Prop} (hF : ∀ f, F.fn f) (hq : ¬ LetsOut Q) (ht : ∀ (i : Nat) (o : Oper), ops[i]? = some o → tameOp o.op = true) : ∀ (fuel : Nat) (l : Array Bool) (a : Act) (w : World), wpAny P md ops Q fuel l a w → wpAnyIn F n P md ops Q fuel l a w
 | 0, _, _, _, h => h
 | fuel + 1, _, _, _, h => ⟨h.1, fun i hi => op_in hF hq ht (wpOp_mono (fun a' w' h' => any_in hF hq ht fuel _ a' w' h') (h.2 i hi))⟩
theorem start_in {F : Fence} {m : Nat} {P : Program} {ops : Array Oper} {Q : Exit → Act → World → Prop} {S : World → Prop} {ds : List Nat} {id n : Nat} {a : Act} {w : World} (hF : ∀ f, F.fn f) (hq : ¬ LetsOut Q) (ht : (ops.all fun (o : Oper) => tameOp o.op) = true) (l : Array Bool) (hm : P.follows .mixedOrders = true) (hn : ops.size = n) (hl : Array.replicate n false = l) (hS : S w.drew)
  (h : S w.drew → wpAnyLast P .any ops Q S ds n l a w.drew) : (Code.region id ops true).wpIn F m P Q a w := by
 subst hn
 subst hl
 refine wpIn_region_any hm (any_in hF hq (fun i o ho => ?_) _ _ _ _ (wpAny_of_last _ _ _ _ (h hS)))
 exact Array.all_eq_true_iff_forall_mem.1 ht o (Array.mem_of_getElem? ho)
/-- How the division by one limb stands: the limbs of 'pre' have been taken; L is what is written, r the rest. -/
def DvI (b0 : Int) (l0 : List Int) (pre : List {j : Nat // j < l0.length}) (L : List Int) (r : Int) : Prop :=
 L.length = l0.length ∧ 0 ≤ r ∧ r < b0 ∧ (pre.map (·.1) = dn l0.length pre.length → ∃ D, L = List.replicate (l0.length - pre.length) 0 ++ D ∧ D.length = pre.length ∧ Pn.Lm D ∧ Pn.vl (l0.drop (l0.length - pre.length)) = Pn.vl D * b0 + r)
theorem DvI.start {b0 : Int} {l0 : List Int} (hb : 0 < b0) : DvI b0 l0 [] (List.replicate l0.length 0) 0 :=
 ⟨by simp, Int.le_refl _, hb, fun _ => ⟨[], by simp, rfl, Pn.Lm.nil, by simp [Pn.vl]⟩⟩
theorem DvI.step {b0 : Int} {l0 : List Int} {pre : List {j : Nat // j < l0.length}} {L : List Int} {r : Int} (h : DvI b0 l0 pre L r) (hl : pre.length < l0.length) (hb : 0 < b0) (lm : Pn.Lm l0) (x : {j : Nat // j < l0.length}) {y : Int} (hy : l0[x.1]?.getD 0 = y) :
  DvI b0 l0 (pre ++ [x]) (L.set x.1 ((r * 10000 + y) / b0)) ((r * 10000 + y) % b0) := by
 obtain ⟨h1, h2, h3, h4⟩ := h
 refine ⟨by simp [h1], Int.emod_nonneg _ (by omega), Int.emod_lt_of_pos _ hb, fun he => ?_⟩
 rw [List.map_append, List.length_append, List.length_singleton, dn_succ] at he
 obtain ⟨f1, f2⟩ := List.append_inj' he rfl
 have f3 : x.1 = l0.length - 1 - pre.length := by simpa using f2
 obtain ⟨D, e1, e2, e3, e4⟩ := h4 f1
 have hyb := lm y (by rw [← hy, List.getElem?_eq_getElem x.2]; exact List.getElem_mem _)
 have em := Int.emod_add_mul_ediv (r * 10000 + y) b0
 have q0 : 0 ≤ (r * 10000 + y) / b0 := Int.ediv_nonneg (by omega) (by omega)
 have q1 : (r * 10000 + y) / b0 < 10000 := Int.ediv_lt_of_lt_mul hb (by omega)
 have ek : l0.length - pre.length = (l0.length - (pre.length + 1)) + 1 := by omega
 have ex : x.1 = l0.length - (pre.length + 1) := by omega
 refine ⟨(r * 10000 + y) / b0 :: D, ?_, by simp [e2], Pn.Lm.cons q0 q1 e3, ?_⟩
 ·
  rw [List.length_append, List.length_singleton, e1, ek, ex, rep_set]
 ·
  rw [List.length_append, List.length_singleton, ← ex, List.drop_eq_getElem_cons x.2]
  have e5 : l0[x.1] = y := by rw [← hy, List.getElem?_eq_getElem x.2]; rfl
  have e6 : x.1 + 1 = l0.length - pre.length := by omega
  simp only [Pn.vl, e5, e6, e4]
  generalize (r * 10000 + y) / b0 = Q at *
  generalize (r * 10000 + y) % b0 = R at *
  have e7 : (Q + 10000 * Pn.vl D) * b0 = b0 * Q + 10000 * (Pn.vl D * b0) := by rw [Int.add_mul, Int.mul_comm Q, Int.mul_assoc]
  omega
theorem DvI.fin {b0 : Int} {l0 : List Int} {ys : List {j : Nat // j < l0.length}} {L : List Int} {r : Int} (h : DvI b0 l0 ys L r) (hys : ys.map (·.1) = dn l0.length l0.length) (hb : 0 < b0) : L = Pn.lims l0.length (Pn.vl l0 / b0) ∧ r = Pn.vl l0 % b0 := by
 obtain ⟨h1, h2, h3, h4⟩ := h
 have hl : ys.length = l0.length := by
  have := congrArg List.length hys
  simpa [dn_length] using this
 rw [hl] at h4
 obtain ⟨D, e1, e2, e3, e4⟩ := h4 hys
 rw [Nat.sub_self, List.replicate_zero, List.nil_append] at e1
 rw [Nat.sub_self, List.drop_zero] at e4
 subst e1
 have q : Pn.vl l0 / b0 = Pn.vl L := by
  rw [e4, Int.add_comm, Int.add_mul_ediv_right _ _ (by omega), Int.ediv_eq_zero_of_lt h2 h3]; omega
 refine ⟨Pn.lims_of e3 e2 q.symm, ?_⟩
 rw [e4, Int.add_comm, Int.add_mul_emod_self_right, Int.emod_eq_of_lt h2 h3]
theorem nd_blk_kept {A B : World} {row : Option Nat} {g : Nat} {cs : Array Value} {t : TypeId} {fr : Nat × Nat} (h : A.heap[g]? = some (.cells cs t fr)) (hg : A.grownBy B row) (hr : ∀ r, row = some r → ∃ o : Obj, A.heap[r]? = some o ∧ o.isCells = false) : B.heap[g]? = some (.cells cs t fr) :=
 (hg.block g (blk_lt h) (fun e => by
  obtain ⟨o, ho, hc⟩ := hr g e.symm
  rw [h] at ho
  cases ho
  simp [Obj.isCells] at hc)).trans h
theorem CK.setCell {S : Addr → Prop} (W : World) (a : Addr) (v : Value) (h : ∀ p, S p → a.block ≠ p.block) : CK S W (W.setCell a v) := fun p u hp hu => (World.cell?_setCell_far W a p v (h p hp)).trans hu
def CalmQ (Q : Exit → Act → World → Prop) : Exit → Act → World → Prop
 | .normal, a, w => Q .normal a w
 | _, _, _ => False
theorem wp_calm {P : Program} {c : Code} {Q : Exit → Act → World → Prop} {a : Act} {w : World} (h : c.wp P (CalmQ Q) a w) : c.wp P Q a w := wp_mono h (fun e a w h => by cases e <;> first | exact h | exact h.elim)
attribute [local go_sem] Oper.semAt_some
set_option maxHeartbeats 8000000 in
set_option maxRecDepth 100000 in
theorem impl_natDiv.one (kt : Nat) (A0 : Option Addr) (c0 : Nat) (l0 : List Int) (A1 : Option Addr) (c1 : Nat) (b0 : Int) (tB2 : Int) (tD1 tD2 : List Int) (w : World) (hr0 : Kd.C (Kd.int .i64) w A0 l0.length l0) (hc0 : l0.length ≤ c0) (hr1 : Kd.C (Kd.int .i64) w A1 1 [b0]) (hc1 : 1 ≤ c1)
  (a3 : impl_natCmp.f l0 [b0] = some tB2) (hneg : ¬ tB2 < 0) (hbig : l0.length ≤ 1000000)
  (lm0 : Pn.Lm l0) (hb0 : 0 < b0 ∧ b0 < 10000)
  (a17 : impl_trimmed.f kt (Pn.lims l0.length (Pn.vl l0 / b0)) = some tD1) (a18 : impl_natOf.f kt (Pn.vl l0 % b0) = some tD2) :
  Calls Try.prog 87 #[.slice A0 l0.length c0, .slice A1 1 c1] w fun e w' => ∃ v0_ v1_ : Value, e = .returned (.tuple #[v0_, v1_]) ∧ Kd.R (Kd.int .i64) 3 w' w.heap.size (fun k_ => nO k_ v1_) v0_ tD1 ∧ Kd.R (Kd.int .i64) 3 w' w.heap.size (fun k_ => nO k_ v0_) v1_ tD2 ∧ Below w.heap.size w w' := by
 refine (callsIn_wide (n := 4)).1 ?_
 have hI0 := BwRow.of hr0
 have HR0 := Aside0.mk hr0
 have HC0 := Aside0.mk hc0
 have HR1 := Aside0.mk hr1
 have HC1 := Aside0.mk hc1
 have A3 := Aside0.mk a3
 have A17 := Aside0.mk a17
 have A18 := Aside0.mk a18
 have HI0 := Aside0.mk hI0
 have HBIG := Aside0.mk hbig
 clear hr0 hc0 hr1 hc1 a3 a17 a18 hI0 hbig
 have c4b0 : decide (tB2 < 0) = false := decide_eq_false hneg
 refine callsIn_of_wp_marks Try.func87 rfl trivial ?_ rfl
 simp only [Try.ntmps87, List.size_toArray, List.length_cons, List.length_nil, Nat.reduceAdd, Nat.reduceSub, Array.replicate_succ, Array.replicate_zero, List.push_toArray, List.append_toArray, List.nil_append, List.cons_append]
 have h44 : Fence.wide.fn 66 := trivial
 have h64 : Fence.wide.fn 86 := trivial
 have h71 : Fence.wide.fn 93 := trivial
 gi_wp2_with (first | (gi_at_call 66; refine ((callsIn_wide (n := 3)).2 (impl_natCmp.calls A0 c0 l0 A1 c1 [b0] tB2 _ (Kd.C_alloc HR0.out _) HC0.out (Kd.C_alloc HR1.out _) HC1.out A3.out)).mono ?_; rintro e w1 ⟨rfl, hb1⟩; have hbx := (hb1.cell (p := ⟨w.heap.size, 0, none⟩) (by simp)).trans (Boxed.new w 30 (.slice A1 1 c1)).cell) | (gi_at_call 86; refine (bw_in Fence.wide 3 h64 rfl _ _ _ _).mono ?_; rintro e w' ⟨rfl, rfl⟩))
 rw [made_run w1 l0.length HBIG.out]
 gi_wp2
 refine (bw_in Fence.wide 3 h64 rfl _ _ _ _).mono ?_
 rintro e w' ⟨rfl, rfl⟩
 dsimp only
 gi_wp2
 obtain ⟨wa, hwa⟩ : ∃ x, x = w1.alloc (.cells (mk64 [] (List.replicate l0.length 0)) 3) := ⟨_, rfl⟩
 obtain ⟨wb, hwb⟩ : ∃ x, x = wa.alloc (.cells #[.slice (some ⟨w1.heap.size, 0, none⟩) l0.length l0.length] 30) := ⟨_, rfl⟩
 obtain ⟨wc, hwc⟩ : ∃ x, x = wb.alloc (.cells #[.int .i64 0] 3) := ⟨_, rfl⟩
 obtain ⟨wd, hwd⟩ : ∃ x, x = wc.alloc (.cells #[.slice A0 l0.length c0] 30) := ⟨_, rfl⟩
 have sa : wa.heap.size = w1.heap.size + 1 := by rw [hwa]; simp
 have sb : wb.heap.size = w1.heap.size + 2 := by rw [hwb]; simp [sa]
 have sc : wc.heap.size = w1.heap.size + 3 := by rw [hwc]; simp [sb]
 have sd : wd.heap.size = w1.heap.size + 4 := by rw [hwd]; simp [sc]
 have s1 : w.heap.size + 1 ≤ w1.heap.size := by have := hb1.size; simpa using this
 have bO : wa.heap[w1.heap.size]? = some (.cells (mk64 [] (List.replicate l0.length 0)) 3 (0, 0)) := by rw [hwa]; exact heap_alloc_new w1 _
 have b7 : wb.heap[w1.heap.size + 1]? = some (.cells #[.slice (some ⟨w1.heap.size, 0, none⟩) l0.length l0.length] 30 (0, 0)) := by rw [hwb, ← sa]; exact heap_alloc_new wa _
 have b8 : wc.heap[w1.heap.size + 2]? = some (.cells #[.int .i64 0] 3 (0, 0)) := by rw [hwc, ← sb]; exact heap_alloc_new wb _
 have bB : wd.heap[w1.heap.size + 3]? = some (.cells #[.slice A0 l0.length c0] 30 (0, 0)) := by rw [hwd, ← sc]; exact heap_alloc_new wc _
 have ea : Below w1.heap.size w1 wa := by rw [hwa]; exact (Below.refl _ _).alloc (Nat.le_refl _) _
 have eb : Below wa.heap.size wa wb := by rw [hwb]; exact (Below.refl _ _).alloc (Nat.le_refl _) _
 have ec : Below wb.heap.size wb wc := by rw [hwc]; exact (Below.refl _ _).alloc (Nat.le_refl _) _
 have ed : Below wc.heap.size wc wd := by rw [hwd]; exact (Below.refl _ _).alloc (Nat.le_refl _) _
 rw [← hwa, ← hwb, ← hwc, ← hwd]
 have ewd : Below w.heap.size w wd := below_step (below_step (below_step (below_step (below_step ((Below.refl w.heap.size w).alloc (Nat.le_refl _) _) hb1) ea) eb) ec) ed
 have hI1 : BwRow wd A0 l0.length l0 := HI0.out.below ewd
 have hbx2 : wd.cell? ⟨w.heap.size, 0, none⟩ = some (.slice A1 1 c1) := by
  have h1 := (ea.cell (p := ⟨w.heap.size, 0, none⟩) (by show w.heap.size < _; omega)).trans hbx
  have h2 := (eb.cell (p := ⟨w.heap.size, 0, none⟩) (by show w.heap.size < _; omega)).trans h1
  have h3 := (ec.cell (p := ⟨w.heap.size, 0, none⟩) (by show w.heap.size < _; omega)).trans h2
  exact (ed.cell (p := ⟨w.heap.size, 0, none⟩) (by show w.heap.size < _; omega)).trans h3
 have bO2 : wd.heap[w1.heap.size]? = some (.cells (mk64 [] (List.replicate l0.length 0)) 3 (0, 0)) := (ed.block _ (by omega)).trans ((ec.block _ (by omega)).trans ((eb.block _ (by omega)).trans bO))
 have b72 : wd.heap[w1.heap.size + 1]? = some (.cells #[.slice (some ⟨w1.heap.size, 0, none⟩) l0.length l0.length] 30 (0, 0)) := (ed.block _ (by omega)).trans ((ec.block _ (by omega)).trans b7)
 have b82 : wd.heap[w1.heap.size + 2]? = some (.cells #[.int .i64 0] 3 (0, 0)) := (ed.block _ (by omega)).trans b8
 rw [sc]
 refine wpIn_rangeFunc_ownG rfl (by omega) (gf := 93) (lb := #[.pointer (some ⟨w1.heap.size + 3, 0, none⟩)]) rfl h71 (enters_of Try.func93 (by kernel_rfl) rfl)
  (bw_stops Fence.wide 3 h71 rfl (by omega) (w1.heap.size + 3) A0 l0.length c0 l0 wd (by omega) ((blk_cell bB 0).trans rfl) hI1) CK.trans (fun W l o o' _ h hc _ => CK.putObj W l o o' h hc) (Below.refl _ _) (fun _ => rfl)
  (fun pre W => (∃ L r, DvI b0 l0 pre L r ∧ W.heap[w1.heap.size]? = some (.cells (mk64 [] L) 3 (0, 0)) ∧ W.heap[w1.heap.size + 1]? = some (.cells #[.slice (some ⟨w1.heap.size, 0, none⟩) l0.length l0.length] 30 (0, 0)) ∧ W.heap[w1.heap.size + 2]? = some (.cells #[.int .i64 r] 3 (0, 0)) ∧ W.cell? ⟨w.heap.size, 0, none⟩ = some (.slice A1 1 c1)) ∧ Below w.heap.size w W)
  (fun c pre W => False ∧ Below w.heap.size w W)
  (OwnFrom.and (Own.from (fun s A B row hs hg hr => by obtain ⟨L, r, i1, i2, i3, i4, i5⟩ := hs; exact ⟨L, r, i1, nd_blk_kept i2 hg hr, nd_blk_kept i3 hg hr, nd_blk_kept i4 hg hr, cell_kept i5 hg hr⟩) _) (ownFrom_below (Nat.le_refl _) (by omega)))
  (fun c => OwnFrom.and (Own.from (fun s A B row hs hg hr => hs.elim) _) (ownFrom_below (Nat.le_refl _) (by omega)))
  ⟨⟨_, _, DvI.start hb0.1, bO2, b72, b82, hbx2⟩, ewd⟩
  (fun x => { tmps := #[.slice A0 l0.length c0, .slice A1 1 c1, undef, .pointer (some ⟨w.heap.size, 0, none⟩), .slice none 0 0, .slice none 0 0, .int .i64 1, .pointer (some ⟨w1.heap.size + 1, 0, none⟩), .pointer (some ⟨w1.heap.size + 1 + 1, 0, none⟩), .int .i64 (x.1 : Int), .int .i64 (l0[x.1]?.getD 0), undef, undef, undef, .slice A0 l0.length c0, .slice A1 1 c1, .int .i64 tB2, .bool false, undef, undef, undef, .slice A1 1 c1, .int .i64 1, .int .i64 1, .bool true, .slice A0 l0.length c0, .int .i64 (l0.length : Int), .slice (some ⟨w1.heap.size, 0, none⟩) l0.length l0.length, .slice A0 l0.length c0, .func (.func 93) #[] #[.pointer (some ⟨w1.heap.size + 3, 0, none⟩)], .int .i64 (x.1 : Int), .int .i64 (l0[x.1]?.getD 0), undef, undef, undef, undef, undef, undef, undef, undef, undef, undef, undef, undef, undef, undef, undef, undef, undef, undef, undef, undef, undef, undef, undef, undef, undef, undef, undef, undef, undef, undef, undef, undef, undef, undef, undef, undef, undef, undef, undef, undef, undef, undef, undef, undef, undef, undef, undef, undef, undef, undef, undef, undef, undef, undef, undef], defers := [] }) ?assign ?body ?done ?stop
 case assign =>
  intro l x W K hK
  gi_wp2
  exact hK
 case body =>
  rintro l pre ⟨j, hj⟩ W ⟨⟨L, r, i1, i2, i3, i4, i5⟩, hB⟩ hlen
  dsimp only
  obtain ⟨y, hy⟩ : ∃ y, l0[j]?.getD 0 = y := ⟨_, rfl⟩
  have hyb := lm0 y (by rw [← hy, List.getElem?_eq_getElem hj]; exact List.getElem_mem _)
  simp only [hy]
  have HY := Aside0.mk hy
  have HDV := Aside0.mk i1
  have hr0 := i1.2.1
  have hr1 := i1.2.2.1
  clear hy i1
  have k8 : W.cell? ⟨w1.heap.size + 1 + 1, 0, none⟩ = some (.int .i64 r) := (blk_cell i4 0).trans rfl
  have z8 : W.frozen? ⟨w1.heap.size + 1 + 1, 0, none⟩ = false := blk_frozen i4 0
  have m1 : IntKind.i64.wrap (r * 10000) = r * 10000 := by rw [IntKind.wrap_i64]; omega
  have m2 : IntKind.i64.wrap (r * 10000 + y) = r * 10000 + y := by rw [IntKind.wrap_i64]; omega
  gi_wp2
  obtain ⟨z, hz⟩ : ∃ z, z = r * 10000 + y := ⟨_, rfl⟩
  have hz0 : 0 ≤ z ∧ z < b0 * 10000 := by omega
  rw [← hz]
  obtain ⟨W2, hW2⟩ : ∃ x, x = W.setCell ⟨w1.heap.size + 1 + 1, 0, none⟩ (.int .i64 z) := ⟨_, rfl⟩
  rw [← hW2]
  obtain ⟨ad, rfl, hcA⟩ := (BwRow.of HR1.out).2 (by simp)
  have hB2 : Below w.heap.size w W2 := by rw [hW2]; exact hB.setCell (by show w.heap.size ≤ w1.heap.size + 1 + 1; omega) _
  have j2 : W2.heap[w1.heap.size]? = some (.cells (mk64 [] L) 3 (0, 0)) := by rw [hW2]; exact (Below.heap_setCell W _ _ _ (by show w1.heap.size ≠ w1.heap.size + 1 + 1; omega)).trans i2
  have j3 : W2.heap[w1.heap.size + 1]? = some (.cells #[.slice (some ⟨w1.heap.size, 0, none⟩) l0.length l0.length] 30 (0, 0)) := by rw [hW2]; exact (Below.heap_setCell W _ _ _ (by show w1.heap.size + 1 ≠ w1.heap.size + 1 + 1; omega)).trans i3
  have j4 : W2.heap[w1.heap.size + 2]? = some (.cells #[.int .i64 z] 3 (0, 0)) := by rw [hW2]; exact one_setCell i4
  have j5 : W2.cell? ⟨w.heap.size, 0, none⟩ = some (.slice (some ad) 1 c1) := by rw [hW2]; exact (World.cell?_setCell_far _ _ _ _ (by show w1.heap.size + 1 + 1 ≠ w.heap.size; omega)).trans i5
  have j6 : W2.cell? ad = some (.int .i64 b0) := (hB2.cell (World.block_lt_of_cell? w _ (hcA 0 (by simp)))).trans (hcA 0 (by simp))
  have K7 := Aside0.mk ((blk_cell j3 0).trans rfl)
  have K8 := Aside0.mk ((blk_cell j4 0).trans rfl)
  have KX := Aside0.mk j5
  have KB := Aside0.mk j6
  have HZ := Aside0.mk hz
  have HW2 := Aside0.mk hW2
  have hLl : L.length = l0.length := HDV.out.1
  obtain ⟨lj, hLj⟩ : ∃ x, L[j]? = some x := ⟨_, List.getElem?_eq_getElem (by omega)⟩
  have kO : W2.cell? ⟨w1.heap.size, j, none⟩ = some (.int .i64 lj) := mk64_cell j2 hLj
  have zO : W2.frozen? ⟨w1.heap.size, j, none⟩ = false := blk_frozen j2 j
  have zR : W2.frozen? ⟨w1.heap.size + 1 + 1, 0, none⟩ = false := blk_frozen j4 0
  have HLl := Aside0.mk hLl
  have HB2 := Aside0.mk hB2
  have J2 := Aside0.mk j2
  have J3 := Aside0.mk j3
  have J4 := Aside0.mk j4
  have J5 := Aside0.mk j5
  clear hz hW2 hLj hLl hB2 j2 j3 j4 j5 j6 k8 z8 i2 i3 i4 i5 m1 m2
  have hsz : ad.block < w.heap.size := World.block_lt_of_cell? w _ (hcA 0 (by simp))
  have e1 : Int.tdiv z b0 = z / b0 := Int.tdiv_eq_ediv_of_nonneg hz0.1
  have e2 : Int.tmod z b0 = z % b0 := Int.tmod_eq_emod_of_nonneg hz0.1
  have q0 : 0 ≤ z / b0 := Int.ediv_nonneg hz0.1 (by omega)
  have q1 : z / b0 < 10000 := Int.ediv_lt_of_lt_mul hb0.1 (by have := Int.mul_comm b0 10000; omega)
  have q2 : 0 ≤ z % b0 := Int.emod_nonneg _ (by omega)
  have q3 : z % b0 < b0 := Int.emod_lt_of_pos _ hb0.1
  have m3 : IntKind.i64.wrap (Int.tdiv z b0) = z / b0 := by rw [e1, IntKind.wrap_i64]; omega
  have m4 : IntKind.i64.wrap (Int.tmod z b0) = z % b0 := by rw [e2, IntKind.wrap_i64]; omega
  have m5 : wrap64 (z / b0) = z / b0 := by simp only [wrap64]; omega
  have nb0 : ¬ b0 = 0 := by omega
  have nb1 : (b0 == 0) = false := beq_eq_false_iff_ne.mpr nb0
  have NB0 : decide (b0 = 0) = false := decide_eq_false nb0
  have g1 : decide (0 ≤ (j : Int)) = true := decide_eq_true (by omega)
  have g2 : decide ((j : Int) < (l0.length : Int)) = true := decide_eq_true (by omega)
  have g3 : (0 ≤ (j : Int)) = True := eq_true (by omega)
  have g4 : ((j : Int) < (l0.length : Int)) = True := eq_true (by omega)
  have g5 : (j < l0.length) = True := eq_true hj
  refine start_in (n := 15) (S := fun w' => w'.cell? ⟨w1.heap.size + 1, 0, none⟩ = some (.slice (some ⟨w1.heap.size, 0, none⟩) l0.length l0.length) ∧ w'.cell? ⟨w1.heap.size + 1 + 1, 0, none⟩ = some (.int .i64 z) ∧ w'.cell? ⟨w.heap.size, 0, none⟩ = some (.slice (some ad) 1 c1) ∧ w'.cell? ad = some (.int .i64 b0)) (ds := [14]) (fun _ => trivial) (fun h => by obtain ⟨_, _, h⟩ := h; exact h) (by kernel_rfl) (bm 15 0) (by kernel_rfl) rfl rfl ⟨K7.out, K8.out, KX.out, KB.out⟩ (fun hHeld => ?_)
  refine pure_ (i := 1) (N := some 37) (v := ?_) (a' := ?_) (bm 15 2) rfl rfl (by kernel_rfl) (fun _ _ _ h => h) (Or.inl ⟨by rfl, ?_⟩) ?_ ?_
  rotate_left
  ·
   intro w'
   go_simp
   with_reducible rfl
  rotate_left
  ·
   simp only [Act.put, List.setIfInBounds_toArray, List.set_cons_zero, List.set_cons_succ, i64_w, i32_w]
   rfl
  refine take_ (i := 0) (N := some 36) (v := ?_) (a' := ?_) (bm 15 3) rfl rfl (by kernel_rfl) (fun _ _ _ h => h) (Or.inl ⟨by rfl, ?_⟩) hHeld ?_ ?_
  rotate_left
  ·
   rintro w' ⟨s0, s1, s2, s3⟩
   go_simp
   with_reducible rfl
  rotate_left
  ·
   simp only [Act.put, List.setIfInBounds_toArray, List.set_cons_zero, List.set_cons_succ, i64_w, i32_w]
   rfl
  refine take_ (i := 2) (N := some 38) (v := ?_) (a' := ?_) (bm 15 7) rfl rfl (by kernel_rfl) (fun _ _ _ h => h) (Or.inl ⟨by rfl, ?_⟩) hHeld ?_ ?_
  rotate_left
  ·
   rintro w' ⟨s0, s1, s2, s3⟩
   go_simp
   with_reducible rfl
  rotate_left
  ·
   simp only [Act.put, List.setIfInBounds_toArray, List.set_cons_zero, List.set_cons_succ, i64_w, i32_w]
   rfl
  refine take_ (i := 3) (N := some 39) (v := ?_) (a' := ?_) (bm 15 15) rfl rfl (by kernel_rfl) (fun _ _ _ h => h) (Or.inl ⟨by rfl, ?_⟩) hHeld ?_ ?_
  rotate_left
  ·
   rintro w' ⟨s0, s1, s2, s3⟩
   go_simp
   with_reducible rfl
  rotate_left
  ·
   simp only [Act.put, List.setIfInBounds_toArray, List.set_cons_zero, List.set_cons_succ, i64_w, i32_w]
   rfl
  refine pure_ (i := 4) (N := some 40) (v := ?_) (a' := ?_) (bm 15 31) rfl rfl (by kernel_rfl) (fun _ _ _ h => h) (Or.inl ⟨by rfl, ?_⟩) ?_ ?_
  rotate_left
  ·
   intro w'
   go_simp
   with_reducible rfl
  rotate_left
  ·
   simp only [Act.put, List.setIfInBounds_toArray, List.set_cons_zero, List.set_cons_succ, i64_w, i32_w]
   rfl
  refine take_ (i := 5) (N := some 41) (v := ?_) (a' := ?_) (bm 15 63) rfl rfl (by kernel_rfl) (fun _ _ _ h => h) (Or.inl ⟨by rfl, ?_⟩) hHeld ?_ ?_
  rotate_left
  ·
   rintro w' ⟨s0, s1, s2, s3⟩
   go_simp
   with_reducible rfl
  rotate_left
  ·
   simp only [Act.put, List.setIfInBounds_toArray, List.set_cons_zero, List.set_cons_succ, i64_w, i32_w]
   rfl
  refine pure_ (i := 6) (N := some 42) (v := ?_) (a' := ?_) (bm 15 127) rfl rfl (by kernel_rfl) (fun _ _ _ h => h) (Or.inl ⟨by rfl, ?_⟩) ?_ ?_
  rotate_left
  ·
   intro w'
   go_simp
   with_reducible rfl
  rotate_left
  ·
   simp only [Act.put, List.setIfInBounds_toArray, List.set_cons_zero, List.set_cons_succ, i64_w, i32_w]
   rfl
  refine take_ (i := 7) (N := some 43) (v := ?_) (a' := ?_) (bm 15 255) rfl rfl (by kernel_rfl) (fun _ _ _ h => h) (Or.inl ⟨by rfl, ?_⟩) hHeld ?_ ?_
  rotate_left
  ·
   rintro w' ⟨s0, s1, s2, s3⟩
   go_simp
   with_reducible rfl
  rotate_left
  ·
   simp only [Act.put, List.setIfInBounds_toArray, List.set_cons_zero, List.set_cons_succ, i64_w, i32_w]
   rfl
  refine take_ (i := 8) (N := some 44) (v := ?_) (a' := ?_) (bm 15 511) rfl rfl (by kernel_rfl) (fun _ _ _ h => h) (Or.inl ⟨by rfl, ?_⟩) hHeld ?_ ?_
  rotate_left
  ·
   rintro w' ⟨s0, s1, s2, s3⟩
   go_simp
   with_reducible rfl
  rotate_left
  ·
   simp only [Act.put, List.setIfInBounds_toArray, List.set_cons_zero, List.set_cons_succ, i64_w, i32_w]
   rfl
  refine pure_ (i := 9) (N := some 45) (v := ?_) (a' := ?_) (bm 15 1023) rfl rfl (by kernel_rfl) (fun _ _ _ h => h) (Or.inl ⟨by rfl, ?_⟩) ?_ ?_
  rotate_left
  ·
   intro w'
   go_simp
   with_reducible rfl
  rotate_left
  ·
   simp only [Act.put, List.setIfInBounds_toArray, List.set_cons_zero, List.set_cons_succ, i64_w, i32_w]
   rfl
  refine take_ (i := 10) (N := some 46) (v := ?_) (a' := ?_) (bm 15 2047) rfl rfl (by kernel_rfl) (fun _ _ _ h => h) (Or.inl ⟨by rfl, ?_⟩) hHeld ?_ ?_
  rotate_left
  ·
   rintro w' ⟨s0, s1, s2, s3⟩
   go_simp
   with_reducible rfl
  rotate_left
  ·
   simp only [Act.put, List.setIfInBounds_toArray, List.set_cons_zero, List.set_cons_succ, i64_w, i32_w]
   rfl
  refine pure_ (i := 11) (N := some 47) (v := ?_) (a' := ?_) (bm 15 4095) rfl rfl (by kernel_rfl) (fun _ _ _ h => h) (Or.inl ⟨by rfl, ?_⟩) ?_ ?_
  rotate_left
  ·
   intro w'
   go_simp
   with_reducible rfl
  rotate_left
  ·
   simp only [Act.put, List.setIfInBounds_toArray, List.set_cons_zero, List.set_cons_succ, i64_w, i32_w]
   rfl
  refine pure_ (i := 12) (N := some 48) (v := ?_) (a' := ?_) (bm 15 8191) rfl rfl (by kernel_rfl) (fun _ _ _ h => h) (Or.inl ⟨by rfl, ?_⟩) ?_ ?_
  rotate_left
  ·
   intro w'
   go_simp
   with_reducible rfl
  rotate_left
  ·
   simp only [Act.put, List.setIfInBounds_toArray, List.set_cons_zero, List.set_cons_succ, i64_w, i32_w]
   rfl
  refine one_ (i := 13) (N := none) (bm 15 16383) rfl rfl (by kernel_rfl) (by decide) (fun K hK => ?_)
  refine skip_ (w1 := ?_) (by rfl) rfl ?_ ?_
  rotate_left
  ·
   go_simp
   rfl
  refine hK.out _ _ ⟨(World.cell?_setCell_far _ _ _ _ (by show w1.heap.size ≠ w1.heap.size + 1; omega)).trans K7.out, (World.cell?_setCell_far _ _ _ _ (by show w1.heap.size ≠ w1.heap.size + 1 + 1; omega)).trans K8.out, (World.cell?_setCell_far _ _ _ _ (by show w1.heap.size ≠ w.heap.size; omega)).trans KX.out, (World.cell?_setCell_far _ _ _ _ (by show w1.heap.size ≠ ad.block; omega)).trans KB.out⟩ (fun hHeld => ?_)
  clear hK K
  refine last_ (i := 14) (N := none) (bm 15 32767) rfl rfl (by kernel_rfl) (by decide) (fun K hK => ?_)
  refine skip_ (w1 := ?_) (by rfl) rfl ?_ ?_
  rotate_left
  ·
   go_simp
   rfl
  refine hK.out _ _ ?_
  clear hK K
  refine done_ (by kernel_rfl) ?_
  have hz := HZ.out
  have hfar : ∀ p, BwS (w1.heap.size + 3) A0 l0.length p → w1.heap.size ≠ p.block ∧ w1.heap.size + 1 + 1 ≠ p.block := by
   intro p hp
   rcases hp with rfl | ⟨a', k, e, hk, rfl⟩
   ·
    exact ⟨by show w1.heap.size ≠ w1.heap.size + 3; omega, by show w1.heap.size + 1 + 1 ≠ w1.heap.size + 3; omega⟩
   ·
    obtain ⟨a2, e2, hc2⟩ := HI0.out.2 (by omega)
    rw [e] at e2
    cases e2
    have h9 : (a'.add k).block < w.heap.size := World.block_lt_of_cell? w _ (hc2 k hk)
    exact ⟨by omega, by omega⟩
  have c2 := mk64_set (k := j) (z / b0) (by rw [HLl.out]; exact hj) J2.out
  have n7 : (W2.setCell ⟨w1.heap.size, j, none⟩ (.int .i64 (z / b0))).heap[w1.heap.size + 1]? = some (.cells #[.slice (some ⟨w1.heap.size, 0, none⟩) l0.length l0.length] 30 (0, 0)) := (Below.heap_setCell W2 _ _ _ (by show w1.heap.size + 1 ≠ w1.heap.size; omega)).trans J3.out
  have n8 : (W2.setCell ⟨w1.heap.size, j, none⟩ (.int .i64 (z / b0))).heap[w1.heap.size + 2]? = some (.cells #[.int .i64 z] 3 (0, 0)) := (Below.heap_setCell W2 _ _ _ (by show w1.heap.size + 2 ≠ w1.heap.size; omega)).trans J4.out
  have nX : (W2.setCell ⟨w1.heap.size, j, none⟩ (.int .i64 (z / b0))).cell? ⟨w.heap.size, 0, none⟩ = some (.slice (some ad) 1 c1) := (World.cell?_setCell_far _ _ _ _ (by show w1.heap.size ≠ w.heap.size; omega)).trans J5.out
  refine ⟨?_, ?_, ⟨⟨L.set j (z / b0), z % b0, ?_, ?_, ?_, ?_, ?_⟩, ?_⟩⟩
  ·
   rw [HW2.out]
   exact ((((KeepsOthers.setCell _ _ _).trans (KeepsOthers.setCell _ _ _)).trans (KeepsOthers.setCell _ _ _)).trans (KeepsOthers.drew _)).from _
  ·
   rw [HW2.out]
   exact ((CK.setCell W _ _ (fun p hp => (hfar p hp).2)).trans (CK.setCell _ _ _ (fun p hp => (hfar p hp).1))).trans (CK.setCell _ _ _ (fun p hp => (hfar p hp).2))
  ·
   rw [hz]
   exact DvI.step HDV.out hlen hb0.1 lm0 ⟨j, hj⟩ HY.out
  ·
   exact (Below.heap_setCell _ _ _ _ (by show w1.heap.size ≠ w1.heap.size + 1 + 1; omega)).trans c2
  ·
   exact (Below.heap_setCell _ _ _ _ (by show w1.heap.size + 1 ≠ w1.heap.size + 1 + 1; omega)).trans n7
  ·
   exact one_setCell n8
  ·
   exact (World.cell?_setCell_far _ _ _ _ (by show w1.heap.size + 1 + 1 ≠ w.heap.size; omega)).trans nX
  ·
   exact ((HB2.out.setCell (p := ⟨w1.heap.size, j, none⟩) (by show w.heap.size ≤ w1.heap.size; omega) _).setCell (p := ⟨w1.heap.size + 1 + 1, 0, none⟩) (by show w.heap.size ≤ w1.heap.size + 1 + 1; omega) _).drew
 case done =>
  rintro D ys W hD hys ⟨⟨L, r, i1, i2, i3, i4, i5⟩, hB⟩ hK
  obtain ⟨hL, hr⟩ := i1.fin hys hb0.1
  obtain ⟨X, hX⟩ : ∃ X, X = Pn.lims l0.length (Pn.vl l0 / b0) := ⟨_, rfl⟩
  have hXl : X.length = l0.length := by rw [hX, ← hL]; exact i1.1
  rw [← hX] at hL
  subst hL
  have A17 : Aside0 (impl_trimmed.f kt L = some tD1) := ⟨by rw [hX]; exact A17.out⟩
  have A18 : Aside0 (impl_natOf.f kt r = some tD2) := ⟨by rw [hr]; exact A18.out⟩
  have HOWN : Aside0 (Kd.R (Kd.int .i64) 3 W.drew w.heap.size (fun k_ => k_ = w1.heap.size) (.slice (some ⟨w1.heap.size, 0, none⟩) l0.length l0.length) L) := ⟨by
   have h := mk_own (base := w.heap.size) (cap := l0.length) (ok := fun k_ => k_ = w1.heap.size) (by omega) i2 (by omega) (by have := HBIG.out; unfold maxLen; omega) (by simp [hXl]) rfl
   rw [hXl] at h
   exact Kd.R_drew h⟩
  have HDN : Aside0 (¬ D = w1.heap.size) := ⟨fun e => by rw [e, i2] at hK; cases hK⟩
  have K7 : Aside0 (W.cell? ⟨w1.heap.size + 1, 0, none⟩ = some (.slice (some ⟨w1.heap.size, 0, none⟩) l0.length l0.length)) := ⟨(blk_cell i3 0).trans rfl⟩
  have K8 : Aside0 (W.cell? ⟨w1.heap.size + 1 + 1, 0, none⟩ = some (.int .i64 r)) := ⟨(blk_cell i4 0).trans rfl⟩
  have J3 := Aside0.mk i3
  have J4 := Aside0.mk i4
  have HK := Aside0.mk hK
  have HX := Aside0.mk hX
  clear i1 i2 i3 i4 i5 hX hr hys hXl
  gi_wp2
  refine wpIn_wide.2 (wp_calm ?_)
  refine start_ (n := 6) (S := fun w' => w'.cell? ⟨w1.heap.size + 1, 0, none⟩ = some (.slice (some ⟨w1.heap.size, 0, none⟩) l0.length l0.length) ∧ w'.cell? ⟨w1.heap.size + 1 + 1, 0, none⟩ = some (.int .i64 r)) (ds := [3]) #[false, false, false, false, false, false] (by kernel_rfl) rfl rfl ⟨K7.out, K8.out⟩ (fun hHeld => ?_)
  refine take_ (i := 0) (N := some 49) (v := ?_) (a' := ?_) #[true, false, false, false, false, false] rfl rfl (by kernel_rfl) (fun _ _ _ h => h) (Or.inl ⟨by rfl, ?_⟩) hHeld ?_ ?_
  rotate_left
  ·
   rintro w' ⟨s0, s1⟩
   go_simp
   with_reducible rfl
  rotate_left
  ·
   simp only [Act.put, List.setIfInBounds_toArray, List.set_cons_zero, List.set_cons_succ, i64_w, i32_w]
   rfl
  refine take_ (i := 2) (N := some 51) (v := ?_) (a' := ?_) #[true, false, true, false, false, false] rfl rfl (by kernel_rfl) (fun _ _ _ h => h) (Or.inl ⟨by rfl, ?_⟩) hHeld ?_ ?_
  rotate_left
  ·
   rintro w' ⟨s0, s1⟩
   go_simp
   with_reducible rfl
  rotate_left
  ·
   simp only [Act.put, List.setIfInBounds_toArray, List.set_cons_zero, List.set_cons_succ, i64_w, i32_w]
   rfl
  refine one_ (i := 1) (N := some 50) #[true, true, true, false, false, false] rfl rfl (by kernel_rfl) (by decide) (fun K hK => ?_)
  refine goes_ Try.func90 (by kernel_rfl) rfl #[.slice (some ⟨w1.heap.size, 0, none⟩) l0.length l0.length] (by rfl) rfl rfl (by simp only [List.map_toArray, List.map_cons, List.map_nil]; rfl) ?_
  with_reducible refine (impl_trimmed.calls kt (fun k_ => k_ = w1.heap.size) (.slice (some ⟨w1.heap.size, 0, none⟩) l0.length l0.length) L tD1 w _ (below_drew1 hB) HOWN.out A17.out).mono ?_
  rintro e w3 ⟨v50, rfl, hR50, hb50, hk50⟩
  refine ⟨_, rfl, ?_⟩
  have KD := Aside0.mk ((hk50.2 D (blk_lt HK.out) HDN.out).trans HK.out)
  refine hK.out _ _ ⟨(blk_cell ((hk50.2 _ (blk_lt J3.out) (by show ¬ w1.heap.size + 1 = w1.heap.size; omega)).trans J3.out) 0).trans rfl, (blk_cell ((hk50.2 _ (blk_lt J4.out) (by show ¬ w1.heap.size + 2 = w1.heap.size; omega)).trans J4.out) 0).trans rfl⟩ (fun hHeld => ?_)
  clear hK K
  refine nm_ 50 ?_
  refine last_ (i := 3) (N := some 52) #[true, true, true, true, false, false] rfl rfl (by kernel_rfl) (by decide) (fun K hK => ?_)
  refine goes_ Try.func79 (by kernel_rfl) rfl #[.int .i64 r] (by rfl) rfl rfl (by simp only [List.map_toArray, List.map_cons, List.map_nil]; rfl) ?_
  with_reducible refine (impl_natOf.calls kt r tD2 _ A18.out).mono ?_
  rintro e w4 ⟨v52, rfl, hR52, hb52⟩
  refine ⟨_, rfl, ?_⟩
  refine hK.out _ _ ?_
  clear hK K
  refine nm_ 52 ?_
  refine pure_ (i := 4) (N := some 4) (v := ?_) (a' := ?_) #[true, true, true, true, true, false] rfl rfl (by kernel_rfl) (fun _ _ _ h => h) (Or.inl ⟨by rfl, ?_⟩) ?_ ?_
  rotate_left
  ·
   intro w'
   go_simp
   with_reducible rfl
  rotate_left
  ·
   simp only [Act.put, List.setIfInBounds_toArray, List.set_cons_zero, List.set_cons_succ, i64_w, i32_w]
   rfl
  refine pure_ (i := 5) (N := some 5) (v := ?_) (a' := ?_) #[true, true, true, true, true, true] rfl rfl (by kernel_rfl) (fun _ _ _ h => h) (Or.inl ⟨by rfl, ?_⟩) ?_ ?_
  rotate_left
  ·
   intro w'
   go_simp
   with_reducible rfl
  rotate_left
  ·
   simp only [Act.put, List.setIfInBounds_toArray, List.set_cons_zero, List.set_cons_succ, i64_w, i32_w]
   rfl
  refine done_ (by kernel_rfl) ?_
  dsimp only [CalmQ, Exit.then]
  gi_wp2
  have h4 : w4.heap[D]? = some (.deferred (some [])) := (hb52.block D (blk_lt KD.out)).trans KD.out
  have hbW : Below w.heap.size w w4 := below_step hb50 hb52
  have hne50 : ∀ k_, v50.ownBlock = some k_ → k_ < w3.heap.size := fun k_ hk => ((Kd.R_bound hR50).1 k_ hk).2.2.1
  have hne52 : ∀ k_, v52.ownBlock = some k_ → w3.heap.size ≤ k_ := fun k_ hk => ((Kd.R_bound hR52).1 k_ hk).2.1
  have r50 := Kd.R_bound (Kd.R_below (Kd.R_bound hR50) hb52)
  have r52 := Kd.R_lower (Kd.R_bound hR52) hb50.size
  clear KD hHeld
  refine ⟨by simp, .inl ⟨_, _, rfl, run_takeDeferred h4, ?_⟩⟩
  refine ⟨.tuple #[v50, v52], ?_, v50, v52, rfl, ?_, ?_, hbW.trans (belowK_b (w := w) (Nat.le_refl _) w4 D _ _ (by omega) h4 rfl rfl)⟩
  ·
   simp [results, Try.f87, go_sem]
  ·
   refine Kd.R_mono (Kd.R_grown r50 (grownBy_putObj' _ D (.deferred none)) (fun k_ hk e => ?_)) (fun k_ hk e => ?_)
   ·
    obtain ⟨_, _, _, q, _, cells, hc⟩ := hk
    cases e
    rw [h4] at hc
    cases hc
   ·
    have h1 := hk.1.2.2.1
    have h2 := hne52 k_ e.symm
    omega
  ·
   refine Kd.R_mono (Kd.R_grown r52 (grownBy_putObj' _ D (.deferred none)) (fun k_ hk e => ?_)) (fun k_ hk e => ?_)
   ·
    obtain ⟨_, _, _, q, _, cells, hc⟩ := hk
    cases e
    rw [h4] at hc
    cases hc
   ·
    have h1 := hk.2.1
    have h2 := hne50 k_ e.symm
    omega
 case stop =>
  rintro D c pre W hD hpre ⟨hf, _⟩ hK
  exact hf.elim
set_option maxHeartbeats 4000000 in
set_option maxRecDepth 100000 in
theorem impl_natDiv.less (A0 : Option Addr) (c0 : Nat) (l0 : List Int) (A1 : Option Addr) (c1 : Nat) (l1 : List Int) (tB2 : Int) (tE7 : List Int) (w : World) (hr0 : Kd.C (Kd.int .i64) w A0 l0.length l0) (hc0 : l0.length ≤ c0) (hr1 : Kd.C (Kd.int .i64) w A1 l1.length l1) (hc1 : l1.length ≤ c1)
  (a3 : impl_natCmp.f l0 l1 = some tB2) (hneg : tB2 < 0) (a5 : slices_Clone_int_int.f l0 = some tE7) :
  Calls Try.prog 87 #[.slice A0 l0.length c0, .slice A1 l1.length c1] w fun e w' => ∃ v0_ v1_ : Value, e = .returned (.tuple #[v0_, v1_]) ∧ Kd.R (Kd.int .i64) 3 w' w.heap.size (fun k_ => nO k_ v1_) v0_ [] ∧ Kd.R (Kd.int .i64) 3 w' w.heap.size (fun k_ => nO k_ v0_) v1_ tE7 ∧ Below w.heap.size w w' := by
 have HR0 := Aside0.mk hr0
 have HC0 := Aside0.mk hc0
 clear hr0 hc0
 have HR1 := Aside0.mk hr1
 have HC1 := Aside0.mk hc1
 clear hr1 hc1
 have HB := Aside0.mk (Below.refl w.heap.size w)
 have A3 := Aside0.mk a3
 have A5 := Aside0.mk a5
 clear a3 a5
 have c4b0 : decide (tB2 < 0) = true := decide_eq_true hneg
 obtain ⟨yE5, hy233⟩ : ∃ y_ : List Int, y_ = (([] : List Int)) := ⟨_, rfl⟩
 have NyE5 := Aside0.mk hy233
 clear hy233
 go_enter Try.func87, Try.ntmps87
 go_wp2_with (first | ((with_reducible refine gate_callee (f := 66) rfl ?_); refine gL_ (some 16) Try.func66 #[.slice A0 l0.length c0, .slice A1 l1.length c1] ?_; (with_reducible refine (impl_natCmp.calls _ _ l0 _ _ l1 tB2 _ ?side1 ?side2 ?side3 ?side4 A3.out).mono ?_); (case side1 => repeat (first | exact HR0.out | (with_reducible refine Kd.C_alloc ?_ _) | (with_reducible refine Kd.C_drewN ?_ _) | (with_reducible refine Kd.C_drew ?_))); (case side2 => exact HC0.out); (case side3 => repeat (first | exact HR1.out | (with_reducible refine Kd.C_alloc ?_ _) | (with_reducible refine Kd.C_drewN ?_ _) | (with_reducible refine Kd.C_drew ?_))); (case side4 => exact HC1.out); rintro e w6 ⟨rfl, hb⟩; refine ⟨_, rfl, ?_⟩; replace HB := bst HB hb; (try clear hb); (try clear hb2); (try clear hk); (try clear hi)) | ((with_reducible refine gate_dst (N := 18) rfl ?_); refine Kd.R_lit (Kd.int .i64) _ 3 ?hg (N := 18) ?hd (xs := ([] : List Int)) (inner := []) (ok := fun _ => True) (okp := fun _ => True) ?hr ?hp (fun _ hk => hk) trivial (Below.refl _ _) (Nat.le_refl _) (by simp) ?_; (case hd => rfl); (case hg => rfl); (case hr => first | (go_simp; done) | (go_simp; rfl)); (case hp => exact (Reps.none _ _)); intro vI0 w7 ho8 hb hg_ hnew_; clear hg_ hnew_; (first | rw [← NyE5.out] at ho8 | (simp only [Int.reduceToNat] at ho8; rw [← NyE5.out] at ho8)); have HOE0 := lwR ho8 HB; replace HB := bst HB hb; clear hb ho8) | ((with_reducible refine gate_callee (f := 91) rfl ?_); refine gL_ (some 20) Try.func91 #[.slice A0 l0.length c0] ?_; (with_reducible refine (slices_Clone_int_int.calls _ _ l0 tE7 _ ?side1 ?side2 A5.out).mono ?_); (case side1 => exact crC (Kd.C_below HR0.out HB.out)); (case side2 => exact HC0.out); rintro e w9 ⟨vI1, rfl, ho0, hb⟩; refine ⟨_, rfl, ?_⟩; have HOH0 := lwR (nwR ho0 HOE0) HB; replace HOE0 := eldR HOE0 (Kd.R_base ho0) hb; replace HB := bst HB hb; (try clear hb); (try clear hb2); (try clear hk); (try clear hi); (try clear ho0)))
 go_ret2
 rw [NyE5.out] at HOE0
 exact ⟨_, _, er_, by (with_reducible repeat (first | apply Kd.R_alloc | apply Kd.R_drewN | apply Kd.R_drew)); exact Kd.R_mono HOE0.out (fun _ hk => hk.2), by (with_reducible repeat (first | apply Kd.R_alloc | apply Kd.R_drewN | apply Kd.R_drew)); exact Kd.R_mono HOH0.out (fun _ hk => hk.2), blw HB⟩
theorem nd_aux_cons (x y : Int) (xs ys : List Int) : ∀ (k : Nat), ncmpAux (x :: xs) (y :: ys) (k + 1) = if ncmpAux xs ys k = 0 then (if x = y then 0 else if x < y then -1 else 1) else ncmpAux xs ys k
 | 0 => by simp [ncmpAux]
 | k + 1 => by
  rw [ncmpAux, nd_aux_cons x y xs ys k]
  rw [show ncmpAux xs ys (k + 1) = if xs[k]?.getD 0 = ys[k]?.getD 0 then ncmpAux xs ys k else if xs[k]?.getD 0 < ys[k]?.getD 0 then -1 else 1 from rfl]
  simp only [List.getElem?_cons_succ]
  by_cases h1 : xs[k]?.getD 0 = ys[k]?.getD 0
  ·
   rw [if_pos h1, if_pos h1]
  ·
   rw [if_neg h1, if_neg h1]
   by_cases h2 : xs[k]?.getD 0 < ys[k]?.getD 0
   ·
    rw [if_pos h2]; simp
   ·
    rw [if_neg h2]; simp
theorem nd_aux : ∀ {a b : List Int}, Pn.Lm a → Pn.Lm b → a.length = b.length → ncmpAux a b a.length = Pn.cmpI (Pn.vl a) (Pn.vl b)
 | [], [], _, _, _ => by simp [ncmpAux, Pn.vl, Pn.cmpI]
 | x :: xs, y :: ys, ha, hb, hl => by
  have ih := nd_aux ha.tail hb.tail (by simpa using hl)
  have hx := ha.head; have hy := hb.head
  rw [List.length_cons, nd_aux_cons, ih]
  unfold Pn.cmpI
  simp only [Pn.vl]
  split <;> split <;> (try split) <;> (try split) <;> (try split) <;> first | rfl | omega
theorem nd_neg {a b : List Int} (ha : Pn.Nm a) (hb : Pn.Nm b) : ncmp a b < 0 ↔ Pn.vl a < Pn.vl b := by
 unfold ncmp
 by_cases hl : a.length = b.length
 ·
  rw [if_pos hl, nd_aux ha.1 hb.1 hl]; unfold Pn.cmpI; split <;> (try split) <;> omega
 ·
  rw [if_neg hl]
  by_cases h2 : a.length < b.length
  ·
   have := Pn.vl_lt_of_len ha.1 hb h2
   rw [if_pos h2]; omega
  ·
   have := Pn.vl_lt_of_len hb.1 ha (by omega)
   rw [if_neg h2]; omega
theorem nd_trim0 (l : List Int) (h : l.length ≤ 4000000000) : ∀ (j : Nat), j ≤ l.length → ∃ k, impl_trimmed.l0 k l j = some (Pn.trim (l.take j)) := by
 intro j
 induction j with
 | zero =>
  intro _
  refine ⟨1, ?_⟩
  simp only [impl_trimmed.l0]; rw [if_neg (by omega), if_pos (by omega), if_pos (by omega)]; simp [Pn.trim]
 | succ j ih =>
  intro hj
  obtain ⟨k, ih⟩ := ih (by omega)
  have hw : wrap64 (((j + 1 : Nat) : Int) - 1) = (j : Int) := by simp only [wrap64]; omega
  have hk : j < l.length := by omega
  have e : l.take (j + 1) = l.take j ++ [l[j]?.getD 0] := by rw [List.take_add_one]; simp [hk]
  have hr : rd l (j : Int) = l[j]?.getD 0 := by simp [rd]
  by_cases h0 : l[j]?.getD 0 = 0
  ·
   refine ⟨k + 1, ?_⟩
   simp only [impl_trimmed.l0]; rw [hw, if_pos (by omega), if_pos (by omega), if_pos (by omega), hr, if_pos h0, ih, e, h0, Pn.trim_snoc_zero]
  ·
   refine ⟨1, ?_⟩
   simp only [impl_trimmed.l0]; rw [hw, if_pos (by omega), if_pos (by omega), if_pos (by omega), hr, if_neg h0, if_pos (by omega), if_pos (by omega), Int.toNat_natCast, Pn.trim_of_last]
   rw [e, List.getLast?_append]; simp; simpa [hk] using h0
theorem nd_trim {l : List Int} (h : l.length ≤ 4000000000) : ∃ k, impl_trimmed.f k l = some (Pn.trim l) := by
 obtain ⟨k, e⟩ := nd_trim0 l h l.length (Nat.le_refl _)
 exact ⟨k, by rw [List.take_length] at e; exact e⟩
theorem nd_trim_up {l r : List Int} {k : Nat} (h : impl_trimmed.f k l = some r) : ∀ n, impl_trimmed.f (k + n) l = some r
 | 0 => h
 | n + 1 => impl_trimmed.mono l (k + n) r (nd_trim_up h n)
theorem nd_natOf_up {a : Int} {r : List Int} {k : Nat} (h : impl_natOf.f k a = some r) : ∀ n, impl_natOf.f (k + n) a = some r
 | 0 => h
 | n + 1 => impl_natOf.mono a (k + n) r (nd_natOf_up h n)
theorem nd_natOf {a : Int} (h0 : 0 ≤ a) (h1 : a < 10000) : impl_natOf.f 2 a = some (Pn.nat a) := by
 have e1 : Int.tdiv a 10000 = 0 := by rw [Int.tdiv_eq_ediv_of_nonneg h0]; omega
 have e2 : Int.tmod a 10000 = a := by rw [Int.tmod_eq_emod_of_nonneg h0]; omega
 have e3 : wrap64 0 = 0 := by simp only [wrap64]; omega
 unfold impl_natOf.f
 simp only [impl_natOf.l0]
 by_cases h : a > 0
 ·
  rw [if_pos h, if_pos (by simp), e1, e3, if_neg (by omega), e2, Pn.nat_pos h, show a % 10000 = a by omega, show a / 10000 = 0 by omega, Pn.nat_zero]; rfl
 ·
  rw [if_neg h, Pn.nat_neg h]
theorem nd_lims : ∀ (m : Nat) (v : Int), Pn.Lm (Pn.lims m v) ∧ (Pn.lims m v).length = m ∧ (0 ≤ v → v < 10000 ^ m → Pn.vl (Pn.lims m v) = v)
 | 0, v => ⟨Pn.Lm.nil, rfl, fun h0 h1 => by simp only [Pn.lims, Pn.vl]; simp at h1; omega⟩
 | m + 1, v => by
  obtain ⟨i1, i2, i3⟩ := nd_lims m (v / 10000)
  refine ⟨Pn.Lm.cons (by omega) (by omega) i1, by simp [Pn.lims, i2], fun h0 h1 => ?_⟩
  have h2 : v / 10000 < 10000 ^ m := Int.ediv_lt_of_lt_mul (by omega) (by rw [Int.pow_succ] at h1; exact h1)
  simp only [Pn.lims, Pn.vl, i3 (by omega) h2]
  omega
theorem nd_run {m : Nat} {v : Int} (hm : m ≤ 1000001) (h0 : 0 ≤ v) (h1 : v < 10000 ^ m) : ∃ k, impl_trimmed.f k (Pn.lims m v) = some (Pn.nat v) := by
 obtain ⟨i1, i2, i3⟩ := nd_lims m v
 obtain ⟨k, e⟩ := nd_trim (l := Pn.lims m v) (by omega)
 exact ⟨k, by rw [e, Pn.trim_nat i1, i3 h0 h1]⟩
theorem nd_low {l : List Int} (h : Pn.Nm l) {k : Nat} (hl : k < l.length) : (10000 : Int) ^ k ≤ Pn.vl l := by
 rcases Int.lt_or_le (Pn.vl l) (10000 ^ k) with h1 | h1
 ·
  have := (Pn.nat_len_le_iff (Pn.vl l) k).2 h1
  rw [Pn.nat_vl h] at this
  omega
 ·
  exact h1
theorem nd_top {l : List Int} {n : Nat} (h : Pn.Nm l) (hl : l.length = n + 1) : 0 < l[n]?.getD 0 := by
 have h2 := h.2
 have hn : n < l.length := by omega
 rw [List.getLast?_eq_getElem?, hl, Nat.add_sub_cancel, List.getElem?_eq_getElem hn] at h2
 have h3 := h.1 _ (List.getElem_mem hn)
 rw [List.getElem?_eq_getElem hn]
 simp at h2 ⊢
 omega
def impl_natDiv.okB (l : List Int) : Bool := (l.all fun x => decide (0 ≤ x ∧ x < 10000)) && (l.getLast? != some 0)
theorem impl_natDiv.okB_iff (l : List Int) : impl_natDiv.okB l = true ↔ Pn.Nm l := by
 simp [impl_natDiv.okB, Pn.Nm, Pn.Lm]
def impl_natDiv.f (l0 : List Int) (l1 : List Int) : Option (List Int × List Int) :=
 if impl_natDiv.okB l0 = true ∧ impl_natDiv.okB l1 = true ∧ l1 ≠ [] ∧ l0.length ≤ 1000000 then some (Pn.nat (Pn.vl l0 / Pn.vl l1), Pn.nat (Pn.vl l0 % Pn.vl l1)) else none
theorem impl_natDiv.calls (A0 : Option Addr) (c0 : Nat) (l0 : List Int) (A1 : Option Addr) (c1 : Nat) (l1 : List Int) (r1 : List Int) (r2 : List Int) (w : World) (hr0 : Kd.C (Kd.int .i64) w A0 l0.length l0) (hc0 : l0.length ≤ c0) (hr1 : Kd.C (Kd.int .i64) w A1 l1.length l1) (hc1 : l1.length ≤ c1) (h : impl_natDiv.f l0 l1 = some (r1, r2)) :
  Calls Try.prog 87 #[.slice A0 l0.length c0, .slice A1 l1.length c1] w fun e w' => ∃ v0_ v1_ : Value, e = .returned (.tuple #[v0_, v1_]) ∧ Kd.R (Kd.int .i64) 3 w' w.heap.size (fun k_ => nO k_ v1_) v0_ r1 ∧ Kd.R (Kd.int .i64) 3 w' w.heap.size (fun k_ => nO k_ v0_) v1_ r2 ∧ Below w.heap.size w w' := by
 unfold impl_natDiv.f at h
 by_cases hg : impl_natDiv.okB l0 = true ∧ impl_natDiv.okB l1 = true ∧ l1 ≠ [] ∧ l0.length ≤ 1000000
 ·
  rw [if_pos hg] at h
  obtain ⟨g0, g1, g2, g3⟩ := hg
  have n0 := (impl_natDiv.okB_iff l0).1 g0
  have n1 := (impl_natDiv.okB_iff l1).1 g1
  cases h
  have hv0 := Pn.vl_nonneg n0.1
  have hv1 := Pn.vl_pos n1 g2
  have hcl : slices_Clone_int_int.f l0 = some l0 := by unfold slices_Clone_int_int.f; rw [if_pos (by omega)]
  by_cases hneg : ncmp l0 l1 < 0
  ·
   have hlt := (nd_neg n0 n1).1 hneg
   have e1 : Pn.vl l0 / Pn.vl l1 = 0 := Int.ediv_eq_zero_of_lt hv0 hlt
   have e2 : Pn.vl l0 % Pn.vl l1 = Pn.vl l0 := Int.emod_eq_of_lt hv0 hlt
   rw [e1, e2, Pn.nat_zero, Pn.nat_vl n0]
   exact impl_natDiv.less A0 c0 l0 A1 c1 l1 (ncmp l0 l1) l0 w hr0 hc0 hr1 hc1 rfl hneg hcl
  ·
   have hge : Pn.vl l1 ≤ Pn.vl l0 := by
    rcases Int.lt_or_le (Pn.vl l0) (Pn.vl l1) with h | h
    ·
     exact absurd ((nd_neg n0 n1).2 h) hneg
    ·
     exact h
   have hlen : l1.length ≤ l0.length := by
    rcases Nat.lt_or_ge l0.length l1.length with h | h
    ·
     have := Pn.vl_lt_of_len n0.1 n1 h; omega
    ·
     exact h
   have hup := Pn.vl_lt n0.1
   have q0 : 0 ≤ Pn.vl l0 / Pn.vl l1 := Int.ediv_nonneg hv0 (by omega)
   have q1 : Pn.vl l0 / Pn.vl l1 ≤ Pn.vl l0 := Int.ediv_le_self _ hv0
   have q2 : 0 ≤ Pn.vl l0 % Pn.vl l1 := Int.emod_nonneg _ (by omega)
   have q3 : Pn.vl l0 % Pn.vl l1 < Pn.vl l1 := Int.emod_lt_of_pos _ hv1
   obtain ⟨n, hn⟩ : ∃ n, l1.length = n + 1 := ⟨l1.length - 1, by have := List.length_pos_iff.2 g2; omega⟩
   have htop := nd_top n1 hn
   cases n with
   | zero =>
    obtain ⟨b0, rfl⟩ := List.length_eq_one_iff.1 hn
    have hvb : Pn.vl [b0] = b0 := by simp [Pn.vl]
    have hb := n1.1 b0 (by simp)
    rw [hvb] at q0 q1 q2 q3 hge hv1 ⊢
    obtain ⟨k, e⟩ := nd_run (m := l0.length) (by omega) q0 (by omega)
    exact impl_natDiv.one (k + 2) A0 c0 l0 A1 c1 b0 (ncmp l0 [b0]) _ _ w hr0 hc0 hr1 hc1 rfl hneg g3 n0.1 ⟨hv1, hb.2⟩ (nd_trim_up e 2) (by
     have := nd_natOf_up (nd_natOf q2 (by omega)) k
     rw [Nat.add_comm] at this; exact this)
   | succ n =>
    have hlo := nd_low n1 (k := n + 1) (by omega)
    have q4 : Pn.vl l0 / Pn.vl l1 < 10000 ^ (l0.length - l1.length + 1) := by
     refine Int.ediv_lt_of_lt_mul hv1 (Int.lt_of_lt_of_le hup ?_)
     have e : (10000 : Int) ^ l0.length = 10000 ^ (l0.length - l1.length + 1) * 10000 ^ (n + 1) := by rw [← Int.pow_add]; congr 1; omega
     rw [e]
     exact Int.mul_le_mul_of_nonneg_left hlo (Int.le_of_lt (Pn.pow_pos' _))
    have q5 : Pn.vl l0 % Pn.vl l1 < 10000 ^ (l0.length + 1) := by
     have := Pn.pow_mono' (a := l0.length) (b := l0.length + 1) (by omega)
     omega
    obtain ⟨k, e⟩ := nd_run (m := l0.length - l1.length + 1) (by omega) q0 q4
    obtain ⟨k', e'⟩ := nd_run (m := l0.length + 1) (by omega) q2 q5
    exact impl_natDiv.more (k + k') A0 c0 l0 A1 c1 l1 (ncmp l0 l1) _ _ n w hr0 hc0 hr1 hc1 rfl hneg hn hlen g3 hcl n0.1 n1.1 htop (nd_trim_up e k') (by
     have := nd_trim_up e' k
     rw [Nat.add_comm] at this; exact this)
 ·
  rw [if_neg hg] at h; cases h

end Go.Proofs.Ytegbmillbbcmfaa.Q
