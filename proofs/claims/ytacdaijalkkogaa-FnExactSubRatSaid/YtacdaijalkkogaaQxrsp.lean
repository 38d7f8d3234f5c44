-- written by a program of this claim's session (myprint.py) out of the translation; Lean checks it.
import Derived.Test.YtacdaijalkkogaaQx0
import Derived.Test.YtacdaijalkkogaaSq
import Derived.Test.YtacdaijalkkogaaQxmul
import Derived.Test.YtacdaijalkkogaaQxrk
import Derived.Test.YtacdaijalkkogaaQxrmk
namespace Go.Proofs.Ytacdaijalkkogaa.Q
open Go.RowKit Go.Proofs.YtacdaijalkkogaaW.PrintWords Go.Proofs.YtacdaijalkkogaaW.PrintLast Go.Proofs.YtacdaijalkkogaaW.PrintMore
attribute [local go_sem] max2_int min2_int max_two min_two max_three min_three max_four min_four   -- for this text's walks alone
set_option linter.unusedVariables false
set_option linter.unusedSimpArgs false

def spec_l02Own.f (a0_0 : Bool) (l0_1 : List Int) (l0_2 : List Int) : Option (Bool × List Int × List Int) := (some (([] : List Int) : List Int)).bind fun yB1 => (if yB1.length + l0_1.length < 17592186044416 then ((some (([] : List Int) : List Int)).bind fun yA7 => (if yA7.length + l0_2.length < 17592186044416 then (some (a0_0, (yB1 ++ l0_1), (yA7 ++ l0_2))) else (none))) else (none))
def spec_l02Own.T1 : Bool × List (List Nat × List Nat) := (true, [([], []), ([0], [0]), ([], []), ([], []), ([3], [3]), ([2, 4], [2, 4]), ([], []), ([], []), ([7], [7]), ([6, 8, 5], [6, 8]), ([1, 5, 9], [1, 5, 9]), ([10, 9, 0, 1, 2, 3, 4, 5, 6, 7, 8, 9, 10], [10])])
def spec_l02Own.B1 : List Nat := [0, 1, 0, 0, 8, 28, 0, 0, 128, 508, 1023, 2047]
theorem spec_l02Own.tab1 : rtab .any (opsOf Try.f63 1) = spec_l02Own.T1 := by kernel_rfl
theorem spec_l02Own.bits1 : waitsOk spec_l02Own.T1.2 spec_l02Own.B1 = true := by kernel_rfl
set_option maxHeartbeats 8000000 in
set_option maxRecDepth 100000 in
theorem spec_l02Own.calls (a0_0 : Bool) (A0_1 : Option Addr) (c0_1 : Nat) (l0_1 : List Int) (A0_2 : Option Addr) (c0_2 : Nat) (l0_2 : List Int) (r1 : Bool) (r2 : List Int) (r3 : List Int) (w : World) (hr0_1 : Kd.C (Kd.int .i64) w A0_1 l0_1.length l0_1) (hc0_1 : l0_1.length ≤ c0_1) (hr0_2 : Kd.C (Kd.int .i64) w A0_2 l0_2.length l0_2) (hc0_2 : l0_2.length ≤ c0_2) (h : spec_l02Own.f a0_0 l0_1 l0_2 = some (r1, r2, r3)) :
  Calls Try.prog 63 #[.agg #[.bool a0_0, .slice A0_1 l0_1.length c0_1, .slice A0_2 l0_2.length c0_2]] w fun e w' => ∃ v1_ v2_ : Value, e = .returned (.agg #[.bool r1, v1_, v2_]) ∧ Kd.R (Kd.int .i64) 3 w' w.heap.size (fun k_ => nO k_ v2_) v1_ r2 ∧ Kd.R (Kd.int .i64) 3 w' w.heap.size (fun k_ => nO k_ v1_) v2_ r3 ∧ Below w.heap.size w w' := by
 have hu24 := Try.underlying24
 have HR0_1 := Aside0.mk hr0_1
 have HC0_1 := Aside0.mk hc0_1
 clear hr0_1 hc0_1
 have HR0_2 := Aside0.mk hr0_2
 have HC0_2 := Aside0.mk hc0_2
 clear hr0_2 hc0_2
 have HB := Aside0.mk (Below.refl w.heap.size w)
 have H : ((some (([] : List Int) : List Int)).bind fun yB1 => (if yB1.length + l0_1.length < 17592186044416 then ((some (([] : List Int) : List Int)).bind fun yA7 => (if yA7.length + l0_2.length < 17592186044416 then (some (a0_0, (yB1 ++ l0_1), (yA7 ++ l0_2))) else (none))) else (none))) = some (r1, r2, r3) := h
 clear h
 obtain ⟨yB1, hy237⟩ : ∃ y_ : List Int, y_ = (([] : List Int)) := ⟨_, rfl⟩
 replace H : (if yB1.length + l0_1.length < 17592186044416 then ((some (([] : List Int) : List Int)).bind fun yA7 => (if yA7.length + l0_2.length < 17592186044416 then (some (a0_0, (yB1 ++ l0_1), (yA7 ++ l0_2))) else (none))) else (none)) = some (r1, r2, r3) := by first | (rw [hy237]; with_reducible exact H) | (have H2_ := (Option.bind_some _ _).symm.trans H; rw [hy237]; with_reducible exact H2_) | (have H2_ := (Option.bind_some _ _).symm.trans H; with_reducible exact H2_) | with_reducible exact H | (rw [hy237]; exact H) | exact H
 have NyB1 := Aside0.mk hy237
 clear hy237
 by_cases c2 : yB1.length + l0_1.length < 17592186044416
 ·
  rw [if_pos c2] at H
  have LMc2 := Aside0.mk c2
  clear c2
  obtain ⟨yB5, hy240⟩ : ∃ y_ : List Int, y_ = (yB1 ++ l0_1) := ⟨_, rfl⟩
  replace H : ((some (([] : List Int) : List Int)).bind fun yA7 => (if yA7.length + l0_2.length < 17592186044416 then (some (a0_0, yB5, (yA7 ++ l0_2))) else (none))) = some (r1, r2, r3) := by first | (rw [hy240]; with_reducible exact H) | (have H2_ := (Option.bind_some _ _).symm.trans H; rw [hy240]; with_reducible exact H2_) | (have H2_ := (Option.bind_some _ _).symm.trans H; with_reducible exact H2_) | with_reducible exact H | (rw [hy240]; exact H) | exact H
  have NyB5 := Aside0.mk hy240
  clear hy240
  obtain ⟨yA7, hy243⟩ : ∃ y_ : List Int, y_ = (([] : List Int)) := ⟨_, rfl⟩
  replace H : (if yA7.length + l0_2.length < 17592186044416 then (some (a0_0, yB5, (yA7 ++ l0_2))) else (none)) = some (r1, r2, r3) := by first | (rw [hy243]; with_reducible exact H) | (have H2_ := (Option.bind_some _ _).symm.trans H; rw [hy243]; with_reducible exact H2_) | (have H2_ := (Option.bind_some _ _).symm.trans H; with_reducible exact H2_) | with_reducible exact H | (rw [hy243]; exact H) | exact H
  have NyA7 := Aside0.mk hy243
  clear hy243
  by_cases c3 : yA7.length + l0_2.length < 17592186044416
  ·
   rw [if_pos c3] at H
   have LMc3 := Aside0.mk c3
   clear c3
   obtain ⟨yC4, hy246⟩ : ∃ y_ : List Int, y_ = (yA7 ++ l0_2) := ⟨_, rfl⟩
   replace H : (some (a0_0, yB5, yC4)) = some (r1, r2, r3) := by first | (rw [hy246]; with_reducible exact H) | (have H2_ := (Option.bind_some _ _).symm.trans H; rw [hy246]; with_reducible exact H2_) | (have H2_ := (Option.bind_some _ _).symm.trans H; with_reducible exact H2_) | with_reducible exact H | (rw [hy246]; exact H) | exact H
   have NyC4 := Aside0.mk hy246
   clear hy246
   simp only [Option.some.injEq, Prod.mk.injEq] at H
   obtain ⟨rfl, rfl, rfl⟩ := H
   go_enter Try.func63, Try.ntmps63
   try go_wp2_with (first | ((with_reducible refine gate_dst (N := 1) rfl ?_); refine bx_ (N := 1) (cs := #[.bool a0_0, .slice A0_1 l0_1.length c0_1, .slice A0_2 l0_2.length c0_2]) (t := 24) ?_; intro gbA0 hg w4 hbox hb; have BKA0 := Aside0.mk (hbox); have GWA0 := geh hg HB; have GEA0 := geh hg HB; replace HB := bst HB hb; clear hb hbox hg) | ((with_reducible refine gate_dst (N := 2) rfl ?_); refine bx_ (N := 2) (cs := #[.bool false, .slice none 0 0, .slice none 0 0]) (t := 24) ?_; intro gbA3 hg w5 hbox hb; have BKA3 := Aside0.mk (hbox); have GWA3 := geh hg HB; have GEA3 := geh hg HB; replace HB := bst HB hb; have NBA0_A3 := nlt hg BKA0; have NBA3_A0 := ngt hg BKA0; replace BKA0 := bkb BKA0 hb; clear hb hbox hg))
   replace BKA0 := Aside0.mk (blk_drew BKA0.out)
   replace BKA3 := Aside0.mk (blk_drew BKA3.out)
   replace HB := Aside0.mk (below_drew1 HB.out)
   refine start_ (n := 12) (S := fun w' => w'.cell? ⟨gbA0, 0, none⟩ = some (.bool a0_0) ∧ w'.cell? ⟨gbA0, 1, none⟩ = some (.slice A0_1 l0_1.length c0_1) ∧ w'.cell? ⟨gbA0, 2, none⟩ = some (.slice A0_2 l0_2.length c0_2)) (ds := []) (bm 12 0) (by kernel_rfl) rfl rfl ⟨bce BKA0 0 _, bce BKA0 1 _, bce BKA0 2 _⟩ (fun hHeld => ?_); refine with_tabW spec_l02Own.tab1 spec_l02Own.bits1 (fun HT_ HW_ => ?_)
   generalize w5.drew = w6 at BKA0 BKA3 HB hHeld ⊢
   refine pu_ 0 (some 3) (bm 12 1) HT_.out ?_
   refine pu_ 3 (some 6) (bm 12 9) HT_.out ?_
   refine pu_ 7 (some 10) (bm 12 137) HT_.out ?_
   refine tk_ 1 (some 4) (bm 12 139) HT_.out HW_.out hHeld ?_
   refine tk_ 4 (some 7) (bm 12 155) HT_.out HW_.out hHeld ?_
   refine tk_ 8 (some 11) (bm 12 411) HT_.out HW_.out hHeld ?_
   refine join_ (σ := Value × Value × Value) 3 (bm 12 511) (fun s_ => [(5, s_.1), (8, s_.2.1), (9, s_.2.2)]) (fun s_ w' => (w'.cell? ⟨gbA0, 0, none⟩ = some (.bool a0_0) ∧ w'.cell? ⟨gbA0, 1, none⟩ = some (.slice A0_1 l0_1.length c0_1) ∧ w'.cell? ⟨gbA0, 2, none⟩ = some (.slice A0_2 l0_2.length c0_2)) ∧ (Kd.R (Kd.int .i64) 3 w' w.heap.size (fun k_ => nO k_ s_.2.2) s_.2.1 yB5) ∧ (Kd.R (Kd.int .i64) 3 w' w.heap.size (fun k_ => nO k_ s_.2.1) s_.2.2 yA7) ∧ (w'.heap[gbA0]? = some (.cells #[.bool a0_0, .slice A0_1 l0_1.length c0_1, .slice A0_2 l0_2.length c0_2] 24 (0, 0))) ∧ (w'.heap[gbA3]? = some (.cells #[.bool false, .slice none 0 0, .slice none 0 0] 24 (0, 0))) ∧ (Below w.heap.size w w')) ?_ ?_
   rotate_left
   ·
    intro hCont
    refine two_ (i := 2) (j := 6) (Ni := some 5) (Nj := some 9) (bm 12 415) (bm 12 475) rfl rfl rfl rfl (two_of HT_.out (by kernel_rfl)) (by decide) (by decide) (fun K hK => ?_) (fun K hK => ?_)
    ·
     skip
     refine Kd.R_lit_step (Kd.int .i64) _ 3 ?hg (N := 5) ?hd (xs := ([] : List Int)) (inner := []) (ok := fun _ => True) (okp := fun _ => True) ?hr ?hp (fun _ hk => hk) trivial (Below.refl _ _) (Nat.le_refl _) (by simp) ?_; (case hd => rfl); (case hg => rfl); (case hr => first | (go_simp; done) | (go_simp; rfl)); (case hp => exact (Reps.none _ _))
     intro vC1 w7 ho8 hb hg_ hnew_
     clear hg_ hnew_
     (first | rw [← NyB1.out] at ho8 | (simp only [Int.reduceToNat] at ho8; rw [← NyB1.out] at ho8))
     have HOB2 := lwR ho8 HB
     replace BKA0 := bkb BKA0 hb
     replace BKA3 := bkb BKA3 hb
     replace HB := bst HB hb
     clear hb ho8
     refine hK.out _ _ ⟨bce BKA0 0 _, bce BKA0 1 _, bce BKA0 2 _⟩ (fun hHeld => ?_)
     clear hK K
     refine nm_ 5 ?_
     refine two_ (i := 5) (j := 6) (Ni := some 8) (Nj := some 9) (bm 12 447) (bm 12 479) rfl rfl rfl rfl (two_of HT_.out (by kernel_rfl)) (by decide) (by decide) (fun K hK => ?_) (fun K hK => ?_)
     ·
      skip
      refine Kd.R_append_rows_step (Kd.int .i64) (w0 := w) w.heap.size (by rfl) (.tmp 5) (.tmp 7) 22 3 (.int .i64 0) 8 rfl Try.underlying22 info3 rfl (by decide) (by omega) vC1 yB1 l0_1 _ _ _ (fun _ => True) (fun _ => False) rfl rfl ?aO ?aR (fun _ _ h => h) (fun _ h => h.elim) ?aF ?aB ?aS ?aL ?_
      (case aR => exact crC (Kd.C_below HR0_1.out HB.out))
      (case aB => exact (blw HB))
      (case aF => exact (fun _ _ => trivial))
      (case aO => exact (crR HOB2))
      (case aS => exact (bsz HB))
      (case aL => have := LMc2.out; omega)
      intro vB7 w9 ho hb hg hat
      rw [← NyB5.out] at ho
      replace BKA0 := Aside0.mk (blk_grown (g := gbA0) (o := .cells #[.bool a0_0, .slice A0_1 l0_1.length c0_1, .slice A0_2 l0_2.length c0_2] 24 (0, 0)) (crb BKA0) hg (Kd.R_ne HOB2.out BKA0.out (by decide)))
      replace BKA3 := Aside0.mk (blk_grown (g := gbA3) (o := .cells #[.bool false, .slice none 0 0, .slice none 0 0] 24 (0, 0)) (crb BKA3) hg (Kd.R_ne HOB2.out BKA3.out (by decide)))
      replace HB := Aside0.mk (hb)
      have HOB3 := Aside0.mk (ho)
      clear HOB2
      clear ho hb hg hat
      refine hK.out _ _ ⟨bce BKA0 0 _, bce BKA0 1 _, bce BKA0 2 _⟩ (fun hHeld => ?_)
      clear hK K
      refine nm_ 8 ?_
      refine one_ (i := 6) (N := some 9) (bm 12 511) rfl rfl (one_of HT_.out (by kernel_rfl)) (by decide) (fun K hK => ?_)
      refine Kd.R_lit_step (Kd.int .i64) _ 3 ?hg (N := 9) ?hd (xs := ([] : List Int)) (inner := []) (ok := fun _ => True) (okp := fun _ => True) ?hr ?hp (fun _ hk => hk) trivial (Below.refl _ _) (Nat.le_refl _) (by simp) ?_; (case hd => rfl); (case hg => rfl); (case hr => first | (go_simp; done) | (go_simp; rfl)); (case hp => exact (Reps.none _ _))
      intro vB4 w10 ho11 hb hg_ hnew_
      clear hg_ hnew_
      (first | rw [← NyA7.out] at ho11 | (simp only [Int.reduceToNat] at ho11; rw [← NyA7.out] at ho11))
      have HOA9 := lwR (nwR ho11 HOB3) HB
      replace HOB3 := eldR HOB3 (Kd.R_base ho11) hb
      replace BKA0 := bkb BKA0 hb
      replace BKA3 := bkb BKA3 hb
      replace HB := bst HB hb
      clear hb ho11
      refine hK.out _ _ ⟨bce BKA0 0 _, bce BKA0 1 _, bce BKA0 2 _⟩ (fun hHeld => ?_)
      clear hK K
      refine nm_ 9 ?_
      exact nq_ (hCont (vC1, vB7, vB4) _ ⟨hHeld, (crM HOB3 fun _ hk => hk.2), (crM HOA9 fun _ hk => hk.2), (crb BKA0), (crb BKA3), (blw HB)⟩)
     ·
      skip
      refine Kd.R_lit_step (Kd.int .i64) _ 3 ?hg (N := 9) ?hd (xs := ([] : List Int)) (inner := []) (ok := fun _ => True) (okp := fun _ => True) ?hr ?hp (fun _ hk => hk) trivial (Below.refl _ _) (Nat.le_refl _) (by simp) ?_; (case hd => rfl); (case hg => rfl); (case hr => first | (go_simp; done) | (go_simp; rfl)); (case hp => exact (Reps.none _ _))
      intro vB4 w9 ho10 hb hg_ hnew_
      clear hg_ hnew_
      (first | rw [← NyA7.out] at ho10 | (simp only [Int.reduceToNat] at ho10; rw [← NyA7.out] at ho10))
      have HOA9 := lwR (nwR ho10 HOB2) HB
      replace HOB2 := eldR HOB2 (Kd.R_base ho10) hb
      replace BKA0 := bkb BKA0 hb
      replace BKA3 := bkb BKA3 hb
      replace HB := bst HB hb
      clear hb ho10
      refine hK.out _ _ ⟨bce BKA0 0 _, bce BKA0 1 _, bce BKA0 2 _⟩ (fun hHeld => ?_)
      clear hK K
      refine nm_ 9 ?_
      refine one_ (i := 5) (N := some 8) (bm 12 511) rfl rfl (one_of HT_.out (by kernel_rfl)) (by decide) (fun K hK => ?_)
      refine Kd.R_append_rows_step (Kd.int .i64) (w0 := w) w.heap.size (by rfl) (.tmp 5) (.tmp 7) 22 3 (.int .i64 0) 8 rfl Try.underlying22 info3 rfl (by decide) (by omega) vC1 yB1 l0_1 _ _ _ (fun k_ => nO k_ vB4) (fun _ => False) rfl rfl ?aO ?aR (fun _ _ h => h) (fun _ h => h.elim) ?aF ?aB ?aS ?aL ?_
      (case aR => exact crC (Kd.C_below HR0_1.out HB.out))
      (case aB => exact (blw HB))
      (case aF => exact (fun k_ hk => Kd.fresh' (Kd.R_lt (crR HOA9)) k_ hk))
      (case aO => exact (crM HOB2 fun _ hk => hk.2))
      (case aS => exact (bsz HB))
      (case aL => have := LMc2.out; omega)
      intro vB7 w11 ho hb hg hat
      rw [← NyB5.out] at ho
      replace BKA0 := Aside0.mk (blk_grown (g := gbA0) (o := .cells #[.bool a0_0, .slice A0_1 l0_1.length c0_1, .slice A0_2 l0_2.length c0_2] 24 (0, 0)) (crb BKA0) hg (Kd.R_ne HOB2.out BKA0.out (by decide)))
      replace BKA3 := Aside0.mk (blk_grown (g := gbA3) (o := .cells #[.bool false, .slice none 0 0, .slice none 0 0] 24 (0, 0)) (crb BKA3) hg (Kd.R_ne HOB2.out BKA3.out (by decide)))
      replace HOA9 := Aside0.mk (Kd.R_after (ok := (fun _ => True)) (crR HOA9) hg hat)
      replace HB := Aside0.mk (hb)
      have HOB3 := Aside0.mk (ho)
      clear HOB2
      clear ho hb hg hat
      refine hK.out _ _ ⟨bce BKA0 0 _, bce BKA0 1 _, bce BKA0 2 _⟩ (fun hHeld => ?_)
      clear hK K
      refine nm_ 8 ?_
      exact nq_ (hCont (vC1, vB7, vB4) _ ⟨hHeld, (crR HOB3), (crM HOA9 fun _ hk => hk.2), (crb BKA0), (crb BKA3), (blw HB)⟩)
    ·
     skip
     refine Kd.R_lit_step (Kd.int .i64) _ 3 ?hg (N := 9) ?hd (xs := ([] : List Int)) (inner := []) (ok := fun _ => True) (okp := fun _ => True) ?hr ?hp (fun _ hk => hk) trivial (Below.refl _ _) (Nat.le_refl _) (by simp) ?_; (case hd => rfl); (case hg => rfl); (case hr => first | (go_simp; done) | (go_simp; rfl)); (case hp => exact (Reps.none _ _))
     intro vB4 w7 ho8 hb hg_ hnew_
     clear hg_ hnew_
     (first | rw [← NyA7.out] at ho8 | (simp only [Int.reduceToNat] at ho8; rw [← NyA7.out] at ho8))
     have HOA9 := lwR ho8 HB
     replace BKA0 := bkb BKA0 hb
     replace BKA3 := bkb BKA3 hb
     replace HB := bst HB hb
     clear hb ho8
     refine hK.out _ _ ⟨bce BKA0 0 _, bce BKA0 1 _, bce BKA0 2 _⟩ (fun hHeld => ?_)
     clear hK K
     refine nm_ 9 ?_
     refine one_ (i := 2) (N := some 5) (bm 12 479) rfl rfl (one_of HT_.out (by kernel_rfl)) (by decide) (fun K hK => ?_)
     refine Kd.R_lit_step (Kd.int .i64) _ 3 ?hg (N := 5) ?hd (xs := ([] : List Int)) (inner := []) (ok := fun _ => True) (okp := fun _ => True) ?hr ?hp (fun _ hk => hk) trivial (Below.refl _ _) (Nat.le_refl _) (by simp) ?_; (case hd => rfl); (case hg => rfl); (case hr => first | (go_simp; done) | (go_simp; rfl)); (case hp => exact (Reps.none _ _))
     intro vC1 w9 ho10 hb hg_ hnew_
     clear hg_ hnew_
     (first | rw [← NyB1.out] at ho10 | (simp only [Int.reduceToNat] at ho10; rw [← NyB1.out] at ho10))
     have HOB2 := lwR (nwR ho10 HOA9) HB
     replace HOA9 := eldR HOA9 (Kd.R_base ho10) hb
     replace BKA0 := bkb BKA0 hb
     replace BKA3 := bkb BKA3 hb
     replace HB := bst HB hb
     clear hb ho10
     refine hK.out _ _ ⟨bce BKA0 0 _, bce BKA0 1 _, bce BKA0 2 _⟩ (fun hHeld => ?_)
     clear hK K
     refine nm_ 5 ?_
     refine one_ (i := 5) (N := some 8) (bm 12 511) rfl rfl (one_of HT_.out (by kernel_rfl)) (by decide) (fun K hK => ?_)
     refine Kd.R_append_rows_step (Kd.int .i64) (w0 := w) w.heap.size (by rfl) (.tmp 5) (.tmp 7) 22 3 (.int .i64 0) 8 rfl Try.underlying22 info3 rfl (by decide) (by omega) vC1 yB1 l0_1 _ _ _ (fun k_ => nO k_ vB4) (fun _ => False) rfl rfl ?aO ?aR (fun _ _ h => h) (fun _ h => h.elim) ?aF ?aB ?aS ?aL ?_
     (case aR => exact crC (Kd.C_below HR0_1.out HB.out))
     (case aB => exact (blw HB))
     (case aF => exact (fun k_ hk => Kd.fresh' (Kd.R_lt (crR HOA9)) k_ hk))
     (case aO => exact (crM HOB2 fun _ hk => hk.2))
     (case aS => exact (bsz HB))
     (case aL => have := LMc2.out; omega)
     intro vB7 w11 ho hb hg hat
     rw [← NyB5.out] at ho
     replace BKA0 := Aside0.mk (blk_grown (g := gbA0) (o := .cells #[.bool a0_0, .slice A0_1 l0_1.length c0_1, .slice A0_2 l0_2.length c0_2] 24 (0, 0)) (crb BKA0) hg (Kd.R_ne HOB2.out BKA0.out (by decide)))
     replace BKA3 := Aside0.mk (blk_grown (g := gbA3) (o := .cells #[.bool false, .slice none 0 0, .slice none 0 0] 24 (0, 0)) (crb BKA3) hg (Kd.R_ne HOB2.out BKA3.out (by decide)))
     replace HOA9 := Aside0.mk (Kd.R_after (ok := (fun _ => True)) (crR HOA9) hg hat)
     replace HB := Aside0.mk (hb)
     have HOB3 := Aside0.mk (ho)
     clear HOB2
     clear ho hb hg hat
     refine hK.out _ _ ⟨bce BKA0 0 _, bce BKA0 1 _, bce BKA0 2 _⟩ (fun hHeld => ?_)
     clear hK K
     refine nm_ 8 ?_
     exact nq_ (hCont (vC1, vB7, vB4) _ ⟨hHeld, (crR HOB3), (crM HOA9 fun _ hk => hk.2), (crb BKA0), (crb BKA3), (blw HB)⟩)
   rintro ⟨vC1, vB7, vB4⟩ w12 ⟨hS_, h0_, h1_, h2_, h3_, h4_⟩
   have HOB3 : Aside0 (Kd.R (Kd.int .i64) 3 w12 w.heap.size (fun k_ => nO k_ vB4) vB7 yB5) := ⟨h0_⟩
   have HOA9 : Aside0 (Kd.R (Kd.int .i64) 3 w12 w.heap.size (fun k_ => nO k_ vB7) vB4 yA7) := ⟨h1_⟩
   replace BKA0 : Aside0 (w12.heap[gbA0]? = some (.cells #[.bool a0_0, .slice A0_1 l0_1.length c0_1, .slice A0_2 l0_2.length c0_2] 24 (0, 0))) := ⟨h2_⟩
   replace BKA3 : Aside0 (w12.heap[gbA3]? = some (.cells #[.bool false, .slice none 0 0, .slice none 0 0] 24 (0, 0))) := ⟨h3_⟩
   replace HB : Aside0 (Below w.heap.size w w12) := ⟨h4_⟩
   clear h0_ h1_ h2_ h3_ h4_
   have hHeld : w12.cell? ⟨gbA0, 0, none⟩ = some (.bool a0_0) ∧ w12.cell? ⟨gbA0, 1, none⟩ = some (.slice A0_1 l0_1.length c0_1) ∧ w12.cell? ⟨gbA0, 2, none⟩ = some (.slice A0_2 l0_2.length c0_2) := hS_
   refine np_ ?_
   refine one_ (i := 9) (N := some 12) (bm 12 1023) rfl rfl (one_of HT_.out (by kernel_rfl)) (by decide) (fun K hK => ?_)
   refine Kd.R_append_rows_step (Kd.int .i64) (w0 := w) w.heap.size (by rfl) (.tmp 9) (.tmp 11) 22 3 (.int .i64 0) 8 rfl Try.underlying22 info3 rfl (by decide) (by omega) vB4 yA7 l0_2 _ _ _ (fun k_ => nO k_ vB7) (fun _ => False) rfl rfl ?aO ?aR (fun _ _ h => h) (fun _ h => h.elim) ?aF ?aB ?aS ?aL ?_
   (case aR => exact crC (Kd.C_below HR0_2.out HB.out))
   (case aB => exact (blw HB))
   (case aF => exact (fun k_ hk => Kd.fresh' (Kd.R_lt (crR HOB3)) k_ hk))
   (case aO => exact (crR HOA9))
   (case aS => exact (bsz HB))
   (case aL => have := LMc3.out; omega)
   intro vD0 w13 ho hb hg hat
   rw [← NyC4.out] at ho
   replace BKA0 := Aside0.mk (blk_grown (g := gbA0) (o := .cells #[.bool a0_0, .slice A0_1 l0_1.length c0_1, .slice A0_2 l0_2.length c0_2] 24 (0, 0)) (crb BKA0) hg (Kd.R_ne HOA9.out BKA0.out (by decide)))
   replace BKA3 := Aside0.mk (blk_grown (g := gbA3) (o := .cells #[.bool false, .slice none 0 0, .slice none 0 0] 24 (0, 0)) (crb BKA3) hg (Kd.R_ne HOA9.out BKA3.out (by decide)))
   replace HOB3 := Aside0.mk (Kd.R_after (ok := (fun _ => True)) (crM HOB3 fun _ hk => ⟨trivial, hk⟩) hg hat)
   replace HB := Aside0.mk (hb)
   have HOC7 := Aside0.mk (ho)
   clear HOA9
   clear ho hb hg hat
   obtain ⟨Ao14, co14, eo14⟩ := Kd.R_slice HOC7.out
   (first | subst eo14 | (injection eo14 with f1_ f2_ f3_; have f4_ := f1_.symm; have f5_ := f3_.symm; clear f1_ f2_ f3_; subst f4_; subst f5_))
   obtain ⟨Ao15, co15, eo15⟩ := Kd.R_slice HOB3.out
   (first | subst eo15 | (injection eo15 with f1_ f2_ f3_; have f4_ := f1_.symm; have f5_ := f3_.symm; clear f1_ f2_ f3_; subst f4_; subst f5_))
   refine hK.out _ _ ⟨bce BKA0 0 _, bce BKA0 1 _, bce BKA0 2 _⟩ (fun hHeld => ?_)
   clear hK K
   refine nm_ 12 ?_
   refine pu_ 10 (some 13) (bm 12 2047) HT_.out ?_
   refine one_ (i := 11) (N := none) (bm 12 4095) rfl rfl (one_of HT_.out (by kernel_rfl)) (by decide) (fun K hK => ?_)
   have hs16 : w13.cell? ⟨gbA3, 0, none⟩ = some (.bool false) := bce BKA3 0 _
   have hfs16 := blk_frozen BKA3.out 0
   have hns16_0 := NBA0_A3.out
   have hms16_0 := NBA3_A0.out
   have hs17 : w13.cell? ⟨gbA3, 1, none⟩ = some (.slice none 0 0) := bce BKA3 1 _
   have hfs17 := blk_frozen BKA3.out 1
   have hns17_0 := NBA0_A3.out
   have hms17_0 := NBA3_A0.out
   have hs18 : w13.cell? ⟨gbA3, 2, none⟩ = some (.slice none 0 0) := bce BKA3 2 _
   have hfs18 := blk_frozen BKA3.out 2
   have hns18_0 := NBA0_A3.out
   have hms18_0 := NBA3_A0.out
   refine skip_ (w1 := ?_) (by rfl) rfl ?_ ?_
   rotate_left
   ·
    go_simp
    rfl
   refine hK.out _ _ ⟨((cell_far (p := ⟨gbA3, _, none⟩) NBA0_A3.out _).trans (((cell_far (p := ⟨gbA3, _, none⟩) NBA0_A3.out _).trans (((cell_far (p := ⟨gbA3, _, none⟩) NBA0_A3.out _).trans (hHeld.1)))))), ((cell_far (p := ⟨gbA3, _, none⟩) NBA0_A3.out _).trans (((cell_far (p := ⟨gbA3, _, none⟩) NBA0_A3.out _).trans (((cell_far (p := ⟨gbA3, _, none⟩) NBA0_A3.out _).trans (hHeld.2.1)))))), ((cell_far (p := ⟨gbA3, _, none⟩) NBA0_A3.out _).trans (((cell_far (p := ⟨gbA3, _, none⟩) NBA0_A3.out _).trans (((cell_far (p := ⟨gbA3, _, none⟩) NBA0_A3.out _).trans (hHeld.2.2))))))⟩ (fun hHeld => ?_)
   clear hK K
   refine done_ (done_of HT_.out (by kernel_rfl)) ?_
   try go_wp2
   refine bodyPost_ret (results_cell_row rfl _ _ gbA3 24 #[.bool a0_0, .slice Ao15 yB5.length co15, .slice Ao14 yC4.length co14] (0, 0) _ rfl (bp3 BKA3 _ _ _) Try.underlying24 rfl (by kernel_rfl)) rfl ?_
   exact ⟨_, _, er_, (crN HOB3 BKA3 fun _ hk => hk.1.2), (crN HOC7 BKA3 fun _ hk => hk.1), blw HB⟩
  ·
   rw [if_neg c3] at H
   exact absurd H (by simp)
 ·
  rw [if_neg c2] at H
  exact absurd H (by simp)

def spec_l02Fits.f (a0_0 : Bool) (l0_1 : List Int) (l0_2 : List Int) : Option (Bool) := if (l0_1.length : Int) ≤ 40 then (some (decide ((l0_2.length : Int) ≤ 40))) else (some false)
set_option maxHeartbeats 8000000 in
set_option maxRecDepth 100000 in
theorem spec_l02Fits.calls (a0_0 : Bool) (A0_1 : Option Addr) (c0_1 : Nat) (l0_1 : List Int) (A0_2 : Option Addr) (c0_2 : Nat) (l0_2 : List Int) (r : Bool) (w : World) (hr0_1 : Kd.C (Kd.int .i64) w A0_1 l0_1.length l0_1) (hc0_1 : l0_1.length ≤ c0_1) (hr0_2 : Kd.C (Kd.int .i64) w A0_2 l0_2.length l0_2) (hc0_2 : l0_2.length ≤ c0_2) (h : spec_l02Fits.f a0_0 l0_1 l0_2 = some r) :
  Calls Try.prog 105 #[.agg #[.bool a0_0, .slice A0_1 l0_1.length c0_1, .slice A0_2 l0_2.length c0_2]] w fun e w' => e = .returned (.bool r) ∧ Below w.heap.size w w' := by
 have hu24 := Try.underlying24
 have HR0_1 := Aside0.mk hr0_1
 have HC0_1 := Aside0.mk hc0_1
 clear hr0_1 hc0_1
 have HR0_2 := Aside0.mk hr0_2
 have HC0_2 := Aside0.mk hc0_2
 clear hr0_2 hc0_2
 have HB := Aside0.mk (Below.refl w.heap.size w)
 have H : (if (l0_1.length : Int) ≤ 40 then (some (decide ((l0_2.length : Int) ≤ 40))) else (some false)) = some r := h
 clear h
 by_cases c2 : (l0_1.length : Int) ≤ 40
 ·
  rw [if_pos c2] at H
  have c2b0 : decide ((l0_1.length : Int) ≤ 40) = true := decide_eq_true c2
  have c2b1 : decide (l0_1.length ≤ 40) = true := decide_eq_true (by omega)
  clear c2
  obtain rfl := Option.some.inj H
  go_enter Try.func105, Try.ntmps105
  go_wp2_with (first | ((with_reducible refine gate_dst (N := 1) rfl ?_); (try (refine gate_guard (by rfl) ?_; dsimp only)); refine bx_ (N := 1) (cs := #[.bool a0_0, .slice A0_1 l0_1.length c0_1, .slice A0_2 l0_2.length c0_2]) (t := 24) ?_; intro gbB8 hg w3 hbox hb; have BKB8 := Aside0.mk (hbox); have GWB8 := geh hg HB; have GEB8 := geh hg HB; replace HB := bst HB hb; clear hb hbox hg; obtain ⟨hcz4_0, hcz4_1, hcz4_2, hfz4_0, hfz4_1, hfz4_2⟩ := bc3 BKB8))
  go_ret
  exact ⟨er_, blw HB⟩
 ·
  rw [if_neg c2] at H
  have c2b0 : decide ((l0_1.length : Int) ≤ 40) = false := decide_eq_false c2
  have c2b1 : decide (l0_1.length ≤ 40) = false := decide_eq_false (by omega)
  clear c2
  obtain rfl := Option.some.inj H
  go_enter Try.func105, Try.ntmps105
  go_wp2_with (first | ((with_reducible refine gate_dst (N := 1) rfl ?_); (try (refine gate_guard (by rfl) ?_; dsimp only)); refine bx_ (N := 1) (cs := #[.bool a0_0, .slice A0_1 l0_1.length c0_1, .slice A0_2 l0_2.length c0_2]) (t := 24) ?_; intro gbB8 hg w5 hbox hb; have BKB8 := Aside0.mk (hbox); have GWB8 := geh hg HB; have GEB8 := geh hg HB; replace HB := bst HB hb; clear hb hbox hg; obtain ⟨hcz6_0, hcz6_1, hcz6_2, hfz6_0, hfz6_1, hfz6_2⟩ := bc3 BKB8))
  go_ret
  exact ⟨er_, blw HB⟩

def spec_l02Fit.f (a0_0 : Bool) (l0_1 : List Int) (l0_2 : List Int) : Option (Bool × List Int × List Int × Int) := (spec_l02Fits.f a0_0 l0_1 l0_2).bind fun tC2 => (if tC2 = true then ((spec_l02Own.f a0_0 l0_1 l0_2).bind fun btB0 => (some (btB0.1, btB0.2.1, btB0.2.2, 0))) else (some (false, ([] : List Int), ([] : List Int), 7)))
set_option maxHeartbeats 8000000 in
set_option maxRecDepth 100000 in
theorem spec_l02Fit.calls (a0_0 : Bool) (A0_1 : Option Addr) (c0_1 : Nat) (l0_1 : List Int) (A0_2 : Option Addr) (c0_2 : Nat) (l0_2 : List Int) (r1 : Bool) (r2 : List Int) (r3 : List Int) (r4 : Int) (w : World) (hr0_1 : Kd.C (Kd.int .i64) w A0_1 l0_1.length l0_1) (hc0_1 : l0_1.length ≤ c0_1) (hr0_2 : Kd.C (Kd.int .i64) w A0_2 l0_2.length l0_2) (hc0_2 : l0_2.length ≤ c0_2) (h : spec_l02Fit.f a0_0 l0_1 l0_2 = some (r1, r2, r3, r4)) :
  Calls Try.prog 70 #[.agg #[.bool a0_0, .slice A0_1 l0_1.length c0_1, .slice A0_2 l0_2.length c0_2]] w fun e w' => ∃ v1_ v2_ : Value, e = .returned (.tuple #[.agg #[.bool r1, v1_, v2_], .int .i64 r4]) ∧ Kd.R (Kd.int .i64) 3 w' w.heap.size (fun k_ => nO k_ v2_) v1_ r2 ∧ Kd.R (Kd.int .i64) 3 w' w.heap.size (fun k_ => nO k_ v1_) v2_ r3 ∧ Below w.heap.size w w' := by
 have hu24 := Try.underlying24
 have HR0_1 := Aside0.mk hr0_1
 have HC0_1 := Aside0.mk hc0_1
 clear hr0_1 hc0_1
 have HR0_2 := Aside0.mk hr0_2
 have HC0_2 := Aside0.mk hc0_2
 clear hr0_2 hc0_2
 have HB := Aside0.mk (Below.refl w.heap.size w)
 have H : ((spec_l02Fits.f a0_0 l0_1 l0_2).bind fun tC2 => (if tC2 = true then ((spec_l02Own.f a0_0 l0_1 l0_2).bind fun btB0 => (some (btB0.1, btB0.2.1, btB0.2.2, 0))) else (some (false, ([] : List Int), ([] : List Int), 7)))) = some (r1, r2, r3, r4) := h
 clear h
 replace H := Option.bind_eq_some_iff.mp H
 obtain ⟨tC2, A20, H⟩ := H
 replace H : (if tC2 = true then ((spec_l02Own.f a0_0 l0_1 l0_2).bind fun btB0 => (some (btB0.1, btB0.2.1, btB0.2.2, 0))) else (some (false, ([] : List Int), ([] : List Int), 7))) = some (r1, r2, r3, r4) := H
 have A2 := Aside0.mk A20
 clear A20
 by_cases c3 : tC2 = true
 ·
  subst c3
  have H1 : ((spec_l02Own.f a0_0 l0_1 l0_2).bind fun btB0 => (some (btB0.1, btB0.2.1, btB0.2.2, 0))) = some (r1, r2, r3, r4) := by rw [if_pos rfl] at H; exact H
  clear H
  have H := H1
  clear H1
  replace H := Option.bind_eq_some_iff.mp H
  obtain ⟨⟨tB0, tC5, tC6⟩, A40, H⟩ := H
  replace H : (some (tB0, tC5, tC6, 0)) = some (r1, r2, r3, r4) := H
  have A4 := Aside0.mk A40
  clear A40
  simp only [Option.some.injEq, Prod.mk.injEq] at H
  obtain ⟨rfl, rfl, rfl, rfl⟩ := H
  go_enter Try.func70, Try.ntmps70
  go_wp2_with (first | ((with_reducible refine gate_dst (N := 1) rfl ?_); refine bx_ (N := 1) (cs := #[.bool a0_0, .slice A0_1 l0_1.length c0_1, .slice A0_2 l0_2.length c0_2]) (t := 24) ?_; intro gbA4 hg w5 hbox hb; have BKA4 := Aside0.mk (hbox); have GWA4 := geh hg HB; have GEA4 := geh hg HB; replace HB := bst HB hb; clear hb hbox hg) | ((with_reducible refine gate_dst (N := 2) rfl ?_); refine bx_ (N := 2) (cs := #[.bool false, .slice none 0 0, .slice none 0 0]) (t := 24) ?_; intro gbA6 hg w6 hbox hb; have BKA6 := Aside0.mk (hbox); have GWA6 := geh hg HB; have GEA6 := geh hg HB; replace HB := bst HB hb; have NBA4_A6 := nlt hg BKA4; have NBA6_A4 := ngt hg BKA4; replace BKA4 := bkb BKA4 hb; clear hb hbox hg; have hnb7 := NBA4_A6.out; have hnc7 := NBA6_A4.out; obtain ⟨hcz8_0, hcz8_1, hcz8_2, hfz8_0, hfz8_1, hfz8_2⟩ := bc3 BKA4) | ((with_reducible refine gate_callee (f := 105) rfl ?_); refine gL_ (some 5) Try.func105 #[.agg #[.bool a0_0, .slice A0_1 l0_1.length c0_1, .slice A0_2 l0_2.length c0_2]] ?_; (with_reducible refine (spec_l02Fits.calls a0_0 _ _ l0_1 _ _ l0_2 true _ ?side1 ?side2 ?side3 ?side4 A2.out).mono ?_); (case side1 => exact crC (Kd.C_below HR0_1.out HB.out)); (case side2 => exact HC0_1.out); (case side3 => exact crC (Kd.C_below HR0_2.out HB.out)); (case side4 => exact HC0_2.out); rintro e w9 ⟨rfl, hb⟩; refine ⟨_, rfl, ?_⟩; replace BKA4 := bkb BKA4 hb; replace BKA6 := bkb BKA6 hb; replace HB := bst HB hb; (try clear hb); (try clear hb2); (try clear hk); (try clear hi); obtain ⟨hcz10_0, hcz10_1, hcz10_2, hfz10_0, hfz10_1, hfz10_2⟩ := bc3 BKA4) | ((with_reducible refine gate_callee (f := 63) rfl ?_); refine gL_ (some 9) Try.func63 #[.agg #[.bool a0_0, .slice A0_1 l0_1.length c0_1, .slice A0_2 l0_2.length c0_2]] ?_; (with_reducible refine (spec_l02Own.calls a0_0 _ _ l0_1 _ _ l0_2 tB0 tC5 tC6 _ ?side1 ?side2 ?side3 ?side4 A4.out).mono ?_); (case side1 => exact crC (Kd.C_below HR0_1.out HB.out)); (case side2 => exact HC0_1.out); (case side3 => exact crC (Kd.C_below HR0_2.out HB.out)); (case side4 => exact HC0_2.out); rintro e w11 ⟨vD1, vD2, rfl, ho0, ho1, hb⟩; refine ⟨_, rfl, ?_⟩; have HOC8 := lwR ho0 HB; have HOC9 := lwR ho1 HB; replace BKA4 := bkb BKA4 hb; replace BKA6 := bkb BKA6 hb; replace HB := bst HB hb; (try clear hb); (try clear hb2); (try clear hk); (try clear hi); (try clear ho0); (try clear ho1); obtain ⟨hcz12_0, hcz12_1, hcz12_2, hfz12_0, hfz12_1, hfz12_2⟩ := bc3 BKA6; obtain ⟨Ao13, co13, eo13⟩ := Kd.R_slice HOC8.out; subst eo13; obtain ⟨Ao14, co14, eo14⟩ := Kd.R_slice HOC9.out; subst eo14))
  refine bodyPost_ret (results_ct rfl _ _ gbA6 24 #[.bool tB0, .slice Ao13 tC5.length co13, .slice Ao14 tC6.length co14] (0, 0) _ rfl (bp3 BKA6 _ _ _) Try.underlying24 rfl (by kernel_rfl)) rfl ?_
  exact ⟨_, _, er_, (crN HOC8 BKA6 fun _ hk => hk.1), (crN HOC9 BKA6 fun _ hk => hk.1), blw HB⟩
 ·
  replace c3 := Bool.eq_false_iff.mpr c3
  subst c3
  have H1 : (some (false, ([] : List Int), ([] : List Int), 7)) = some (r1, r2, r3, r4) := by rw [if_neg (show ¬ (false = true) by decide)] at H; exact H
  clear H
  have H := H1
  clear H1
  simp only [Option.some.injEq, Prod.mk.injEq] at H
  obtain ⟨rfl, rfl, rfl, rfl⟩ := H
  go_enter Try.func70, Try.ntmps70
  go_wp2_with (first | ((with_reducible refine gate_dst (N := 1) rfl ?_); refine bx_ (N := 1) (cs := #[.bool a0_0, .slice A0_1 l0_1.length c0_1, .slice A0_2 l0_2.length c0_2]) (t := 24) ?_; intro gbA4 hg w15 hbox hb; have BKA4 := Aside0.mk (hbox); have GWA4 := geh hg HB; have GEA4 := geh hg HB; replace HB := bst HB hb; clear hb hbox hg) | ((with_reducible refine gate_dst (N := 2) rfl ?_); refine bx_ (N := 2) (cs := #[.bool false, .slice none 0 0, .slice none 0 0]) (t := 24) ?_; intro gbA6 hg w16 hbox hb; have BKA6 := Aside0.mk (hbox); have GWA6 := geh hg HB; have GEA6 := geh hg HB; replace HB := bst HB hb; have NBA4_A6 := nlt hg BKA4; have NBA6_A4 := ngt hg BKA4; replace BKA4 := bkb BKA4 hb; clear hb hbox hg; have hnb17 := NBA4_A6.out; have hnc17 := NBA6_A4.out; obtain ⟨hcz18_0, hcz18_1, hcz18_2, hfz18_0, hfz18_1, hfz18_2⟩ := bc3 BKA4) | ((with_reducible refine gate_callee (f := 105) rfl ?_); refine gL_ (some 5) Try.func105 #[.agg #[.bool a0_0, .slice A0_1 l0_1.length c0_1, .slice A0_2 l0_2.length c0_2]] ?_; (with_reducible refine (spec_l02Fits.calls a0_0 _ _ l0_1 _ _ l0_2 false _ ?side1 ?side2 ?side3 ?side4 A2.out).mono ?_); (case side1 => exact crC (Kd.C_below HR0_1.out HB.out)); (case side2 => exact HC0_1.out); (case side3 => exact crC (Kd.C_below HR0_2.out HB.out)); (case side4 => exact HC0_2.out); rintro e w19 ⟨rfl, hb⟩; refine ⟨_, rfl, ?_⟩; replace BKA4 := bkb BKA4 hb; replace BKA6 := bkb BKA6 hb; replace HB := bst HB hb; (try clear hb); (try clear hb2); (try clear hk); (try clear hi); obtain ⟨hcz20_0, hcz20_1, hcz20_2, hfz20_0, hfz20_1, hfz20_2⟩ := bc3 BKA6))
  refine bodyPost_ret (results_ct rfl _ _ gbA6 24 #[.bool false, .slice none 0 0, .slice none 0 0] (0, 0) _ rfl (bp3 BKA6 _ _ _) Try.underlying24 rfl (by kernel_rfl)) rfl ?_
  exact ⟨_, _, er_, by first | exact Kd.R_nil _ _ _ _ _ | exact Kd.N_nil _ _ _ _ _ | exact Kd.V_nil _ _ _ _ _ | exact Kd.Q_nil _ _ _ _ _ | exact Kd.S_nil _ _ _ _ _, by first | exact Kd.R_nil _ _ _ _ _ | exact Kd.N_nil _ _ _ _ _ | exact Kd.V_nil _ _ _ _ _ | exact Kd.Q_nil _ _ _ _ _ | exact Kd.S_nil _ _ _ _ _, blw HB⟩

def spec_l02Ask.f (k : Nat) (a0_0 : Bool) (l0_1 : List Int) (l0_2 : List Int) (a1_0 : Bool) (l1_1 : List Int) (l1_2 : List Int) : Option (Bool) := (spec_RatOK.f k a0_0 l0_1 l0_2).bind fun tC3 => (if tC3 = true then ((spec_RatOK.f k a1_0 l1_1 l1_2).bind fun tB6 => (some tB6)) else (some false))
theorem spec_l02Ask.mono : ∀ a0 a1 a2 a3 a4 a5 k, LeO (spec_l02Ask.f k a0 a1 a2 a3 a4 a5) (spec_l02Ask.f (k + 1) a0 a1 a2 a3 a4 a5) := by
 intro a0 a1 a2 a3 a4 a5 k
 unfold spec_l02Ask.f
 repeat' first
   | (with_reducible exact spec_RatOK.mono _ _ _ _)
   | (with_reducible exact LeO.refl _)
   | (with_reducible exact LeO.none _)
   | (with_reducible refine LeO.ite ?_ ?_)
   | (with_reducible refine LeO.bind ?_ (fun _ => ?_))
   | exact spec_RatOK.mono _ _ _ _
   | exact LeO.none _
   | refine LeO.ite ?_ ?_
   | refine LeO.bind ?_ (fun _ => ?_)
set_option maxHeartbeats 8000000 in
set_option maxRecDepth 100000 in
theorem spec_l02Ask.calls (k : Nat) (a0_0 : Bool) (A0_1 : Option Addr) (c0_1 : Nat) (l0_1 : List Int) (A0_2 : Option Addr) (c0_2 : Nat) (l0_2 : List Int) (a1_0 : Bool) (A1_1 : Option Addr) (c1_1 : Nat) (l1_1 : List Int) (A1_2 : Option Addr) (c1_2 : Nat) (l1_2 : List Int) (r : Bool) (w : World) (hr0_1 : Kd.C (Kd.int .i64) w A0_1 l0_1.length l0_1) (hc0_1 : l0_1.length ≤ c0_1) (hr0_2 : Kd.C (Kd.int .i64) w A0_2 l0_2.length l0_2) (hc0_2 : l0_2.length ≤ c0_2) (hr1_1 : Kd.C (Kd.int .i64) w A1_1 l1_1.length l1_1) (hc1_1 : l1_1.length ≤ c1_1) (hr1_2 : Kd.C (Kd.int .i64) w A1_2 l1_2.length l1_2) (hc1_2 : l1_2.length ≤ c1_2) (h : spec_l02Ask.f k a0_0 l0_1 l0_2 a1_0 l1_1 l1_2 = some r) :
  Calls Try.prog 67 #[.agg #[.bool a0_0, .slice A0_1 l0_1.length c0_1, .slice A0_2 l0_2.length c0_2], .agg #[.bool a1_0, .slice A1_1 l1_1.length c1_1, .slice A1_2 l1_2.length c1_2]] w fun e w' => e = .returned (.bool r) ∧ Below w.heap.size w w' := by
 have hu24 := Try.underlying24
 have HR0_1 := Aside0.mk hr0_1
 have HC0_1 := Aside0.mk hc0_1
 clear hr0_1 hc0_1
 have HR0_2 := Aside0.mk hr0_2
 have HC0_2 := Aside0.mk hc0_2
 clear hr0_2 hc0_2
 have HR1_1 := Aside0.mk hr1_1
 have HC1_1 := Aside0.mk hc1_1
 clear hr1_1 hc1_1
 have HR1_2 := Aside0.mk hr1_2
 have HC1_2 := Aside0.mk hc1_2
 clear hr1_2 hc1_2
 have HB := Aside0.mk (Below.refl w.heap.size w)
 have H : ((spec_RatOK.f k a0_0 l0_1 l0_2).bind fun tC3 => (if tC3 = true then ((spec_RatOK.f k a1_0 l1_1 l1_2).bind fun tB6 => (some tB6)) else (some false))) = some r := h
 clear h
 replace H := Option.bind_eq_some_iff.mp H
 obtain ⟨tC3, A30, H⟩ := H
 replace H : (if tC3 = true then ((spec_RatOK.f k a1_0 l1_1 l1_2).bind fun tB6 => (some tB6)) else (some false)) = some r := H
 have A3 := Aside0.mk A30
 clear A30
 by_cases c4 : tC3 = true
 ·
  subst c4
  have H1 : ((spec_RatOK.f k a1_0 l1_1 l1_2).bind fun tB6 => (some tB6)) = some r := by rw [if_pos rfl] at H; exact H
  clear H
  have H := H1
  clear H1
  replace H := Option.bind_eq_some_iff.mp H
  obtain ⟨tB6, A50, H⟩ := H
  replace H : (some tB6) = some r := H
  have A5 := Aside0.mk A50
  clear A50
  obtain rfl := Option.some.inj H
  go_enter Try.func67, Try.ntmps67
  go_wp2_with (first | ((with_reducible refine gate_dst (N := 2) rfl ?_); refine bx_ (N := 2) (cs := #[.bool a0_0, .slice A0_1 l0_1.length c0_1, .slice A0_2 l0_2.length c0_2]) (t := 24) ?_; intro gbA5 hg w6 hbox hb; have BKA5 := Aside0.mk (hbox); have GWA5 := geh hg HB; have GEA5 := geh hg HB; replace HB := bst HB hb; clear hb hbox hg) | ((with_reducible refine gate_dst (N := 3) rfl ?_); refine bx_ (N := 3) (cs := #[.bool a1_0, .slice A1_1 l1_1.length c1_1, .slice A1_2 l1_2.length c1_2]) (t := 24) ?_; intro gbA8 hg w7 hbox hb; have BKA8 := Aside0.mk (hbox); have GWA8 := geh hg HB; have GEA8 := geh hg HB; replace HB := bst HB hb; have NBA5_A8 := nlt hg BKA5; have NBA8_A5 := ngt hg BKA5; replace BKA5 := bkb BKA5 hb; clear hb hbox hg; have hnb8 := NBA5_A8.out; have hnc8 := NBA8_A5.out; obtain ⟨hcz9_0, hcz9_1, hcz9_2, hfz9_0, hfz9_1, hfz9_2⟩ := bc3 BKA5) | ((with_reducible refine gate_callee (f := 21) rfl ?_); refine gL_ (some 6) Try.func21 #[.agg #[.bool a0_0, .slice A0_1 l0_1.length c0_1, .slice A0_2 l0_2.length c0_2]] ?_; (with_reducible refine (spec_RatOK.calls k a0_0 _ _ l0_1 _ _ l0_2 true _ ?side1 ?side2 ?side3 ?side4 A3.out).mono ?_); (case side1 => exact crC (Kd.C_below HR0_1.out HB.out)); (case side2 => exact HC0_1.out); (case side3 => exact crC (Kd.C_below HR0_2.out HB.out)); (case side4 => exact HC0_2.out); rintro e w10 ⟨rfl, hb⟩; refine ⟨_, rfl, ?_⟩; replace BKA5 := bkb BKA5 hb; replace BKA8 := bkb BKA8 hb; replace HB := bst HB hb; (try clear hb); (try clear hb2); (try clear hk); (try clear hi); obtain ⟨hcz11_0, hcz11_1, hcz11_2, hfz11_0, hfz11_1, hfz11_2⟩ := bc3 BKA8) | (go_at_call 21; (with_reducible refine (spec_RatOK.calls k a1_0 _ _ l1_1 _ _ l1_2 tB6 _ ?side1 ?side2 ?side3 ?side4 A5.out).mono ?_); (case side1 => exact crC (Kd.C_below HR1_1.out HB.out)); (case side2 => exact HC1_1.out); (case side3 => exact crC (Kd.C_below HR1_2.out HB.out)); (case side4 => exact HC1_2.out); rintro e w12 ⟨rfl, hb⟩; replace BKA5 := bkb BKA5 hb; replace BKA8 := bkb BKA8 hb; replace HB := bst HB hb; (try clear hb); (try clear hb2); (try clear hk); (try clear hi)))
  go_ret
  exact ⟨er_, blw HB⟩
 ·
  replace c4 := Bool.eq_false_iff.mpr c4
  subst c4
  have H1 : (some false) = some r := by rw [if_neg (show ¬ (false = true) by decide)] at H; exact H
  clear H
  have H := H1
  clear H1
  obtain rfl := Option.some.inj H
  go_enter Try.func67, Try.ntmps67
  go_wp2_with (first | ((with_reducible refine gate_dst (N := 2) rfl ?_); refine bx_ (N := 2) (cs := #[.bool a0_0, .slice A0_1 l0_1.length c0_1, .slice A0_2 l0_2.length c0_2]) (t := 24) ?_; intro gbA5 hg w13 hbox hb; have BKA5 := Aside0.mk (hbox); have GWA5 := geh hg HB; have GEA5 := geh hg HB; replace HB := bst HB hb; clear hb hbox hg) | ((with_reducible refine gate_dst (N := 3) rfl ?_); refine bx_ (N := 3) (cs := #[.bool a1_0, .slice A1_1 l1_1.length c1_1, .slice A1_2 l1_2.length c1_2]) (t := 24) ?_; intro gbA8 hg w14 hbox hb; have BKA8 := Aside0.mk (hbox); have GWA8 := geh hg HB; have GEA8 := geh hg HB; replace HB := bst HB hb; have NBA5_A8 := nlt hg BKA5; have NBA8_A5 := ngt hg BKA5; replace BKA5 := bkb BKA5 hb; clear hb hbox hg; have hnb15 := NBA5_A8.out; have hnc15 := NBA8_A5.out; obtain ⟨hcz16_0, hcz16_1, hcz16_2, hfz16_0, hfz16_1, hfz16_2⟩ := bc3 BKA5) | ((with_reducible refine gate_callee (f := 21) rfl ?_); refine gL_ (some 6) Try.func21 #[.agg #[.bool a0_0, .slice A0_1 l0_1.length c0_1, .slice A0_2 l0_2.length c0_2]] ?_; (with_reducible refine (spec_RatOK.calls k a0_0 _ _ l0_1 _ _ l0_2 false _ ?side1 ?side2 ?side3 ?side4 A3.out).mono ?_); (case side1 => exact crC (Kd.C_below HR0_1.out HB.out)); (case side2 => exact HC0_1.out); (case side3 => exact crC (Kd.C_below HR0_2.out HB.out)); (case side4 => exact HC0_2.out); rintro e w17 ⟨rfl, hb⟩; refine ⟨_, rfl, ?_⟩; replace BKA5 := bkb BKA5 hb; replace BKA8 := bkb BKA8 hb; replace HB := bst HB hb; (try clear hb); (try clear hb2); (try clear hk); (try clear hi)))
  go_ret
  exact ⟨er_, blw HB⟩

theorem l02Neg_gt (l : List Int) : decide (0 < l.length) = decide ((l.length : Int) > 0) := by simp only [decide_eq_decide]; omega
def spec_l02Neg.f (a0_0 : Bool) (l0_1 : List Int) (l0_2 : List Int) : Option (Bool × List Int × List Int) := if a0_0 = true then (some (false, l0_1, l0_2)) else (some (decide ((l0_1.length : Int) > 0), l0_1, l0_2))
set_option maxHeartbeats 8000000 in
set_option maxRecDepth 100000 in
theorem spec_l02Neg.calls (a0_0 : Bool) (P0_1_ : Nat → Prop) (uB9_ : Value) (l0_1 : List Int) (P0_2_ : Nat → Prop) (uC0_ : Value) (l0_2 : List Int) (r1 : Bool) (r2 : List Int) (r3 : List Int) (w0 w : World) (hB : Below w0.heap.size w0 w) (ho0_1 : Kd.R (Kd.int .i64) 3 w w0.heap.size P0_1_ uB9_ l0_1) (hp0_1_0_2 : ∀ k_, P0_1_ k_ → ¬ P0_2_ k_) (ho0_2 : Kd.R (Kd.int .i64) 3 w w0.heap.size P0_2_ uC0_ l0_2) (hp0_2_0_1 : ∀ k_, P0_2_ k_ → ¬ P0_1_ k_) (h : spec_l02Neg.f a0_0 l0_1 l0_2 = some (r1, r2, r3)) :
  Calls Try.prog 64 #[.agg #[.bool a0_0, uB9_, uC0_]] w fun e w' => ∃ v1_ v2_ : Value, e = .returned (.agg #[.bool r1, v1_, v2_]) ∧ Kd.R (Kd.int .i64) 3 w' w0.heap.size (fun k_ => ((P0_1_ k_ ∨ P0_2_ k_) ∨ w.heap.size ≤ k_) ∧ nO k_ v2_) v1_ r2 ∧ Kd.R (Kd.int .i64) 3 w' w0.heap.size (fun k_ => ((P0_1_ k_ ∨ P0_2_ k_) ∨ w.heap.size ≤ k_) ∧ nO k_ v1_) v2_ r3 ∧ Below w0.heap.size w0 w' ∧ Kept w w' (fun k_ => P0_1_ k_ ∨ P0_2_ k_) := by
 have hu24 := Try.underlying24
 have HO0_1 := Aside0.mk (show Kd.R (Kd.int .i64) 3 w w0.heap.size (fun k_ => ((P0_1_ k_ ∨ P0_2_ k_) ∨ w.heap.size ≤ k_) ∧ nO k_ uC0_) uB9_ l0_1 from Kd.R_mono ho0_1 (fun k_ hk => ⟨(.inl (.inl hk)), fun e_ => hp0_1_0_2 k_ hk (ho0_2.1 k_ e_.symm)⟩))
 have HO0_2 := Aside0.mk (show Kd.R (Kd.int .i64) 3 w w0.heap.size (fun k_ => ((P0_1_ k_ ∨ P0_2_ k_) ∨ w.heap.size ≤ k_) ∧ nO k_ uB9_) uC0_ l0_2 from Kd.R_mono ho0_2 (fun k_ hk => ⟨(.inl (.inr hk)), fun e_ => hp0_2_0_1 k_ hk (ho0_1.1 k_ e_.symm)⟩))
 have HK := Aside0.mk (Kept.refl w (fun k_ => P0_1_ k_ ∨ P0_2_ k_))
 have HW0 := Aside0.mk hB.size
 have HB := Aside0.mk hB
 clear hB
 have H : (if a0_0 = true then (some (false, l0_1, l0_2)) else (some (decide ((l0_1.length : Int) > 0), l0_1, l0_2))) = some (r1, r2, r3) := h
 clear h
 by_cases c2 : a0_0 = true
 ·
  subst c2
  have H1 : (some (false, l0_1, l0_2)) = some (r1, r2, r3) := by rw [if_pos rfl] at H; exact H
  clear H
  have H := H1
  clear H1
  simp only [Option.some.injEq, Prod.mk.injEq] at H
  obtain ⟨rfl, rfl, rfl⟩ := H
  obtain ⟨Ao3, co3, eo3⟩ := Kd.R_slice HO0_1.out
  subst eo3
  obtain ⟨Ao4, co4, eo4⟩ := Kd.R_slice HO0_2.out
  subst eo4
  go_enter Try.func64, Try.ntmps64
  go_wp2_with (first | ((with_reducible refine gate_dst (N := 1) rfl ?_); (try (refine gate_guard (by rfl) ?_; dsimp only)); refine bx_ (N := 1) (cs := #[.bool true, .slice Ao3 l0_1.length co3, .slice Ao4 l0_2.length co4]) (t := 24) ?_; intro gbA1 hg w5 hbox hb; replace HO0_1 := rblR HO0_1 hb; replace HO0_2 := rblR HO0_2 hb; have BKA1 := Aside0.mk (hbox); have GWA1 := Aside0.mk ((by rw [hg]; exact (by first | exact HK.out.1 | exact (show Kept w _ (fun k_ => P0_1_ k_ ∨ P0_2_ k_) from by repeat (first | (with_reducible first | exact HK.out | apply Kept.alloc | apply Kept.drewN | apply Kept.drew) | exact HK.out)).1) : w.heap.size ≤ gbA1)); replace HK := Aside0.mk (Kept.below (S := (fun k_ => P0_1_ k_ ∨ P0_2_ k_)) (by repeat (first | (with_reducible first | exact HK.out | apply Kept.alloc | apply Kept.drewN | apply Kept.drew) | exact HK.out)) hb); have GEA1 := geh hg HB; replace HB := bst HB hb; clear hb hbox hg) | ((with_reducible refine gate_dst (N := 2) rfl ?_); (try (refine gate_guard (by rfl) ?_; dsimp only)); refine bx_ (N := 2) (cs := #[.bool false, .slice none 0 0, .slice none 0 0]) (t := 24) ?_; intro gbA2 hg w6 hbox hb; replace HO0_1 := rblR HO0_1 hb; replace HO0_2 := rblR HO0_2 hb; have BKA2 := Aside0.mk (hbox); have GWA2 := Aside0.mk ((by rw [hg]; exact (by first | exact HK.out.1 | exact (show Kept w _ (fun k_ => P0_1_ k_ ∨ P0_2_ k_) from by repeat (first | (with_reducible first | exact HK.out | apply Kept.alloc | apply Kept.drewN | apply Kept.drew | refine Kept.setCell ?_ (.inr GWA1.out) _) | exact HK.out)).1) : w.heap.size ≤ gbA2)); replace HK := Aside0.mk (Kept.below (S := (fun k_ => P0_1_ k_ ∨ P0_2_ k_)) (by repeat (first | (with_reducible first | exact HK.out | apply Kept.alloc | apply Kept.drewN | apply Kept.drew | refine Kept.setCell ?_ (.inr GWA1.out) _) | exact HK.out)) hb); have GEA2 := geh hg HB; replace HB := bst HB hb; have NBA1_A2 := nlt hg BKA1; have NBA2_A1 := ngt hg BKA1; replace BKA1 := bkb BKA1 hb; clear hb hbox hg; have hnb7 := NBA1_A2.out; have hnc7 := NBA2_A1.out; obtain ⟨hcz8_0, hcz8_1, hcz8_2, hfz8_0, hfz8_1, hfz8_2⟩ := bc3 BKA1; obtain ⟨hcz9_0, hcz9_1, hcz9_2, hfz9_0, hfz9_1, hfz9_2⟩ := bc3 BKA2))
  refine bodyPost_ret (results_cell_row rfl _ _ gbA2 24 #[.bool false, .slice Ao3 l0_1.length co3, .slice Ao4 l0_2.length co4] (0, 0) _ rfl (by (with_reducible repeat (first | refine blk_drewN ?_ _ | refine blk_drew ?_ | refine blk_alloc ?_ _)); refine blk_put (cs := #[.bool false, .slice Ao3 l0_1.length co3, .slice none 0 0]) ?_ 2 _ rfl; (with_reducible repeat (first | refine blk_drewN ?_ _ | refine blk_drew ?_ | refine blk_alloc ?_ _)); refine blk_put (cs := #[.bool false, .slice none 0 0, .slice none 0 0]) ?_ 1 _ rfl; (with_reducible repeat (first | refine blk_drewN ?_ _ | refine blk_drew ?_ | refine blk_alloc ?_ _)); refine blk_put (cs := #[.bool false, .slice none 0 0, .slice none 0 0]) ?_ 0 _ rfl; (with_reducible repeat (first | refine blk_drewN ?_ _ | refine blk_drew ?_ | refine blk_alloc ?_ _)); refine blk_far ?_ NBA2_A1.out _; (with_reducible repeat (first | refine blk_drewN ?_ _ | refine blk_drew ?_ | refine blk_alloc ?_ _)); exact BKA2.out) Try.underlying24 rfl (by kernel_rfl)) rfl ?_
  exact ⟨_, _, by first | rfl | (simp only [l02Neg_gt]; rfl) | (simp [errW_none, errW_some] <;> rfl) | (simp [*, errW_none, errW_some] <;> rfl), by (with_reducible repeat (first | apply Kd.R_alloc | apply Kd.R_drewN | apply Kd.R_drew)); exact Kd.R_mono (Kd.R_far (p := ⟨gbA2, 2, none⟩) (Kd.R_far (p := ⟨gbA2, 1, none⟩) (Kd.R_far (p := ⟨gbA2, 0, none⟩) (Kd.R_far (p := ⟨gbA1, 0, none⟩) (Kd.R_types (Kd.R_types HO0_1.out BKA1.out (by decide)) BKA2.out (by decide)) (fun _ hk => hk.1.2) (.bool false)) (fun _ hk => hk.2) (.bool false)) (fun _ hk => hk.2) (.slice Ao3 l0_1.length co3)) (fun _ hk => hk.2) (.slice Ao4 l0_2.length co4)) (fun _ hk => ⟨hk.1.1.1, hk.1.1.2⟩), by (with_reducible repeat (first | apply Kd.R_alloc | apply Kd.R_drewN | apply Kd.R_drew)); exact Kd.R_mono (Kd.R_far (p := ⟨gbA2, 2, none⟩) (Kd.R_far (p := ⟨gbA2, 1, none⟩) (Kd.R_far (p := ⟨gbA2, 0, none⟩) (Kd.R_far (p := ⟨gbA1, 0, none⟩) (Kd.R_types (Kd.R_types HO0_2.out BKA1.out (by decide)) BKA2.out (by decide)) (fun _ hk => hk.1.2) (.bool false)) (fun _ hk => hk.2) (.bool false)) (fun _ hk => hk.2) (.slice Ao3 l0_1.length co3)) (fun _ hk => hk.2) (.slice Ao4 l0_2.length co4)) (fun _ hk => ⟨hk.1.1.1, hk.1.1.2⟩), by repeat (first | (with_reducible first | exact HB.out | apply below_alloc | apply pw_below_drewN | apply below_drew1 | refine below_set ?_ GEA1.out | refine below_set ?_ GEA2.out) | exact HB.out), by repeat (first | (with_reducible first | exact HK.out | apply Kept.alloc | apply Kept.drewN | apply Kept.drew | refine Kept.setCell ?_ (.inr GWA1.out) _ | refine Kept.setCell ?_ (.inr GWA2.out) _) | exact HK.out)⟩
 ·
  replace c2 := Bool.eq_false_iff.mpr c2
  subst c2
  have H1 : (some (decide ((l0_1.length : Int) > 0), l0_1, l0_2)) = some (r1, r2, r3) := by rw [if_neg (show ¬ (false = true) by decide)] at H; exact H
  clear H
  have H := H1
  clear H1
  simp only [Option.some.injEq, Prod.mk.injEq] at H
  obtain ⟨rfl, rfl, rfl⟩ := H
  obtain ⟨Ao10, co10, eo10⟩ := Kd.R_slice HO0_1.out
  subst eo10
  obtain ⟨Ao11, co11, eo11⟩ := Kd.R_slice HO0_2.out
  subst eo11
  go_enter Try.func64, Try.ntmps64
  go_wp2_with (first | ((with_reducible refine gate_dst (N := 1) rfl ?_); (try (refine gate_guard (by rfl) ?_; dsimp only)); refine bx_ (N := 1) (cs := #[.bool false, .slice Ao10 l0_1.length co10, .slice Ao11 l0_2.length co11]) (t := 24) ?_; intro gbA1 hg w12 hbox hb; replace HO0_1 := rblR HO0_1 hb; replace HO0_2 := rblR HO0_2 hb; have BKA1 := Aside0.mk (hbox); have GWA1 := Aside0.mk ((by rw [hg]; exact (by first | exact HK.out.1 | exact (show Kept w _ (fun k_ => P0_1_ k_ ∨ P0_2_ k_) from by repeat (first | (with_reducible first | exact HK.out | apply Kept.alloc | apply Kept.drewN | apply Kept.drew) | exact HK.out)).1) : w.heap.size ≤ gbA1)); replace HK := Aside0.mk (Kept.below (S := (fun k_ => P0_1_ k_ ∨ P0_2_ k_)) (by repeat (first | (with_reducible first | exact HK.out | apply Kept.alloc | apply Kept.drewN | apply Kept.drew) | exact HK.out)) hb); have GEA1 := geh hg HB; replace HB := bst HB hb; clear hb hbox hg) | ((with_reducible refine gate_dst (N := 2) rfl ?_); (try (refine gate_guard (by rfl) ?_; dsimp only)); refine bx_ (N := 2) (cs := #[.bool false, .slice none 0 0, .slice none 0 0]) (t := 24) ?_; intro gbA2 hg w13 hbox hb; replace HO0_1 := rblR HO0_1 hb; replace HO0_2 := rblR HO0_2 hb; have BKA2 := Aside0.mk (hbox); have GWA2 := Aside0.mk ((by rw [hg]; exact (by first | exact HK.out.1 | exact (show Kept w _ (fun k_ => P0_1_ k_ ∨ P0_2_ k_) from by repeat (first | (with_reducible first | exact HK.out | apply Kept.alloc | apply Kept.drewN | apply Kept.drew | refine Kept.setCell ?_ (.inr GWA1.out) _) | exact HK.out)).1) : w.heap.size ≤ gbA2)); replace HK := Aside0.mk (Kept.below (S := (fun k_ => P0_1_ k_ ∨ P0_2_ k_)) (by repeat (first | (with_reducible first | exact HK.out | apply Kept.alloc | apply Kept.drewN | apply Kept.drew | refine Kept.setCell ?_ (.inr GWA1.out) _) | exact HK.out)) hb); have GEA2 := geh hg HB; replace HB := bst HB hb; have NBA1_A2 := nlt hg BKA1; have NBA2_A1 := ngt hg BKA1; replace BKA1 := bkb BKA1 hb; clear hb hbox hg; have hnb14 := NBA1_A2.out; have hnc14 := NBA2_A1.out; obtain ⟨hcz15_0, hcz15_1, hcz15_2, hfz15_0, hfz15_1, hfz15_2⟩ := bc3 BKA1; obtain ⟨hcz16_0, hcz16_1, hcz16_2, hfz16_0, hfz16_1, hfz16_2⟩ := bc3 BKA2))
  refine bodyPost_ret (results_cell_row rfl _ _ gbA2 24 #[.bool (decide (0 < l0_1.length)), .slice Ao10 l0_1.length co10, .slice Ao11 l0_2.length co11] (0, 0) _ rfl (by (with_reducible repeat (first | refine blk_drewN ?_ _ | refine blk_drew ?_ | refine blk_alloc ?_ _)); refine blk_put (cs := #[.bool (decide (0 < l0_1.length)), .slice Ao10 l0_1.length co10, .slice none 0 0]) ?_ 2 _ rfl; (with_reducible repeat (first | refine blk_drewN ?_ _ | refine blk_drew ?_ | refine blk_alloc ?_ _)); refine blk_put (cs := #[.bool (decide (0 < l0_1.length)), .slice none 0 0, .slice none 0 0]) ?_ 1 _ rfl; (with_reducible repeat (first | refine blk_drewN ?_ _ | refine blk_drew ?_ | refine blk_alloc ?_ _)); refine blk_put (cs := #[.bool false, .slice none 0 0, .slice none 0 0]) ?_ 0 _ rfl; (with_reducible repeat (first | refine blk_drewN ?_ _ | refine blk_drew ?_ | refine blk_alloc ?_ _)); refine blk_far ?_ NBA2_A1.out _; (with_reducible repeat (first | refine blk_drewN ?_ _ | refine blk_drew ?_ | refine blk_alloc ?_ _)); exact BKA2.out) Try.underlying24 rfl (by kernel_rfl)) rfl ?_
  exact ⟨_, _, by first | rfl | (simp only [l02Neg_gt]; rfl) | (simp [errW_none, errW_some] <;> rfl) | (simp [*, errW_none, errW_some] <;> rfl), by (with_reducible repeat (first | apply Kd.R_alloc | apply Kd.R_drewN | apply Kd.R_drew)); exact Kd.R_mono (Kd.R_far (p := ⟨gbA2, 2, none⟩) (Kd.R_far (p := ⟨gbA2, 1, none⟩) (Kd.R_far (p := ⟨gbA2, 0, none⟩) (Kd.R_far (p := ⟨gbA1, 0, none⟩) (Kd.R_types (Kd.R_types HO0_1.out BKA1.out (by decide)) BKA2.out (by decide)) (fun _ hk => hk.1.2) (.bool (decide (0 < l0_1.length)))) (fun _ hk => hk.2) (.bool (decide (0 < l0_1.length)))) (fun _ hk => hk.2) (.slice Ao10 l0_1.length co10)) (fun _ hk => hk.2) (.slice Ao11 l0_2.length co11)) (fun _ hk => ⟨hk.1.1.1, hk.1.1.2⟩), by (with_reducible repeat (first | apply Kd.R_alloc | apply Kd.R_drewN | apply Kd.R_drew)); exact Kd.R_mono (Kd.R_far (p := ⟨gbA2, 2, none⟩) (Kd.R_far (p := ⟨gbA2, 1, none⟩) (Kd.R_far (p := ⟨gbA2, 0, none⟩) (Kd.R_far (p := ⟨gbA1, 0, none⟩) (Kd.R_types (Kd.R_types HO0_2.out BKA1.out (by decide)) BKA2.out (by decide)) (fun _ hk => hk.1.2) (.bool (decide (0 < l0_1.length)))) (fun _ hk => hk.2) (.bool (decide (0 < l0_1.length)))) (fun _ hk => hk.2) (.slice Ao10 l0_1.length co10)) (fun _ hk => hk.2) (.slice Ao11 l0_2.length co11)) (fun _ hk => ⟨hk.1.1.1, hk.1.1.2⟩), by repeat (first | (with_reducible first | exact HB.out | apply below_alloc | apply pw_below_drewN | apply below_drew1 | refine below_set ?_ GEA1.out | refine below_set ?_ GEA2.out) | exact HB.out), by repeat (first | (with_reducible first | exact HK.out | apply Kept.alloc | apply Kept.drewN | apply Kept.drew | refine Kept.setCell ?_ (.inr GWA1.out) _ | refine Kept.setCell ?_ (.inr GWA2.out) _) | exact HK.out)⟩

end Go.Proofs.Ytacdaijalkkogaa.Q
