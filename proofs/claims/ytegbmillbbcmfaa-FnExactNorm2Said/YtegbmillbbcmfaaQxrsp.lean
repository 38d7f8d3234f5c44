-- written by a program of this claim's session (myprint.py) out of the translation; Lean checks it.
import Derived.Test.YtegbmillbbcmfaaQx0
import Derived.Test.YtegbmillbbcmfaaWords
import Derived.Test.YtegbmillbbcmfaaQxmul
import Derived.Test.YtegbmillbbcmfaaQxrmk
namespace Go.Proofs.Ytegbmillbbcmfaa.Q
open Go.RowKit Go.Proofs.YtegbmillbbcmfaaW.PrintWords Go.Proofs.YtegbmillbbcmfaaW.PrintLast Go.Proofs.YtegbmillbbcmfaaW.PrintMore
attribute [local go_sem] max2_int min2_int max_two min_two max_three min_three max_four min_four   -- for this text's walks alone
set_option linter.unusedVariables false
set_option linter.unusedSimpArgs false

def spec_l02Fits.f (a0_0 : Bool) (l0_1 : List Int) (l0_2 : List Int) : Option (Bool) := if (l0_1.length : Int) ≤ 40 then (some (decide ((l0_2.length : Int) ≤ 40))) else (some false)
set_option maxHeartbeats 8000000 in
set_option maxRecDepth 100000 in
theorem spec_l02Fits.calls (a0_0 : Bool) (A0_1 : Option Addr) (c0_1 : Nat) (l0_1 : List Int) (A0_2 : Option Addr) (c0_2 : Nat) (l0_2 : List Int) (r : Bool) (w : World) (hr0_1 : Kd.C (Kd.int .i64) w A0_1 l0_1.length l0_1) (hc0_1 : l0_1.length ≤ c0_1) (hr0_2 : Kd.C (Kd.int .i64) w A0_2 l0_2.length l0_2) (hc0_2 : l0_2.length ≤ c0_2) (h : spec_l02Fits.f a0_0 l0_1 l0_2 = some r) :
  Calls Try.prog 51 #[.agg #[.bool a0_0, .slice A0_1 l0_1.length c0_1, .slice A0_2 l0_2.length c0_2]] w fun e w' => e = .returned (.bool r) ∧ Below w.heap.size w w' := by
 have hu32 := Try.underlying32
 have HR0_1 := Aside0.mk hr0_1
 have HC0_1 := Aside0.mk hc0_1
 clear hr0_1 hc0_1
 have HR0_2 := Aside0.mk hr0_2
 have HC0_2 := Aside0.mk hc0_2
 clear hr0_2 hc0_2
 have HB := Aside0.mk (Below.refl w.heap.size w)
 have H : (if (l0_1.length : Int) ≤ 40 then (some (decide ((l0_2.length : Int) ≤ 40))) else (some false)) = some r := h
 clear h
 by_cases c2 : (l0_1.length : Int) ≤ 40
 ·
  rw [if_pos c2] at H
  have c2b0 : decide ((l0_1.length : Int) ≤ 40) = true := decide_eq_true c2
  have c2b1 : decide (l0_1.length ≤ 40) = true := decide_eq_true (by omega)
  clear c2
  obtain rfl := Option.some.inj H
  go_enter Try.func51, Try.ntmps51
  go_wp2_with (first | ((with_reducible refine gate_dst (N := 1) rfl ?_); (try (refine gate_guard (by rfl) ?_; dsimp only)); refine bx_ (N := 1) (cs := #[.bool a0_0, .slice A0_1 l0_1.length c0_1, .slice A0_2 l0_2.length c0_2]) (t := 32) ?_; intro gbB8 hg w3 hbox hb; have BKB8 := Aside0.mk (hbox); have GWB8 := geh hg HB; have GEB8 := geh hg HB; replace HB := bst HB hb; clear hb hbox hg; obtain ⟨hcz4_0, hcz4_1, hcz4_2, hfz4_0, hfz4_1, hfz4_2⟩ := bc3 BKB8))
  go_ret
  exact ⟨er_, blw HB⟩
 ·
  rw [if_neg c2] at H
  have c2b0 : decide ((l0_1.length : Int) ≤ 40) = false := decide_eq_false c2
  have c2b1 : decide (l0_1.length ≤ 40) = false := decide_eq_false (by omega)
  clear c2
  obtain rfl := Option.some.inj H
  go_enter Try.func51, Try.ntmps51
  go_wp2_with (first | ((with_reducible refine gate_dst (N := 1) rfl ?_); (try (refine gate_guard (by rfl) ?_; dsimp only)); refine bx_ (N := 1) (cs := #[.bool a0_0, .slice A0_1 l0_1.length c0_1, .slice A0_2 l0_2.length c0_2]) (t := 32) ?_; intro gbB8 hg w5 hbox hb; have BKB8 := Aside0.mk (hbox); have GWB8 := geh hg HB; have GEB8 := geh hg HB; replace HB := bst HB hb; clear hb hbox hg; obtain ⟨hcz6_0, hcz6_1, hcz6_2, hfz6_0, hfz6_1, hfz6_2⟩ := bc3 BKB8))
  go_ret
  exact ⟨er_, blw HB⟩

def spec_l02Own.f (a0_0 : Bool) (l0_1 : List Int) (l0_2 : List Int) : Option (Bool × List Int × List Int) := (some (([] : List Int) : List Int)).bind fun yB0 => (if yB0.length + l0_1.length < 17592186044416 then ((some (([] : List Int) : List Int)).bind fun yA7 => (if yA7.length + l0_2.length < 17592186044416 then (some (a0_0, (yB0 ++ l0_1), (yA7 ++ l0_2))) else (none))) else (none))
def spec_l02Own.T1 : Bool × List (List Nat × List Nat) := (true, [([], []), ([0], [0]), ([], []), ([], []), ([3], [3]), ([2, 4], [2, 4]), ([], []), ([], []), ([7], [7]), ([6, 8, 5], [6, 8]), ([1, 5, 9], [1, 5, 9]), ([10, 9, 0, 1, 2, 3, 4, 5, 6, 7, 8, 9, 10], [10])])
def spec_l02Own.B1 : List Nat := [0, 1, 0, 0, 8, 28, 0, 0, 128, 508, 1023, 2047]
theorem spec_l02Own.tab1 : rtab .any (opsOf Try.f52 1) = spec_l02Own.T1 := by kernel_rfl
theorem spec_l02Own.bits1 : waitsOk spec_l02Own.T1.2 spec_l02Own.B1 = true := by kernel_rfl
set_option maxHeartbeats 8000000 in
set_option maxRecDepth 100000 in
theorem spec_l02Own.calls (a0_0 : Bool) (A0_1 : Option Addr) (c0_1 : Nat) (l0_1 : List Int) (A0_2 : Option Addr) (c0_2 : Nat) (l0_2 : List Int) (r1 : Bool) (r2 : List Int) (r3 : List Int) (w : World) (hr0_1 : Kd.C (Kd.int .i64) w A0_1 l0_1.length l0_1) (hc0_1 : l0_1.length ≤ c0_1) (hr0_2 : Kd.C (Kd.int .i64) w A0_2 l0_2.length l0_2) (hc0_2 : l0_2.length ≤ c0_2) (h : spec_l02Own.f a0_0 l0_1 l0_2 = some (r1, r2, r3)) :
  Calls Try.prog 52 #[.agg #[.bool a0_0, .slice A0_1 l0_1.length c0_1, .slice A0_2 l0_2.length c0_2]] w fun e w' => ∃ v1_ v2_ : Value, e = .returned (.agg #[.bool r1, v1_, v2_]) ∧ Kd.R (Kd.int .i64) 3 w' w.heap.size (fun k_ => nO k_ v2_) v1_ r2 ∧ Kd.R (Kd.int .i64) 3 w' w.heap.size (fun k_ => nO k_ v1_) v2_ r3 ∧ Below w.heap.size w w' := by
 have hu32 := Try.underlying32
 have HR0_1 := Aside0.mk hr0_1
 have HC0_1 := Aside0.mk hc0_1
 clear hr0_1 hc0_1
 have HR0_2 := Aside0.mk hr0_2
 have HC0_2 := Aside0.mk hc0_2
 clear hr0_2 hc0_2
 have HB := Aside0.mk (Below.refl w.heap.size w)
 have H : ((some (([] : List Int) : List Int)).bind fun yB0 => (if yB0.length + l0_1.length < 17592186044416 then ((some (([] : List Int) : List Int)).bind fun yA7 => (if yA7.length + l0_2.length < 17592186044416 then (some (a0_0, (yB0 ++ l0_1), (yA7 ++ l0_2))) else (none))) else (none))) = some (r1, r2, r3) := h
 clear h
 obtain ⟨yB0, hy250⟩ : ∃ y_ : List Int, y_ = (([] : List Int)) := ⟨_, rfl⟩
 replace H : (if yB0.length + l0_1.length < 17592186044416 then ((some (([] : List Int) : List Int)).bind fun yA7 => (if yA7.length + l0_2.length < 17592186044416 then (some (a0_0, (yB0 ++ l0_1), (yA7 ++ l0_2))) else (none))) else (none)) = some (r1, r2, r3) := by subst hy250; first | with_reducible exact H | with_reducible exact (Option.bind_some _ _).symm.trans H | exact H
 have NyB0 := Aside0.mk hy250
 clear hy250
 by_cases c2 : yB0.length + l0_1.length < 17592186044416
 ·
  rw [if_pos c2] at H
  have LMc2 := Aside0.mk c2
  clear c2
  obtain ⟨yB5, hy253⟩ : ∃ y_ : List Int, y_ = (yB0 ++ l0_1) := ⟨_, rfl⟩
  replace H : ((some (([] : List Int) : List Int)).bind fun yA7 => (if yA7.length + l0_2.length < 17592186044416 then (some (a0_0, yB5, (yA7 ++ l0_2))) else (none))) = some (r1, r2, r3) := by subst hy253; first | with_reducible exact H | with_reducible exact (Option.bind_some _ _).symm.trans H | exact H
  have NyB5 := Aside0.mk hy253
  clear hy253
  obtain ⟨yA7, hy256⟩ : ∃ y_ : List Int, y_ = (([] : List Int)) := ⟨_, rfl⟩
  replace H : (if yA7.length + l0_2.length < 17592186044416 then (some (a0_0, yB5, (yA7 ++ l0_2))) else (none)) = some (r1, r2, r3) := by subst hy256; first | with_reducible exact H | with_reducible exact (Option.bind_some _ _).symm.trans H | exact H
  have NyA7 := Aside0.mk hy256
  clear hy256
  by_cases c3 : yA7.length + l0_2.length < 17592186044416
  ·
   rw [if_pos c3] at H
   have LMc3 := Aside0.mk c3
   clear c3
   obtain ⟨yC4, hy259⟩ : ∃ y_ : List Int, y_ = (yA7 ++ l0_2) := ⟨_, rfl⟩
   replace H : (some (a0_0, yB5, yC4)) = some (r1, r2, r3) := by subst hy259; first | with_reducible exact H | with_reducible exact (Option.bind_some _ _).symm.trans H | exact H
   have NyC4 := Aside0.mk hy259
   clear hy259
   simp only [Option.some.injEq, Prod.mk.injEq] at H
   obtain ⟨rfl, rfl, rfl⟩ := H
   go_enter Try.func52, Try.ntmps52
   try go_wp2_with (first | ((with_reducible refine gate_dst (N := 1) rfl ?_); refine bx_ (N := 1) (cs := #[.bool a0_0, .slice A0_1 l0_1.length c0_1, .slice A0_2 l0_2.length c0_2]) (t := 32) ?_; intro gbA0 hg w4 hbox hb; have BKA0 := Aside0.mk (hbox); have GWA0 := geh hg HB; have GEA0 := geh hg HB; replace HB := bst HB hb; clear hb hbox hg) | ((with_reducible refine gate_dst (N := 2) rfl ?_); refine bx_ (N := 2) (cs := #[.bool false, .slice none 0 0, .slice none 0 0]) (t := 32) ?_; intro gbA1 hg w5 hbox hb; have BKA1 := Aside0.mk (hbox); have GWA1 := geh hg HB; have GEA1 := geh hg HB; replace HB := bst HB hb; have NBA0_A1 := nlt hg BKA0; have NBA1_A0 := ngt hg BKA0; replace BKA0 := bkb BKA0 hb; clear hb hbox hg))
   replace BKA0 := Aside0.mk (blk_drew BKA0.out)
   replace BKA1 := Aside0.mk (blk_drew BKA1.out)
   replace HB := Aside0.mk (below_drew1 HB.out)
   refine start_ (n := 12) (S := fun w' => w'.cell? ⟨gbA0, 0, none⟩ = some (.bool a0_0) ∧ w'.cell? ⟨gbA0, 1, none⟩ = some (.slice A0_1 l0_1.length c0_1) ∧ w'.cell? ⟨gbA0, 2, none⟩ = some (.slice A0_2 l0_2.length c0_2)) (ds := []) (bm 12 0) (by kernel_rfl) rfl rfl ⟨bce BKA0 0 _, bce BKA0 1 _, bce BKA0 2 _⟩ (fun hHeld => ?_); refine with_tabW spec_l02Own.tab1 spec_l02Own.bits1 (fun HT_ HW_ => ?_)
   generalize w5.drew = w6 at BKA0 BKA1 HB hHeld ⊢
   refine pu_ 0 (some 3) (bm 12 1) HT_.out ?_
   refine pu_ 3 (some 6) (bm 12 9) HT_.out ?_
   refine pu_ 7 (some 10) (bm 12 137) HT_.out ?_
   refine tk_ 1 (some 4) (bm 12 139) HT_.out HW_.out hHeld ?_
   refine tk_ 4 (some 7) (bm 12 155) HT_.out HW_.out hHeld ?_
   refine tk_ 8 (some 11) (bm 12 411) HT_.out HW_.out hHeld ?_
   refine join_ (σ := Value × Value × Value) 3 (bm 12 511) (fun s_ => [(5, s_.1), (8, s_.2.1), (9, s_.2.2)]) (fun s_ w' => (w'.cell? ⟨gbA0, 0, none⟩ = some (.bool a0_0) ∧ w'.cell? ⟨gbA0, 1, none⟩ = some (.slice A0_1 l0_1.length c0_1) ∧ w'.cell? ⟨gbA0, 2, none⟩ = some (.slice A0_2 l0_2.length c0_2)) ∧ (Kd.R (Kd.int .i64) 3 w' w.heap.size (fun k_ => nO k_ s_.2.2) s_.2.1 yB5) ∧ (Kd.R (Kd.int .i64) 3 w' w.heap.size (fun k_ => nO k_ s_.2.1) s_.2.2 yA7) ∧ (w'.heap[gbA0]? = some (.cells #[.bool a0_0, .slice A0_1 l0_1.length c0_1, .slice A0_2 l0_2.length c0_2] 32 (0, 0))) ∧ (w'.heap[gbA1]? = some (.cells #[.bool false, .slice none 0 0, .slice none 0 0] 32 (0, 0))) ∧ (Below w.heap.size w w')) ?_ ?_
   rotate_left
   ·
    intro hCont
    refine two_ (i := 2) (j := 6) (Ni := some 5) (Nj := some 9) (bm 12 415) (bm 12 475) rfl rfl rfl rfl (two_of HT_.out (by kernel_rfl)) (by decide) (by decide) (fun K hK => ?_) (fun K hK => ?_)
    ·
     skip
     refine Kd.R_lit_step (Kd.int .i64) _ 3 ?hg (N := 5) ?hd (xs := ([] : List Int)) (inner := []) (ok := fun _ => True) (okp := fun _ => True) ?hr ?hp (fun _ hk => hk) trivial (Below.refl _ _) (Nat.le_refl _) (by simp) ?_; (case hd => rfl); (case hg => rfl); (case hr => first | (go_simp; done) | (go_simp; rfl)); (case hp => exact (Reps.none _ _))
     intro vC1 w7 ho8 hb hg_ hnew_
     clear hg_ hnew_
     (first | rw [← NyB0.out] at ho8 | (simp only [Int.reduceToNat] at ho8; rw [← NyB0.out] at ho8))
     have HOB1 := lwR ho8 HB
     replace BKA0 := bkb BKA0 hb
     replace BKA1 := bkb BKA1 hb
     replace HB := bst HB hb
     clear hb ho8
     refine hK.out _ _ ⟨bce BKA0 0 _, bce BKA0 1 _, bce BKA0 2 _⟩ (fun hHeld => ?_)
     clear hK K
     refine nm_ 5 ?_
     refine two_ (i := 5) (j := 6) (Ni := some 8) (Nj := some 9) (bm 12 447) (bm 12 479) rfl rfl rfl rfl (two_of HT_.out (by kernel_rfl)) (by decide) (by decide) (fun K hK => ?_) (fun K hK => ?_)
     ·
      skip
      refine Kd.R_append_rows_step (Kd.int .i64) (w0 := w) w.heap.size (by rfl) (.tmp 5) (.tmp 7) 30 3 (.int .i64 0) 8 rfl Try.underlying30 info3 rfl (by decide) (by omega) vC1 yB0 l0_1 _ _ _ (fun _ => True) (fun _ => False) rfl rfl ?aO ?aR (fun _ _ h => h) (fun _ h => h.elim) ?aF ?aB ?aS ?aL ?_
      (case aR => exact crC (Kd.C_below HR0_1.out HB.out))
      (case aB => exact (blw HB))
      (case aF => exact (fun _ _ => trivial))
      (case aO => exact (crR HOB1))
      (case aS => exact (bsz HB))
      (case aL => have := LMc2.out; omega)
      intro vB9 w9 ho hb hg hat
      rw [← NyB5.out] at ho
      replace BKA0 := Aside0.mk (blk_grown (g := gbA0) (o := .cells #[.bool a0_0, .slice A0_1 l0_1.length c0_1, .slice A0_2 l0_2.length c0_2] 32 (0, 0)) (crb BKA0) hg (Kd.R_ne HOB1.out BKA0.out (by decide)))
      replace BKA1 := Aside0.mk (blk_grown (g := gbA1) (o := .cells #[.bool false, .slice none 0 0, .slice none 0 0] 32 (0, 0)) (crb BKA1) hg (Kd.R_ne HOB1.out BKA1.out (by decide)))
      replace HB := Aside0.mk (hb)
      have HOB3 := Aside0.mk (ho)
      clear HOB1
      clear ho hb hg hat
      refine hK.out _ _ ⟨bce BKA0 0 _, bce BKA0 1 _, bce BKA0 2 _⟩ (fun hHeld => ?_)
      clear hK K
      refine nm_ 8 ?_
      refine one_ (i := 6) (N := some 9) (bm 12 511) rfl rfl (one_of HT_.out (by kernel_rfl)) (by decide) (fun K hK => ?_)
      refine Kd.R_lit_step (Kd.int .i64) _ 3 ?hg (N := 9) ?hd (xs := ([] : List Int)) (inner := []) (ok := fun _ => True) (okp := fun _ => True) ?hr ?hp (fun _ hk => hk) trivial (Below.refl _ _) (Nat.le_refl _) (by simp) ?_; (case hd => rfl); (case hg => rfl); (case hr => first | (go_simp; done) | (go_simp; rfl)); (case hp => exact (Reps.none _ _))
      intro vB4 w10 ho11 hb hg_ hnew_
      clear hg_ hnew_
      (first | rw [← NyA7.out] at ho11 | (simp only [Int.reduceToNat] at ho11; rw [← NyA7.out] at ho11))
      have HOA8 := lwR (nwR ho11 HOB3) HB
      replace HOB3 := eldR HOB3 (Kd.R_base ho11) hb
      replace BKA0 := bkb BKA0 hb
      replace BKA1 := bkb BKA1 hb
      replace HB := bst HB hb
      clear hb ho11
      refine hK.out _ _ ⟨bce BKA0 0 _, bce BKA0 1 _, bce BKA0 2 _⟩ (fun hHeld => ?_)
      clear hK K
      refine nm_ 9 ?_
      exact nq_ (hCont (vC1, vB9, vB4) _ ⟨hHeld, (crM HOB3 fun _ hk => hk.2), (crM HOA8 fun _ hk => hk.2), (crb BKA0), (crb BKA1), (blw HB)⟩)
     ·
      skip
      refine Kd.R_lit_step (Kd.int .i64) _ 3 ?hg (N := 9) ?hd (xs := ([] : List Int)) (inner := []) (ok := fun _ => True) (okp := fun _ => True) ?hr ?hp (fun _ hk => hk) trivial (Below.refl _ _) (Nat.le_refl _) (by simp) ?_; (case hd => rfl); (case hg => rfl); (case hr => first | (go_simp; done) | (go_simp; rfl)); (case hp => exact (Reps.none _ _))
      intro vB4 w9 ho10 hb hg_ hnew_
      clear hg_ hnew_
      (first | rw [← NyA7.out] at ho10 | (simp only [Int.reduceToNat] at ho10; rw [← NyA7.out] at ho10))
      have HOA8 := lwR (nwR ho10 HOB1) HB
      replace HOB1 := eldR HOB1 (Kd.R_base ho10) hb
      replace BKA0 := bkb BKA0 hb
      replace BKA1 := bkb BKA1 hb
      replace HB := bst HB hb
      clear hb ho10
      refine hK.out _ _ ⟨bce BKA0 0 _, bce BKA0 1 _, bce BKA0 2 _⟩ (fun hHeld => ?_)
      clear hK K
      refine nm_ 9 ?_
      refine one_ (i := 5) (N := some 8) (bm 12 511) rfl rfl (one_of HT_.out (by kernel_rfl)) (by decide) (fun K hK => ?_)
      refine Kd.R_append_rows_step (Kd.int .i64) (w0 := w) w.heap.size (by rfl) (.tmp 5) (.tmp 7) 30 3 (.int .i64 0) 8 rfl Try.underlying30 info3 rfl (by decide) (by omega) vC1 yB0 l0_1 _ _ _ (fun k_ => nO k_ vB4) (fun _ => False) rfl rfl ?aO ?aR (fun _ _ h => h) (fun _ h => h.elim) ?aF ?aB ?aS ?aL ?_
      (case aR => exact crC (Kd.C_below HR0_1.out HB.out))
      (case aB => exact (blw HB))
      (case aF => exact (fun k_ hk => Kd.fresh' (Kd.R_lt (crR HOA8)) k_ hk))
      (case aO => exact (crM HOB1 fun _ hk => hk.2))
      (case aS => exact (bsz HB))
      (case aL => have := LMc2.out; omega)
      intro vB9 w11 ho hb hg hat
      rw [← NyB5.out] at ho
      replace BKA0 := Aside0.mk (blk_grown (g := gbA0) (o := .cells #[.bool a0_0, .slice A0_1 l0_1.length c0_1, .slice A0_2 l0_2.length c0_2] 32 (0, 0)) (crb BKA0) hg (Kd.R_ne HOB1.out BKA0.out (by decide)))
      replace BKA1 := Aside0.mk (blk_grown (g := gbA1) (o := .cells #[.bool false, .slice none 0 0, .slice none 0 0] 32 (0, 0)) (crb BKA1) hg (Kd.R_ne HOB1.out BKA1.out (by decide)))
      replace HOA8 := Aside0.mk (Kd.R_after (ok := (fun _ => True)) (crR HOA8) hg hat)
      replace HB := Aside0.mk (hb)
      have HOB3 := Aside0.mk (ho)
      clear HOB1
      clear ho hb hg hat
      refine hK.out _ _ ⟨bce BKA0 0 _, bce BKA0 1 _, bce BKA0 2 _⟩ (fun hHeld => ?_)
      clear hK K
      refine nm_ 8 ?_
      exact nq_ (hCont (vC1, vB9, vB4) _ ⟨hHeld, (crR HOB3), (crM HOA8 fun _ hk => hk.2), (crb BKA0), (crb BKA1), (blw HB)⟩)
    ·
     skip
     refine Kd.R_lit_step (Kd.int .i64) _ 3 ?hg (N := 9) ?hd (xs := ([] : List Int)) (inner := []) (ok := fun _ => True) (okp := fun _ => True) ?hr ?hp (fun _ hk => hk) trivial (Below.refl _ _) (Nat.le_refl _) (by simp) ?_; (case hd => rfl); (case hg => rfl); (case hr => first | (go_simp; done) | (go_simp; rfl)); (case hp => exact (Reps.none _ _))
     intro vB4 w7 ho8 hb hg_ hnew_
     clear hg_ hnew_
     (first | rw [← NyA7.out] at ho8 | (simp only [Int.reduceToNat] at ho8; rw [← NyA7.out] at ho8))
     have HOA8 := lwR ho8 HB
     replace BKA0 := bkb BKA0 hb
     replace BKA1 := bkb BKA1 hb
     replace HB := bst HB hb
     clear hb ho8
     refine hK.out _ _ ⟨bce BKA0 0 _, bce BKA0 1 _, bce BKA0 2 _⟩ (fun hHeld => ?_)
     clear hK K
     refine nm_ 9 ?_
     refine one_ (i := 2) (N := some 5) (bm 12 479) rfl rfl (one_of HT_.out (by kernel_rfl)) (by decide) (fun K hK => ?_)
     refine Kd.R_lit_step (Kd.int .i64) _ 3 ?hg (N := 5) ?hd (xs := ([] : List Int)) (inner := []) (ok := fun _ => True) (okp := fun _ => True) ?hr ?hp (fun _ hk => hk) trivial (Below.refl _ _) (Nat.le_refl _) (by simp) ?_; (case hd => rfl); (case hg => rfl); (case hr => first | (go_simp; done) | (go_simp; rfl)); (case hp => exact (Reps.none _ _))
     intro vC1 w9 ho10 hb hg_ hnew_
     clear hg_ hnew_
     (first | rw [← NyB0.out] at ho10 | (simp only [Int.reduceToNat] at ho10; rw [← NyB0.out] at ho10))
     have HOB1 := lwR (nwR ho10 HOA8) HB
     replace HOA8 := eldR HOA8 (Kd.R_base ho10) hb
     replace BKA0 := bkb BKA0 hb
     replace BKA1 := bkb BKA1 hb
     replace HB := bst HB hb
     clear hb ho10
     refine hK.out _ _ ⟨bce BKA0 0 _, bce BKA0 1 _, bce BKA0 2 _⟩ (fun hHeld => ?_)
     clear hK K
     refine nm_ 5 ?_
     refine one_ (i := 5) (N := some 8) (bm 12 511) rfl rfl (one_of HT_.out (by kernel_rfl)) (by decide) (fun K hK => ?_)
     refine Kd.R_append_rows_step (Kd.int .i64) (w0 := w) w.heap.size (by rfl) (.tmp 5) (.tmp 7) 30 3 (.int .i64 0) 8 rfl Try.underlying30 info3 rfl (by decide) (by omega) vC1 yB0 l0_1 _ _ _ (fun k_ => nO k_ vB4) (fun _ => False) rfl rfl ?aO ?aR (fun _ _ h => h) (fun _ h => h.elim) ?aF ?aB ?aS ?aL ?_
     (case aR => exact crC (Kd.C_below HR0_1.out HB.out))
     (case aB => exact (blw HB))
     (case aF => exact (fun k_ hk => Kd.fresh' (Kd.R_lt (crR HOA8)) k_ hk))
     (case aO => exact (crM HOB1 fun _ hk => hk.2))
     (case aS => exact (bsz HB))
     (case aL => have := LMc2.out; omega)
     intro vB9 w11 ho hb hg hat
     rw [← NyB5.out] at ho
     replace BKA0 := Aside0.mk (blk_grown (g := gbA0) (o := .cells #[.bool a0_0, .slice A0_1 l0_1.length c0_1, .slice A0_2 l0_2.length c0_2] 32 (0, 0)) (crb BKA0) hg (Kd.R_ne HOB1.out BKA0.out (by decide)))
     replace BKA1 := Aside0.mk (blk_grown (g := gbA1) (o := .cells #[.bool false, .slice none 0 0, .slice none 0 0] 32 (0, 0)) (crb BKA1) hg (Kd.R_ne HOB1.out BKA1.out (by decide)))
     replace HOA8 := Aside0.mk (Kd.R_after (ok := (fun _ => True)) (crR HOA8) hg hat)
     replace HB := Aside0.mk (hb)
     have HOB3 := Aside0.mk (ho)
     clear HOB1
     clear ho hb hg hat
     refine hK.out _ _ ⟨bce BKA0 0 _, bce BKA0 1 _, bce BKA0 2 _⟩ (fun hHeld => ?_)
     clear hK K
     refine nm_ 8 ?_
     exact nq_ (hCont (vC1, vB9, vB4) _ ⟨hHeld, (crR HOB3), (crM HOA8 fun _ hk => hk.2), (crb BKA0), (crb BKA1), (blw HB)⟩)
   rintro ⟨vC1, vB9, vB4⟩ w12 ⟨hS_, h0_, h1_, h2_, h3_, h4_⟩
   have HOB3 : Aside0 (Kd.R (Kd.int .i64) 3 w12 w.heap.size (fun k_ => nO k_ vB4) vB9 yB5) := ⟨h0_⟩
   have HOA8 : Aside0 (Kd.R (Kd.int .i64) 3 w12 w.heap.size (fun k_ => nO k_ vB9) vB4 yA7) := ⟨h1_⟩
   replace BKA0 : Aside0 (w12.heap[gbA0]? = some (.cells #[.bool a0_0, .slice A0_1 l0_1.length c0_1, .slice A0_2 l0_2.length c0_2] 32 (0, 0))) := ⟨h2_⟩
   replace BKA1 : Aside0 (w12.heap[gbA1]? = some (.cells #[.bool false, .slice none 0 0, .slice none 0 0] 32 (0, 0))) := ⟨h3_⟩
   replace HB : Aside0 (Below w.heap.size w w12) := ⟨h4_⟩
   clear h0_ h1_ h2_ h3_ h4_
   have hHeld : w12.cell? ⟨gbA0, 0, none⟩ = some (.bool a0_0) ∧ w12.cell? ⟨gbA0, 1, none⟩ = some (.slice A0_1 l0_1.length c0_1) ∧ w12.cell? ⟨gbA0, 2, none⟩ = some (.slice A0_2 l0_2.length c0_2) := hS_
   refine np_ ?_
   refine one_ (i := 9) (N := some 12) (bm 12 1023) rfl rfl (one_of HT_.out (by kernel_rfl)) (by decide) (fun K hK => ?_)
   refine Kd.R_append_rows_step (Kd.int .i64) (w0 := w) w.heap.size (by rfl) (.tmp 9) (.tmp 11) 30 3 (.int .i64 0) 8 rfl Try.underlying30 info3 rfl (by decide) (by omega) vB4 yA7 l0_2 _ _ _ (fun k_ => nO k_ vB9) (fun _ => False) rfl rfl ?aO ?aR (fun _ _ h => h) (fun _ h => h.elim) ?aF ?aB ?aS ?aL ?_
   (case aR => exact crC (Kd.C_below HR0_2.out HB.out))
   (case aB => exact (blw HB))
   (case aF => exact (fun k_ hk => Kd.fresh' (Kd.R_lt (crR HOB3)) k_ hk))
   (case aO => exact (crR HOA8))
   (case aS => exact (bsz HB))
   (case aL => have := LMc3.out; omega)
   intro vD4 w13 ho hb hg hat
   rw [← NyC4.out] at ho
   replace BKA0 := Aside0.mk (blk_grown (g := gbA0) (o := .cells #[.bool a0_0, .slice A0_1 l0_1.length c0_1, .slice A0_2 l0_2.length c0_2] 32 (0, 0)) (crb BKA0) hg (Kd.R_ne HOA8.out BKA0.out (by decide)))
   replace BKA1 := Aside0.mk (blk_grown (g := gbA1) (o := .cells #[.bool false, .slice none 0 0, .slice none 0 0] 32 (0, 0)) (crb BKA1) hg (Kd.R_ne HOA8.out BKA1.out (by decide)))
   replace HOB3 := Aside0.mk (Kd.R_after (ok := (fun _ => True)) (crM HOB3 fun _ hk => ⟨trivial, hk⟩) hg hat)
   replace HB := Aside0.mk (hb)
   have HOC9 := Aside0.mk (ho)
   clear HOA8
   clear ho hb hg hat
   obtain ⟨Ao14, co14, eo14⟩ := Kd.R_slice HOC9.out
   (first | subst eo14 | (injection eo14 with f1_ f2_ f3_; have f4_ := f1_.symm; have f5_ := f3_.symm; clear f1_ f2_ f3_; subst f4_; subst f5_))
   obtain ⟨Ao15, co15, eo15⟩ := Kd.R_slice HOB3.out
   (first | subst eo15 | (injection eo15 with f1_ f2_ f3_; have f4_ := f1_.symm; have f5_ := f3_.symm; clear f1_ f2_ f3_; subst f4_; subst f5_))
   refine hK.out _ _ ⟨bce BKA0 0 _, bce BKA0 1 _, bce BKA0 2 _⟩ (fun hHeld => ?_)
   clear hK K
   refine nm_ 12 ?_
   refine pu_ 10 (some 13) (bm 12 2047) HT_.out ?_
   refine one_ (i := 11) (N := none) (bm 12 4095) rfl rfl (one_of HT_.out (by kernel_rfl)) (by decide) (fun K hK => ?_)
   have hs16 : w13.cell? ⟨gbA1, 0, none⟩ = some (.bool false) := bce BKA1 0 _
   have hfs16 := blk_frozen BKA1.out 0
   have hns16_0 := NBA0_A1.out
   have hms16_0 := NBA1_A0.out
   have hs17 : w13.cell? ⟨gbA1, 1, none⟩ = some (.slice none 0 0) := bce BKA1 1 _
   have hfs17 := blk_frozen BKA1.out 1
   have hns17_0 := NBA0_A1.out
   have hms17_0 := NBA1_A0.out
   have hs18 : w13.cell? ⟨gbA1, 2, none⟩ = some (.slice none 0 0) := bce BKA1 2 _
   have hfs18 := blk_frozen BKA1.out 2
   have hns18_0 := NBA0_A1.out
   have hms18_0 := NBA1_A0.out
   refine skip_ (w1 := ?_) (by rfl) rfl ?_ ?_
   rotate_left
   ·
    go_simp
    rfl
   refine hK.out _ _ ⟨((cell_far (p := ⟨gbA1, _, none⟩) NBA0_A1.out _).trans (((cell_far (p := ⟨gbA1, _, none⟩) NBA0_A1.out _).trans (((cell_far (p := ⟨gbA1, _, none⟩) NBA0_A1.out _).trans (hHeld.1)))))), ((cell_far (p := ⟨gbA1, _, none⟩) NBA0_A1.out _).trans (((cell_far (p := ⟨gbA1, _, none⟩) NBA0_A1.out _).trans (((cell_far (p := ⟨gbA1, _, none⟩) NBA0_A1.out _).trans (hHeld.2.1)))))), ((cell_far (p := ⟨gbA1, _, none⟩) NBA0_A1.out _).trans (((cell_far (p := ⟨gbA1, _, none⟩) NBA0_A1.out _).trans (((cell_far (p := ⟨gbA1, _, none⟩) NBA0_A1.out _).trans (hHeld.2.2))))))⟩ (fun hHeld => ?_)
   clear hK K
   refine done_ (done_of HT_.out (by kernel_rfl)) ?_
   try go_wp2
   refine bodyPost_ret (results_cell_row rfl _ _ gbA1 32 #[.bool a0_0, .slice Ao15 yB5.length co15, .slice Ao14 yC4.length co14] (0, 0) _ rfl (bp3 BKA1 _ _ _) Try.underlying32 rfl (by kernel_rfl)) rfl ?_
   exact ⟨_, _, er_, (crN HOB3 BKA1 fun _ hk => hk.1.2), (crN HOC9 BKA1 fun _ hk => hk.1), blw HB⟩
  ·
   rw [if_neg c3] at H
   exact absurd H (by simp)
 ·
  rw [if_neg c2] at H
  exact absurd H (by simp)

def spec_l02Fit.f (a0_0 : Bool) (l0_1 : List Int) (l0_2 : List Int) : Option (Bool × List Int × List Int × Int) := (spec_l02Fits.f a0_0 l0_1 l0_2).bind fun tC3 => (if tC3 = true then ((spec_l02Own.f a0_0 l0_1 l0_2).bind fun btB2 => (some (btB2.1, btB2.2.1, btB2.2.2, 0))) else (some (false, ([] : List Int), ([] : List Int), 7)))
set_option maxHeartbeats 8000000 in
set_option maxRecDepth 100000 in
theorem spec_l02Fit.calls (a0_0 : Bool) (A0_1 : Option Addr) (c0_1 : Nat) (l0_1 : List Int) (A0_2 : Option Addr) (c0_2 : Nat) (l0_2 : List Int) (r1 : Bool) (r2 : List Int) (r3 : List Int) (r4 : Int) (w : World) (hr0_1 : Kd.C (Kd.int .i64) w A0_1 l0_1.length l0_1) (hc0_1 : l0_1.length ≤ c0_1) (hr0_2 : Kd.C (Kd.int .i64) w A0_2 l0_2.length l0_2) (hc0_2 : l0_2.length ≤ c0_2) (h : spec_l02Fit.f a0_0 l0_1 l0_2 = some (r1, r2, r3, r4)) :
  Calls Try.prog 30 #[.agg #[.bool a0_0, .slice A0_1 l0_1.length c0_1, .slice A0_2 l0_2.length c0_2]] w fun e w' => ∃ v1_ v2_ : Value, e = .returned (.tuple #[.agg #[.bool r1, v1_, v2_], .int .i64 r4]) ∧ Kd.R (Kd.int .i64) 3 w' w.heap.size (fun k_ => nO k_ v2_) v1_ r2 ∧ Kd.R (Kd.int .i64) 3 w' w.heap.size (fun k_ => nO k_ v1_) v2_ r3 ∧ Below w.heap.size w w' := by
 have hu32 := Try.underlying32
 have HR0_1 := Aside0.mk hr0_1
 have HC0_1 := Aside0.mk hc0_1
 clear hr0_1 hc0_1
 have HR0_2 := Aside0.mk hr0_2
 have HC0_2 := Aside0.mk hc0_2
 clear hr0_2 hc0_2
 have HB := Aside0.mk (Below.refl w.heap.size w)
 have H : ((spec_l02Fits.f a0_0 l0_1 l0_2).bind fun tC3 => (if tC3 = true then ((spec_l02Own.f a0_0 l0_1 l0_2).bind fun btB2 => (some (btB2.1, btB2.2.1, btB2.2.2, 0))) else (some (false, ([] : List Int), ([] : List Int), 7)))) = some (r1, r2, r3, r4) := h
 clear h
 replace H := Option.bind_eq_some_iff.mp H
 obtain ⟨tC3, A20, H⟩ := H
 replace H : (if tC3 = true then ((spec_l02Own.f a0_0 l0_1 l0_2).bind fun btB2 => (some (btB2.1, btB2.2.1, btB2.2.2, 0))) else (some (false, ([] : List Int), ([] : List Int), 7))) = some (r1, r2, r3, r4) := H
 have A2 := Aside0.mk A20
 clear A20
 by_cases c3 : tC3 = true
 ·
  subst c3
  rw [if_pos rfl] at H
  replace H := Option.bind_eq_some_iff.mp H
  obtain ⟨⟨tB2, tC5, tC6⟩, A40, H⟩ := H
  replace H : (some (tB2, tC5, tC6, 0)) = some (r1, r2, r3, r4) := H
  have A4 := Aside0.mk A40
  clear A40
  simp only [Option.some.injEq, Prod.mk.injEq] at H
  obtain ⟨rfl, rfl, rfl, rfl⟩ := H
  go_enter Try.func30, Try.ntmps30
  go_wp2_with (first | ((with_reducible refine gate_dst (N := 1) rfl ?_); refine bx_ (N := 1) (cs := #[.bool a0_0, .slice A0_1 l0_1.length c0_1, .slice A0_2 l0_2.length c0_2]) (t := 32) ?_; intro gbA5 hg w5 hbox hb; have BKA5 := Aside0.mk (hbox); have GWA5 := geh hg HB; have GEA5 := geh hg HB; replace HB := bst HB hb; clear hb hbox hg) | ((with_reducible refine gate_dst (N := 2) rfl ?_); refine bx_ (N := 2) (cs := #[.bool false, .slice none 0 0, .slice none 0 0]) (t := 32) ?_; intro gbA6 hg w6 hbox hb; have BKA6 := Aside0.mk (hbox); have GWA6 := geh hg HB; have GEA6 := geh hg HB; replace HB := bst HB hb; have NBA5_A6 := nlt hg BKA5; have NBA6_A5 := ngt hg BKA5; replace BKA5 := bkb BKA5 hb; clear hb hbox hg; have hnb7 := NBA5_A6.out; have hnc7 := NBA6_A5.out; obtain ⟨hcz8_0, hcz8_1, hcz8_2, hfz8_0, hfz8_1, hfz8_2⟩ := bc3 BKA5) | ((with_reducible refine gate_callee (f := 51) rfl ?_); refine gL_ (some 5) Try.func51 #[.agg #[.bool a0_0, .slice A0_1 l0_1.length c0_1, .slice A0_2 l0_2.length c0_2]] ?_; (with_reducible refine (spec_l02Fits.calls a0_0 _ _ l0_1 _ _ l0_2 true _ ?side1 ?side2 ?side3 ?side4 A2.out).mono ?_); (case side1 => exact crC (Kd.C_below HR0_1.out HB.out)); (case side2 => exact HC0_1.out); (case side3 => exact crC (Kd.C_below HR0_2.out HB.out)); (case side4 => exact HC0_2.out); rintro e w9 ⟨rfl, hb⟩; refine ⟨_, rfl, ?_⟩; replace BKA5 := bkb BKA5 hb; replace BKA6 := bkb BKA6 hb; replace HB := bst HB hb; (try clear hb); (try clear hb2); (try clear hk); (try clear hi); obtain ⟨hcz10_0, hcz10_1, hcz10_2, hfz10_0, hfz10_1, hfz10_2⟩ := bc3 BKA5) | ((with_reducible refine gate_callee (f := 52) rfl ?_); refine gL_ (some 9) Try.func52 #[.agg #[.bool a0_0, .slice A0_1 l0_1.length c0_1, .slice A0_2 l0_2.length c0_2]] ?_; (with_reducible refine (spec_l02Own.calls a0_0 _ _ l0_1 _ _ l0_2 tB2 tC5 tC6 _ ?side1 ?side2 ?side3 ?side4 A4.out).mono ?_); (case side1 => exact crC (Kd.C_below HR0_1.out HB.out)); (case side2 => exact HC0_1.out); (case side3 => exact crC (Kd.C_below HR0_2.out HB.out)); (case side4 => exact HC0_2.out); rintro e w11 ⟨vD5, vD6, rfl, ho0, ho1, hb⟩; refine ⟨_, rfl, ?_⟩; have HOD0 := lwR ho0 HB; have HOD1 := lwR ho1 HB; replace BKA5 := bkb BKA5 hb; replace BKA6 := bkb BKA6 hb; replace HB := bst HB hb; (try clear hb); (try clear hb2); (try clear hk); (try clear hi); (try clear ho0); (try clear ho1); obtain ⟨hcz12_0, hcz12_1, hcz12_2, hfz12_0, hfz12_1, hfz12_2⟩ := bc3 BKA6; obtain ⟨Ao13, co13, eo13⟩ := Kd.R_slice HOD0.out; subst eo13; obtain ⟨Ao14, co14, eo14⟩ := Kd.R_slice HOD1.out; subst eo14))
  refine bodyPost_ret (results_ct rfl _ _ gbA6 32 #[.bool tB2, .slice Ao13 tC5.length co13, .slice Ao14 tC6.length co14] (0, 0) _ rfl (bp3 BKA6 _ _ _) Try.underlying32 rfl (by kernel_rfl)) rfl ?_
  exact ⟨_, _, er_, (crN HOD0 BKA6 fun _ hk => hk.1), (crN HOD1 BKA6 fun _ hk => hk.1), blw HB⟩
 ·
  replace c3 := Bool.eq_false_iff.mpr c3
  subst c3
  rw [if_neg (show ¬ (false = true) by decide)] at H
  simp only [Option.some.injEq, Prod.mk.injEq] at H
  obtain ⟨rfl, rfl, rfl, rfl⟩ := H
  go_enter Try.func30, Try.ntmps30
  go_wp2_with (first | ((with_reducible refine gate_dst (N := 1) rfl ?_); refine bx_ (N := 1) (cs := #[.bool a0_0, .slice A0_1 l0_1.length c0_1, .slice A0_2 l0_2.length c0_2]) (t := 32) ?_; intro gbA5 hg w15 hbox hb; have BKA5 := Aside0.mk (hbox); have GWA5 := geh hg HB; have GEA5 := geh hg HB; replace HB := bst HB hb; clear hb hbox hg) | ((with_reducible refine gate_dst (N := 2) rfl ?_); refine bx_ (N := 2) (cs := #[.bool false, .slice none 0 0, .slice none 0 0]) (t := 32) ?_; intro gbA6 hg w16 hbox hb; have BKA6 := Aside0.mk (hbox); have GWA6 := geh hg HB; have GEA6 := geh hg HB; replace HB := bst HB hb; have NBA5_A6 := nlt hg BKA5; have NBA6_A5 := ngt hg BKA5; replace BKA5 := bkb BKA5 hb; clear hb hbox hg; have hnb17 := NBA5_A6.out; have hnc17 := NBA6_A5.out; obtain ⟨hcz18_0, hcz18_1, hcz18_2, hfz18_0, hfz18_1, hfz18_2⟩ := bc3 BKA5) | ((with_reducible refine gate_callee (f := 51) rfl ?_); refine gL_ (some 5) Try.func51 #[.agg #[.bool a0_0, .slice A0_1 l0_1.length c0_1, .slice A0_2 l0_2.length c0_2]] ?_; (with_reducible refine (spec_l02Fits.calls a0_0 _ _ l0_1 _ _ l0_2 false _ ?side1 ?side2 ?side3 ?side4 A2.out).mono ?_); (case side1 => exact crC (Kd.C_below HR0_1.out HB.out)); (case side2 => exact HC0_1.out); (case side3 => exact crC (Kd.C_below HR0_2.out HB.out)); (case side4 => exact HC0_2.out); rintro e w19 ⟨rfl, hb⟩; refine ⟨_, rfl, ?_⟩; replace BKA5 := bkb BKA5 hb; replace BKA6 := bkb BKA6 hb; replace HB := bst HB hb; (try clear hb); (try clear hb2); (try clear hk); (try clear hi); obtain ⟨hcz20_0, hcz20_1, hcz20_2, hfz20_0, hfz20_1, hfz20_2⟩ := bc3 BKA6))
  refine bodyPost_ret (results_ct rfl _ _ gbA6 32 #[.bool false, .slice none 0 0, .slice none 0 0] (0, 0) _ rfl (bp3 BKA6 _ _ _) Try.underlying32 rfl (by kernel_rfl)) rfl ?_
  exact ⟨_, _, er_, by first | exact Kd.R_nil _ _ _ _ _ | exact Kd.N_nil _ _ _ _ _ | exact Kd.V_nil _ _ _ _ _ | exact Kd.Q_nil _ _ _ _ _ | exact Kd.S_nil _ _ _ _ _, by first | exact Kd.R_nil _ _ _ _ _ | exact Kd.N_nil _ _ _ _ _ | exact Kd.V_nil _ _ _ _ _ | exact Kd.Q_nil _ _ _ _ _ | exact Kd.S_nil _ _ _ _ _, blw HB⟩

def spec_l02Mul.f (k : Nat) (a0_0 : Bool) (l0_1 : List Int) (l0_2 : List Int) (a1_0 : Bool) (l1_1 : List Int) (l1_2 : List Int) : Option (Bool × List Int × List Int) := (spec_l01Mul.f k l0_1 l1_1).bind fun tC0 => ((spec_l01Mul.f k l0_2 l1_2).bind fun tB6 => ((spec_l02Make.f k (a0_0 != a1_0) tC0 tB6).bind fun btA9 => (some (btA9.1, btA9.2.1, btA9.2.2))))
def spec_l02Mul.T1 : Bool × List (List Nat × List Nat) := (true, [([], []), ([0], [0]), ([], []), ([2], [2]), ([1, 3], [1, 3]), ([], []), ([5], [5]), ([], []), ([7], [7]), ([6, 8], [6, 8]), ([], []), ([10], [10]), ([], []), ([12], [12]), ([11, 13, 9], [11, 13]), ([4, 9, 14, 14], [4, 9, 14]), ([15, 15, 0, 1, 2, 3, 4, 5, 6, 7, 8, 9, 10, 11, 12, 13, 14, 15], [15])])
def spec_l02Mul.B1 : List Nat := [0, 1, 0, 4, 15, 0, 32, 0, 128, 480, 0, 1024, 0, 4096, 16352, 32767, 65535]
theorem spec_l02Mul.tab1 : rtab .any (opsOf Try.f55 1) = spec_l02Mul.T1 := by kernel_rfl
theorem spec_l02Mul.bits1 : waitsOk spec_l02Mul.T1.2 spec_l02Mul.B1 = true := by kernel_rfl
set_option maxHeartbeats 8000000 in
set_option maxRecDepth 100000 in
theorem spec_l02Mul.calls (k : Nat) (a0_0 : Bool) (A0_1 : Option Addr) (c0_1 : Nat) (l0_1 : List Int) (A0_2 : Option Addr) (c0_2 : Nat) (l0_2 : List Int) (a1_0 : Bool) (A1_1 : Option Addr) (c1_1 : Nat) (l1_1 : List Int) (A1_2 : Option Addr) (c1_2 : Nat) (l1_2 : List Int) (r1 : Bool) (r2 : List Int) (r3 : List Int) (w : World) (hr0_1 : Kd.C (Kd.int .i64) w A0_1 l0_1.length l0_1) (hc0_1 : l0_1.length ≤ c0_1) (hr0_2 : Kd.C (Kd.int .i64) w A0_2 l0_2.length l0_2) (hc0_2 : l0_2.length ≤ c0_2) (hr1_1 : Kd.C (Kd.int .i64) w A1_1 l1_1.length l1_1) (hc1_1 : l1_1.length ≤ c1_1) (hr1_2 : Kd.C (Kd.int .i64) w A1_2 l1_2.length l1_2) (hc1_2 : l1_2.length ≤ c1_2) (h : spec_l02Mul.f k a0_0 l0_1 l0_2 a1_0 l1_1 l1_2 = some (r1, r2, r3)) :
  Calls Try.prog 55 #[.agg #[.bool a0_0, .slice A0_1 l0_1.length c0_1, .slice A0_2 l0_2.length c0_2], .agg #[.bool a1_0, .slice A1_1 l1_1.length c1_1, .slice A1_2 l1_2.length c1_2]] w fun e w' => ∃ v1_ v2_ : Value, e = .returned (.agg #[.bool r1, v1_, v2_]) ∧ Kd.R (Kd.int .i64) 3 w' w.heap.size (fun k_ => nO k_ v2_) v1_ r2 ∧ Kd.R (Kd.int .i64) 3 w' w.heap.size (fun k_ => nO k_ v1_) v2_ r3 ∧ Below w.heap.size w w' := by
 have hu32 := Try.underlying32
 have HR0_1 := Aside0.mk hr0_1
 have HC0_1 := Aside0.mk hc0_1
 clear hr0_1 hc0_1
 have HR0_2 := Aside0.mk hr0_2
 have HC0_2 := Aside0.mk hc0_2
 clear hr0_2 hc0_2
 have HR1_1 := Aside0.mk hr1_1
 have HC1_1 := Aside0.mk hc1_1
 clear hr1_1 hc1_1
 have HR1_2 := Aside0.mk hr1_2
 have HC1_2 := Aside0.mk hc1_2
 clear hr1_2 hc1_2
 have HB := Aside0.mk (Below.refl w.heap.size w)
 have H : ((spec_l01Mul.f k l0_1 l1_1).bind fun tC0 => ((spec_l01Mul.f k l0_2 l1_2).bind fun tB6 => ((spec_l02Make.f k (a0_0 != a1_0) tC0 tB6).bind fun btA9 => (some (btA9.1, btA9.2.1, btA9.2.2))))) = some (r1, r2, r3) := h
 clear h
 replace H := Option.bind_eq_some_iff.mp H
 obtain ⟨tC0, A30, H⟩ := H
 replace H : ((spec_l01Mul.f k l0_2 l1_2).bind fun tB6 => ((spec_l02Make.f k (a0_0 != a1_0) tC0 tB6).bind fun btA9 => (some (btA9.1, btA9.2.1, btA9.2.2)))) = some (r1, r2, r3) := H
 have A3 := Aside0.mk A30
 clear A30
 replace H := Option.bind_eq_some_iff.mp H
 obtain ⟨tB6, A40, H⟩ := H
 replace H : ((spec_l02Make.f k (a0_0 != a1_0) tC0 tB6).bind fun btA9 => (some (btA9.1, btA9.2.1, btA9.2.2))) = some (r1, r2, r3) := H
 have A4 := Aside0.mk A40
 clear A40
 replace H := Option.bind_eq_some_iff.mp H
 obtain ⟨⟨tA9, tC7, tC8⟩, A50, H⟩ := H
 replace H : (some (tA9, tC7, tC8)) = some (r1, r2, r3) := H
 have A5 := Aside0.mk A50
 clear A50
 simp only [Option.some.injEq, Prod.mk.injEq] at H
 obtain ⟨rfl, rfl, rfl⟩ := H
 go_enter Try.func55, Try.ntmps55
 try go_wp2_with (first | ((with_reducible refine gate_dst (N := 2) rfl ?_); refine bx_ (N := 2) (cs := #[.bool a0_0, .slice A0_1 l0_1.length c0_1, .slice A0_2 l0_2.length c0_2]) (t := 32) ?_; intro gbA3 hg w6 hbox hb; have BKA3 := Aside0.mk (hbox); have GWA3 := geh hg HB; have GEA3 := geh hg HB; replace HB := bst HB hb; clear hb hbox hg) | ((with_reducible refine gate_dst (N := 3) rfl ?_); refine bx_ (N := 3) (cs := #[.bool a1_0, .slice A1_1 l1_1.length c1_1, .slice A1_2 l1_2.length c1_2]) (t := 32) ?_; intro gbA4 hg w7 hbox hb; have BKA4 := Aside0.mk (hbox); have GWA4 := geh hg HB; have GEA4 := geh hg HB; replace HB := bst HB hb; have NBA3_A4 := nlt hg BKA3; have NBA4_A3 := ngt hg BKA3; replace BKA3 := bkb BKA3 hb; clear hb hbox hg) | ((with_reducible refine gate_dst (N := 4) rfl ?_); refine bx_ (N := 4) (cs := #[.bool false, .slice none 0 0, .slice none 0 0]) (t := 32) ?_; intro gbA2 hg w8 hbox hb; have BKA2 := Aside0.mk (hbox); have GWA2 := geh hg HB; have GEA2 := geh hg HB; replace HB := bst HB hb; have NBA3_A2 := nlt hg BKA3; have NBA2_A3 := ngt hg BKA3; replace BKA3 := bkb BKA3 hb; have NBA4_A2 := nlt hg BKA4; have NBA2_A4 := ngt hg BKA4; replace BKA4 := bkb BKA4 hb; clear hb hbox hg))
 replace BKA3 := Aside0.mk (blk_drew BKA3.out)
 replace BKA4 := Aside0.mk (blk_drew BKA4.out)
 replace BKA2 := Aside0.mk (blk_drew BKA2.out)
 replace HB := Aside0.mk (below_drew1 HB.out)
 refine start_ (n := 17) (S := fun w' => w'.cell? ⟨gbA3, 0, none⟩ = some (.bool a0_0) ∧ w'.cell? ⟨gbA3, 1, none⟩ = some (.slice A0_1 l0_1.length c0_1) ∧ w'.cell? ⟨gbA3, 2, none⟩ = some (.slice A0_2 l0_2.length c0_2) ∧ w'.cell? ⟨gbA4, 0, none⟩ = some (.bool a1_0) ∧ w'.cell? ⟨gbA4, 1, none⟩ = some (.slice A1_1 l1_1.length c1_1) ∧ w'.cell? ⟨gbA4, 2, none⟩ = some (.slice A1_2 l1_2.length c1_2)) (ds := []) (bm 17 0) (by kernel_rfl) rfl rfl ⟨bce BKA3 0 _, bce BKA3 1 _, bce BKA3 2 _, bce BKA4 0 _, bce BKA4 1 _, bce BKA4 2 _⟩ (fun hHeld => ?_); refine with_tabW spec_l02Mul.tab1 spec_l02Mul.bits1 (fun HT_ HW_ => ?_)
 generalize w8.drew = w9 at BKA3 BKA4 BKA2 HB hHeld ⊢
 refine pu_ 0 (some 5) (bm 17 1) HT_.out ?_
 refine pu_ 2 (some 7) (bm 17 5) HT_.out ?_
 refine pu_ 5 (some 10) (bm 17 37) HT_.out ?_
 refine pu_ 7 (some 12) (bm 17 165) HT_.out ?_
 refine pu_ 10 (some 15) (bm 17 1189) HT_.out ?_
 refine pu_ 12 (some 17) (bm 17 5285) HT_.out ?_
 refine tk_ 1 (some 6) (bm 17 5287) HT_.out HW_.out hHeld ?_
 refine tk_ 3 (some 8) (bm 17 5295) HT_.out HW_.out hHeld ?_
 refine pu_ 4 (some 9) (bm 17 5311) HT_.out ?_
 refine tk_ 6 (some 11) (bm 17 5375) HT_.out HW_.out hHeld ?_
 refine tk_ 8 (some 13) (bm 17 5631) HT_.out HW_.out hHeld ?_
 refine tk_ 11 (some 16) (bm 17 7679) HT_.out HW_.out hHeld ?_
 refine tk_ 13 (some 18) (bm 17 15871) HT_.out HW_.out hHeld ?_
 refine one_ (i := 9) (N := some 14) (bm 17 16383) rfl rfl (one_of HT_.out (by kernel_rfl)) (by decide) (fun K hK => ?_)
 refine g_ Try.func74 #[.slice A0_1 l0_1.length c0_1, .slice A1_1 l1_1.length c1_1] ?_
 with_reducible refine (spec_l01Mul.calls k _ _ l0_1 _ _ l1_1 tC0 _ ?side1 ?side2 ?side3 ?side4 A3.out).mono ?_
 (case side1 => exact crC (Kd.C_below HR0_1.out HB.out))
 (case side2 => exact HC0_1.out)
 (case side3 => exact crC (Kd.C_below HR1_1.out HB.out))
 (case side4 => exact HC1_1.out)
 rintro e w10 ⟨vD7, rfl, ho0, hb⟩
 refine ⟨_, rfl, ?_⟩
 have HOB7 := lwR ho0 HB
 replace BKA3 := bkb BKA3 hb
 replace BKA4 := bkb BKA4 hb
 replace BKA2 := bkb BKA2 hb
 replace HB := bst HB hb
 (try clear hb)
 (try clear hb2)
 (try clear hk)
 (try clear hi)
 (try clear ho0)
 refine hK.out _ _ ⟨bce BKA3 0 _, bce BKA3 1 _, bce BKA3 2 _, bce BKA4 0 _, bce BKA4 1 _, bce BKA4 2 _⟩ (fun hHeld => ?_)
 clear hK K
 refine nm_ 14 ?_
 refine one_ (i := 14) (N := some 19) (bm 17 32767) rfl rfl (one_of HT_.out (by kernel_rfl)) (by decide) (fun K hK => ?_)
 refine g_ Try.func74 #[.slice A0_2 l0_2.length c0_2, .slice A1_2 l1_2.length c1_2] ?_
 with_reducible refine (spec_l01Mul.calls k _ _ l0_2 _ _ l1_2 tB6 _ ?side1 ?side2 ?side3 ?side4 A4.out).mono ?_
 (case side1 => exact crC (Kd.C_below HR0_2.out HB.out))
 (case side2 => exact HC0_2.out)
 (case side3 => exact crC (Kd.C_below HR1_2.out HB.out))
 (case side4 => exact HC1_2.out)
 rintro e w11 ⟨vD8, rfl, ho0, hb⟩
 refine ⟨_, rfl, ?_⟩
 have HOC2 := lwR (nwR ho0 HOB7) HB
 replace HOB7 := eldR HOB7 (Kd.R_base ho0) hb
 replace BKA3 := bkb BKA3 hb
 replace BKA4 := bkb BKA4 hb
 replace BKA2 := bkb BKA2 hb
 replace HB := bst HB hb
 (try clear hb)
 (try clear hb2)
 (try clear hk)
 (try clear hi)
 (try clear ho0)
 obtain ⟨Ao12, co12, eo12⟩ := Kd.R_slice HOB7.out
 (first | subst eo12 | (injection eo12 with f1_ f2_ f3_; have f4_ := f1_.symm; have f5_ := f3_.symm; clear f1_ f2_ f3_; subst f4_; subst f5_))
 obtain ⟨Ao13, co13, eo13⟩ := Kd.R_slice HOC2.out
 (first | subst eo13 | (injection eo13 with f1_ f2_ f3_; have f4_ := f1_.symm; have f5_ := f3_.symm; clear f1_ f2_ f3_; subst f4_; subst f5_))
 refine hK.out _ _ ⟨bce BKA3 0 _, bce BKA3 1 _, bce BKA3 2 _, bce BKA4 0 _, bce BKA4 1 _, bce BKA4 2 _⟩ (fun hHeld => ?_)
 clear hK K
 refine nm_ 19 ?_
 refine one_ (i := 15) (N := some 20) (bm 17 65535) rfl rfl (one_of HT_.out (by kernel_rfl)) (by decide) (fun K hK => ?_)
 refine g_ Try.func75 #[.bool (a0_0 != a1_0), .slice Ao12 tC0.length co12, .slice Ao13 tB6.length co13] ?_
 with_reducible refine (spec_l02Make.calls k (a0_0 != a1_0) _ _ tC0 _ _ tB6 tA9 tC7 tC8 _ ?side1 ?side2 ?side3 ?side4 A5.out).mono ?_
 (case side1 => exact crC (Kd.R_reads' HOB7.out).2.2)
 (case side2 => exact (Kd.R_reads' HOB7.out).2.1)
 (case side3 => exact crC (Kd.R_reads' HOC2.out).2.2)
 (case side4 => exact (Kd.R_reads' HOC2.out).2.1)
 rintro e w14 ⟨vD9, vE0, rfl, ho0, ho1, hb⟩
 refine ⟨_, rfl, ?_⟩
 have HOD2 := lwR (nwR (nwR ho0 HOB7) HOC2) HB
 have HOD3 := lwR (nwR (nwR ho1 HOB7) HOC2) HB
 replace HOB7 := tldR HOB7 hb (Kd.R_base ho0) (Kd.R_base ho1)
 replace HOC2 := tldR HOC2 hb (Kd.R_base ho0) (Kd.R_base ho1)
 replace BKA3 := bkb BKA3 hb
 replace BKA4 := bkb BKA4 hb
 replace BKA2 := bkb BKA2 hb
 replace HB := bst HB hb
 (try clear hb)
 (try clear hb2)
 (try clear hk)
 (try clear hi)
 (try clear ho0)
 (try clear ho1)
 obtain ⟨Ao16, co16, eo16⟩ := Kd.R_slice HOD2.out
 (first | subst eo16 | (injection eo16 with f1_ f2_ f3_; have f4_ := f1_.symm; have f5_ := f3_.symm; clear f1_ f2_ f3_; subst f4_; subst f5_))
 obtain ⟨Ao18, co18, eo18⟩ := Kd.R_slice HOD3.out
 (first | subst eo18 | (injection eo18 with f1_ f2_ f3_; have f4_ := f1_.symm; have f5_ := f3_.symm; clear f1_ f2_ f3_; subst f4_; subst f5_))
 refine hK.out _ _ ⟨bce BKA3 0 _, bce BKA3 1 _, bce BKA3 2 _, bce BKA4 0 _, bce BKA4 1 _, bce BKA4 2 _⟩ (fun hHeld => ?_)
 clear hK K
 refine nm_ 20 ?_
 refine one_ (i := 16) (N := none) (bm 17 131071) rfl rfl (one_of HT_.out (by kernel_rfl)) (by decide) (fun K hK => ?_)
 have hs15 : w14.cell? ⟨gbA2, 0, none⟩ = some (.bool false) := bce BKA2 0 _
 have hfs15 := blk_frozen BKA2.out 0
 have hns15_0 := NBA3_A2.out
 have hns15_1 := NBA4_A2.out
 have hms15_0 := NBA2_A3.out
 have hms15_1 := NBA2_A4.out
 have hs17 : w14.cell? ⟨gbA2, 1, none⟩ = some (.slice none 0 0) := bce BKA2 1 _
 have hfs17 := blk_frozen BKA2.out 1
 have hns17_0 := NBA3_A2.out
 have hns17_1 := NBA4_A2.out
 have hms17_0 := NBA2_A3.out
 have hms17_1 := NBA2_A4.out
 have hs19 : w14.cell? ⟨gbA2, 2, none⟩ = some (.slice none 0 0) := bce BKA2 2 _
 have hfs19 := blk_frozen BKA2.out 2
 have hns19_0 := NBA3_A2.out
 have hns19_1 := NBA4_A2.out
 have hms19_0 := NBA2_A3.out
 have hms19_1 := NBA2_A4.out
 refine skip_ (w1 := ?_) (by rfl) rfl ?_ ?_
 rotate_left
 ·
  go_simp
  rfl
 refine hK.out _ _ ⟨((cell_far (p := ⟨gbA2, _, none⟩) NBA3_A2.out _).trans (((cell_far (p := ⟨gbA2, _, none⟩) NBA3_A2.out _).trans (((cell_far (p := ⟨gbA2, _, none⟩) NBA3_A2.out _).trans (hHeld.1)))))), ((cell_far (p := ⟨gbA2, _, none⟩) NBA3_A2.out _).trans (((cell_far (p := ⟨gbA2, _, none⟩) NBA3_A2.out _).trans (((cell_far (p := ⟨gbA2, _, none⟩) NBA3_A2.out _).trans (hHeld.2.1)))))), ((cell_far (p := ⟨gbA2, _, none⟩) NBA3_A2.out _).trans (((cell_far (p := ⟨gbA2, _, none⟩) NBA3_A2.out _).trans (((cell_far (p := ⟨gbA2, _, none⟩) NBA3_A2.out _).trans (hHeld.2.2.1)))))), ((cell_far (p := ⟨gbA2, _, none⟩) NBA4_A2.out _).trans (((cell_far (p := ⟨gbA2, _, none⟩) NBA4_A2.out _).trans (((cell_far (p := ⟨gbA2, _, none⟩) NBA4_A2.out _).trans (hHeld.2.2.2.1)))))), ((cell_far (p := ⟨gbA2, _, none⟩) NBA4_A2.out _).trans (((cell_far (p := ⟨gbA2, _, none⟩) NBA4_A2.out _).trans (((cell_far (p := ⟨gbA2, _, none⟩) NBA4_A2.out _).trans (hHeld.2.2.2.2.1)))))), ((cell_far (p := ⟨gbA2, _, none⟩) NBA4_A2.out _).trans (((cell_far (p := ⟨gbA2, _, none⟩) NBA4_A2.out _).trans (((cell_far (p := ⟨gbA2, _, none⟩) NBA4_A2.out _).trans (hHeld.2.2.2.2.2))))))⟩ (fun hHeld => ?_)
 clear hK K
 refine done_ (done_of HT_.out (by kernel_rfl)) ?_
 try go_wp2
 refine bodyPost_ret (results_cell_row rfl _ _ gbA2 32 #[.bool tA9, .slice Ao16 tC7.length co16, .slice Ao18 tC8.length co18] (0, 0) _ rfl (bp3 BKA2 _ _ _) Try.underlying32 rfl (by kernel_rfl)) rfl ?_
 exact ⟨_, _, er_, (crN HOD2 BKA2 fun _ hk => hk.1.1.1), (crN HOD3 BKA2 fun _ hk => hk.1.1.1), blw HB⟩

end Go.Proofs.Ytegbmillbbcmfaa.Q
