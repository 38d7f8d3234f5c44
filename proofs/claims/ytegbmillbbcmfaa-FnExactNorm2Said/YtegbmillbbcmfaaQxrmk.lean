-- written by a program of this claim's session (myprint.py) out of the translation; Lean checks it.
import Derived.Test.YtegbmillbbcmfaaQx0
import Derived.Test.YtegbmillbbcmfaaWords
import Derived.Test.YtegbmillbbcmfaaQxcmp
import Derived.Test.YtegbmillbbcmfaaQxdiv
import Derived.Test.YtegbmillbbcmfaaQxsub
import Derived.Test.YtegbmillbbcmfaaQxgcd
import Derived.Test.YtegbmillbbcmfaaQxrk
namespace Go.Proofs.Ytegbmillbbcmfaa.Q
open Go.RowKit Go.Proofs.YtegbmillbbcmfaaW.PrintWords Go.Proofs.YtegbmillbbcmfaaW.PrintLast Go.Proofs.YtegbmillbbcmfaaW.PrintMore
attribute [local go_sem] max2_int min2_int max_two min_two max_three min_three max_four min_four   -- for this text's walks alone
set_option linter.unusedVariables false
set_option linter.unusedSimpArgs false

def spec_l02Int.f (k : Nat) (a0 : Int) : Option (Bool × List Int × List Int) := if a0 < 0 then ((spec_l01Small.f k (wrap64 (-a0))).bind fun tD1 => (some (true, tD1, (([1] : List Int))))) else ((spec_l01Small.f k a0).bind fun tD2 => (some (false, tD2, (([1] : List Int)))))
set_option maxHeartbeats 8000000 in
set_option maxRecDepth 100000 in
theorem spec_l02Int.calls (k : Nat) (a0 : Int) (r1 : Bool) (r2 : List Int) (r3 : List Int) (w : World) (h : spec_l02Int.f k a0 = some (r1, r2, r3)) :
  Calls Try.prog 53 #[.int .i64 a0] w fun e w' => ∃ v1_ v2_ : Value, e = .returned (.agg #[.bool r1, v1_, v2_]) ∧ Kd.R (Kd.int .i64) 3 w' w.heap.size (fun k_ => nO k_ v2_) v1_ r2 ∧ Kd.R (Kd.int .i64) 3 w' w.heap.size (fun k_ => nO k_ v1_) v2_ r3 ∧ Below w.heap.size w w' := by
 have hu32 := Try.underlying32
 have HB := Aside0.mk (Below.refl w.heap.size w)
 have H : (if a0 < 0 then ((spec_l01Small.f k (wrap64 (-a0))).bind fun tD1 => (some (true, tD1, (([1] : List Int))))) else ((spec_l01Small.f k a0).bind fun tD2 => (some (false, tD2, (([1] : List Int)))))) = some (r1, r2, r3) := h
 clear h
 by_cases c2 : a0 < 0
 ·
  rw [if_pos c2] at H
  have c2b0 : decide (a0 < 0) = true := decide_eq_true c2
  clear c2
  replace H := Option.bind_eq_some_iff.mp H
  obtain ⟨tD1, A30, H⟩ := H
  replace H : (some (true, tD1, (([1] : List Int)))) = some (r1, r2, r3) := H
  have A3 := Aside0.mk A30
  clear A30
  obtain ⟨yD5, hy276⟩ : ∃ y_ : List Int, y_ = (([1] : List Int)) := ⟨_, rfl⟩
  replace H : (some (true, tD1, yD5)) = some (r1, r2, r3) := by subst hy276; first | with_reducible exact H | with_reducible exact (Option.bind_some _ _).symm.trans H | exact H
  have NyD5 := Aside0.mk hy276
  clear hy276
  simp only [Option.some.injEq, Prod.mk.injEq] at H
  obtain ⟨rfl, rfl, rfl⟩ := H
  go_enter Try.func53, Try.ntmps53
  go_wp2_with (first | ((with_reducible refine gate_dst (N := 2) rfl ?_); refine bx_ (N := 2) (cs := #[.bool false, .slice none 0 0, .slice none 0 0]) (t := 32) ?_; intro gbA9 hg w4 hbox hb; have BKA9 := Aside0.mk (hbox); have GWA9 := geh hg HB; have GEA9 := geh hg HB; replace HB := bst HB hb; clear hb hbox hg) | ((with_reducible refine gate_callee (f := 73) rfl ?_); refine gL_ (some 7) Try.func73 #[.int .i64 (wrap64 (-a0))] ?_; (with_reducible refine (spec_l01Small.calls k (wrap64 (-a0)) tD1 _ A3.out).mono ?_); rintro e w5 ⟨vI1, rfl, ho0, hb⟩; refine ⟨_, rfl, ?_⟩; have HOD6 := lwR ho0 HB; replace BKA9 := bkb BKA9 hb; replace HB := bst HB hb; (try clear hb); (try clear hb2); (try clear hk); (try clear hi); (try clear ho0)) | ((with_reducible refine gate_dst (N := 8) rfl ?_); refine Kd.R_lit (Kd.int .i64) _ 3 ?hg (N := 8) ?hd (xs := ([1] : List Int)) (inner := [.int .i64 1]) (ok := fun _ => True) (okp := fun _ => True) ?hr ?hp (fun _ hk => hk) trivial (Below.refl _ _) (Nat.le_refl _) (by simp) ?_; (case hd => rfl); (case hg => rfl); (case hr => first | (go_simp; done) | (go_simp; rfl)); (case hp => exact (Reps.one (show Kd.M (Kd.int .i64) _ _ _ 1 [.int .i64 1] from rfl) (Reps.none _ _))); intro vI2 w6 ho7 hb hg_ hnew_; clear hg_ hnew_; (first | rw [← NyD5.out] at ho7 | (simp only [Int.reduceToNat] at ho7; rw [← NyD5.out] at ho7)); have HOE9 := lwR (nwR ho7 HOD6) HB; replace HOD6 := eldR HOD6 (Kd.R_base ho7) hb; replace BKA9 := bkb BKA9 hb; replace HB := bst HB hb; clear hb ho7; obtain ⟨Ao8, co8, eo8⟩ := Kd.R_slice HOE9.out; subst eo8; obtain ⟨Ao9, co9, eo9⟩ := Kd.R_slice HOD6.out; subst eo9; obtain ⟨hcz10_0, hcz10_1, hcz10_2, hfz10_0, hfz10_1, hfz10_2⟩ := bc3 BKA9))
  refine bodyPost_ret (results_cell_row rfl _ _ gbA9 32 #[.bool true, .slice Ao9 tD1.length co9, .slice Ao8 yD5.length co8] (0, 0) _ rfl (bp3 BKA9 _ _ _) Try.underlying32 rfl (by kernel_rfl)) rfl ?_
  exact ⟨_, _, er_, (crN HOD6 BKA9 fun _ hk => hk.1.2), (crN HOE9 BKA9 fun _ hk => hk.1.2), blw HB⟩
 ·
  rw [if_neg c2] at H
  have c2b0 : decide (a0 < 0) = false := decide_eq_false c2
  clear c2
  replace H := Option.bind_eq_some_iff.mp H
  obtain ⟨tD2, AD7, H⟩ := H
  replace H : (some (false, tD2, (([1] : List Int)))) = some (r1, r2, r3) := H
  have A11 := Aside0.mk AD7
  clear AD7
  obtain ⟨yD8, hy282⟩ : ∃ y_ : List Int, y_ = (([1] : List Int)) := ⟨_, rfl⟩
  replace H : (some (false, tD2, yD8)) = some (r1, r2, r3) := by subst hy282; first | with_reducible exact H | with_reducible exact (Option.bind_some _ _).symm.trans H | exact H
  have NyD8 := Aside0.mk hy282
  clear hy282
  simp only [Option.some.injEq, Prod.mk.injEq] at H
  obtain ⟨rfl, rfl, rfl⟩ := H
  go_enter Try.func53, Try.ntmps53
  go_wp2_with (first | ((with_reducible refine gate_dst (N := 2) rfl ?_); refine bx_ (N := 2) (cs := #[.bool false, .slice none 0 0, .slice none 0 0]) (t := 32) ?_; intro gbA9 hg w12 hbox hb; have BKA9 := Aside0.mk (hbox); have GWA9 := geh hg HB; have GEA9 := geh hg HB; replace HB := bst HB hb; clear hb hbox hg) | ((with_reducible refine gate_callee (f := 73) rfl ?_); refine gL_ (some 11) Try.func73 #[.int .i64 a0] ?_; (with_reducible refine (spec_l01Small.calls k a0 tD2 _ A11.out).mono ?_); rintro e w13 ⟨vI3, rfl, ho0, hb⟩; refine ⟨_, rfl, ?_⟩; have HOD9 := lwR ho0 HB; replace BKA9 := bkb BKA9 hb; replace HB := bst HB hb; (try clear hb); (try clear hb2); (try clear hk); (try clear hi); (try clear ho0)) | ((with_reducible refine gate_dst (N := 12) rfl ?_); refine Kd.R_lit (Kd.int .i64) _ 3 ?hg (N := 12) ?hd (xs := ([1] : List Int)) (inner := [.int .i64 1]) (ok := fun _ => True) (okp := fun _ => True) ?hr ?hp (fun _ hk => hk) trivial (Below.refl _ _) (Nat.le_refl _) (by simp) ?_; (case hd => rfl); (case hg => rfl); (case hr => first | (go_simp; done) | (go_simp; rfl)); (case hp => exact (Reps.one (show Kd.M (Kd.int .i64) _ _ _ 1 [.int .i64 1] from rfl) (Reps.none _ _))); intro vI4 w14 ho15 hb hg_ hnew_; clear hg_ hnew_; (first | rw [← NyD8.out] at ho15 | (simp only [Int.reduceToNat] at ho15; rw [← NyD8.out] at ho15)); have HOF0 := lwR (nwR ho15 HOD9) HB; replace HOD9 := eldR HOD9 (Kd.R_base ho15) hb; replace BKA9 := bkb BKA9 hb; replace HB := bst HB hb; clear hb ho15; obtain ⟨Ao16, co16, eo16⟩ := Kd.R_slice HOF0.out; subst eo16; obtain ⟨Ao17, co17, eo17⟩ := Kd.R_slice HOD9.out; subst eo17; obtain ⟨hcz18_0, hcz18_1, hcz18_2, hfz18_0, hfz18_1, hfz18_2⟩ := bc3 BKA9))
  refine bodyPost_ret (results_cell_row rfl _ _ gbA9 32 #[.bool false, .slice Ao17 tD2.length co17, .slice Ao16 yD8.length co16] (0, 0) _ rfl (bp3 BKA9 _ _ _) Try.underlying32 rfl (by kernel_rfl)) rfl ?_
  exact ⟨_, _, er_, (crN HOD9 BKA9 fun _ hk => hk.1.2), (crN HOF0 BKA9 fun _ hk => hk.1.2), blw HB⟩

theorem l02Make_gt (l : List Int) : decide (0 < l.length) = decide ((l.length : Int) > 0) := by simp only [decide_eq_decide]; omega
def spec_l02Make.f (k : Nat) (a0 : Bool) (l1 : List Int) (l2 : List Int) : Option (Bool × List Int × List Int) := (spec_l01Gcd.f k l1 l2).bind fun tB3 => ((spec_l01Div.f k l1 tB3).bind fun btB1 => ((spec_l01Div.f k l2 tB3).bind fun btB8 => (if a0 = true then (some (decide ((btB1.1.length : Int) > 0), btB1.1, btB8.1)) else (some (false, btB1.1, btB8.1)))))
set_option maxHeartbeats 8000000 in
set_option maxRecDepth 100000 in
theorem spec_l02Make.calls (k : Nat) (a0 : Bool) (A1 : Option Addr) (c1 : Nat) (l1 : List Int) (A2 : Option Addr) (c2 : Nat) (l2 : List Int) (r1 : Bool) (r2 : List Int) (r3 : List Int) (w : World) (hr1 : Kd.C (Kd.int .i64) w A1 l1.length l1) (hc1 : l1.length ≤ c1) (hr2 : Kd.C (Kd.int .i64) w A2 l2.length l2) (hc2 : l2.length ≤ c2) (h : spec_l02Make.f k a0 l1 l2 = some (r1, r2, r3)) :
  Calls Try.prog 75 #[.bool a0, .slice A1 l1.length c1, .slice A2 l2.length c2] w fun e w' => ∃ v1_ v2_ : Value, e = .returned (.agg #[.bool r1, v1_, v2_]) ∧ Kd.R (Kd.int .i64) 3 w' w.heap.size (fun k_ => nO k_ v2_) v1_ r2 ∧ Kd.R (Kd.int .i64) 3 w' w.heap.size (fun k_ => nO k_ v1_) v2_ r3 ∧ Below w.heap.size w w' := by
 have hu32 := Try.underlying32
 have HR1 := Aside0.mk hr1
 have HC1 := Aside0.mk hc1
 clear hr1 hc1
 have HR2 := Aside0.mk hr2
 have HC2 := Aside0.mk hc2
 clear hr2 hc2
 have HB := Aside0.mk (Below.refl w.heap.size w)
 have H : ((spec_l01Gcd.f k l1 l2).bind fun tB3 => ((spec_l01Div.f k l1 tB3).bind fun btB1 => ((spec_l01Div.f k l2 tB3).bind fun btB8 => (if a0 = true then (some (decide ((btB1.1.length : Int) > 0), btB1.1, btB8.1)) else (some (false, btB1.1, btB8.1)))))) = some (r1, r2, r3) := h
 clear h
 replace H := Option.bind_eq_some_iff.mp H
 obtain ⟨tB3, A40, H⟩ := H
 replace H : ((spec_l01Div.f k l1 tB3).bind fun btB1 => ((spec_l01Div.f k l2 tB3).bind fun btB8 => (if a0 = true then (some (decide ((btB1.1.length : Int) > 0), btB1.1, btB8.1)) else (some (false, btB1.1, btB8.1))))) = some (r1, r2, r3) := H
 have A4 := Aside0.mk A40
 clear A40
 replace H := Option.bind_eq_some_iff.mp H
 obtain ⟨⟨tB1, tF1⟩, A50, H⟩ := H
 replace H : ((spec_l01Div.f k l2 tB3).bind fun btB8 => (if a0 = true then (some (decide ((tB1.length : Int) > 0), tB1, btB8.1)) else (some (false, tB1, btB8.1)))) = some (r1, r2, r3) := H
 have A5 := Aside0.mk A50
 clear A50
 replace H := Option.bind_eq_some_iff.mp H
 obtain ⟨⟨tB8, tF2⟩, A60, H⟩ := H
 replace H : (if a0 = true then (some (decide ((tB1.length : Int) > 0), tB1, tB8)) else (some (false, tB1, tB8))) = some (r1, r2, r3) := H
 have A6 := Aside0.mk A60
 clear A60
 by_cases c7 : a0 = true
 ·
  subst c7
  rw [if_pos rfl] at H
  simp only [Option.some.injEq, Prod.mk.injEq] at H
  obtain ⟨rfl, rfl, rfl⟩ := H
  go_enter Try.func75, Try.ntmps75
  go_wp2_with (first | ((with_reducible refine gate_dst (N := 6) rfl ?_); (try (refine gate_guard (by rfl) ?_; dsimp only)); refine bx_ (N := 6) (cs := #[.bool false, .slice none 0 0, .slice none 0 0]) (t := 32) ?_; intro gbA5 hg w8 hbox hb; have BKA5 := Aside0.mk (hbox); have GWA5 := geh hg HB; have GEA5 := geh hg HB; replace HB := bst HB hb; clear hb hbox hg) | ((with_reducible refine gate_callee (f := 41) rfl ?_); refine gL_ (some 14) Try.func41 #[.slice A1 l1.length c1, .slice A2 l2.length c2] ?_; (with_reducible refine (spec_l01Gcd.calls k (fun k_ => k_ < w.heap.size) _ _ l1 (fun k_ => k_ < w.heap.size) _ _ l2 tB3 _ ?side1 ?side2 A4.out).mono ?_); (case side1 => exact Kd.V_mk HC1.out (Kd.F_below (Kd.C_F (Kd.heap_int .i64) HR1.out) (blw HB))); (case side2 => exact Kd.V_mk HC2.out (Kd.F_below (Kd.C_F (Kd.heap_int .i64) HR2.out) (blw HB))); rintro e w9 ⟨vH1, rfl, ho0, hb⟩; refine ⟨_, rfl, ?_⟩; have HOA7 := lwR (Kd.R_mono (ok' := fun k_ => True) ho0 (fun _ hk_ => trivial)) HB; replace BKA5 := bkb BKA5 hb; replace HB := bst HB hb; (try clear hb); (try clear hb2); (try clear hk); (try clear hi); (try clear ho0); obtain ⟨Ao10, co10, eo10⟩ := Kd.R_slice HOA7.out; subst eo10) | ((with_reducible refine gate_callee (f := 62) rfl ?_); refine gL_ (some 18) Try.func62 #[.slice A1 l1.length c1, .slice Ao10 tB3.length co10] ?_; (with_reducible refine (spec_l01Div.calls k _ _ l1 _ _ tB3 tB1 tF1 _ ?side1 ?side2 ?side3 ?side4 A5.out).mono ?_); (case side1 => exact crC (Kd.C_below HR1.out HB.out)); (case side2 => exact HC1.out); (case side3 => exact crC (Kd.R_reads' HOA7.out).2.2); (case side4 => exact (Kd.R_reads' HOA7.out).2.1); rintro e w11 ⟨vH2, vH3, rfl, ho0, ho1, hb⟩; refine ⟨_, rfl, ?_⟩; have HOC6 := lwR (nwR ho0 HOA7) HB; have HOC8 := lwR (nwR ho1 HOA7) HB; replace HOA7 := tldR HOA7 hb (Kd.R_base ho0) (Kd.R_base ho1); replace BKA5 := bkb BKA5 hb; replace HB := bst HB hb; (try clear hb); (try clear hb2); (try clear hk); (try clear hi); (try clear ho0); (try clear ho1)) | ((with_reducible refine gate_callee (f := 62) rfl ?_); refine gL_ (some 24) Try.func62 #[.slice A2 l2.length c2, .slice Ao10 tB3.length co10] ?_; (with_reducible refine (spec_l01Div.calls k _ _ l2 _ _ tB3 tB8 tF2 _ ?side1 ?side2 ?side3 ?side4 A6.out).mono ?_); (case side1 => exact crC (Kd.C_below HR2.out HB.out)); (case side2 => exact HC2.out); (case side3 => exact crC (Kd.R_reads' HOA7.out).2.2); (case side4 => exact (Kd.R_reads' HOA7.out).2.1); rintro e w12 ⟨vH4, vH5, rfl, ho0, ho1, hb⟩; refine ⟨_, rfl, ?_⟩; have HOE0 := lwR (nwR (nwR (nwR ho0 HOA7) HOC6) HOC8) HB; have HOH6 := lwR (nwR (nwR (nwR ho1 HOA7) HOC6) HOC8) HB; replace HOA7 := tldR HOA7 hb (Kd.R_base ho0) (Kd.R_base ho1); replace HOC6 := tldR HOC6 hb (Kd.R_base ho0) (Kd.R_base ho1); replace HOC8 := tldR HOC8 hb (Kd.R_base ho0) (Kd.R_base ho1); replace BKA5 := bkb BKA5 hb; replace HB := bst HB hb; (try clear hb); (try clear hb2); (try clear hk); (try clear hi); (try clear ho0); (try clear ho1); obtain ⟨Ao13, co13, eo13⟩ := Kd.R_slice HOC6.out; subst eo13; obtain ⟨Ao14, co14, eo14⟩ := Kd.R_slice HOE0.out; subst eo14; obtain ⟨hcz15_0, hcz15_1, hcz15_2, hfz15_0, hfz15_1, hfz15_2⟩ := bc3 BKA5))
  refine bodyPost_ret (results_cell_row rfl _ _ gbA5 32 #[.bool (decide (0 < tB1.length)), .slice Ao13 tB1.length co13, .slice Ao14 tB8.length co14] (0, 0) _ rfl (bp3 BKA5 _ _ _) Try.underlying32 rfl (by kernel_rfl)) rfl ?_
  exact ⟨_, _, by first | rfl | (simp only [l02Make_gt]; rfl) | (simp [errW_none, errW_some] <;> rfl) | (simp [*, errW_none, errW_some] <;> rfl), (crN HOC6 BKA5 fun _ hk => hk.1.1.2), (crN HOE0 BKA5 fun _ hk => hk.1.1.2), blw HB⟩
 ·
  replace c7 := Bool.eq_false_iff.mpr c7
  subst c7
  rw [if_neg (show ¬ (false = true) by decide)] at H
  simp only [Option.some.injEq, Prod.mk.injEq] at H
  obtain ⟨rfl, rfl, rfl⟩ := H
  go_enter Try.func75, Try.ntmps75
  go_wp2_with (first | ((with_reducible refine gate_dst (N := 6) rfl ?_); (try (refine gate_guard (by rfl) ?_; dsimp only)); refine bx_ (N := 6) (cs := #[.bool false, .slice none 0 0, .slice none 0 0]) (t := 32) ?_; intro gbA5 hg w16 hbox hb; have BKA5 := Aside0.mk (hbox); have GWA5 := geh hg HB; have GEA5 := geh hg HB; replace HB := bst HB hb; clear hb hbox hg) | ((with_reducible refine gate_callee (f := 41) rfl ?_); refine gL_ (some 14) Try.func41 #[.slice A1 l1.length c1, .slice A2 l2.length c2] ?_; (with_reducible refine (spec_l01Gcd.calls k (fun k_ => k_ < w.heap.size) _ _ l1 (fun k_ => k_ < w.heap.size) _ _ l2 tB3 _ ?side1 ?side2 A4.out).mono ?_); (case side1 => exact Kd.V_mk HC1.out (Kd.F_below (Kd.C_F (Kd.heap_int .i64) HR1.out) (blw HB))); (case side2 => exact Kd.V_mk HC2.out (Kd.F_below (Kd.C_F (Kd.heap_int .i64) HR2.out) (blw HB))); rintro e w17 ⟨vH1, rfl, ho0, hb⟩; refine ⟨_, rfl, ?_⟩; have HOA7 := lwR (Kd.R_mono (ok' := fun k_ => True) ho0 (fun _ hk_ => trivial)) HB; replace BKA5 := bkb BKA5 hb; replace HB := bst HB hb; (try clear hb); (try clear hb2); (try clear hk); (try clear hi); (try clear ho0); obtain ⟨Ao18, co18, eo18⟩ := Kd.R_slice HOA7.out; subst eo18) | ((with_reducible refine gate_callee (f := 62) rfl ?_); refine gL_ (some 18) Try.func62 #[.slice A1 l1.length c1, .slice Ao18 tB3.length co18] ?_; (with_reducible refine (spec_l01Div.calls k _ _ l1 _ _ tB3 tB1 tF1 _ ?side1 ?side2 ?side3 ?side4 A5.out).mono ?_); (case side1 => exact crC (Kd.C_below HR1.out HB.out)); (case side2 => exact HC1.out); (case side3 => exact crC (Kd.R_reads' HOA7.out).2.2); (case side4 => exact (Kd.R_reads' HOA7.out).2.1); rintro e w19 ⟨vH2, vH3, rfl, ho0, ho1, hb⟩; refine ⟨_, rfl, ?_⟩; have HOC6 := lwR (nwR ho0 HOA7) HB; have HOC8 := lwR (nwR ho1 HOA7) HB; replace HOA7 := tldR HOA7 hb (Kd.R_base ho0) (Kd.R_base ho1); replace BKA5 := bkb BKA5 hb; replace HB := bst HB hb; (try clear hb); (try clear hb2); (try clear hk); (try clear hi); (try clear ho0); (try clear ho1)) | ((with_reducible refine gate_callee (f := 62) rfl ?_); refine gL_ (some 24) Try.func62 #[.slice A2 l2.length c2, .slice Ao18 tB3.length co18] ?_; (with_reducible refine (spec_l01Div.calls k _ _ l2 _ _ tB3 tB8 tF2 _ ?side1 ?side2 ?side3 ?side4 A6.out).mono ?_); (case side1 => exact crC (Kd.C_below HR2.out HB.out)); (case side2 => exact HC2.out); (case side3 => exact crC (Kd.R_reads' HOA7.out).2.2); (case side4 => exact (Kd.R_reads' HOA7.out).2.1); rintro e w20 ⟨vH4, vH5, rfl, ho0, ho1, hb⟩; refine ⟨_, rfl, ?_⟩; have HOE0 := lwR (nwR (nwR (nwR ho0 HOA7) HOC6) HOC8) HB; have HOH6 := lwR (nwR (nwR (nwR ho1 HOA7) HOC6) HOC8) HB; replace HOA7 := tldR HOA7 hb (Kd.R_base ho0) (Kd.R_base ho1); replace HOC6 := tldR HOC6 hb (Kd.R_base ho0) (Kd.R_base ho1); replace HOC8 := tldR HOC8 hb (Kd.R_base ho0) (Kd.R_base ho1); replace BKA5 := bkb BKA5 hb; replace HB := bst HB hb; (try clear hb); (try clear hb2); (try clear hk); (try clear hi); (try clear ho0); (try clear ho1); obtain ⟨Ao21, co21, eo21⟩ := Kd.R_slice HOE0.out; subst eo21; obtain ⟨Ao22, co22, eo22⟩ := Kd.R_slice HOC6.out; subst eo22; obtain ⟨hcz23_0, hcz23_1, hcz23_2, hfz23_0, hfz23_1, hfz23_2⟩ := bc3 BKA5))
  refine bodyPost_ret (results_cell_row rfl _ _ gbA5 32 #[.bool false, .slice Ao22 tB1.length co22, .slice Ao21 tB8.length co21] (0, 0) _ rfl (bp3 BKA5 _ _ _) Try.underlying32 rfl (by kernel_rfl)) rfl ?_
  exact ⟨_, _, by first | rfl | (simp only [l02Make_gt]; rfl) | (simp [errW_none, errW_some] <;> rfl) | (simp [*, errW_none, errW_some] <;> rfl), (crN HOC6 BKA5 fun _ hk => hk.1.1.2), (crN HOE0 BKA5 fun _ hk => hk.1.1.2), blw HB⟩

def impl_whole.f (k : Nat) (a0 : Int) : Option (Bool × List Int × List Int) := if a0 < 0 then ((impl_natOf.f k (wrap64 (-a0))).bind fun tD3 => ((impl_one.f).bind fun tC9 => (some (true, tD3, tC9)))) else ((impl_natOf.f k a0).bind fun tD4 => ((impl_one.f).bind fun tD0 => (some (false, tD4, tD0))))
set_option maxHeartbeats 8000000 in
set_option maxRecDepth 100000 in
theorem impl_whole.calls (k : Nat) (a0 : Int) (r1 : Bool) (r2 : List Int) (r3 : List Int) (w : World) (h : impl_whole.f k a0 = some (r1, r2, r3)) :
  Calls Try.prog 58 #[.int .i64 a0] w fun e w' => ∃ v1_ v2_ : Value, e = .returned (.agg #[.bool r1, v1_, v2_]) ∧ Kd.R (Kd.int .i64) 3 w' w.heap.size (fun k_ => nO k_ v2_) v1_ r2 ∧ Kd.R (Kd.int .i64) 3 w' w.heap.size (fun k_ => nO k_ v1_) v2_ r3 ∧ Below w.heap.size w w' := by
 have hu32 := Try.underlying32
 have HB := Aside0.mk (Below.refl w.heap.size w)
 have H : (if a0 < 0 then ((impl_natOf.f k (wrap64 (-a0))).bind fun tD3 => ((impl_one.f).bind fun tC9 => (some (true, tD3, tC9)))) else ((impl_natOf.f k a0).bind fun tD4 => ((impl_one.f).bind fun tD0 => (some (false, tD4, tD0))))) = some (r1, r2, r3) := h
 clear h
 by_cases c2 : a0 < 0
 ·
  rw [if_pos c2] at H
  have c2b0 : decide (a0 < 0) = true := decide_eq_true c2
  clear c2
  replace H := Option.bind_eq_some_iff.mp H
  obtain ⟨tD3, A30, H⟩ := H
  replace H : ((impl_one.f).bind fun tC9 => (some (true, tD3, tC9))) = some (r1, r2, r3) := H
  have A3 := Aside0.mk A30
  clear A30
  replace H := Option.bind_eq_some_iff.mp H
  obtain ⟨tC9, A40, H⟩ := H
  replace H : (some (true, tD3, tC9)) = some (r1, r2, r3) := H
  have A4 := Aside0.mk A40
  clear A40
  simp only [Option.some.injEq, Prod.mk.injEq] at H
  obtain ⟨rfl, rfl, rfl⟩ := H
  go_enter Try.func58, Try.ntmps58
  go_wp2_with (first | ((with_reducible refine gate_dst (N := 2) rfl ?_); refine bx_ (N := 2) (cs := #[.bool false, .slice none 0 0, .slice none 0 0]) (t := 32) ?_; intro gbB0 hg w5 hbox hb; have BKB0 := Aside0.mk (hbox); have GWB0 := geh hg HB; have GEB0 := geh hg HB; replace HB := bst HB hb; clear hb hbox hg) | ((with_reducible refine gate_callee (f := 79) rfl ?_); refine gL_ (some 7) Try.func79 #[.int .i64 (wrap64 (-a0))] ?_; (with_reducible refine (impl_natOf.calls k (wrap64 (-a0)) tD3 _ A3.out).mono ?_); rintro e w6 ⟨vI5, rfl, ho0, hb⟩; refine ⟨_, rfl, ?_⟩; have HOE1 := lwR ho0 HB; replace BKB0 := bkb BKB0 hb; replace HB := bst HB hb; (try clear hb); (try clear hb2); (try clear hk); (try clear hi); (try clear ho0)) | ((with_reducible refine gate_callee (f := 68) rfl ?_); refine gL_ (some 8) Try.func68 #[] ?_; (with_reducible refine (impl_one.calls  tC9 _ A4.out).mono ?_); rintro e w7 ⟨vI6, rfl, ho0, hb⟩; refine ⟨_, rfl, ?_⟩; have HOF3 := lwR (nwR ho0 HOE1) HB; replace HOE1 := eldR HOE1 (Kd.R_base ho0) hb; replace BKB0 := bkb BKB0 hb; replace HB := bst HB hb; (try clear hb); (try clear hb2); (try clear hk); (try clear hi); (try clear ho0); obtain ⟨Ao8, co8, eo8⟩ := Kd.R_slice HOF3.out; subst eo8; obtain ⟨Ao9, co9, eo9⟩ := Kd.R_slice HOE1.out; subst eo9; obtain ⟨hcz10_0, hcz10_1, hcz10_2, hfz10_0, hfz10_1, hfz10_2⟩ := bc3 BKB0))
  refine bodyPost_ret (results_cell_row rfl _ _ gbB0 32 #[.bool true, .slice Ao9 tD3.length co9, .slice Ao8 tC9.length co8] (0, 0) _ rfl (bp3 BKB0 _ _ _) Try.underlying32 rfl (by kernel_rfl)) rfl ?_
  exact ⟨_, _, er_, (crN HOE1 BKB0 fun _ hk => hk.1.2), (crN HOF3 BKB0 fun _ hk => hk.1.2), blw HB⟩
 ·
  rw [if_neg c2] at H
  have c2b0 : decide (a0 < 0) = false := decide_eq_false c2
  clear c2
  replace H := Option.bind_eq_some_iff.mp H
  obtain ⟨tD4, AD7, H⟩ := H
  replace H : ((impl_one.f).bind fun tD0 => (some (false, tD4, tD0))) = some (r1, r2, r3) := H
  have A11 := Aside0.mk AD7
  clear AD7
  replace H := Option.bind_eq_some_iff.mp H
  obtain ⟨tD0, AF4, H⟩ := H
  replace H : (some (false, tD4, tD0)) = some (r1, r2, r3) := H
  have A12 := Aside0.mk AF4
  clear AF4
  simp only [Option.some.injEq, Prod.mk.injEq] at H
  obtain ⟨rfl, rfl, rfl⟩ := H
  go_enter Try.func58, Try.ntmps58
  go_wp2_with (first | ((with_reducible refine gate_dst (N := 2) rfl ?_); refine bx_ (N := 2) (cs := #[.bool false, .slice none 0 0, .slice none 0 0]) (t := 32) ?_; intro gbB0 hg w13 hbox hb; have BKB0 := Aside0.mk (hbox); have GWB0 := geh hg HB; have GEB0 := geh hg HB; replace HB := bst HB hb; clear hb hbox hg) | ((with_reducible refine gate_callee (f := 79) rfl ?_); refine gL_ (some 11) Try.func79 #[.int .i64 a0] ?_; (with_reducible refine (impl_natOf.calls k a0 tD4 _ A11.out).mono ?_); rintro e w14 ⟨vI7, rfl, ho0, hb⟩; refine ⟨_, rfl, ?_⟩; have HOE2 := lwR ho0 HB; replace BKB0 := bkb BKB0 hb; replace HB := bst HB hb; (try clear hb); (try clear hb2); (try clear hk); (try clear hi); (try clear ho0)) | ((with_reducible refine gate_callee (f := 68) rfl ?_); refine gL_ (some 12) Try.func68 #[] ?_; (with_reducible refine (impl_one.calls  tD0 _ A12.out).mono ?_); rintro e w15 ⟨vI8, rfl, ho0, hb⟩; refine ⟨_, rfl, ?_⟩; have HOF5 := lwR (nwR ho0 HOE2) HB; replace HOE2 := eldR HOE2 (Kd.R_base ho0) hb; replace BKB0 := bkb BKB0 hb; replace HB := bst HB hb; (try clear hb); (try clear hb2); (try clear hk); (try clear hi); (try clear ho0); obtain ⟨Ao16, co16, eo16⟩ := Kd.R_slice HOF5.out; subst eo16; obtain ⟨Ao17, co17, eo17⟩ := Kd.R_slice HOE2.out; subst eo17; obtain ⟨hcz18_0, hcz18_1, hcz18_2, hfz18_0, hfz18_1, hfz18_2⟩ := bc3 BKB0))
  refine bodyPost_ret (results_cell_row rfl _ _ gbB0 32 #[.bool false, .slice Ao17 tD4.length co17, .slice Ao16 tD0.length co16] (0, 0) _ rfl (bp3 BKB0 _ _ _) Try.underlying32 rfl (by kernel_rfl)) rfl ?_
  exact ⟨_, _, er_, (crN HOE2 BKB0 fun _ hk => hk.1.2), (crN HOF5 BKB0 fun _ hk => hk.1.2), blw HB⟩

theorem lowest_gt (l : List Int) : decide (0 < l.length) = decide ((l.length : Int) > 0) := by simp only [decide_eq_decide]; omega
def impl_lowest.f (k : Nat) (a0 : Bool) (l1 : List Int) (l2 : List Int) : Option (Bool × List Int × List Int) := (impl_natGcd.f k l1 l2).bind fun tA3 => ((impl_one.f).bind fun tB4 => ((impl_natCmp.f tA3 tB4).bind fun tB9 => (if tB9 = 0 then (if a0 = true then ((slices_Clone_int_int.f l1).bind fun tC4 => ((slices_Clone_int_int.f l2).bind fun tC2 => (some (decide ((l1.length : Int) > 0), tC4, tC2)))) else ((slices_Clone_int_int.f l1).bind fun tC5 => ((slices_Clone_int_int.f l2).bind fun tC3 => (some (false, tC5, tC3))))) else ((impl_natDiv.f l1 tA3).bind fun btA4 => ((impl_natDiv.f l2 tA3).bind fun btA6 => (if a0 = true then ((slices_Clone_int_int.f btA4.1).bind fun tC0 => ((slices_Clone_int_int.f btA6.1).bind fun tB5 => (some (decide ((btA4.1.length : Int) > 0), tC0, tB5)))) else ((slices_Clone_int_int.f btA4.1).bind fun tC1 => ((slices_Clone_int_int.f btA6.1).bind fun tB6 => (some (false, tC1, tB6))))))))))
set_option maxHeartbeats 8000000 in
set_option maxRecDepth 100000 in
theorem impl_lowest.calls (k : Nat) (a0 : Bool) (A1 : Option Addr) (c1 : Nat) (l1 : List Int) (A2 : Option Addr) (c2 : Nat) (l2 : List Int) (r1 : Bool) (r2 : List Int) (r3 : List Int) (w : World) (hr1 : Kd.C (Kd.int .i64) w A1 l1.length l1) (hc1 : l1.length ≤ c1) (hr2 : Kd.C (Kd.int .i64) w A2 l2.length l2) (hc2 : l2.length ≤ c2) (h : impl_lowest.f k a0 l1 l2 = some (r1, r2, r3)) :
  Calls Try.prog 80 #[.bool a0, .slice A1 l1.length c1, .slice A2 l2.length c2] w fun e w' => ∃ v1_ v2_ : Value, e = .returned (.agg #[.bool r1, v1_, v2_]) ∧ Kd.R (Kd.int .i64) 3 w' w.heap.size (fun k_ => nO k_ v2_) v1_ r2 ∧ Kd.R (Kd.int .i64) 3 w' w.heap.size (fun k_ => nO k_ v1_) v2_ r3 ∧ Below w.heap.size w w' := by
 have hu32 := Try.underlying32
 have HR1 := Aside0.mk hr1
 have HC1 := Aside0.mk hc1
 clear hr1 hc1
 have HR2 := Aside0.mk hr2
 have HC2 := Aside0.mk hc2
 clear hr2 hc2
 have HB := Aside0.mk (Below.refl w.heap.size w)
 have H : ((impl_natGcd.f k l1 l2).bind fun tA3 => ((impl_one.f).bind fun tB4 => ((impl_natCmp.f tA3 tB4).bind fun tB9 => (if tB9 = 0 then (if a0 = true then ((slices_Clone_int_int.f l1).bind fun tC4 => ((slices_Clone_int_int.f l2).bind fun tC2 => (some (decide ((l1.length : Int) > 0), tC4, tC2)))) else ((slices_Clone_int_int.f l1).bind fun tC5 => ((slices_Clone_int_int.f l2).bind fun tC3 => (some (false, tC5, tC3))))) else ((impl_natDiv.f l1 tA3).bind fun btA4 => ((impl_natDiv.f l2 tA3).bind fun btA6 => (if a0 = true then ((slices_Clone_int_int.f btA4.1).bind fun tC0 => ((slices_Clone_int_int.f btA6.1).bind fun tB5 => (some (decide ((btA4.1.length : Int) > 0), tC0, tB5)))) else ((slices_Clone_int_int.f btA4.1).bind fun tC1 => ((slices_Clone_int_int.f btA6.1).bind fun tB6 => (some (false, tC1, tB6))))))))))) = some (r1, r2, r3) := h
 clear h
 replace H := Option.bind_eq_some_iff.mp H
 obtain ⟨tA3, A40, H⟩ := H
 replace H : ((impl_one.f).bind fun tB4 => ((impl_natCmp.f tA3 tB4).bind fun tB9 => (if tB9 = 0 then (if a0 = true then ((slices_Clone_int_int.f l1).bind fun tC4 => ((slices_Clone_int_int.f l2).bind fun tC2 => (some (decide ((l1.length : Int) > 0), tC4, tC2)))) else ((slices_Clone_int_int.f l1).bind fun tC5 => ((slices_Clone_int_int.f l2).bind fun tC3 => (some (false, tC5, tC3))))) else ((impl_natDiv.f l1 tA3).bind fun btA4 => ((impl_natDiv.f l2 tA3).bind fun btA6 => (if a0 = true then ((slices_Clone_int_int.f btA4.1).bind fun tC0 => ((slices_Clone_int_int.f btA6.1).bind fun tB5 => (some (decide ((btA4.1.length : Int) > 0), tC0, tB5)))) else ((slices_Clone_int_int.f btA4.1).bind fun tC1 => ((slices_Clone_int_int.f btA6.1).bind fun tB6 => (some (false, tC1, tB6)))))))))) = some (r1, r2, r3) := H
 have A4 := Aside0.mk A40
 clear A40
 replace H := Option.bind_eq_some_iff.mp H
 obtain ⟨tB4, A50, H⟩ := H
 replace H : ((impl_natCmp.f tA3 tB4).bind fun tB9 => (if tB9 = 0 then (if a0 = true then ((slices_Clone_int_int.f l1).bind fun tC4 => ((slices_Clone_int_int.f l2).bind fun tC2 => (some (decide ((l1.length : Int) > 0), tC4, tC2)))) else ((slices_Clone_int_int.f l1).bind fun tC5 => ((slices_Clone_int_int.f l2).bind fun tC3 => (some (false, tC5, tC3))))) else ((impl_natDiv.f l1 tA3).bind fun btA4 => ((impl_natDiv.f l2 tA3).bind fun btA6 => (if a0 = true then ((slices_Clone_int_int.f btA4.1).bind fun tC0 => ((slices_Clone_int_int.f btA6.1).bind fun tB5 => (some (decide ((btA4.1.length : Int) > 0), tC0, tB5)))) else ((slices_Clone_int_int.f btA4.1).bind fun tC1 => ((slices_Clone_int_int.f btA6.1).bind fun tB6 => (some (false, tC1, tB6))))))))) = some (r1, r2, r3) := H
 have A5 := Aside0.mk A50
 clear A50
 replace H := Option.bind_eq_some_iff.mp H
 obtain ⟨tB9, A60, H⟩ := H
 replace H : (if tB9 = 0 then (if a0 = true then ((slices_Clone_int_int.f l1).bind fun tC4 => ((slices_Clone_int_int.f l2).bind fun tC2 => (some (decide ((l1.length : Int) > 0), tC4, tC2)))) else ((slices_Clone_int_int.f l1).bind fun tC5 => ((slices_Clone_int_int.f l2).bind fun tC3 => (some (false, tC5, tC3))))) else ((impl_natDiv.f l1 tA3).bind fun btA4 => ((impl_natDiv.f l2 tA3).bind fun btA6 => (if a0 = true then ((slices_Clone_int_int.f btA4.1).bind fun tC0 => ((slices_Clone_int_int.f btA6.1).bind fun tB5 => (some (decide ((btA4.1.length : Int) > 0), tC0, tB5)))) else ((slices_Clone_int_int.f btA4.1).bind fun tC1 => ((slices_Clone_int_int.f btA6.1).bind fun tB6 => (some (false, tC1, tB6)))))))) = some (r1, r2, r3) := H
 have A6 := Aside0.mk A60
 clear A60
 by_cases c7 : tB9 = 0
 ·
  rw [if_pos c7] at H
  have c7b0 : (tB9 == 0) = true := beq_iff_eq.mpr c7
  have c7b1 : (tB9 != 0) = false := bne_eq_false_iff_eq.mpr c7
  clear c7
  by_cases c8 : a0 = true
  ·
   subst c8
   rw [if_pos rfl] at H
   replace H := Option.bind_eq_some_iff.mp H
   obtain ⟨tC4, A90, H⟩ := H
   replace H : ((slices_Clone_int_int.f l2).bind fun tC2 => (some (decide ((l1.length : Int) > 0), tC4, tC2))) = some (r1, r2, r3) := H
   have A9 := Aside0.mk A90
   clear A90
   replace H := Option.bind_eq_some_iff.mp H
   obtain ⟨tC2, AF6, H⟩ := H
   replace H : (some (decide ((l1.length : Int) > 0), tC4, tC2)) = some (r1, r2, r3) := H
   have A10 := Aside0.mk AF6
   clear AF6
   simp only [Option.some.injEq, Prod.mk.injEq] at H
   obtain ⟨rfl, rfl, rfl⟩ := H
   go_enter Try.func80, Try.ntmps80
   go_wp2_with (first | ((with_reducible refine gate_dst (N := 6) rfl ?_); (try (refine gate_guard (by rfl) ?_; dsimp only)); refine bx_ (N := 6) (cs := #[.bool false, .slice none 0 0, .slice none 0 0]) (t := 32) ?_; intro gbA0 hg w11 hbox hb; have BKA0 := Aside0.mk (hbox); have GWA0 := geh hg HB; have GEA0 := geh hg HB; replace HB := bst HB hb; clear hb hbox hg) | ((with_reducible refine gate_callee (f := 67) rfl ?_); refine gL_ (some 10) Try.func67 #[.slice A1 l1.length c1, .slice A2 l2.length c2] ?_; (with_reducible refine (impl_natGcd.calls k (fun k_ => k_ < w.heap.size) _ _ l1 (fun k_ => k_ < w.heap.size) _ _ l2 tA3 _ ?side1 ?side2 A4.out).mono ?_); (case side1 => exact Kd.V_mk HC1.out (Kd.F_below (Kd.C_F (Kd.heap_int .i64) HR1.out) (blw HB))); (case side2 => exact Kd.V_mk HC2.out (Kd.F_below (Kd.C_F (Kd.heap_int .i64) HR2.out) (blw HB))); rintro e w12 ⟨vE7, rfl, ho0, hb⟩; refine ⟨_, rfl, ?_⟩; have HOA1 := Aside0.mk (Kd.V_lower (Kd.V_mono (ok' := fun k_ => k_ ≠ gbA0) ho0 (fun k_ hk_ => Or.elim hk_ (fun hs_ => Or.elim hs_ (fun hs_ => fun e_ => Nat.not_le.2 hs_ (by rw [e_]; exact GWA0.out)) (fun hs_ => fun e_ => Nat.not_le.2 hs_ (by rw [e_]; exact GWA0.out))) (fun hn_ => (Kd.freshB (g := gbA0) (o := .cells #[.bool false, .slice none 0 0, .slice none 0 0] 32 (0, 0)) (crb BKA0) k_ hn_)))) (bsz HB)); replace BKA0 := bkb BKA0 hb; replace HB := bst HB hb; (try clear hb); (try clear hb2); (try clear hk); (try clear hi); (try clear ho0)) | ((with_reducible refine gate_callee (f := 68) rfl ?_); refine gL_ (some 12) Try.func68 #[] ?_; (with_reducible refine (impl_one.calls  tB4 _ A5.out).mono ?_); rintro e w13 ⟨vE8, rfl, ho0, hb⟩; refine ⟨_, rfl, ?_⟩; replace HOA1 := eldV HOA1 (Kd.R_base ho0) hb; have HOA2 := lwR ho0 HB; replace BKA0 := bkb BKA0 hb; replace HB := bst HB hb; (try clear hb); (try clear hb2); (try clear hk); (try clear hi); (try clear ho0); obtain ⟨Ao14, co14, eo14⟩ := Kd.V_slice HOA1.out; subst eo14; obtain ⟨Ao15, co15, eo15⟩ := Kd.R_slice HOA2.out; subst eo15) | ((with_reducible refine gate_callee (f := 66) rfl ?_); refine gL_ (some 13) Try.func66 #[.slice Ao14 tA3.length co14, .slice Ao15 tB4.length co15] ?_; (with_reducible refine (impl_natCmp.calls _ _ tA3 _ _ tB4 tB9 _ ?side1 ?side2 ?side3 ?side4 A6.out).mono ?_); (case side1 => exact crC (Kd.V_reads' HOA1.out).2.2); (case side2 => exact (Kd.V_reads' HOA1.out).2.1); (case side3 => exact crC (Kd.R_reads' HOA2.out).2.2); (case side4 => exact (Kd.R_reads' HOA2.out).2.1); rintro e w16 ⟨rfl, hb⟩; refine ⟨_, rfl, ?_⟩; replace HOA1 := rblV HOA1 hb; replace HOA2 := rblR HOA2 hb; replace BKA0 := bkb BKA0 hb; replace HB := bst HB hb; (try clear hb); (try clear hb2); (try clear hk); (try clear hi)) | ((with_reducible refine gate_callee (f := 91) rfl ?_); refine gL_ (some 34) Try.func91 #[.slice A1 l1.length c1] ?_; (with_reducible refine (slices_Clone_int_int.calls _ _ l1 tC4 _ ?side1 ?side2 A9.out).mono ?_); (case side1 => exact crC (Kd.C_below HR1.out HB.out)); (case side2 => exact HC1.out); rintro e w17 ⟨vI9, rfl, ho0, hb⟩; refine ⟨_, rfl, ?_⟩; replace HOA1 := eldV HOA1 (Kd.R_base ho0) hb; have HOE3 := lwR (nwR ho0 HOA2) HB; replace HOA2 := eldR HOA2 (Kd.R_base ho0) hb; replace BKA0 := bkb BKA0 hb; replace HB := bst HB hb; (try clear hb); (try clear hb2); (try clear hk); (try clear hi); (try clear ho0)) | ((with_reducible refine gate_callee (f := 91) rfl ?_); refine gL_ (some 36) Try.func91 #[.slice A2 l2.length c2] ?_; (with_reducible refine (slices_Clone_int_int.calls _ _ l2 tC2 _ ?side1 ?side2 A10.out).mono ?_); (case side1 => exact crC (Kd.C_below HR2.out HB.out)); (case side2 => exact HC2.out); rintro e w18 ⟨vJ0, rfl, ho0, hb⟩; refine ⟨_, rfl, ?_⟩; replace HOA1 := eldV HOA1 (Kd.R_base ho0) hb; have HOF7 := lwR (nwR (nwR ho0 HOA2) HOE3) HB; replace HOA2 := eldR HOA2 (Kd.R_base ho0) hb; replace HOE3 := eldR HOE3 (Kd.R_base ho0) hb; replace BKA0 := bkb BKA0 hb; replace HB := bst HB hb; (try clear hb); (try clear hb2); (try clear hk); (try clear hi); (try clear ho0); obtain ⟨Ao19, co19, eo19⟩ := Kd.R_slice HOF7.out; subst eo19; obtain ⟨Ao20, co20, eo20⟩ := Kd.R_slice HOE3.out; subst eo20; obtain ⟨hcz21_0, hcz21_1, hcz21_2, hfz21_0, hfz21_1, hfz21_2⟩ := bc3 BKA0))
   refine bodyPost_ret (results_cell_row rfl _ _ gbA0 32 #[.bool (decide (0 < l1.length)), .slice Ao20 tC4.length co20, .slice Ao19 tC2.length co19] (0, 0) _ rfl (bp3 BKA0 _ _ _) Try.underlying32 rfl (by kernel_rfl)) rfl ?_
   exact ⟨_, _, by first | rfl | (simp only [lowest_gt]; rfl) | (simp [errW_none, errW_some] <;> rfl) | (simp [*, errW_none, errW_some] <;> rfl), (crN HOE3 BKA0 fun _ hk => hk.1.2), (crN HOF7 BKA0 fun _ hk => hk.1.2), blw HB⟩
  ·
   replace c8 := Bool.eq_false_iff.mpr c8
   subst c8
   rw [if_neg (show ¬ (false = true) by decide)] at H
   replace H := Option.bind_eq_some_iff.mp H
   obtain ⟨tC5, AF8, H⟩ := H
   replace H : ((slices_Clone_int_int.f l2).bind fun tC3 => (some (false, tC5, tC3))) = some (r1, r2, r3) := H
   have A22 := Aside0.mk AF8
   clear AF8
   replace H := Option.bind_eq_some_iff.mp H
   obtain ⟨tC3, AF9, H⟩ := H
   replace H : (some (false, tC5, tC3)) = some (r1, r2, r3) := H
   have A23 := Aside0.mk AF9
   clear AF9
   simp only [Option.some.injEq, Prod.mk.injEq] at H
   obtain ⟨rfl, rfl, rfl⟩ := H
   go_enter Try.func80, Try.ntmps80
   go_wp2_with (first | ((with_reducible refine gate_dst (N := 6) rfl ?_); (try (refine gate_guard (by rfl) ?_; dsimp only)); refine bx_ (N := 6) (cs := #[.bool false, .slice none 0 0, .slice none 0 0]) (t := 32) ?_; intro gbA0 hg w24 hbox hb; have BKA0 := Aside0.mk (hbox); have GWA0 := geh hg HB; have GEA0 := geh hg HB; replace HB := bst HB hb; clear hb hbox hg) | ((with_reducible refine gate_callee (f := 67) rfl ?_); refine gL_ (some 10) Try.func67 #[.slice A1 l1.length c1, .slice A2 l2.length c2] ?_; (with_reducible refine (impl_natGcd.calls k (fun k_ => k_ < w.heap.size) _ _ l1 (fun k_ => k_ < w.heap.size) _ _ l2 tA3 _ ?side1 ?side2 A4.out).mono ?_); (case side1 => exact Kd.V_mk HC1.out (Kd.F_below (Kd.C_F (Kd.heap_int .i64) HR1.out) (blw HB))); (case side2 => exact Kd.V_mk HC2.out (Kd.F_below (Kd.C_F (Kd.heap_int .i64) HR2.out) (blw HB))); rintro e w25 ⟨vE7, rfl, ho0, hb⟩; refine ⟨_, rfl, ?_⟩; have HOA1 := Aside0.mk (Kd.V_lower (Kd.V_mono (ok' := fun k_ => k_ ≠ gbA0) ho0 (fun k_ hk_ => Or.elim hk_ (fun hs_ => Or.elim hs_ (fun hs_ => fun e_ => Nat.not_le.2 hs_ (by rw [e_]; exact GWA0.out)) (fun hs_ => fun e_ => Nat.not_le.2 hs_ (by rw [e_]; exact GWA0.out))) (fun hn_ => (Kd.freshB (g := gbA0) (o := .cells #[.bool false, .slice none 0 0, .slice none 0 0] 32 (0, 0)) (crb BKA0) k_ hn_)))) (bsz HB)); replace BKA0 := bkb BKA0 hb; replace HB := bst HB hb; (try clear hb); (try clear hb2); (try clear hk); (try clear hi); (try clear ho0)) | ((with_reducible refine gate_callee (f := 68) rfl ?_); refine gL_ (some 12) Try.func68 #[] ?_; (with_reducible refine (impl_one.calls  tB4 _ A5.out).mono ?_); rintro e w26 ⟨vE8, rfl, ho0, hb⟩; refine ⟨_, rfl, ?_⟩; replace HOA1 := eldV HOA1 (Kd.R_base ho0) hb; have HOA2 := lwR ho0 HB; replace BKA0 := bkb BKA0 hb; replace HB := bst HB hb; (try clear hb); (try clear hb2); (try clear hk); (try clear hi); (try clear ho0); obtain ⟨Ao27, co27, eo27⟩ := Kd.V_slice HOA1.out; subst eo27; obtain ⟨Ao28, co28, eo28⟩ := Kd.R_slice HOA2.out; subst eo28) | ((with_reducible refine gate_callee (f := 66) rfl ?_); refine gL_ (some 13) Try.func66 #[.slice Ao27 tA3.length co27, .slice Ao28 tB4.length co28] ?_; (with_reducible refine (impl_natCmp.calls _ _ tA3 _ _ tB4 tB9 _ ?side1 ?side2 ?side3 ?side4 A6.out).mono ?_); (case side1 => exact crC (Kd.V_reads' HOA1.out).2.2); (case side2 => exact (Kd.V_reads' HOA1.out).2.1); (case side3 => exact crC (Kd.R_reads' HOA2.out).2.2); (case side4 => exact (Kd.R_reads' HOA2.out).2.1); rintro e w29 ⟨rfl, hb⟩; refine ⟨_, rfl, ?_⟩; replace HOA1 := rblV HOA1 hb; replace HOA2 := rblR HOA2 hb; replace BKA0 := bkb BKA0 hb; replace HB := bst HB hb; (try clear hb); (try clear hb2); (try clear hk); (try clear hi)) | ((with_reducible refine gate_callee (f := 91) rfl ?_); refine gL_ (some 34) Try.func91 #[.slice A1 l1.length c1] ?_; (with_reducible refine (slices_Clone_int_int.calls _ _ l1 tC5 _ ?side1 ?side2 A22.out).mono ?_); (case side1 => exact crC (Kd.C_below HR1.out HB.out)); (case side2 => exact HC1.out); rintro e w30 ⟨vJ1, rfl, ho0, hb⟩; refine ⟨_, rfl, ?_⟩; replace HOA1 := eldV HOA1 (Kd.R_base ho0) hb; have HOE4 := lwR (nwR ho0 HOA2) HB; replace HOA2 := eldR HOA2 (Kd.R_base ho0) hb; replace BKA0 := bkb BKA0 hb; replace HB := bst HB hb; (try clear hb); (try clear hb2); (try clear hk); (try clear hi); (try clear ho0)) | ((with_reducible refine gate_callee (f := 91) rfl ?_); refine gL_ (some 36) Try.func91 #[.slice A2 l2.length c2] ?_; (with_reducible refine (slices_Clone_int_int.calls _ _ l2 tC3 _ ?side1 ?side2 A23.out).mono ?_); (case side1 => exact crC (Kd.C_below HR2.out HB.out)); (case side2 => exact HC2.out); rintro e w31 ⟨vJ2, rfl, ho0, hb⟩; refine ⟨_, rfl, ?_⟩; replace HOA1 := eldV HOA1 (Kd.R_base ho0) hb; have HOG0 := lwR (nwR (nwR ho0 HOA2) HOE4) HB; replace HOA2 := eldR HOA2 (Kd.R_base ho0) hb; replace HOE4 := eldR HOE4 (Kd.R_base ho0) hb; replace BKA0 := bkb BKA0 hb; replace HB := bst HB hb; (try clear hb); (try clear hb2); (try clear hk); (try clear hi); (try clear ho0); obtain ⟨Ao32, co32, eo32⟩ := Kd.R_slice HOG0.out; subst eo32; obtain ⟨Ao33, co33, eo33⟩ := Kd.R_slice HOE4.out; subst eo33; obtain ⟨hcz34_0, hcz34_1, hcz34_2, hfz34_0, hfz34_1, hfz34_2⟩ := bc3 BKA0))
   refine bodyPost_ret (results_cell_row rfl _ _ gbA0 32 #[.bool false, .slice Ao33 tC5.length co33, .slice Ao32 tC3.length co32] (0, 0) _ rfl (bp3 BKA0 _ _ _) Try.underlying32 rfl (by kernel_rfl)) rfl ?_
   exact ⟨_, _, by first | rfl | (simp only [lowest_gt]; rfl) | (simp [errW_none, errW_some] <;> rfl) | (simp [*, errW_none, errW_some] <;> rfl), (crN HOE4 BKA0 fun _ hk => hk.1.2), (crN HOG0 BKA0 fun _ hk => hk.1.2), blw HB⟩
 ·
  rw [if_neg c7] at H
  have c7b0 : (tB9 == 0) = false := beq_eq_false_iff_ne.mpr c7
  have c7b1 : (tB9 != 0) = true := bne_iff_ne.mpr c7
  replace H := Option.bind_eq_some_iff.mp H
  obtain ⟨⟨tA4, tG1⟩, AG2, H⟩ := H
  replace H : ((impl_natDiv.f l2 tA3).bind fun btA6 => (if a0 = true then ((slices_Clone_int_int.f tA4).bind fun tC0 => ((slices_Clone_int_int.f btA6.1).bind fun tB5 => (some (decide ((tA4.length : Int) > 0), tC0, tB5)))) else ((slices_Clone_int_int.f tA4).bind fun tC1 => ((slices_Clone_int_int.f btA6.1).bind fun tB6 => (some (false, tC1, tB6)))))) = some (r1, r2, r3) := H
  have A35 := Aside0.mk AG2
  clear AG2
  replace H := Option.bind_eq_some_iff.mp H
  obtain ⟨⟨tA6, tG3⟩, AG4, H⟩ := H
  replace H : (if a0 = true then ((slices_Clone_int_int.f tA4).bind fun tC0 => ((slices_Clone_int_int.f tA6).bind fun tB5 => (some (decide ((tA4.length : Int) > 0), tC0, tB5)))) else ((slices_Clone_int_int.f tA4).bind fun tC1 => ((slices_Clone_int_int.f tA6).bind fun tB6 => (some (false, tC1, tB6))))) = some (r1, r2, r3) := H
  have A36 := Aside0.mk AG4
  clear AG4
  by_cases c37 : a0 = true
  ·
   subst c37
   rw [if_pos rfl] at H
   replace H := Option.bind_eq_some_iff.mp H
   obtain ⟨tC0, AG5, H⟩ := H
   replace H : ((slices_Clone_int_int.f tA6).bind fun tB5 => (some (decide ((tA4.length : Int) > 0), tC0, tB5))) = some (r1, r2, r3) := H
   have A38 := Aside0.mk AG5
   clear AG5
   replace H := Option.bind_eq_some_iff.mp H
   obtain ⟨tB5, AG6, H⟩ := H
   replace H : (some (decide ((tA4.length : Int) > 0), tC0, tB5)) = some (r1, r2, r3) := H
   have A39 := Aside0.mk AG6
   clear AG6
   simp only [Option.some.injEq, Prod.mk.injEq] at H
   obtain ⟨rfl, rfl, rfl⟩ := H
   go_enter Try.func80, Try.ntmps80
   go_wp2_with (first | ((with_reducible refine gate_dst (N := 6) rfl ?_); (try (refine gate_guard (by rfl) ?_; dsimp only)); refine bx_ (N := 6) (cs := #[.bool false, .slice none 0 0, .slice none 0 0]) (t := 32) ?_; intro gbA0 hg w40 hbox hb; have BKA0 := Aside0.mk (hbox); have GWA0 := geh hg HB; have GEA0 := geh hg HB; replace HB := bst HB hb; clear hb hbox hg) | ((with_reducible refine gate_callee (f := 67) rfl ?_); refine gL_ (some 10) Try.func67 #[.slice A1 l1.length c1, .slice A2 l2.length c2] ?_; (with_reducible refine (impl_natGcd.calls k (fun k_ => k_ < w.heap.size) _ _ l1 (fun k_ => k_ < w.heap.size) _ _ l2 tA3 _ ?side1 ?side2 A4.out).mono ?_); (case side1 => exact Kd.V_mk HC1.out (Kd.F_below (Kd.C_F (Kd.heap_int .i64) HR1.out) (blw HB))); (case side2 => exact Kd.V_mk HC2.out (Kd.F_below (Kd.C_F (Kd.heap_int .i64) HR2.out) (blw HB))); rintro e w41 ⟨vE7, rfl, ho0, hb⟩; refine ⟨_, rfl, ?_⟩; have HOA1 := Aside0.mk (Kd.V_lower (Kd.V_mono (ok' := fun k_ => k_ ≠ gbA0) ho0 (fun k_ hk_ => Or.elim hk_ (fun hs_ => Or.elim hs_ (fun hs_ => fun e_ => Nat.not_le.2 hs_ (by rw [e_]; exact GWA0.out)) (fun hs_ => fun e_ => Nat.not_le.2 hs_ (by rw [e_]; exact GWA0.out))) (fun hn_ => (Kd.freshB (g := gbA0) (o := .cells #[.bool false, .slice none 0 0, .slice none 0 0] 32 (0, 0)) (crb BKA0) k_ hn_)))) (bsz HB)); replace BKA0 := bkb BKA0 hb; replace HB := bst HB hb; (try clear hb); (try clear hb2); (try clear hk); (try clear hi); (try clear ho0)) | ((with_reducible refine gate_callee (f := 68) rfl ?_); refine gL_ (some 12) Try.func68 #[] ?_; (with_reducible refine (impl_one.calls  tB4 _ A5.out).mono ?_); rintro e w42 ⟨vE8, rfl, ho0, hb⟩; refine ⟨_, rfl, ?_⟩; replace HOA1 := eldV HOA1 (Kd.R_base ho0) hb; have HOA2 := lwR ho0 HB; replace BKA0 := bkb BKA0 hb; replace HB := bst HB hb; (try clear hb); (try clear hb2); (try clear hk); (try clear hi); (try clear ho0); obtain ⟨Ao43, co43, eo43⟩ := Kd.V_slice HOA1.out; subst eo43; obtain ⟨Ao44, co44, eo44⟩ := Kd.R_slice HOA2.out; subst eo44) | ((with_reducible refine gate_callee (f := 66) rfl ?_); refine gL_ (some 13) Try.func66 #[.slice Ao43 tA3.length co43, .slice Ao44 tB4.length co44] ?_; (with_reducible refine (impl_natCmp.calls _ _ tA3 _ _ tB4 tB9 _ ?side1 ?side2 ?side3 ?side4 A6.out).mono ?_); (case side1 => exact crC (Kd.V_reads' HOA1.out).2.2); (case side2 => exact (Kd.V_reads' HOA1.out).2.1); (case side3 => exact crC (Kd.R_reads' HOA2.out).2.2); (case side4 => exact (Kd.R_reads' HOA2.out).2.1); rintro e w45 ⟨rfl, hb⟩; refine ⟨_, rfl, ?_⟩; replace HOA1 := rblV HOA1 hb; replace HOA2 := rblR HOA2 hb; replace BKA0 := bkb BKA0 hb; replace HB := bst HB hb; (try clear hb); (try clear hb2); (try clear hk); (try clear hi)) | ((with_reducible refine gate_callee (f := 87) rfl ?_); refine gL_ (some 18) Try.func87 #[.slice A1 l1.length c1, .slice Ao43 tA3.length co43] ?_; (with_reducible refine (impl_natDiv.calls _ _ l1 _ _ tA3 tA4 tG1 _ ?side1 ?side2 ?side3 ?side4 A35.out).mono ?_); (case side1 => exact crC (Kd.C_below HR1.out HB.out)); (case side2 => exact HC1.out); (case side3 => exact crC (Kd.V_reads' HOA1.out).2.2); (case side4 => exact (Kd.V_reads' HOA1.out).2.1); rintro e w46 ⟨vH7, vH8, rfl, ho0, ho1, hb⟩; refine ⟨_, rfl, ?_⟩; replace HOA1 := tldV HOA1 hb (Kd.R_base ho0) (Kd.R_base ho1); have HOA8 := lwR (nwR ho0 HOA2) HB; have HOB2 := lwR (nwR ho1 HOA2) HB; replace HOA2 := tldR HOA2 hb (Kd.R_base ho0) (Kd.R_base ho1); replace BKA0 := bkb BKA0 hb; replace HB := bst HB hb; (try clear hb); (try clear hb2); (try clear hk); (try clear hi); (try clear ho0); (try clear ho1)) | ((with_reducible refine gate_callee (f := 87) rfl ?_); refine gL_ (some 24) Try.func87 #[.slice A2 l2.length c2, .slice Ao43 tA3.length co43] ?_; (with_reducible refine (impl_natDiv.calls _ _ l2 _ _ tA3 tA6 tG3 _ ?side1 ?side2 ?side3 ?side4 A36.out).mono ?_); (case side1 => exact crC (Kd.C_below HR2.out HB.out)); (case side2 => exact HC2.out); (case side3 => exact crC (Kd.V_reads' HOA1.out).2.2); (case side4 => exact (Kd.V_reads' HOA1.out).2.1); rintro e w47 ⟨vH9, vI0, rfl, ho0, ho1, hb⟩; refine ⟨_, rfl, ?_⟩; replace HOA1 := tldV HOA1 hb (Kd.R_base ho0) (Kd.R_base ho1); have HOB7 := lwR (nwR (nwR (nwR ho0 HOA2) HOA8) HOB2) HB; have HOC7 := lwR (nwR (nwR (nwR ho1 HOA2) HOA8) HOB2) HB; replace HOA2 := tldR HOA2 hb (Kd.R_base ho0) (Kd.R_base ho1); replace HOA8 := tldR HOA8 hb (Kd.R_base ho0) (Kd.R_base ho1); replace HOB2 := tldR HOB2 hb (Kd.R_base ho0) (Kd.R_base ho1); replace BKA0 := bkb BKA0 hb; replace HB := bst HB hb; (try clear hb); (try clear hb2); (try clear hk); (try clear hi); (try clear ho0); (try clear ho1); obtain ⟨Ao48, co48, eo48⟩ := Kd.R_slice HOA8.out; subst eo48) | ((with_reducible refine gate_callee (f := 91) rfl ?_); refine gL_ (some 34) Try.func91 #[.slice Ao48 tA4.length co48] ?_; (with_reducible refine (slices_Clone_int_int.calls _ _ tA4 tC0 _ ?side1 ?side2 A38.out).mono ?_); (case side1 => exact crC (Kd.R_reads' HOA8.out).2.2); (case side2 => exact (Kd.R_reads' HOA8.out).2.1); rintro e w49 ⟨vJ3, rfl, ho0, hb⟩; refine ⟨_, rfl, ?_⟩; replace HOA1 := eldV HOA1 (Kd.R_base ho0) hb; have HOE5 := lwR (nwR (nwR (nwR (nwR (nwR ho0 HOA2) HOA8) HOB2) HOB7) HOC7) HB; replace HOA2 := eldR HOA2 (Kd.R_base ho0) hb; replace HOA8 := eldR HOA8 (Kd.R_base ho0) hb; replace HOB2 := eldR HOB2 (Kd.R_base ho0) hb; replace HOB7 := eldR HOB7 (Kd.R_base ho0) hb; replace HOC7 := eldR HOC7 (Kd.R_base ho0) hb; replace BKA0 := bkb BKA0 hb; replace HB := bst HB hb; (try clear hb); (try clear hb2); (try clear hk); (try clear hi); (try clear ho0); obtain ⟨Ao50, co50, eo50⟩ := Kd.R_slice HOB7.out; subst eo50) | ((with_reducible refine gate_callee (f := 91) rfl ?_); refine gL_ (some 36) Try.func91 #[.slice Ao50 tA6.length co50] ?_; (with_reducible refine (slices_Clone_int_int.calls _ _ tA6 tB5 _ ?side1 ?side2 A39.out).mono ?_); (case side1 => exact crC (Kd.R_reads' HOB7.out).2.2); (case side2 => exact (Kd.R_reads' HOB7.out).2.1); rintro e w51 ⟨vJ4, rfl, ho0, hb⟩; refine ⟨_, rfl, ?_⟩; replace HOA1 := eldV HOA1 (Kd.R_base ho0) hb; have HOG7 := lwR (nwR (nwR (nwR (nwR (nwR (nwR ho0 HOA2) HOA8) HOB2) HOB7) HOC7) HOE5) HB; replace HOA2 := eldR HOA2 (Kd.R_base ho0) hb; replace HOA8 := eldR HOA8 (Kd.R_base ho0) hb; replace HOB2 := eldR HOB2 (Kd.R_base ho0) hb; replace HOB7 := eldR HOB7 (Kd.R_base ho0) hb; replace HOC7 := eldR HOC7 (Kd.R_base ho0) hb; replace HOE5 := eldR HOE5 (Kd.R_base ho0) hb; replace BKA0 := bkb BKA0 hb; replace HB := bst HB hb; (try clear hb); (try clear hb2); (try clear hk); (try clear hi); (try clear ho0); obtain ⟨Ao52, co52, eo52⟩ := Kd.R_slice HOG7.out; subst eo52; obtain ⟨Ao53, co53, eo53⟩ := Kd.R_slice HOE5.out; subst eo53; obtain ⟨hcz54_0, hcz54_1, hcz54_2, hfz54_0, hfz54_1, hfz54_2⟩ := bc3 BKA0))
   refine bodyPost_ret (results_cell_row rfl _ _ gbA0 32 #[.bool (decide (0 < tA4.length)), .slice Ao53 tC0.length co53, .slice Ao52 tB5.length co52] (0, 0) _ rfl (bp3 BKA0 _ _ _) Try.underlying32 rfl (by kernel_rfl)) rfl ?_
   exact ⟨_, _, by first | rfl | (simp only [lowest_gt]; rfl) | (simp [errW_none, errW_some] <;> rfl) | (simp [*, errW_none, errW_some] <;> rfl), (crN HOE5 BKA0 fun _ hk => hk.1.2), (crN HOG7 BKA0 fun _ hk => hk.1.2), blw HB⟩
  ·
   replace c37 := Bool.eq_false_iff.mpr c37
   subst c37
   rw [if_neg (show ¬ (false = true) by decide)] at H
   replace H := Option.bind_eq_some_iff.mp H
   obtain ⟨tC1, AG8, H⟩ := H
   replace H : ((slices_Clone_int_int.f tA6).bind fun tB6 => (some (false, tC1, tB6))) = some (r1, r2, r3) := H
   have A55 := Aside0.mk AG8
   clear AG8
   replace H := Option.bind_eq_some_iff.mp H
   obtain ⟨tB6, AG9, H⟩ := H
   replace H : (some (false, tC1, tB6)) = some (r1, r2, r3) := H
   have A56 := Aside0.mk AG9
   clear AG9
   simp only [Option.some.injEq, Prod.mk.injEq] at H
   obtain ⟨rfl, rfl, rfl⟩ := H
   go_enter Try.func80, Try.ntmps80
   go_wp2_with (first | ((with_reducible refine gate_dst (N := 6) rfl ?_); (try (refine gate_guard (by rfl) ?_; dsimp only)); refine bx_ (N := 6) (cs := #[.bool false, .slice none 0 0, .slice none 0 0]) (t := 32) ?_; intro gbA0 hg w57 hbox hb; have BKA0 := Aside0.mk (hbox); have GWA0 := geh hg HB; have GEA0 := geh hg HB; replace HB := bst HB hb; clear hb hbox hg) | ((with_reducible refine gate_callee (f := 67) rfl ?_); refine gL_ (some 10) Try.func67 #[.slice A1 l1.length c1, .slice A2 l2.length c2] ?_; (with_reducible refine (impl_natGcd.calls k (fun k_ => k_ < w.heap.size) _ _ l1 (fun k_ => k_ < w.heap.size) _ _ l2 tA3 _ ?side1 ?side2 A4.out).mono ?_); (case side1 => exact Kd.V_mk HC1.out (Kd.F_below (Kd.C_F (Kd.heap_int .i64) HR1.out) (blw HB))); (case side2 => exact Kd.V_mk HC2.out (Kd.F_below (Kd.C_F (Kd.heap_int .i64) HR2.out) (blw HB))); rintro e w58 ⟨vE7, rfl, ho0, hb⟩; refine ⟨_, rfl, ?_⟩; have HOA1 := Aside0.mk (Kd.V_lower (Kd.V_mono (ok' := fun k_ => k_ ≠ gbA0) ho0 (fun k_ hk_ => Or.elim hk_ (fun hs_ => Or.elim hs_ (fun hs_ => fun e_ => Nat.not_le.2 hs_ (by rw [e_]; exact GWA0.out)) (fun hs_ => fun e_ => Nat.not_le.2 hs_ (by rw [e_]; exact GWA0.out))) (fun hn_ => (Kd.freshB (g := gbA0) (o := .cells #[.bool false, .slice none 0 0, .slice none 0 0] 32 (0, 0)) (crb BKA0) k_ hn_)))) (bsz HB)); replace BKA0 := bkb BKA0 hb; replace HB := bst HB hb; (try clear hb); (try clear hb2); (try clear hk); (try clear hi); (try clear ho0)) | ((with_reducible refine gate_callee (f := 68) rfl ?_); refine gL_ (some 12) Try.func68 #[] ?_; (with_reducible refine (impl_one.calls  tB4 _ A5.out).mono ?_); rintro e w59 ⟨vE8, rfl, ho0, hb⟩; refine ⟨_, rfl, ?_⟩; replace HOA1 := eldV HOA1 (Kd.R_base ho0) hb; have HOA2 := lwR ho0 HB; replace BKA0 := bkb BKA0 hb; replace HB := bst HB hb; (try clear hb); (try clear hb2); (try clear hk); (try clear hi); (try clear ho0); obtain ⟨Ao60, co60, eo60⟩ := Kd.V_slice HOA1.out; subst eo60; obtain ⟨Ao61, co61, eo61⟩ := Kd.R_slice HOA2.out; subst eo61) | ((with_reducible refine gate_callee (f := 66) rfl ?_); refine gL_ (some 13) Try.func66 #[.slice Ao60 tA3.length co60, .slice Ao61 tB4.length co61] ?_; (with_reducible refine (impl_natCmp.calls _ _ tA3 _ _ tB4 tB9 _ ?side1 ?side2 ?side3 ?side4 A6.out).mono ?_); (case side1 => exact crC (Kd.V_reads' HOA1.out).2.2); (case side2 => exact (Kd.V_reads' HOA1.out).2.1); (case side3 => exact crC (Kd.R_reads' HOA2.out).2.2); (case side4 => exact (Kd.R_reads' HOA2.out).2.1); rintro e w62 ⟨rfl, hb⟩; refine ⟨_, rfl, ?_⟩; replace HOA1 := rblV HOA1 hb; replace HOA2 := rblR HOA2 hb; replace BKA0 := bkb BKA0 hb; replace HB := bst HB hb; (try clear hb); (try clear hb2); (try clear hk); (try clear hi)) | ((with_reducible refine gate_callee (f := 87) rfl ?_); refine gL_ (some 18) Try.func87 #[.slice A1 l1.length c1, .slice Ao60 tA3.length co60] ?_; (with_reducible refine (impl_natDiv.calls _ _ l1 _ _ tA3 tA4 tG1 _ ?side1 ?side2 ?side3 ?side4 A35.out).mono ?_); (case side1 => exact crC (Kd.C_below HR1.out HB.out)); (case side2 => exact HC1.out); (case side3 => exact crC (Kd.V_reads' HOA1.out).2.2); (case side4 => exact (Kd.V_reads' HOA1.out).2.1); rintro e w63 ⟨vH7, vH8, rfl, ho0, ho1, hb⟩; refine ⟨_, rfl, ?_⟩; replace HOA1 := tldV HOA1 hb (Kd.R_base ho0) (Kd.R_base ho1); have HOA8 := lwR (nwR ho0 HOA2) HB; have HOB2 := lwR (nwR ho1 HOA2) HB; replace HOA2 := tldR HOA2 hb (Kd.R_base ho0) (Kd.R_base ho1); replace BKA0 := bkb BKA0 hb; replace HB := bst HB hb; (try clear hb); (try clear hb2); (try clear hk); (try clear hi); (try clear ho0); (try clear ho1)) | ((with_reducible refine gate_callee (f := 87) rfl ?_); refine gL_ (some 24) Try.func87 #[.slice A2 l2.length c2, .slice Ao60 tA3.length co60] ?_; (with_reducible refine (impl_natDiv.calls _ _ l2 _ _ tA3 tA6 tG3 _ ?side1 ?side2 ?side3 ?side4 A36.out).mono ?_); (case side1 => exact crC (Kd.C_below HR2.out HB.out)); (case side2 => exact HC2.out); (case side3 => exact crC (Kd.V_reads' HOA1.out).2.2); (case side4 => exact (Kd.V_reads' HOA1.out).2.1); rintro e w64 ⟨vH9, vI0, rfl, ho0, ho1, hb⟩; refine ⟨_, rfl, ?_⟩; replace HOA1 := tldV HOA1 hb (Kd.R_base ho0) (Kd.R_base ho1); have HOB7 := lwR (nwR (nwR (nwR ho0 HOA2) HOA8) HOB2) HB; have HOC7 := lwR (nwR (nwR (nwR ho1 HOA2) HOA8) HOB2) HB; replace HOA2 := tldR HOA2 hb (Kd.R_base ho0) (Kd.R_base ho1); replace HOA8 := tldR HOA8 hb (Kd.R_base ho0) (Kd.R_base ho1); replace HOB2 := tldR HOB2 hb (Kd.R_base ho0) (Kd.R_base ho1); replace BKA0 := bkb BKA0 hb; replace HB := bst HB hb; (try clear hb); (try clear hb2); (try clear hk); (try clear hi); (try clear ho0); (try clear ho1); obtain ⟨Ao65, co65, eo65⟩ := Kd.R_slice HOA8.out; subst eo65) | ((with_reducible refine gate_callee (f := 91) rfl ?_); refine gL_ (some 34) Try.func91 #[.slice Ao65 tA4.length co65] ?_; (with_reducible refine (slices_Clone_int_int.calls _ _ tA4 tC1 _ ?side1 ?side2 A55.out).mono ?_); (case side1 => exact crC (Kd.R_reads' HOA8.out).2.2); (case side2 => exact (Kd.R_reads' HOA8.out).2.1); rintro e w66 ⟨vJ5, rfl, ho0, hb⟩; refine ⟨_, rfl, ?_⟩; replace HOA1 := eldV HOA1 (Kd.R_base ho0) hb; have HOE6 := lwR (nwR (nwR (nwR (nwR (nwR ho0 HOA2) HOA8) HOB2) HOB7) HOC7) HB; replace HOA2 := eldR HOA2 (Kd.R_base ho0) hb; replace HOA8 := eldR HOA8 (Kd.R_base ho0) hb; replace HOB2 := eldR HOB2 (Kd.R_base ho0) hb; replace HOB7 := eldR HOB7 (Kd.R_base ho0) hb; replace HOC7 := eldR HOC7 (Kd.R_base ho0) hb; replace BKA0 := bkb BKA0 hb; replace HB := bst HB hb; (try clear hb); (try clear hb2); (try clear hk); (try clear hi); (try clear ho0); obtain ⟨Ao67, co67, eo67⟩ := Kd.R_slice HOB7.out; subst eo67) | ((with_reducible refine gate_callee (f := 91) rfl ?_); refine gL_ (some 36) Try.func91 #[.slice Ao67 tA6.length co67] ?_; (with_reducible refine (slices_Clone_int_int.calls _ _ tA6 tB6 _ ?side1 ?side2 A56.out).mono ?_); (case side1 => exact crC (Kd.R_reads' HOB7.out).2.2); (case side2 => exact (Kd.R_reads' HOB7.out).2.1); rintro e w68 ⟨vJ6, rfl, ho0, hb⟩; refine ⟨_, rfl, ?_⟩; replace HOA1 := eldV HOA1 (Kd.R_base ho0) hb; have HOH0 := lwR (nwR (nwR (nwR (nwR (nwR (nwR ho0 HOA2) HOA8) HOB2) HOB7) HOC7) HOE6) HB; replace HOA2 := eldR HOA2 (Kd.R_base ho0) hb; replace HOA8 := eldR HOA8 (Kd.R_base ho0) hb; replace HOB2 := eldR HOB2 (Kd.R_base ho0) hb; replace HOB7 := eldR HOB7 (Kd.R_base ho0) hb; replace HOC7 := eldR HOC7 (Kd.R_base ho0) hb; replace HOE6 := eldR HOE6 (Kd.R_base ho0) hb; replace BKA0 := bkb BKA0 hb; replace HB := bst HB hb; (try clear hb); (try clear hb2); (try clear hk); (try clear hi); (try clear ho0); obtain ⟨Ao69, co69, eo69⟩ := Kd.R_slice HOH0.out; subst eo69; obtain ⟨Ao70, co70, eo70⟩ := Kd.R_slice HOE6.out; subst eo70; obtain ⟨hcz71_0, hcz71_1, hcz71_2, hfz71_0, hfz71_1, hfz71_2⟩ := bc3 BKA0))
   refine bodyPost_ret (results_cell_row rfl _ _ gbA0 32 #[.bool false, .slice Ao70 tC1.length co70, .slice Ao69 tB6.length co69] (0, 0) _ rfl (bp3 BKA0 _ _ _) Try.underlying32 rfl (by kernel_rfl)) rfl ?_
   exact ⟨_, _, by first | rfl | (simp only [lowest_gt]; rfl) | (simp [errW_none, errW_some] <;> rfl) | (simp [*, errW_none, errW_some] <;> rfl), (crN HOE6 BKA0 fun _ hk => hk.1.2), (crN HOH0 BKA0 fun _ hk => hk.1.2), blw HB⟩

end Go.Proofs.Ytegbmillbbcmfaa.Q
