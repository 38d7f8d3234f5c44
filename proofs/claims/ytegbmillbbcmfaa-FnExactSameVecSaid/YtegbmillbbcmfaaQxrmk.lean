-- written by a program of this claim's session (myprint.py) out of the translation; Lean checks it.
import Derived.Test.YtegbmillbbcmfaaQx0
import Derived.Test.YtegbmillbbcmfaaSq
import Derived.Test.YtegbmillbbcmfaaQxcmp
import Derived.Test.YtegbmillbbcmfaaQxrk
import Derived.Test.YtegbmillbbcmfaaQxdiv
import Derived.Test.YtegbmillbbcmfaaQxsub
import Derived.Test.YtegbmillbbcmfaaQxgcd
namespace Go.Proofs.Ytegbmillbbcmfaa.Q
open Go.RowKit Go.Proofs.YtegbmillbbcmfaaW.PrintWords Go.Proofs.YtegbmillbbcmfaaW.PrintLast Go.Proofs.YtegbmillbbcmfaaW.PrintMore
attribute [local go_sem] max2_int min2_int max_two min_two max_three min_three max_four min_four   -- for this text's walks alone
set_option linter.unusedVariables false
set_option linter.unusedSimpArgs false

theorem l02Make_gt (l : List Int) : decide (0 < l.length) = decide ((l.length : Int) > 0) := by simp only [decide_eq_decide]; omega
def spec_l02Make.f (k : Nat) (a0 : Bool) (l1 : List Int) (l2 : List Int) : Option (Bool × List Int × List Int) := (spec_l01Gcd.f k l1 l2).bind fun tB8 => ((spec_l01Div.f k l1 tB8).bind fun btA9 => ((spec_l01Div.f k l2 tB8).bind fun btB5 => (if a0 = true then (some (decide ((btA9.1.length : Int) > 0), btA9.1, btB5.1)) else (some (false, btA9.1, btB5.1)))))
theorem spec_l02Make.mono : ∀ a0 a1 a2 k, LeO (spec_l02Make.f k a0 a1 a2) (spec_l02Make.f (k + 1) a0 a1 a2) := by
 intro a0 a1 a2 k
 unfold spec_l02Make.f
 repeat' first
   | (with_reducible exact spec_l01Div.mono _ _ _)
   | (with_reducible exact spec_l01Gcd.mono _ _ _)
   | (with_reducible exact LeO.refl _)
   | (with_reducible exact LeO.none _)
   | (with_reducible refine LeO.ite ?_ ?_)
   | (with_reducible refine LeO.bind ?_ (fun _ => ?_))
   | exact spec_l01Div.mono _ _ _
   | exact spec_l01Gcd.mono _ _ _
   | exact LeO.none _
   | refine LeO.ite ?_ ?_
   | refine LeO.bind ?_ (fun _ => ?_)
set_option maxHeartbeats 8000000 in
set_option maxRecDepth 100000 in
theorem spec_l02Make.calls (k : Nat) (a0 : Bool) (A1 : Option Addr) (c1 : Nat) (l1 : List Int) (A2 : Option Addr) (c2 : Nat) (l2 : List Int) (r1 : Bool) (r2 : List Int) (r3 : List Int) (w : World) (hr1 : Kd.C (Kd.int .i64) w A1 l1.length l1) (hc1 : l1.length ≤ c1) (hr2 : Kd.C (Kd.int .i64) w A2 l2.length l2) (hc2 : l2.length ≤ c2) (h : spec_l02Make.f k a0 l1 l2 = some (r1, r2, r3)) :
  Calls Try.prog 75 #[.bool a0, .slice A1 l1.length c1, .slice A2 l2.length c2] w fun e w' => ∃ v1_ v2_ : Value, e = .returned (.agg #[.bool r1, v1_, v2_]) ∧ Kd.R (Kd.int .i64) 3 w' w.heap.size (fun k_ => nO k_ v2_) v1_ r2 ∧ Kd.R (Kd.int .i64) 3 w' w.heap.size (fun k_ => nO k_ v1_) v2_ r3 ∧ Below w.heap.size w w' := by
 have hu32 := Try.underlying32
 have HR1 := Aside0.mk hr1
 have HC1 := Aside0.mk hc1
 clear hr1 hc1
 have HR2 := Aside0.mk hr2
 have HC2 := Aside0.mk hc2
 clear hr2 hc2
 have HB := Aside0.mk (Below.refl w.heap.size w)
 have H : ((spec_l01Gcd.f k l1 l2).bind fun tB8 => ((spec_l01Div.f k l1 tB8).bind fun btA9 => ((spec_l01Div.f k l2 tB8).bind fun btB5 => (if a0 = true then (some (decide ((btA9.1.length : Int) > 0), btA9.1, btB5.1)) else (some (false, btA9.1, btB5.1)))))) = some (r1, r2, r3) := h
 clear h
 replace H := Option.bind_eq_some_iff.mp H
 obtain ⟨tB8, A40, H⟩ := H
 replace H : ((spec_l01Div.f k l1 tB8).bind fun btA9 => ((spec_l01Div.f k l2 tB8).bind fun btB5 => (if a0 = true then (some (decide ((btA9.1.length : Int) > 0), btA9.1, btB5.1)) else (some (false, btA9.1, btB5.1))))) = some (r1, r2, r3) := H
 have A4 := Aside0.mk A40
 clear A40
 replace H := Option.bind_eq_some_iff.mp H
 obtain ⟨⟨tA9, tE9⟩, A50, H⟩ := H
 replace H : ((spec_l01Div.f k l2 tB8).bind fun btB5 => (if a0 = true then (some (decide ((tA9.length : Int) > 0), tA9, btB5.1)) else (some (false, tA9, btB5.1)))) = some (r1, r2, r3) := H
 have A5 := Aside0.mk A50
 clear A50
 replace H := Option.bind_eq_some_iff.mp H
 obtain ⟨⟨tB5, tF0⟩, A60, H⟩ := H
 replace H : (if a0 = true then (some (decide ((tA9.length : Int) > 0), tA9, tB5)) else (some (false, tA9, tB5))) = some (r1, r2, r3) := H
 have A6 := Aside0.mk A60
 clear A60
 by_cases c7 : a0 = true
 ·
  subst c7
  have H1 : (some (decide ((tA9.length : Int) > 0), tA9, tB5)) = some (r1, r2, r3) := by rw [if_pos rfl] at H; exact H
  clear H
  have H := H1
  clear H1
  simp only [Option.some.injEq, Prod.mk.injEq] at H
  obtain ⟨rfl, rfl, rfl⟩ := H
  go_enter Try.func75, Try.ntmps75
  go_wp2_with (first | ((with_reducible refine gate_dst (N := 6) rfl ?_); (try (refine gate_guard (by rfl) ?_; dsimp only)); refine bx_ (N := 6) (cs := #[.bool false, .slice none 0 0, .slice none 0 0]) (t := 32) ?_; intro gbA6 hg w8 hbox hb; have BKA6 := Aside0.mk (hbox); have GWA6 := geh hg HB; have GEA6 := geh hg HB; replace HB := bst HB hb; clear hb hbox hg) | ((with_reducible refine gate_callee (f := 41) rfl ?_); refine gL_ (some 14) Try.func41 #[.slice A1 l1.length c1, .slice A2 l2.length c2] ?_; (with_reducible refine (spec_l01Gcd.calls k (fun k_ => k_ < w.heap.size) _ _ l1 (fun k_ => k_ < w.heap.size) _ _ l2 tB8 _ ?side1 ?side2 A4.out).mono ?_); (case side1 => exact Kd.V_mk HC1.out (Kd.F_below (Kd.C_F (Kd.heap_int .i64) HR1.out) (blw HB))); (case side2 => exact Kd.V_mk HC2.out (Kd.F_below (Kd.C_F (Kd.heap_int .i64) HR2.out) (blw HB))); rintro e w9 ⟨vH1, rfl, ho0, hb⟩; refine ⟨_, rfl, ?_⟩; have HOA7 := lwR (Kd.R_mono (ok' := fun k_ => True) ho0 (fun _ hk_ => trivial)) HB; replace BKA6 := bkb BKA6 hb; replace HB := bst HB hb; (try clear hb); (try clear hb2); (try clear hk); (try clear hi); (try clear ho0); obtain ⟨Ao10, co10, eo10⟩ := Kd.R_slice HOA7.out; subst eo10) | ((with_reducible refine gate_callee (f := 62) rfl ?_); refine gL_ (some 18) Try.func62 #[.slice A1 l1.length c1, .slice Ao10 tB8.length co10] ?_; (with_reducible refine (spec_l01Div.calls k _ _ l1 _ _ tB8 tA9 tE9 _ ?side1 ?side2 ?side3 ?side4 A5.out).mono ?_); (case side1 => exact crC (Kd.C_below HR1.out HB.out)); (case side2 => exact HC1.out); (case side3 => exact crC (Kd.R_reads' HOA7.out).2.2); (case side4 => exact (Kd.R_reads' HOA7.out).2.1); rintro e w11 ⟨vH2, vH3, rfl, ho0, ho1, hb⟩; refine ⟨_, rfl, ?_⟩; have HOC6 := lwR (nwR ho0 HOA7) HB; have HOC8 := lwR (nwR ho1 HOA7) HB; replace HOA7 := tldR HOA7 hb (Kd.R_base ho0) (Kd.R_base ho1); replace BKA6 := bkb BKA6 hb; replace HB := bst HB hb; (try clear hb); (try clear hb2); (try clear hk); (try clear hi); (try clear ho0); (try clear ho1)) | ((with_reducible refine gate_callee (f := 62) rfl ?_); refine gL_ (some 24) Try.func62 #[.slice A2 l2.length c2, .slice Ao10 tB8.length co10] ?_; (with_reducible refine (spec_l01Div.calls k _ _ l2 _ _ tB8 tB5 tF0 _ ?side1 ?side2 ?side3 ?side4 A6.out).mono ?_); (case side1 => exact crC (Kd.C_below HR2.out HB.out)); (case side2 => exact HC2.out); (case side3 => exact crC (Kd.R_reads' HOA7.out).2.2); (case side4 => exact (Kd.R_reads' HOA7.out).2.1); rintro e w12 ⟨vH4, vH5, rfl, ho0, ho1, hb⟩; refine ⟨_, rfl, ?_⟩; have HOD5 := lwR (nwR (nwR (nwR ho0 HOA7) HOC6) HOC8) HB; have HOH6 := lwR (nwR (nwR (nwR ho1 HOA7) HOC6) HOC8) HB; replace HOA7 := tldR HOA7 hb (Kd.R_base ho0) (Kd.R_base ho1); replace HOC6 := tldR HOC6 hb (Kd.R_base ho0) (Kd.R_base ho1); replace HOC8 := tldR HOC8 hb (Kd.R_base ho0) (Kd.R_base ho1); replace BKA6 := bkb BKA6 hb; replace HB := bst HB hb; (try clear hb); (try clear hb2); (try clear hk); (try clear hi); (try clear ho0); (try clear ho1); obtain ⟨Ao13, co13, eo13⟩ := Kd.R_slice HOC6.out; subst eo13; obtain ⟨Ao14, co14, eo14⟩ := Kd.R_slice HOD5.out; subst eo14; obtain ⟨hcz15_0, hcz15_1, hcz15_2, hfz15_0, hfz15_1, hfz15_2⟩ := bc3 BKA6))
  refine bodyPost_ret (results_cell_row rfl _ _ gbA6 32 #[.bool (decide (0 < tA9.length)), .slice Ao13 tA9.length co13, .slice Ao14 tB5.length co14] (0, 0) _ rfl (bp3 BKA6 _ _ _) Try.underlying32 rfl (by kernel_rfl)) rfl ?_
  exact ⟨_, _, by first | rfl | (simp only [l02Make_gt]; rfl) | (simp [errW_none, errW_some] <;> rfl) | (simp [*, errW_none, errW_some] <;> rfl), (crN HOC6 BKA6 fun _ hk => hk.1.1.2), (crN HOD5 BKA6 fun _ hk => hk.1.1.2), blw HB⟩
 ·
  replace c7 := Bool.eq_false_iff.mpr c7
  subst c7
  have H1 : (some (false, tA9, tB5)) = some (r1, r2, r3) := by rw [if_neg (show ¬ (false = true) by decide)] at H; exact H
  clear H
  have H := H1
  clear H1
  simp only [Option.some.injEq, Prod.mk.injEq] at H
  obtain ⟨rfl, rfl, rfl⟩ := H
  go_enter Try.func75, Try.ntmps75
  go_wp2_with (first | ((with_reducible refine gate_dst (N := 6) rfl ?_); (try (refine gate_guard (by rfl) ?_; dsimp only)); refine bx_ (N := 6) (cs := #[.bool false, .slice none 0 0, .slice none 0 0]) (t := 32) ?_; intro gbA6 hg w16 hbox hb; have BKA6 := Aside0.mk (hbox); have GWA6 := geh hg HB; have GEA6 := geh hg HB; replace HB := bst HB hb; clear hb hbox hg) | ((with_reducible refine gate_callee (f := 41) rfl ?_); refine gL_ (some 14) Try.func41 #[.slice A1 l1.length c1, .slice A2 l2.length c2] ?_; (with_reducible refine (spec_l01Gcd.calls k (fun k_ => k_ < w.heap.size) _ _ l1 (fun k_ => k_ < w.heap.size) _ _ l2 tB8 _ ?side1 ?side2 A4.out).mono ?_); (case side1 => exact Kd.V_mk HC1.out (Kd.F_below (Kd.C_F (Kd.heap_int .i64) HR1.out) (blw HB))); (case side2 => exact Kd.V_mk HC2.out (Kd.F_below (Kd.C_F (Kd.heap_int .i64) HR2.out) (blw HB))); rintro e w17 ⟨vH1, rfl, ho0, hb⟩; refine ⟨_, rfl, ?_⟩; have HOA7 := lwR (Kd.R_mono (ok' := fun k_ => True) ho0 (fun _ hk_ => trivial)) HB; replace BKA6 := bkb BKA6 hb; replace HB := bst HB hb; (try clear hb); (try clear hb2); (try clear hk); (try clear hi); (try clear ho0); obtain ⟨Ao18, co18, eo18⟩ := Kd.R_slice HOA7.out; subst eo18) | ((with_reducible refine gate_callee (f := 62) rfl ?_); refine gL_ (some 18) Try.func62 #[.slice A1 l1.length c1, .slice Ao18 tB8.length co18] ?_; (with_reducible refine (spec_l01Div.calls k _ _ l1 _ _ tB8 tA9 tE9 _ ?side1 ?side2 ?side3 ?side4 A5.out).mono ?_); (case side1 => exact crC (Kd.C_below HR1.out HB.out)); (case side2 => exact HC1.out); (case side3 => exact crC (Kd.R_reads' HOA7.out).2.2); (case side4 => exact (Kd.R_reads' HOA7.out).2.1); rintro e w19 ⟨vH2, vH3, rfl, ho0, ho1, hb⟩; refine ⟨_, rfl, ?_⟩; have HOC6 := lwR (nwR ho0 HOA7) HB; have HOC8 := lwR (nwR ho1 HOA7) HB; replace HOA7 := tldR HOA7 hb (Kd.R_base ho0) (Kd.R_base ho1); replace BKA6 := bkb BKA6 hb; replace HB := bst HB hb; (try clear hb); (try clear hb2); (try clear hk); (try clear hi); (try clear ho0); (try clear ho1)) | ((with_reducible refine gate_callee (f := 62) rfl ?_); refine gL_ (some 24) Try.func62 #[.slice A2 l2.length c2, .slice Ao18 tB8.length co18] ?_; (with_reducible refine (spec_l01Div.calls k _ _ l2 _ _ tB8 tB5 tF0 _ ?side1 ?side2 ?side3 ?side4 A6.out).mono ?_); (case side1 => exact crC (Kd.C_below HR2.out HB.out)); (case side2 => exact HC2.out); (case side3 => exact crC (Kd.R_reads' HOA7.out).2.2); (case side4 => exact (Kd.R_reads' HOA7.out).2.1); rintro e w20 ⟨vH4, vH5, rfl, ho0, ho1, hb⟩; refine ⟨_, rfl, ?_⟩; have HOD5 := lwR (nwR (nwR (nwR ho0 HOA7) HOC6) HOC8) HB; have HOH6 := lwR (nwR (nwR (nwR ho1 HOA7) HOC6) HOC8) HB; replace HOA7 := tldR HOA7 hb (Kd.R_base ho0) (Kd.R_base ho1); replace HOC6 := tldR HOC6 hb (Kd.R_base ho0) (Kd.R_base ho1); replace HOC8 := tldR HOC8 hb (Kd.R_base ho0) (Kd.R_base ho1); replace BKA6 := bkb BKA6 hb; replace HB := bst HB hb; (try clear hb); (try clear hb2); (try clear hk); (try clear hi); (try clear ho0); (try clear ho1); obtain ⟨Ao21, co21, eo21⟩ := Kd.R_slice HOD5.out; subst eo21; obtain ⟨Ao22, co22, eo22⟩ := Kd.R_slice HOC6.out; subst eo22; obtain ⟨hcz23_0, hcz23_1, hcz23_2, hfz23_0, hfz23_1, hfz23_2⟩ := bc3 BKA6))
  refine bodyPost_ret (results_cell_row rfl _ _ gbA6 32 #[.bool false, .slice Ao22 tA9.length co22, .slice Ao21 tB5.length co21] (0, 0) _ rfl (bp3 BKA6 _ _ _) Try.underlying32 rfl (by kernel_rfl)) rfl ?_
  exact ⟨_, _, by first | rfl | (simp only [l02Make_gt]; rfl) | (simp [errW_none, errW_some] <;> rfl) | (simp [*, errW_none, errW_some] <;> rfl), (crN HOC6 BKA6 fun _ hk => hk.1.1.2), (crN HOD5 BKA6 fun _ hk => hk.1.1.2), blw HB⟩

end Go.Proofs.Ytegbmillbbcmfaa.Q
