-- written by a program of this claim's session (myprint.py) out of the translation; Lean checks it.
import Derived.Test.YtegbmillbbcmfaaQx0
import Derived.Test.YtegbmillbbcmfaaSq
import Derived.Test.YtegbmillbbcmfaaQxcmp
import Derived.Test.YtegbmillbbcmfaaQxdiv
import Derived.Test.YtegbmillbbcmfaaQxsub
import Derived.Test.YtegbmillbbcmfaaQxgcd
import Derived.Test.YtegbmillbbcmfaaQxrk
namespace Go.Proofs.Ytegbmillbbcmfaa.Q
open Go.RowKit Go.Proofs.YtegbmillbbcmfaaW.PrintWords Go.Proofs.YtegbmillbbcmfaaW.PrintLast Go.Proofs.YtegbmillbbcmfaaW.PrintMore
attribute [local go_sem] max2_int min2_int max_two min_two max_three min_three max_four min_four   -- for this text's walks alone
set_option linter.unusedVariables false
set_option linter.unusedSimpArgs false

/-! ### spec_l02Make: function 75 -/
theorem l02Make_gt (l : List Int) : decide (0 < l.length) = decide ((l.length : Int) > 0) := by simp only [decide_eq_decide]; omega
def spec_l02Make.f (k : Nat) (a0 : Bool) (l1 : List Int) (l2 : List Int) : Option (Bool × List Int × List Int) := (spec_l01Gcd.f k l1 l2).bind fun t260 => ((spec_l01Div.f k l1 t260).bind fun bt263 => ((spec_l01Div.f k l2 t260).bind fun bt269 => (if a0 = true then (some (decide ((bt263.1.length : Int) > 0), bt263.1, bt269.1)) else (some (false, bt263.1, bt269.1)))))
theorem spec_l02Make.mono : ∀ a0 a1 a2 k, LeO (spec_l02Make.f k a0 a1 a2) (spec_l02Make.f (k + 1) a0 a1 a2) := by
 intro a0 a1 a2 k
 unfold spec_l02Make.f
 repeat' first
   | (with_reducible exact spec_l01Div.mono _ _ _)
   | (with_reducible exact spec_l01Gcd.mono _ _ _)
   | (with_reducible exact LeO.refl _)
   | (with_reducible exact LeO.none _)
   | (with_reducible refine LeO.ite ?_ ?_)
   | (with_reducible refine LeO.bind ?_ (fun _ => ?_))
   | exact spec_l01Div.mono _ _ _
   | exact spec_l01Gcd.mono _ _ _
   | exact LeO.none _
   | refine LeO.ite ?_ ?_
   | refine LeO.bind ?_ (fun _ => ?_)
set_option maxHeartbeats 8000000 in
set_option maxRecDepth 100000 in
theorem spec_l02Make.calls (k : Nat) (a0 : Bool) (A1 : Option Addr) (c1 : Nat) (l1 : List Int) (A2 : Option Addr) (c2 : Nat) (l2 : List Int) (r1 : Bool) (r2 : List Int) (r3 : List Int) (w : World) (hr1 : Kd.C (Kd.int .i64) w A1 l1.length l1) (hc1 : l1.length ≤ c1) (hr2 : Kd.C (Kd.int .i64) w A2 l2.length l2) (hc2 : l2.length ≤ c2) (h : spec_l02Make.f k a0 l1 l2 = some (r1, r2, r3)) :
  Calls Try.prog 75 #[.bool a0, .slice A1 l1.length c1, .slice A2 l2.length c2] w fun e w' => ∃ v1_ v2_ : Value, e = .returned (.agg #[.bool r1, v1_, v2_]) ∧ Kd.R (Kd.int .i64) 3 w' w.heap.size (fun k_ => nO k_ v2_) v1_ r2 ∧ Kd.R (Kd.int .i64) 3 w' w.heap.size (fun k_ => nO k_ v1_) v2_ r3 ∧ Below w.heap.size w w' := by
 have hu32 := Try.underlying32
 have HR1 := Aside0.mk hr1
 have HC1 := Aside0.mk hc1
 clear hr1 hc1
 have HR2 := Aside0.mk hr2
 have HC2 := Aside0.mk hc2
 clear hr2 hc2
 have HB := Aside0.mk (Below.refl w.heap.size w)
 have H : ((spec_l01Gcd.f k l1 l2).bind fun t260 => ((spec_l01Div.f k l1 t260).bind fun bt263 => ((spec_l01Div.f k l2 t260).bind fun bt269 => (if a0 = true then (some (decide ((bt263.1.length : Int) > 0), bt263.1, bt269.1)) else (some (false, bt263.1, bt269.1)))))) = some (r1, r2, r3) := h
 clear h
 replace H := Option.bind_eq_some_iff.mp H
 obtain ⟨t260, A40, H⟩ := H
 replace H : ((spec_l01Div.f k l1 t260).bind fun bt263 => ((spec_l01Div.f k l2 t260).bind fun bt269 => (if a0 = true then (some (decide ((bt263.1.length : Int) > 0), bt263.1, bt269.1)) else (some (false, bt263.1, bt269.1))))) = some (r1, r2, r3) := H
 have A4 := Aside0.mk A40
 clear A40
 replace H := Option.bind_eq_some_iff.mp H
 obtain ⟨⟨t263, t264⟩, A50, H⟩ := H
 replace H : ((spec_l01Div.f k l2 t260).bind fun bt269 => (if a0 = true then (some (decide ((t263.length : Int) > 0), t263, bt269.1)) else (some (false, t263, bt269.1)))) = some (r1, r2, r3) := H
 have A5 := Aside0.mk A50
 clear A50
 replace H := Option.bind_eq_some_iff.mp H
 obtain ⟨⟨t269, t270⟩, A60, H⟩ := H
 replace H : (if a0 = true then (some (decide ((t263.length : Int) > 0), t263, t269)) else (some (false, t263, t269))) = some (r1, r2, r3) := H
 have A6 := Aside0.mk A60
 clear A60
 by_cases c7 : a0 = true
 ·
  subst c7
  have H1 : (some (decide ((t263.length : Int) > 0), t263, t269)) = some (r1, r2, r3) := by rw [if_pos rfl] at H; exact H
  clear H
  have H := H1
  clear H1
  simp only [Option.some.injEq, Prod.mk.injEq] at H
  obtain ⟨rfl, rfl, rfl⟩ := H
  go_enter Try.func75, Try.ntmps75
  go_wp2_with (first | ((with_reducible refine gate_dst (N := 6) rfl ?_); (try (refine gate_guard (by rfl) ?_; dsimp only)); refine bx_ (N := 6) (cs := #[.bool false, .slice none 0 0, .slice none 0 0]) (t := 32) ?_; intro gb259 hg w8 hbox hb; have BK259 := Aside0.mk (hbox); have GW259 := geh hg HB; have GE259 := geh hg HB; replace HB := bst HB hb; clear hb hbox hg) | ((with_reducible refine gate_callee (f := 41) rfl ?_); refine gL_ (some 14) Try.func41 #[.slice A1 l1.length c1, .slice A2 l2.length c2] ?_; (with_reducible refine (spec_l01Gcd.calls k (fun k_ => k_ < w.heap.size) _ _ l1 (fun k_ => k_ < w.heap.size) _ _ l2 t260 _ ?side1 ?side2 A4.out).mono ?_); (case side1 => exact Kd.V_mk HC1.out (Kd.F_below (Kd.C_F (Kd.heap_int .i64) HR1.out) (blw HB))); (case side2 => exact Kd.V_mk HC2.out (Kd.F_below (Kd.C_F (Kd.heap_int .i64) HR2.out) (blw HB))); rintro e w9 ⟨v261, rfl, ho0, hb⟩; refine ⟨_, rfl, ?_⟩; have HO262 := lwR (Kd.R_mono (ok' := fun k_ => True) ho0 (fun _ hk_ => trivial)) HB; replace BK259 := bkb BK259 hb; replace HB := bst HB hb; (try clear hb); (try clear hb2); (try clear hk); (try clear hi); (try clear ho0); obtain ⟨Ao10, co10, eo10⟩ := Kd.R_slice HO262.out; subst eo10) | ((with_reducible refine gate_callee (f := 62) rfl ?_); refine gL_ (some 18) Try.func62 #[.slice A1 l1.length c1, .slice Ao10 t260.length co10] ?_; (with_reducible refine (spec_l01Div.calls k _ _ l1 _ _ t260 t263 t264 _ ?side1 ?side2 ?side3 ?side4 A5.out).mono ?_); (case side1 => exact crC (Kd.C_below HR1.out HB.out)); (case side2 => exact HC1.out); (case side3 => exact crC (Kd.R_reads' HO262.out).2.2); (case side4 => exact (Kd.R_reads' HO262.out).2.1); rintro e w11 ⟨v265, v267, rfl, ho0, ho1, hb⟩; refine ⟨_, rfl, ?_⟩; have HO266 := lwR (nwR ho0 HO262) HB; have HO268 := lwR (nwR ho1 HO262) HB; replace HO262 := tldR HO262 hb (Kd.R_base ho0) (Kd.R_base ho1); replace BK259 := bkb BK259 hb; replace HB := bst HB hb; (try clear hb); (try clear hb2); (try clear hk); (try clear hi); (try clear ho0); (try clear ho1)) | ((with_reducible refine gate_callee (f := 62) rfl ?_); refine gL_ (some 24) Try.func62 #[.slice A2 l2.length c2, .slice Ao10 t260.length co10] ?_; (with_reducible refine (spec_l01Div.calls k _ _ l2 _ _ t260 t269 t270 _ ?side1 ?side2 ?side3 ?side4 A6.out).mono ?_); (case side1 => exact crC (Kd.C_below HR2.out HB.out)); (case side2 => exact HC2.out); (case side3 => exact crC (Kd.R_reads' HO262.out).2.2); (case side4 => exact (Kd.R_reads' HO262.out).2.1); rintro e w12 ⟨v271, v273, rfl, ho0, ho1, hb⟩; refine ⟨_, rfl, ?_⟩; have HO272 := lwR (nwR (nwR (nwR ho0 HO262) HO266) HO268) HB; have HO274 := lwR (nwR (nwR (nwR ho1 HO262) HO266) HO268) HB; replace HO262 := tldR HO262 hb (Kd.R_base ho0) (Kd.R_base ho1); replace HO266 := tldR HO266 hb (Kd.R_base ho0) (Kd.R_base ho1); replace HO268 := tldR HO268 hb (Kd.R_base ho0) (Kd.R_base ho1); replace BK259 := bkb BK259 hb; replace HB := bst HB hb; (try clear hb); (try clear hb2); (try clear hk); (try clear hi); (try clear ho0); (try clear ho1); obtain ⟨Ao13, co13, eo13⟩ := Kd.R_slice HO266.out; subst eo13; obtain ⟨Ao14, co14, eo14⟩ := Kd.R_slice HO272.out; subst eo14; obtain ⟨hcz15_0, hcz15_1, hcz15_2, hfz15_0, hfz15_1, hfz15_2⟩ := bc3 BK259))
  refine bodyPost_ret (results_cell_row rfl _ _ gb259 32 #[.bool (decide (0 < t263.length)), .slice Ao13 t263.length co13, .slice Ao14 t269.length co14] (0, 0) _ rfl (bp3 BK259 _ _ _) Try.underlying32 rfl (by kernel_rfl)) rfl ?_
  exact ⟨_, _, by first | rfl | (simp only [l02Make_gt]; rfl) | (simp [errW_none, errW_some] <;> rfl) | (simp [*, errW_none, errW_some] <;> rfl), (crN HO266 BK259 fun _ hk => hk.1.1.2), (crN HO272 BK259 fun _ hk => hk.1.1.2), blw HB⟩
 ·
  replace c7 := Bool.eq_false_iff.mpr c7
  subst c7
  have H1 : (some (false, t263, t269)) = some (r1, r2, r3) := by rw [if_neg (show ¬ (false = true) by decide)] at H; exact H
  clear H
  have H := H1
  clear H1
  simp only [Option.some.injEq, Prod.mk.injEq] at H
  obtain ⟨rfl, rfl, rfl⟩ := H
  go_enter Try.func75, Try.ntmps75
  go_wp2_with (first | ((with_reducible refine gate_dst (N := 6) rfl ?_); (try (refine gate_guard (by rfl) ?_; dsimp only)); refine bx_ (N := 6) (cs := #[.bool false, .slice none 0 0, .slice none 0 0]) (t := 32) ?_; intro gb259 hg w16 hbox hb; have BK259 := Aside0.mk (hbox); have GW259 := geh hg HB; have GE259 := geh hg HB; replace HB := bst HB hb; clear hb hbox hg) | ((with_reducible refine gate_callee (f := 41) rfl ?_); refine gL_ (some 14) Try.func41 #[.slice A1 l1.length c1, .slice A2 l2.length c2] ?_; (with_reducible refine (spec_l01Gcd.calls k (fun k_ => k_ < w.heap.size) _ _ l1 (fun k_ => k_ < w.heap.size) _ _ l2 t260 _ ?side1 ?side2 A4.out).mono ?_); (case side1 => exact Kd.V_mk HC1.out (Kd.F_below (Kd.C_F (Kd.heap_int .i64) HR1.out) (blw HB))); (case side2 => exact Kd.V_mk HC2.out (Kd.F_below (Kd.C_F (Kd.heap_int .i64) HR2.out) (blw HB))); rintro e w17 ⟨v261, rfl, ho0, hb⟩; refine ⟨_, rfl, ?_⟩; have HO262 := lwR (Kd.R_mono (ok' := fun k_ => True) ho0 (fun _ hk_ => trivial)) HB; replace BK259 := bkb BK259 hb; replace HB := bst HB hb; (try clear hb); (try clear hb2); (try clear hk); (try clear hi); (try clear ho0); obtain ⟨Ao18, co18, eo18⟩ := Kd.R_slice HO262.out; subst eo18) | ((with_reducible refine gate_callee (f := 62) rfl ?_); refine gL_ (some 18) Try.func62 #[.slice A1 l1.length c1, .slice Ao18 t260.length co18] ?_; (with_reducible refine (spec_l01Div.calls k _ _ l1 _ _ t260 t263 t264 _ ?side1 ?side2 ?side3 ?side4 A5.out).mono ?_); (case side1 => exact crC (Kd.C_below HR1.out HB.out)); (case side2 => exact HC1.out); (case side3 => exact crC (Kd.R_reads' HO262.out).2.2); (case side4 => exact (Kd.R_reads' HO262.out).2.1); rintro e w19 ⟨v265, v267, rfl, ho0, ho1, hb⟩; refine ⟨_, rfl, ?_⟩; have HO266 := lwR (nwR ho0 HO262) HB; have HO268 := lwR (nwR ho1 HO262) HB; replace HO262 := tldR HO262 hb (Kd.R_base ho0) (Kd.R_base ho1); replace BK259 := bkb BK259 hb; replace HB := bst HB hb; (try clear hb); (try clear hb2); (try clear hk); (try clear hi); (try clear ho0); (try clear ho1)) | ((with_reducible refine gate_callee (f := 62) rfl ?_); refine gL_ (some 24) Try.func62 #[.slice A2 l2.length c2, .slice Ao18 t260.length co18] ?_; (with_reducible refine (spec_l01Div.calls k _ _ l2 _ _ t260 t269 t270 _ ?side1 ?side2 ?side3 ?side4 A6.out).mono ?_); (case side1 => exact crC (Kd.C_below HR2.out HB.out)); (case side2 => exact HC2.out); (case side3 => exact crC (Kd.R_reads' HO262.out).2.2); (case side4 => exact (Kd.R_reads' HO262.out).2.1); rintro e w20 ⟨v271, v273, rfl, ho0, ho1, hb⟩; refine ⟨_, rfl, ?_⟩; have HO272 := lwR (nwR (nwR (nwR ho0 HO262) HO266) HO268) HB; have HO274 := lwR (nwR (nwR (nwR ho1 HO262) HO266) HO268) HB; replace HO262 := tldR HO262 hb (Kd.R_base ho0) (Kd.R_base ho1); replace HO266 := tldR HO266 hb (Kd.R_base ho0) (Kd.R_base ho1); replace HO268 := tldR HO268 hb (Kd.R_base ho0) (Kd.R_base ho1); replace BK259 := bkb BK259 hb; replace HB := bst HB hb; (try clear hb); (try clear hb2); (try clear hk); (try clear hi); (try clear ho0); (try clear ho1); obtain ⟨Ao21, co21, eo21⟩ := Kd.R_slice HO272.out; subst eo21; obtain ⟨Ao22, co22, eo22⟩ := Kd.R_slice HO266.out; subst eo22; obtain ⟨hcz23_0, hcz23_1, hcz23_2, hfz23_0, hfz23_1, hfz23_2⟩ := bc3 BK259))
  refine bodyPost_ret (results_cell_row rfl _ _ gb259 32 #[.bool false, .slice Ao22 t263.length co22, .slice Ao21 t269.length co21] (0, 0) _ rfl (bp3 BK259 _ _ _) Try.underlying32 rfl (by kernel_rfl)) rfl ?_
  exact ⟨_, _, by first | rfl | (simp only [l02Make_gt]; rfl) | (simp [errW_none, errW_some] <;> rfl) | (simp [*, errW_none, errW_some] <;> rfl), (crN HO266 BK259 fun _ hk => hk.1.1.2), (crN HO272 BK259 fun _ hk => hk.1.1.2), blw HB⟩

/-! ### impl_lowest: function 80 -/
theorem lowest_gt (l : List Int) : decide (0 < l.length) = decide ((l.length : Int) > 0) := by simp only [decide_eq_decide]; omega
def impl_lowest.f (k : Nat) (a0 : Bool) (l1 : List Int) (l2 : List Int) : Option (Bool × List Int × List Int) := (impl_natGcd.f k l1 l2).bind fun t298 => ((impl_one.f).bind fun t301 => ((impl_natCmp.f t298 t301).bind fun t304 => (if t304 = 0 then (if a0 = true then ((slices_Clone_int_int.f l1).bind fun t305 => ((slices_Clone_int_int.f l2).bind fun t308 => (some (decide ((l1.length : Int) > 0), t305, t308)))) else ((slices_Clone_int_int.f l1).bind fun t311 => ((slices_Clone_int_int.f l2).bind fun t314 => (some (false, t311, t314))))) else ((impl_natDiv.f l1 t298).bind fun bt317 => ((impl_natDiv.f l2 t298).bind fun bt323 => (if a0 = true then ((slices_Clone_int_int.f bt317.1).bind fun t329 => ((slices_Clone_int_int.f bt323.1).bind fun t332 => (some (decide ((bt317.1.length : Int) > 0), t329, t332)))) else ((slices_Clone_int_int.f bt317.1).bind fun t335 => ((slices_Clone_int_int.f bt323.1).bind fun t338 => (some (false, t335, t338))))))))))
theorem impl_lowest.mono : ∀ a0 a1 a2 k, LeO (impl_lowest.f k a0 a1 a2) (impl_lowest.f (k + 1) a0 a1 a2) := by
 intro a0 a1 a2 k
 unfold impl_lowest.f
 repeat' first
   | (with_reducible exact impl_natGcd.mono _ _ _)
   | (with_reducible exact LeO.refl _)
   | (with_reducible exact LeO.none _)
   | (with_reducible refine LeO.ite ?_ ?_)
   | (with_reducible refine LeO.bind ?_ (fun _ => ?_))
   | exact impl_natGcd.mono _ _ _
   | exact LeO.none _
   | refine LeO.ite ?_ ?_
   | refine LeO.bind ?_ (fun _ => ?_)
set_option maxHeartbeats 8000000 in
set_option maxRecDepth 100000 in
theorem impl_lowest.calls (k : Nat) (a0 : Bool) (A1 : Option Addr) (c1 : Nat) (l1 : List Int) (A2 : Option Addr) (c2 : Nat) (l2 : List Int) (r1 : Bool) (r2 : List Int) (r3 : List Int) (w : World) (hr1 : Kd.C (Kd.int .i64) w A1 l1.length l1) (hc1 : l1.length ≤ c1) (hr2 : Kd.C (Kd.int .i64) w A2 l2.length l2) (hc2 : l2.length ≤ c2) (h : impl_lowest.f k a0 l1 l2 = some (r1, r2, r3)) :
  Calls Try.prog 80 #[.bool a0, .slice A1 l1.length c1, .slice A2 l2.length c2] w fun e w' => ∃ v1_ v2_ : Value, e = .returned (.agg #[.bool r1, v1_, v2_]) ∧ Kd.R (Kd.int .i64) 3 w' w.heap.size (fun k_ => nO k_ v2_) v1_ r2 ∧ Kd.R (Kd.int .i64) 3 w' w.heap.size (fun k_ => nO k_ v1_) v2_ r3 ∧ Below w.heap.size w w' := by
 have hu32 := Try.underlying32
 have HR1 := Aside0.mk hr1
 have HC1 := Aside0.mk hc1
 clear hr1 hc1
 have HR2 := Aside0.mk hr2
 have HC2 := Aside0.mk hc2
 clear hr2 hc2
 have HB := Aside0.mk (Below.refl w.heap.size w)
 have H : ((impl_natGcd.f k l1 l2).bind fun t298 => ((impl_one.f).bind fun t301 => ((impl_natCmp.f t298 t301).bind fun t304 => (if t304 = 0 then (if a0 = true then ((slices_Clone_int_int.f l1).bind fun t305 => ((slices_Clone_int_int.f l2).bind fun t308 => (some (decide ((l1.length : Int) > 0), t305, t308)))) else ((slices_Clone_int_int.f l1).bind fun t311 => ((slices_Clone_int_int.f l2).bind fun t314 => (some (false, t311, t314))))) else ((impl_natDiv.f l1 t298).bind fun bt317 => ((impl_natDiv.f l2 t298).bind fun bt323 => (if a0 = true then ((slices_Clone_int_int.f bt317.1).bind fun t329 => ((slices_Clone_int_int.f bt323.1).bind fun t332 => (some (decide ((bt317.1.length : Int) > 0), t329, t332)))) else ((slices_Clone_int_int.f bt317.1).bind fun t335 => ((slices_Clone_int_int.f bt323.1).bind fun t338 => (some (false, t335, t338))))))))))) = some (r1, r2, r3) := h
 clear h
 replace H := Option.bind_eq_some_iff.mp H
 obtain ⟨t298, A40, H⟩ := H
 replace H : ((impl_one.f).bind fun t301 => ((impl_natCmp.f t298 t301).bind fun t304 => (if t304 = 0 then (if a0 = true then ((slices_Clone_int_int.f l1).bind fun t305 => ((slices_Clone_int_int.f l2).bind fun t308 => (some (decide ((l1.length : Int) > 0), t305, t308)))) else ((slices_Clone_int_int.f l1).bind fun t311 => ((slices_Clone_int_int.f l2).bind fun t314 => (some (false, t311, t314))))) else ((impl_natDiv.f l1 t298).bind fun bt317 => ((impl_natDiv.f l2 t298).bind fun bt323 => (if a0 = true then ((slices_Clone_int_int.f bt317.1).bind fun t329 => ((slices_Clone_int_int.f bt323.1).bind fun t332 => (some (decide ((bt317.1.length : Int) > 0), t329, t332)))) else ((slices_Clone_int_int.f bt317.1).bind fun t335 => ((slices_Clone_int_int.f bt323.1).bind fun t338 => (some (false, t335, t338)))))))))) = some (r1, r2, r3) := H
 have A4 := Aside0.mk A40
 clear A40
 replace H := Option.bind_eq_some_iff.mp H
 obtain ⟨t301, A50, H⟩ := H
 replace H : ((impl_natCmp.f t298 t301).bind fun t304 => (if t304 = 0 then (if a0 = true then ((slices_Clone_int_int.f l1).bind fun t305 => ((slices_Clone_int_int.f l2).bind fun t308 => (some (decide ((l1.length : Int) > 0), t305, t308)))) else ((slices_Clone_int_int.f l1).bind fun t311 => ((slices_Clone_int_int.f l2).bind fun t314 => (some (false, t311, t314))))) else ((impl_natDiv.f l1 t298).bind fun bt317 => ((impl_natDiv.f l2 t298).bind fun bt323 => (if a0 = true then ((slices_Clone_int_int.f bt317.1).bind fun t329 => ((slices_Clone_int_int.f bt323.1).bind fun t332 => (some (decide ((bt317.1.length : Int) > 0), t329, t332)))) else ((slices_Clone_int_int.f bt317.1).bind fun t335 => ((slices_Clone_int_int.f bt323.1).bind fun t338 => (some (false, t335, t338))))))))) = some (r1, r2, r3) := H
 have A5 := Aside0.mk A50
 clear A50
 replace H := Option.bind_eq_some_iff.mp H
 obtain ⟨t304, A60, H⟩ := H
 replace H : (if t304 = 0 then (if a0 = true then ((slices_Clone_int_int.f l1).bind fun t305 => ((slices_Clone_int_int.f l2).bind fun t308 => (some (decide ((l1.length : Int) > 0), t305, t308)))) else ((slices_Clone_int_int.f l1).bind fun t311 => ((slices_Clone_int_int.f l2).bind fun t314 => (some (false, t311, t314))))) else ((impl_natDiv.f l1 t298).bind fun bt317 => ((impl_natDiv.f l2 t298).bind fun bt323 => (if a0 = true then ((slices_Clone_int_int.f bt317.1).bind fun t329 => ((slices_Clone_int_int.f bt323.1).bind fun t332 => (some (decide ((bt317.1.length : Int) > 0), t329, t332)))) else ((slices_Clone_int_int.f bt317.1).bind fun t335 => ((slices_Clone_int_int.f bt323.1).bind fun t338 => (some (false, t335, t338)))))))) = some (r1, r2, r3) := H
 have A6 := Aside0.mk A60
 clear A60
 by_cases c7 : t304 = 0
 ·
  rw [if_pos c7] at H
  have c7b0 : (t304 == 0) = true := beq_iff_eq.mpr c7
  have c7b1 : (t304 != 0) = false := bne_eq_false_iff_eq.mpr c7
  clear c7
  by_cases c8 : a0 = true
  ·
   subst c8
   have H1 : ((slices_Clone_int_int.f l1).bind fun t305 => ((slices_Clone_int_int.f l2).bind fun t308 => (some (decide ((l1.length : Int) > 0), t305, t308)))) = some (r1, r2, r3) := by rw [if_pos rfl] at H; exact H
   clear H
   have H := H1
   clear H1
   replace H := Option.bind_eq_some_iff.mp H
   obtain ⟨t305, A90, H⟩ := H
   replace H : ((slices_Clone_int_int.f l2).bind fun t308 => (some (decide ((l1.length : Int) > 0), t305, t308))) = some (r1, r2, r3) := H
   have A9 := Aside0.mk A90
   clear A90
   replace H := Option.bind_eq_some_iff.mp H
   obtain ⟨t308, A100, H⟩ := H
   replace H : (some (decide ((l1.length : Int) > 0), t305, t308)) = some (r1, r2, r3) := H
   have A10 := Aside0.mk A100
   clear A100
   simp only [Option.some.injEq, Prod.mk.injEq] at H
   obtain ⟨rfl, rfl, rfl⟩ := H
   go_enter Try.func80, Try.ntmps80
   go_wp2_with (first | ((with_reducible refine gate_dst (N := 6) rfl ?_); (try (refine gate_guard (by rfl) ?_; dsimp only)); refine bx_ (N := 6) (cs := #[.bool false, .slice none 0 0, .slice none 0 0]) (t := 32) ?_; intro gb297 hg w11 hbox hb; have BK297 := Aside0.mk (hbox); have GW297 := geh hg HB; have GE297 := geh hg HB; replace HB := bst HB hb; clear hb hbox hg) | ((with_reducible refine gate_callee (f := 67) rfl ?_); refine gL_ (some 10) Try.func67 #[.slice A1 l1.length c1, .slice A2 l2.length c2] ?_; (with_reducible refine (impl_natGcd.calls k (fun k_ => k_ < w.heap.size) _ _ l1 (fun k_ => k_ < w.heap.size) _ _ l2 t298 _ ?side1 ?side2 A4.out).mono ?_); (case side1 => exact Kd.V_mk HC1.out (Kd.F_below (Kd.C_F (Kd.heap_int .i64) HR1.out) (blw HB))); (case side2 => exact Kd.V_mk HC2.out (Kd.F_below (Kd.C_F (Kd.heap_int .i64) HR2.out) (blw HB))); rintro e w12 ⟨v299, rfl, ho0, hb⟩; refine ⟨_, rfl, ?_⟩; have HO300 := Aside0.mk (Kd.V_lower (Kd.V_mono (ok' := fun k_ => k_ ≠ gb297) ho0 (fun k_ hk_ => Or.elim hk_ (fun hs_ => Or.elim hs_ (fun hs_ => fun e_ => Nat.not_le.2 hs_ (by rw [e_]; exact GW297.out)) (fun hs_ => fun e_ => Nat.not_le.2 hs_ (by rw [e_]; exact GW297.out))) (fun hn_ => (Kd.freshB (g := gb297) (o := .cells #[.bool false, .slice none 0 0, .slice none 0 0] 32 (0, 0)) (crb BK297) k_ hn_)))) (bsz HB)); replace BK297 := bkb BK297 hb; replace HB := bst HB hb; (try clear hb); (try clear hb2); (try clear hk); (try clear hi); (try clear ho0)) | ((with_reducible refine gate_callee (f := 68) rfl ?_); refine gL_ (some 12) Try.func68 #[] ?_; (with_reducible refine (impl_one.calls  t301 _ A5.out).mono ?_); rintro e w13 ⟨v302, rfl, ho0, hb⟩; refine ⟨_, rfl, ?_⟩; replace HO300 := eldV HO300 (Kd.R_base ho0) hb; have HO303 := lwR ho0 HB; replace BK297 := bkb BK297 hb; replace HB := bst HB hb; (try clear hb); (try clear hb2); (try clear hk); (try clear hi); (try clear ho0); obtain ⟨Ao14, co14, eo14⟩ := Kd.V_slice HO300.out; subst eo14; obtain ⟨Ao15, co15, eo15⟩ := Kd.R_slice HO303.out; subst eo15) | ((with_reducible refine gate_callee (f := 66) rfl ?_); refine gL_ (some 13) Try.func66 #[.slice Ao14 t298.length co14, .slice Ao15 t301.length co15] ?_; (with_reducible refine (impl_natCmp.calls _ _ t298 _ _ t301 t304 _ ?side1 ?side2 ?side3 ?side4 A6.out).mono ?_); (case side1 => exact crC (Kd.V_reads' HO300.out).2.2); (case side2 => exact (Kd.V_reads' HO300.out).2.1); (case side3 => exact crC (Kd.R_reads' HO303.out).2.2); (case side4 => exact (Kd.R_reads' HO303.out).2.1); rintro e w16 ⟨rfl, hb⟩; refine ⟨_, rfl, ?_⟩; replace HO300 := rblV HO300 hb; replace HO303 := rblR HO303 hb; replace BK297 := bkb BK297 hb; replace HB := bst HB hb; (try clear hb); (try clear hb2); (try clear hk); (try clear hi)) | ((with_reducible refine gate_callee (f := 91) rfl ?_); refine gL_ (some 34) Try.func91 #[.slice A1 l1.length c1] ?_; (with_reducible refine (slices_Clone_int_int.calls _ _ l1 t305 _ ?side1 ?side2 A9.out).mono ?_); (case side1 => exact crC (Kd.C_below HR1.out HB.out)); (case side2 => exact HC1.out); rintro e w17 ⟨v306, rfl, ho0, hb⟩; refine ⟨_, rfl, ?_⟩; replace HO300 := eldV HO300 (Kd.R_base ho0) hb; have HO307 := lwR (nwR ho0 HO303) HB; replace HO303 := eldR HO303 (Kd.R_base ho0) hb; replace BK297 := bkb BK297 hb; replace HB := bst HB hb; (try clear hb); (try clear hb2); (try clear hk); (try clear hi); (try clear ho0)) | ((with_reducible refine gate_callee (f := 91) rfl ?_); refine gL_ (some 36) Try.func91 #[.slice A2 l2.length c2] ?_; (with_reducible refine (slices_Clone_int_int.calls _ _ l2 t308 _ ?side1 ?side2 A10.out).mono ?_); (case side1 => exact crC (Kd.C_below HR2.out HB.out)); (case side2 => exact HC2.out); rintro e w18 ⟨v309, rfl, ho0, hb⟩; refine ⟨_, rfl, ?_⟩; replace HO300 := eldV HO300 (Kd.R_base ho0) hb; have HO310 := lwR (nwR (nwR ho0 HO303) HO307) HB; replace HO303 := eldR HO303 (Kd.R_base ho0) hb; replace HO307 := eldR HO307 (Kd.R_base ho0) hb; replace BK297 := bkb BK297 hb; replace HB := bst HB hb; (try clear hb); (try clear hb2); (try clear hk); (try clear hi); (try clear ho0); obtain ⟨Ao19, co19, eo19⟩ := Kd.R_slice HO310.out; subst eo19; obtain ⟨Ao20, co20, eo20⟩ := Kd.R_slice HO307.out; subst eo20; obtain ⟨hcz21_0, hcz21_1, hcz21_2, hfz21_0, hfz21_1, hfz21_2⟩ := bc3 BK297))
   refine bodyPost_ret (results_cell_row rfl _ _ gb297 32 #[.bool (decide (0 < l1.length)), .slice Ao20 t305.length co20, .slice Ao19 t308.length co19] (0, 0) _ rfl (bp3 BK297 _ _ _) Try.underlying32 rfl (by kernel_rfl)) rfl ?_
   exact ⟨_, _, by first | rfl | (simp only [lowest_gt]; rfl) | (simp [errW_none, errW_some] <;> rfl) | (simp [*, errW_none, errW_some] <;> rfl), (crN HO307 BK297 fun _ hk => hk.1.2), (crN HO310 BK297 fun _ hk => hk.1.2), blw HB⟩
  ·
   replace c8 := Bool.eq_false_iff.mpr c8
   subst c8
   have H1 : ((slices_Clone_int_int.f l1).bind fun t311 => ((slices_Clone_int_int.f l2).bind fun t314 => (some (false, t311, t314)))) = some (r1, r2, r3) := by rw [if_neg (show ¬ (false = true) by decide)] at H; exact H
   clear H
   have H := H1
   clear H1
   replace H := Option.bind_eq_some_iff.mp H
   obtain ⟨t311, A220, H⟩ := H
   replace H : ((slices_Clone_int_int.f l2).bind fun t314 => (some (false, t311, t314))) = some (r1, r2, r3) := H
   have A22 := Aside0.mk A220
   clear A220
   replace H := Option.bind_eq_some_iff.mp H
   obtain ⟨t314, A230, H⟩ := H
   replace H : (some (false, t311, t314)) = some (r1, r2, r3) := H
   have A23 := Aside0.mk A230
   clear A230
   simp only [Option.some.injEq, Prod.mk.injEq] at H
   obtain ⟨rfl, rfl, rfl⟩ := H
   go_enter Try.func80, Try.ntmps80
   go_wp2_with (first | ((with_reducible refine gate_dst (N := 6) rfl ?_); (try (refine gate_guard (by rfl) ?_; dsimp only)); refine bx_ (N := 6) (cs := #[.bool false, .slice none 0 0, .slice none 0 0]) (t := 32) ?_; intro gb297 hg w24 hbox hb; have BK297 := Aside0.mk (hbox); have GW297 := geh hg HB; have GE297 := geh hg HB; replace HB := bst HB hb; clear hb hbox hg) | ((with_reducible refine gate_callee (f := 67) rfl ?_); refine gL_ (some 10) Try.func67 #[.slice A1 l1.length c1, .slice A2 l2.length c2] ?_; (with_reducible refine (impl_natGcd.calls k (fun k_ => k_ < w.heap.size) _ _ l1 (fun k_ => k_ < w.heap.size) _ _ l2 t298 _ ?side1 ?side2 A4.out).mono ?_); (case side1 => exact Kd.V_mk HC1.out (Kd.F_below (Kd.C_F (Kd.heap_int .i64) HR1.out) (blw HB))); (case side2 => exact Kd.V_mk HC2.out (Kd.F_below (Kd.C_F (Kd.heap_int .i64) HR2.out) (blw HB))); rintro e w25 ⟨v299, rfl, ho0, hb⟩; refine ⟨_, rfl, ?_⟩; have HO300 := Aside0.mk (Kd.V_lower (Kd.V_mono (ok' := fun k_ => k_ ≠ gb297) ho0 (fun k_ hk_ => Or.elim hk_ (fun hs_ => Or.elim hs_ (fun hs_ => fun e_ => Nat.not_le.2 hs_ (by rw [e_]; exact GW297.out)) (fun hs_ => fun e_ => Nat.not_le.2 hs_ (by rw [e_]; exact GW297.out))) (fun hn_ => (Kd.freshB (g := gb297) (o := .cells #[.bool false, .slice none 0 0, .slice none 0 0] 32 (0, 0)) (crb BK297) k_ hn_)))) (bsz HB)); replace BK297 := bkb BK297 hb; replace HB := bst HB hb; (try clear hb); (try clear hb2); (try clear hk); (try clear hi); (try clear ho0)) | ((with_reducible refine gate_callee (f := 68) rfl ?_); refine gL_ (some 12) Try.func68 #[] ?_; (with_reducible refine (impl_one.calls  t301 _ A5.out).mono ?_); rintro e w26 ⟨v302, rfl, ho0, hb⟩; refine ⟨_, rfl, ?_⟩; replace HO300 := eldV HO300 (Kd.R_base ho0) hb; have HO303 := lwR ho0 HB; replace BK297 := bkb BK297 hb; replace HB := bst HB hb; (try clear hb); (try clear hb2); (try clear hk); (try clear hi); (try clear ho0); obtain ⟨Ao27, co27, eo27⟩ := Kd.V_slice HO300.out; subst eo27; obtain ⟨Ao28, co28, eo28⟩ := Kd.R_slice HO303.out; subst eo28) | ((with_reducible refine gate_callee (f := 66) rfl ?_); refine gL_ (some 13) Try.func66 #[.slice Ao27 t298.length co27, .slice Ao28 t301.length co28] ?_; (with_reducible refine (impl_natCmp.calls _ _ t298 _ _ t301 t304 _ ?side1 ?side2 ?side3 ?side4 A6.out).mono ?_); (case side1 => exact crC (Kd.V_reads' HO300.out).2.2); (case side2 => exact (Kd.V_reads' HO300.out).2.1); (case side3 => exact crC (Kd.R_reads' HO303.out).2.2); (case side4 => exact (Kd.R_reads' HO303.out).2.1); rintro e w29 ⟨rfl, hb⟩; refine ⟨_, rfl, ?_⟩; replace HO300 := rblV HO300 hb; replace HO303 := rblR HO303 hb; replace BK297 := bkb BK297 hb; replace HB := bst HB hb; (try clear hb); (try clear hb2); (try clear hk); (try clear hi)) | ((with_reducible refine gate_callee (f := 91) rfl ?_); refine gL_ (some 34) Try.func91 #[.slice A1 l1.length c1] ?_; (with_reducible refine (slices_Clone_int_int.calls _ _ l1 t311 _ ?side1 ?side2 A22.out).mono ?_); (case side1 => exact crC (Kd.C_below HR1.out HB.out)); (case side2 => exact HC1.out); rintro e w30 ⟨v312, rfl, ho0, hb⟩; refine ⟨_, rfl, ?_⟩; replace HO300 := eldV HO300 (Kd.R_base ho0) hb; have HO313 := lwR (nwR ho0 HO303) HB; replace HO303 := eldR HO303 (Kd.R_base ho0) hb; replace BK297 := bkb BK297 hb; replace HB := bst HB hb; (try clear hb); (try clear hb2); (try clear hk); (try clear hi); (try clear ho0)) | ((with_reducible refine gate_callee (f := 91) rfl ?_); refine gL_ (some 36) Try.func91 #[.slice A2 l2.length c2] ?_; (with_reducible refine (slices_Clone_int_int.calls _ _ l2 t314 _ ?side1 ?side2 A23.out).mono ?_); (case side1 => exact crC (Kd.C_below HR2.out HB.out)); (case side2 => exact HC2.out); rintro e w31 ⟨v315, rfl, ho0, hb⟩; refine ⟨_, rfl, ?_⟩; replace HO300 := eldV HO300 (Kd.R_base ho0) hb; have HO316 := lwR (nwR (nwR ho0 HO303) HO313) HB; replace HO303 := eldR HO303 (Kd.R_base ho0) hb; replace HO313 := eldR HO313 (Kd.R_base ho0) hb; replace BK297 := bkb BK297 hb; replace HB := bst HB hb; (try clear hb); (try clear hb2); (try clear hk); (try clear hi); (try clear ho0); obtain ⟨Ao32, co32, eo32⟩ := Kd.R_slice HO316.out; subst eo32; obtain ⟨Ao33, co33, eo33⟩ := Kd.R_slice HO313.out; subst eo33; obtain ⟨hcz34_0, hcz34_1, hcz34_2, hfz34_0, hfz34_1, hfz34_2⟩ := bc3 BK297))
   refine bodyPost_ret (results_cell_row rfl _ _ gb297 32 #[.bool false, .slice Ao33 t311.length co33, .slice Ao32 t314.length co32] (0, 0) _ rfl (bp3 BK297 _ _ _) Try.underlying32 rfl (by kernel_rfl)) rfl ?_
   exact ⟨_, _, by first | rfl | (simp only [lowest_gt]; rfl) | (simp [errW_none, errW_some] <;> rfl) | (simp [*, errW_none, errW_some] <;> rfl), (crN HO313 BK297 fun _ hk => hk.1.2), (crN HO316 BK297 fun _ hk => hk.1.2), blw HB⟩
 ·
  rw [if_neg c7] at H
  have c7b0 : (t304 == 0) = false := beq_eq_false_iff_ne.mpr c7
  have c7b1 : (t304 != 0) = true := bne_iff_ne.mpr c7
  replace H := Option.bind_eq_some_iff.mp H
  obtain ⟨⟨t317, t318⟩, A350, H⟩ := H
  replace H : ((impl_natDiv.f l2 t298).bind fun bt323 => (if a0 = true then ((slices_Clone_int_int.f t317).bind fun t329 => ((slices_Clone_int_int.f bt323.1).bind fun t332 => (some (decide ((t317.length : Int) > 0), t329, t332)))) else ((slices_Clone_int_int.f t317).bind fun t335 => ((slices_Clone_int_int.f bt323.1).bind fun t338 => (some (false, t335, t338)))))) = some (r1, r2, r3) := H
  have A35 := Aside0.mk A350
  clear A350
  replace H := Option.bind_eq_some_iff.mp H
  obtain ⟨⟨t323, t324⟩, A360, H⟩ := H
  replace H : (if a0 = true then ((slices_Clone_int_int.f t317).bind fun t329 => ((slices_Clone_int_int.f t323).bind fun t332 => (some (decide ((t317.length : Int) > 0), t329, t332)))) else ((slices_Clone_int_int.f t317).bind fun t335 => ((slices_Clone_int_int.f t323).bind fun t338 => (some (false, t335, t338))))) = some (r1, r2, r3) := H
  have A36 := Aside0.mk A360
  clear A360
  by_cases c37 : a0 = true
  ·
   subst c37
   have H1 : ((slices_Clone_int_int.f t317).bind fun t329 => ((slices_Clone_int_int.f t323).bind fun t332 => (some (decide ((t317.length : Int) > 0), t329, t332)))) = some (r1, r2, r3) := by rw [if_pos rfl] at H; exact H
   clear H
   have H := H1
   clear H1
   replace H := Option.bind_eq_some_iff.mp H
   obtain ⟨t329, A380, H⟩ := H
   replace H : ((slices_Clone_int_int.f t323).bind fun t332 => (some (decide ((t317.length : Int) > 0), t329, t332))) = some (r1, r2, r3) := H
   have A38 := Aside0.mk A380
   clear A380
   replace H := Option.bind_eq_some_iff.mp H
   obtain ⟨t332, A390, H⟩ := H
   replace H : (some (decide ((t317.length : Int) > 0), t329, t332)) = some (r1, r2, r3) := H
   have A39 := Aside0.mk A390
   clear A390
   simp only [Option.some.injEq, Prod.mk.injEq] at H
   obtain ⟨rfl, rfl, rfl⟩ := H
   go_enter Try.func80, Try.ntmps80
   go_wp2_with (first | ((with_reducible refine gate_dst (N := 6) rfl ?_); (try (refine gate_guard (by rfl) ?_; dsimp only)); refine bx_ (N := 6) (cs := #[.bool false, .slice none 0 0, .slice none 0 0]) (t := 32) ?_; intro gb297 hg w40 hbox hb; have BK297 := Aside0.mk (hbox); have GW297 := geh hg HB; have GE297 := geh hg HB; replace HB := bst HB hb; clear hb hbox hg) | ((with_reducible refine gate_callee (f := 67) rfl ?_); refine gL_ (some 10) Try.func67 #[.slice A1 l1.length c1, .slice A2 l2.length c2] ?_; (with_reducible refine (impl_natGcd.calls k (fun k_ => k_ < w.heap.size) _ _ l1 (fun k_ => k_ < w.heap.size) _ _ l2 t298 _ ?side1 ?side2 A4.out).mono ?_); (case side1 => exact Kd.V_mk HC1.out (Kd.F_below (Kd.C_F (Kd.heap_int .i64) HR1.out) (blw HB))); (case side2 => exact Kd.V_mk HC2.out (Kd.F_below (Kd.C_F (Kd.heap_int .i64) HR2.out) (blw HB))); rintro e w41 ⟨v299, rfl, ho0, hb⟩; refine ⟨_, rfl, ?_⟩; have HO300 := Aside0.mk (Kd.V_lower (Kd.V_mono (ok' := fun k_ => k_ ≠ gb297) ho0 (fun k_ hk_ => Or.elim hk_ (fun hs_ => Or.elim hs_ (fun hs_ => fun e_ => Nat.not_le.2 hs_ (by rw [e_]; exact GW297.out)) (fun hs_ => fun e_ => Nat.not_le.2 hs_ (by rw [e_]; exact GW297.out))) (fun hn_ => (Kd.freshB (g := gb297) (o := .cells #[.bool false, .slice none 0 0, .slice none 0 0] 32 (0, 0)) (crb BK297) k_ hn_)))) (bsz HB)); replace BK297 := bkb BK297 hb; replace HB := bst HB hb; (try clear hb); (try clear hb2); (try clear hk); (try clear hi); (try clear ho0)) | ((with_reducible refine gate_callee (f := 68) rfl ?_); refine gL_ (some 12) Try.func68 #[] ?_; (with_reducible refine (impl_one.calls  t301 _ A5.out).mono ?_); rintro e w42 ⟨v302, rfl, ho0, hb⟩; refine ⟨_, rfl, ?_⟩; replace HO300 := eldV HO300 (Kd.R_base ho0) hb; have HO303 := lwR ho0 HB; replace BK297 := bkb BK297 hb; replace HB := bst HB hb; (try clear hb); (try clear hb2); (try clear hk); (try clear hi); (try clear ho0); obtain ⟨Ao43, co43, eo43⟩ := Kd.V_slice HO300.out; subst eo43; obtain ⟨Ao44, co44, eo44⟩ := Kd.R_slice HO303.out; subst eo44) | ((with_reducible refine gate_callee (f := 66) rfl ?_); refine gL_ (some 13) Try.func66 #[.slice Ao43 t298.length co43, .slice Ao44 t301.length co44] ?_; (with_reducible refine (impl_natCmp.calls _ _ t298 _ _ t301 t304 _ ?side1 ?side2 ?side3 ?side4 A6.out).mono ?_); (case side1 => exact crC (Kd.V_reads' HO300.out).2.2); (case side2 => exact (Kd.V_reads' HO300.out).2.1); (case side3 => exact crC (Kd.R_reads' HO303.out).2.2); (case side4 => exact (Kd.R_reads' HO303.out).2.1); rintro e w45 ⟨rfl, hb⟩; refine ⟨_, rfl, ?_⟩; replace HO300 := rblV HO300 hb; replace HO303 := rblR HO303 hb; replace BK297 := bkb BK297 hb; replace HB := bst HB hb; (try clear hb); (try clear hb2); (try clear hk); (try clear hi)) | ((with_reducible refine gate_callee (f := 87) rfl ?_); refine gL_ (some 18) Try.func87 #[.slice A1 l1.length c1, .slice Ao43 t298.length co43] ?_; (with_reducible refine (impl_natDiv.calls _ _ l1 _ _ t298 t317 t318 _ ?side1 ?side2 ?side3 ?side4 A35.out).mono ?_); (case side1 => exact crC (Kd.C_below HR1.out HB.out)); (case side2 => exact HC1.out); (case side3 => exact crC (Kd.V_reads' HO300.out).2.2); (case side4 => exact (Kd.V_reads' HO300.out).2.1); rintro e w46 ⟨v319, v321, rfl, ho0, ho1, hb⟩; refine ⟨_, rfl, ?_⟩; replace HO300 := tldV HO300 hb (Kd.R_base ho0) (Kd.R_base ho1); have HO320 := lwR (nwR ho0 HO303) HB; have HO322 := lwR (nwR ho1 HO303) HB; replace HO303 := tldR HO303 hb (Kd.R_base ho0) (Kd.R_base ho1); replace BK297 := bkb BK297 hb; replace HB := bst HB hb; (try clear hb); (try clear hb2); (try clear hk); (try clear hi); (try clear ho0); (try clear ho1)) | ((with_reducible refine gate_callee (f := 87) rfl ?_); refine gL_ (some 24) Try.func87 #[.slice A2 l2.length c2, .slice Ao43 t298.length co43] ?_; (with_reducible refine (impl_natDiv.calls _ _ l2 _ _ t298 t323 t324 _ ?side1 ?side2 ?side3 ?side4 A36.out).mono ?_); (case side1 => exact crC (Kd.C_below HR2.out HB.out)); (case side2 => exact HC2.out); (case side3 => exact crC (Kd.V_reads' HO300.out).2.2); (case side4 => exact (Kd.V_reads' HO300.out).2.1); rintro e w47 ⟨v325, v327, rfl, ho0, ho1, hb⟩; refine ⟨_, rfl, ?_⟩; replace HO300 := tldV HO300 hb (Kd.R_base ho0) (Kd.R_base ho1); have HO326 := lwR (nwR (nwR (nwR ho0 HO303) HO320) HO322) HB; have HO328 := lwR (nwR (nwR (nwR ho1 HO303) HO320) HO322) HB; replace HO303 := tldR HO303 hb (Kd.R_base ho0) (Kd.R_base ho1); replace HO320 := tldR HO320 hb (Kd.R_base ho0) (Kd.R_base ho1); replace HO322 := tldR HO322 hb (Kd.R_base ho0) (Kd.R_base ho1); replace BK297 := bkb BK297 hb; replace HB := bst HB hb; (try clear hb); (try clear hb2); (try clear hk); (try clear hi); (try clear ho0); (try clear ho1); obtain ⟨Ao48, co48, eo48⟩ := Kd.R_slice HO320.out; subst eo48) | ((with_reducible refine gate_callee (f := 91) rfl ?_); refine gL_ (some 34) Try.func91 #[.slice Ao48 t317.length co48] ?_; (with_reducible refine (slices_Clone_int_int.calls _ _ t317 t329 _ ?side1 ?side2 A38.out).mono ?_); (case side1 => exact crC (Kd.R_reads' HO320.out).2.2); (case side2 => exact (Kd.R_reads' HO320.out).2.1); rintro e w49 ⟨v330, rfl, ho0, hb⟩; refine ⟨_, rfl, ?_⟩; replace HO300 := eldV HO300 (Kd.R_base ho0) hb; have HO331 := lwR (nwR (nwR (nwR (nwR (nwR ho0 HO303) HO320) HO322) HO326) HO328) HB; replace HO303 := eldR HO303 (Kd.R_base ho0) hb; replace HO320 := eldR HO320 (Kd.R_base ho0) hb; replace HO322 := eldR HO322 (Kd.R_base ho0) hb; replace HO326 := eldR HO326 (Kd.R_base ho0) hb; replace HO328 := eldR HO328 (Kd.R_base ho0) hb; replace BK297 := bkb BK297 hb; replace HB := bst HB hb; (try clear hb); (try clear hb2); (try clear hk); (try clear hi); (try clear ho0); obtain ⟨Ao50, co50, eo50⟩ := Kd.R_slice HO326.out; subst eo50) | ((with_reducible refine gate_callee (f := 91) rfl ?_); refine gL_ (some 36) Try.func91 #[.slice Ao50 t323.length co50] ?_; (with_reducible refine (slices_Clone_int_int.calls _ _ t323 t332 _ ?side1 ?side2 A39.out).mono ?_); (case side1 => exact crC (Kd.R_reads' HO326.out).2.2); (case side2 => exact (Kd.R_reads' HO326.out).2.1); rintro e w51 ⟨v333, rfl, ho0, hb⟩; refine ⟨_, rfl, ?_⟩; replace HO300 := eldV HO300 (Kd.R_base ho0) hb; have HO334 := lwR (nwR (nwR (nwR (nwR (nwR (nwR ho0 HO303) HO320) HO322) HO326) HO328) HO331) HB; replace HO303 := eldR HO303 (Kd.R_base ho0) hb; replace HO320 := eldR HO320 (Kd.R_base ho0) hb; replace HO322 := eldR HO322 (Kd.R_base ho0) hb; replace HO326 := eldR HO326 (Kd.R_base ho0) hb; replace HO328 := eldR HO328 (Kd.R_base ho0) hb; replace HO331 := eldR HO331 (Kd.R_base ho0) hb; replace BK297 := bkb BK297 hb; replace HB := bst HB hb; (try clear hb); (try clear hb2); (try clear hk); (try clear hi); (try clear ho0); obtain ⟨Ao52, co52, eo52⟩ := Kd.R_slice HO334.out; subst eo52; obtain ⟨Ao53, co53, eo53⟩ := Kd.R_slice HO331.out; subst eo53; obtain ⟨hcz54_0, hcz54_1, hcz54_2, hfz54_0, hfz54_1, hfz54_2⟩ := bc3 BK297))
   refine bodyPost_ret (results_cell_row rfl _ _ gb297 32 #[.bool (decide (0 < t317.length)), .slice Ao53 t329.length co53, .slice Ao52 t332.length co52] (0, 0) _ rfl (bp3 BK297 _ _ _) Try.underlying32 rfl (by kernel_rfl)) rfl ?_
   exact ⟨_, _, by first | rfl | (simp only [lowest_gt]; rfl) | (simp [errW_none, errW_some] <;> rfl) | (simp [*, errW_none, errW_some] <;> rfl), (crN HO331 BK297 fun _ hk => hk.1.2), (crN HO334 BK297 fun _ hk => hk.1.2), blw HB⟩
  ·
   replace c37 := Bool.eq_false_iff.mpr c37
   subst c37
   have H1 : ((slices_Clone_int_int.f t317).bind fun t335 => ((slices_Clone_int_int.f t323).bind fun t338 => (some (false, t335, t338)))) = some (r1, r2, r3) := by rw [if_neg (show ¬ (false = true) by decide)] at H; exact H
   clear H
   have H := H1
   clear H1
   replace H := Option.bind_eq_some_iff.mp H
   obtain ⟨t335, A550, H⟩ := H
   replace H : ((slices_Clone_int_int.f t323).bind fun t338 => (some (false, t335, t338))) = some (r1, r2, r3) := H
   have A55 := Aside0.mk A550
   clear A550
   replace H := Option.bind_eq_some_iff.mp H
   obtain ⟨t338, A560, H⟩ := H
   replace H : (some (false, t335, t338)) = some (r1, r2, r3) := H
   have A56 := Aside0.mk A560
   clear A560
   simp only [Option.some.injEq, Prod.mk.injEq] at H
   obtain ⟨rfl, rfl, rfl⟩ := H
   go_enter Try.func80, Try.ntmps80
   go_wp2_with (first | ((with_reducible refine gate_dst (N := 6) rfl ?_); (try (refine gate_guard (by rfl) ?_; dsimp only)); refine bx_ (N := 6) (cs := #[.bool false, .slice none 0 0, .slice none 0 0]) (t := 32) ?_; intro gb297 hg w57 hbox hb; have BK297 := Aside0.mk (hbox); have GW297 := geh hg HB; have GE297 := geh hg HB; replace HB := bst HB hb; clear hb hbox hg) | ((with_reducible refine gate_callee (f := 67) rfl ?_); refine gL_ (some 10) Try.func67 #[.slice A1 l1.length c1, .slice A2 l2.length c2] ?_; (with_reducible refine (impl_natGcd.calls k (fun k_ => k_ < w.heap.size) _ _ l1 (fun k_ => k_ < w.heap.size) _ _ l2 t298 _ ?side1 ?side2 A4.out).mono ?_); (case side1 => exact Kd.V_mk HC1.out (Kd.F_below (Kd.C_F (Kd.heap_int .i64) HR1.out) (blw HB))); (case side2 => exact Kd.V_mk HC2.out (Kd.F_below (Kd.C_F (Kd.heap_int .i64) HR2.out) (blw HB))); rintro e w58 ⟨v299, rfl, ho0, hb⟩; refine ⟨_, rfl, ?_⟩; have HO300 := Aside0.mk (Kd.V_lower (Kd.V_mono (ok' := fun k_ => k_ ≠ gb297) ho0 (fun k_ hk_ => Or.elim hk_ (fun hs_ => Or.elim hs_ (fun hs_ => fun e_ => Nat.not_le.2 hs_ (by rw [e_]; exact GW297.out)) (fun hs_ => fun e_ => Nat.not_le.2 hs_ (by rw [e_]; exact GW297.out))) (fun hn_ => (Kd.freshB (g := gb297) (o := .cells #[.bool false, .slice none 0 0, .slice none 0 0] 32 (0, 0)) (crb BK297) k_ hn_)))) (bsz HB)); replace BK297 := bkb BK297 hb; replace HB := bst HB hb; (try clear hb); (try clear hb2); (try clear hk); (try clear hi); (try clear ho0)) | ((with_reducible refine gate_callee (f := 68) rfl ?_); refine gL_ (some 12) Try.func68 #[] ?_; (with_reducible refine (impl_one.calls  t301 _ A5.out).mono ?_); rintro e w59 ⟨v302, rfl, ho0, hb⟩; refine ⟨_, rfl, ?_⟩; replace HO300 := eldV HO300 (Kd.R_base ho0) hb; have HO303 := lwR ho0 HB; replace BK297 := bkb BK297 hb; replace HB := bst HB hb; (try clear hb); (try clear hb2); (try clear hk); (try clear hi); (try clear ho0); obtain ⟨Ao60, co60, eo60⟩ := Kd.V_slice HO300.out; subst eo60; obtain ⟨Ao61, co61, eo61⟩ := Kd.R_slice HO303.out; subst eo61) | ((with_reducible refine gate_callee (f := 66) rfl ?_); refine gL_ (some 13) Try.func66 #[.slice Ao60 t298.length co60, .slice Ao61 t301.length co61] ?_; (with_reducible refine (impl_natCmp.calls _ _ t298 _ _ t301 t304 _ ?side1 ?side2 ?side3 ?side4 A6.out).mono ?_); (case side1 => exact crC (Kd.V_reads' HO300.out).2.2); (case side2 => exact (Kd.V_reads' HO300.out).2.1); (case side3 => exact crC (Kd.R_reads' HO303.out).2.2); (case side4 => exact (Kd.R_reads' HO303.out).2.1); rintro e w62 ⟨rfl, hb⟩; refine ⟨_, rfl, ?_⟩; replace HO300 := rblV HO300 hb; replace HO303 := rblR HO303 hb; replace BK297 := bkb BK297 hb; replace HB := bst HB hb; (try clear hb); (try clear hb2); (try clear hk); (try clear hi)) | ((with_reducible refine gate_callee (f := 87) rfl ?_); refine gL_ (some 18) Try.func87 #[.slice A1 l1.length c1, .slice Ao60 t298.length co60] ?_; (with_reducible refine (impl_natDiv.calls _ _ l1 _ _ t298 t317 t318 _ ?side1 ?side2 ?side3 ?side4 A35.out).mono ?_); (case side1 => exact crC (Kd.C_below HR1.out HB.out)); (case side2 => exact HC1.out); (case side3 => exact crC (Kd.V_reads' HO300.out).2.2); (case side4 => exact (Kd.V_reads' HO300.out).2.1); rintro e w63 ⟨v319, v321, rfl, ho0, ho1, hb⟩; refine ⟨_, rfl, ?_⟩; replace HO300 := tldV HO300 hb (Kd.R_base ho0) (Kd.R_base ho1); have HO320 := lwR (nwR ho0 HO303) HB; have HO322 := lwR (nwR ho1 HO303) HB; replace HO303 := tldR HO303 hb (Kd.R_base ho0) (Kd.R_base ho1); replace BK297 := bkb BK297 hb; replace HB := bst HB hb; (try clear hb); (try clear hb2); (try clear hk); (try clear hi); (try clear ho0); (try clear ho1)) | ((with_reducible refine gate_callee (f := 87) rfl ?_); refine gL_ (some 24) Try.func87 #[.slice A2 l2.length c2, .slice Ao60 t298.length co60] ?_; (with_reducible refine (impl_natDiv.calls _ _ l2 _ _ t298 t323 t324 _ ?side1 ?side2 ?side3 ?side4 A36.out).mono ?_); (case side1 => exact crC (Kd.C_below HR2.out HB.out)); (case side2 => exact HC2.out); (case side3 => exact crC (Kd.V_reads' HO300.out).2.2); (case side4 => exact (Kd.V_reads' HO300.out).2.1); rintro e w64 ⟨v325, v327, rfl, ho0, ho1, hb⟩; refine ⟨_, rfl, ?_⟩; replace HO300 := tldV HO300 hb (Kd.R_base ho0) (Kd.R_base ho1); have HO326 := lwR (nwR (nwR (nwR ho0 HO303) HO320) HO322) HB; have HO328 := lwR (nwR (nwR (nwR ho1 HO303) HO320) HO322) HB; replace HO303 := tldR HO303 hb (Kd.R_base ho0) (Kd.R_base ho1); replace HO320 := tldR HO320 hb (Kd.R_base ho0) (Kd.R_base ho1); replace HO322 := tldR HO322 hb (Kd.R_base ho0) (Kd.R_base ho1); replace BK297 := bkb BK297 hb; replace HB := bst HB hb; (try clear hb); (try clear hb2); (try clear hk); (try clear hi); (try clear ho0); (try clear ho1); obtain ⟨Ao65, co65, eo65⟩ := Kd.R_slice HO320.out; subst eo65) | ((with_reducible refine gate_callee (f := 91) rfl ?_); refine gL_ (some 34) Try.func91 #[.slice Ao65 t317.length co65] ?_; (with_reducible refine (slices_Clone_int_int.calls _ _ t317 t335 _ ?side1 ?side2 A55.out).mono ?_); (case side1 => exact crC (Kd.R_reads' HO320.out).2.2); (case side2 => exact (Kd.R_reads' HO320.out).2.1); rintro e w66 ⟨v336, rfl, ho0, hb⟩; refine ⟨_, rfl, ?_⟩; replace HO300 := eldV HO300 (Kd.R_base ho0) hb; have HO337 := lwR (nwR (nwR (nwR (nwR (nwR ho0 HO303) HO320) HO322) HO326) HO328) HB; replace HO303 := eldR HO303 (Kd.R_base ho0) hb; replace HO320 := eldR HO320 (Kd.R_base ho0) hb; replace HO322 := eldR HO322 (Kd.R_base ho0) hb; replace HO326 := eldR HO326 (Kd.R_base ho0) hb; replace HO328 := eldR HO328 (Kd.R_base ho0) hb; replace BK297 := bkb BK297 hb; replace HB := bst HB hb; (try clear hb); (try clear hb2); (try clear hk); (try clear hi); (try clear ho0); obtain ⟨Ao67, co67, eo67⟩ := Kd.R_slice HO326.out; subst eo67) | ((with_reducible refine gate_callee (f := 91) rfl ?_); refine gL_ (some 36) Try.func91 #[.slice Ao67 t323.length co67] ?_; (with_reducible refine (slices_Clone_int_int.calls _ _ t323 t338 _ ?side1 ?side2 A56.out).mono ?_); (case side1 => exact crC (Kd.R_reads' HO326.out).2.2); (case side2 => exact (Kd.R_reads' HO326.out).2.1); rintro e w68 ⟨v339, rfl, ho0, hb⟩; refine ⟨_, rfl, ?_⟩; replace HO300 := eldV HO300 (Kd.R_base ho0) hb; have HO340 := lwR (nwR (nwR (nwR (nwR (nwR (nwR ho0 HO303) HO320) HO322) HO326) HO328) HO337) HB; replace HO303 := eldR HO303 (Kd.R_base ho0) hb; replace HO320 := eldR HO320 (Kd.R_base ho0) hb; replace HO322 := eldR HO322 (Kd.R_base ho0) hb; replace HO326 := eldR HO326 (Kd.R_base ho0) hb; replace HO328 := eldR HO328 (Kd.R_base ho0) hb; replace HO337 := eldR HO337 (Kd.R_base ho0) hb; replace BK297 := bkb BK297 hb; replace HB := bst HB hb; (try clear hb); (try clear hb2); (try clear hk); (try clear hi); (try clear ho0); obtain ⟨Ao69, co69, eo69⟩ := Kd.R_slice HO340.out; subst eo69; obtain ⟨Ao70, co70, eo70⟩ := Kd.R_slice HO337.out; subst eo70; obtain ⟨hcz71_0, hcz71_1, hcz71_2, hfz71_0, hfz71_1, hfz71_2⟩ := bc3 BK297))
   refine bodyPost_ret (results_cell_row rfl _ _ gb297 32 #[.bool false, .slice Ao70 t335.length co70, .slice Ao69 t338.length co69] (0, 0) _ rfl (bp3 BK297 _ _ _) Try.underlying32 rfl (by kernel_rfl)) rfl ?_
   exact ⟨_, _, by first | rfl | (simp only [lowest_gt]; rfl) | (simp [errW_none, errW_some] <;> rfl) | (simp [*, errW_none, errW_some] <;> rfl), (crN HO337 BK297 fun _ hk => hk.1.2), (crN HO340 BK297 fun _ hk => hk.1.2), blw HB⟩

/-! ### spec_l02Int: function 53 -/
def spec_l02Int.f (k : Nat) (a0 : Int) : Option (Bool × List Int × List Int) := if a0 < 0 then ((spec_l01Small.f k (wrap64 (-a0))).bind fun t342 => (some (true, t342, (([1] : List Int))))) else ((spec_l01Small.f k a0).bind fun t348 => (some (false, t348, (([1] : List Int)))))
theorem spec_l02Int.mono : ∀ a0 k, LeO (spec_l02Int.f k a0) (spec_l02Int.f (k + 1) a0) := by
 intro a0 k
 unfold spec_l02Int.f
 repeat' first
   | (with_reducible exact spec_l01Small.mono _ _)
   | (with_reducible exact LeO.refl _)
   | (with_reducible exact LeO.none _)
   | (with_reducible refine LeO.ite ?_ ?_)
   | (with_reducible refine LeO.bind ?_ (fun _ => ?_))
   | exact spec_l01Small.mono _ _
   | exact LeO.none _
   | refine LeO.ite ?_ ?_
   | refine LeO.bind ?_ (fun _ => ?_)
set_option maxHeartbeats 8000000 in
set_option maxRecDepth 100000 in
theorem spec_l02Int.calls (k : Nat) (a0 : Int) (r1 : Bool) (r2 : List Int) (r3 : List Int) (w : World) (h : spec_l02Int.f k a0 = some (r1, r2, r3)) :
  Calls Try.prog 53 #[.int .i64 a0] w fun e w' => ∃ v1_ v2_ : Value, e = .returned (.agg #[.bool r1, v1_, v2_]) ∧ Kd.R (Kd.int .i64) 3 w' w.heap.size (fun k_ => nO k_ v2_) v1_ r2 ∧ Kd.R (Kd.int .i64) 3 w' w.heap.size (fun k_ => nO k_ v1_) v2_ r3 ∧ Below w.heap.size w w' := by
 have hu32 := Try.underlying32
 have HB := Aside0.mk (Below.refl w.heap.size w)
 have H : (if a0 < 0 then ((spec_l01Small.f k (wrap64 (-a0))).bind fun t342 => (some (true, t342, (([1] : List Int))))) else ((spec_l01Small.f k a0).bind fun t348 => (some (false, t348, (([1] : List Int)))))) = some (r1, r2, r3) := h
 clear h
 by_cases c2 : a0 < 0
 ·
  rw [if_pos c2] at H
  have c2b0 : decide (a0 < 0) = true := decide_eq_true c2
  clear c2
  replace H := Option.bind_eq_some_iff.mp H
  obtain ⟨t342, A30, H⟩ := H
  replace H : (some (true, t342, (([1] : List Int)))) = some (r1, r2, r3) := H
  have A3 := Aside0.mk A30
  clear A30
  obtain ⟨y345, hy345⟩ : ∃ y_ : List Int, y_ = (([1] : List Int)) := ⟨_, rfl⟩
  replace H : (some (true, t342, y345)) = some (r1, r2, r3) := by first | (rw [hy345]; with_reducible exact H) | (have H2_ := (Option.bind_some _ _).symm.trans H; rw [hy345]; with_reducible exact H2_) | (have H2_ := (Option.bind_some _ _).symm.trans H; with_reducible exact H2_) | with_reducible exact H | (rw [hy345]; exact H) | exact H
  have Ny345 := Aside0.mk hy345
  clear hy345
  simp only [Option.some.injEq, Prod.mk.injEq] at H
  obtain ⟨rfl, rfl, rfl⟩ := H
  go_enter Try.func53, Try.ntmps53
  go_wp2_with (first | ((with_reducible refine gate_dst (N := 2) rfl ?_); refine bx_ (N := 2) (cs := #[.bool false, .slice none 0 0, .slice none 0 0]) (t := 32) ?_; intro gb341 hg w4 hbox hb; have BK341 := Aside0.mk (hbox); have GW341 := geh hg HB; have GE341 := geh hg HB; replace HB := bst HB hb; clear hb hbox hg) | ((with_reducible refine gate_callee (f := 73) rfl ?_); refine gL_ (some 7) Try.func73 #[.int .i64 (wrap64 (-a0))] ?_; (with_reducible refine (spec_l01Small.calls k (wrap64 (-a0)) t342 _ A3.out).mono ?_); rintro e w5 ⟨v343, rfl, ho0, hb⟩; refine ⟨_, rfl, ?_⟩; have HO344 := lwR ho0 HB; replace BK341 := bkb BK341 hb; replace HB := bst HB hb; (try clear hb); (try clear hb2); (try clear hk); (try clear hi); (try clear ho0)) | ((with_reducible refine gate_dst (N := 8) rfl ?_); refine Kd.R_lit (Kd.int .i64) _ 3 ?hg (N := 8) ?hd (xs := ([1] : List Int)) (inner := [.int .i64 1]) (ok := fun _ => True) (okp := fun _ => True) ?hr ?hp (fun _ hk => hk) trivial (Below.refl _ _) (Nat.le_refl _) (by simp) ?_; (case hd => rfl); (case hg => rfl); (case hr => first | (go_simp; done) | (go_simp; rfl)); (case hp => exact (Reps.one (show Kd.M (Kd.int .i64) _ _ _ 1 [.int .i64 1] from rfl) (Reps.none _ _))); intro v346 w6 ho7 hb hg_ hnew_; clear hg_ hnew_; (first | rw [← Ny345.out] at ho7 | (simp only [Int.reduceToNat] at ho7; rw [← Ny345.out] at ho7)); have HO347 := lwR (nwR ho7 HO344) HB; replace HO344 := eldR HO344 (Kd.R_base ho7) hb; replace BK341 := bkb BK341 hb; replace HB := bst HB hb; clear hb ho7; obtain ⟨Ao8, co8, eo8⟩ := Kd.R_slice HO347.out; subst eo8; obtain ⟨Ao9, co9, eo9⟩ := Kd.R_slice HO344.out; subst eo9; obtain ⟨hcz10_0, hcz10_1, hcz10_2, hfz10_0, hfz10_1, hfz10_2⟩ := bc3 BK341))
  refine bodyPost_ret (results_cell_row rfl _ _ gb341 32 #[.bool true, .slice Ao9 t342.length co9, .slice Ao8 y345.length co8] (0, 0) _ rfl (bp3 BK341 _ _ _) Try.underlying32 rfl (by kernel_rfl)) rfl ?_
  exact ⟨_, _, er_, (crN HO344 BK341 fun _ hk => hk.1.2), (crN HO347 BK341 fun _ hk => hk.1.2), blw HB⟩
 ·
  rw [if_neg c2] at H
  have c2b0 : decide (a0 < 0) = false := decide_eq_false c2
  clear c2
  replace H := Option.bind_eq_some_iff.mp H
  obtain ⟨t348, A110, H⟩ := H
  replace H : (some (false, t348, (([1] : List Int)))) = some (r1, r2, r3) := H
  have A11 := Aside0.mk A110
  clear A110
  obtain ⟨y351, hy351⟩ : ∃ y_ : List Int, y_ = (([1] : List Int)) := ⟨_, rfl⟩
  replace H : (some (false, t348, y351)) = some (r1, r2, r3) := by first | (rw [hy351]; with_reducible exact H) | (have H2_ := (Option.bind_some _ _).symm.trans H; rw [hy351]; with_reducible exact H2_) | (have H2_ := (Option.bind_some _ _).symm.trans H; with_reducible exact H2_) | with_reducible exact H | (rw [hy351]; exact H) | exact H
  have Ny351 := Aside0.mk hy351
  clear hy351
  simp only [Option.some.injEq, Prod.mk.injEq] at H
  obtain ⟨rfl, rfl, rfl⟩ := H
  go_enter Try.func53, Try.ntmps53
  go_wp2_with (first | ((with_reducible refine gate_dst (N := 2) rfl ?_); refine bx_ (N := 2) (cs := #[.bool false, .slice none 0 0, .slice none 0 0]) (t := 32) ?_; intro gb341 hg w12 hbox hb; have BK341 := Aside0.mk (hbox); have GW341 := geh hg HB; have GE341 := geh hg HB; replace HB := bst HB hb; clear hb hbox hg) | ((with_reducible refine gate_callee (f := 73) rfl ?_); refine gL_ (some 11) Try.func73 #[.int .i64 a0] ?_; (with_reducible refine (spec_l01Small.calls k a0 t348 _ A11.out).mono ?_); rintro e w13 ⟨v349, rfl, ho0, hb⟩; refine ⟨_, rfl, ?_⟩; have HO350 := lwR ho0 HB; replace BK341 := bkb BK341 hb; replace HB := bst HB hb; (try clear hb); (try clear hb2); (try clear hk); (try clear hi); (try clear ho0)) | ((with_reducible refine gate_dst (N := 12) rfl ?_); refine Kd.R_lit (Kd.int .i64) _ 3 ?hg (N := 12) ?hd (xs := ([1] : List Int)) (inner := [.int .i64 1]) (ok := fun _ => True) (okp := fun _ => True) ?hr ?hp (fun _ hk => hk) trivial (Below.refl _ _) (Nat.le_refl _) (by simp) ?_; (case hd => rfl); (case hg => rfl); (case hr => first | (go_simp; done) | (go_simp; rfl)); (case hp => exact (Reps.one (show Kd.M (Kd.int .i64) _ _ _ 1 [.int .i64 1] from rfl) (Reps.none _ _))); intro v352 w14 ho15 hb hg_ hnew_; clear hg_ hnew_; (first | rw [← Ny351.out] at ho15 | (simp only [Int.reduceToNat] at ho15; rw [← Ny351.out] at ho15)); have HO353 := lwR (nwR ho15 HO350) HB; replace HO350 := eldR HO350 (Kd.R_base ho15) hb; replace BK341 := bkb BK341 hb; replace HB := bst HB hb; clear hb ho15; obtain ⟨Ao16, co16, eo16⟩ := Kd.R_slice HO353.out; subst eo16; obtain ⟨Ao17, co17, eo17⟩ := Kd.R_slice HO350.out; subst eo17; obtain ⟨hcz18_0, hcz18_1, hcz18_2, hfz18_0, hfz18_1, hfz18_2⟩ := bc3 BK341))
  refine bodyPost_ret (results_cell_row rfl _ _ gb341 32 #[.bool false, .slice Ao17 t348.length co17, .slice Ao16 y351.length co16] (0, 0) _ rfl (bp3 BK341 _ _ _) Try.underlying32 rfl (by kernel_rfl)) rfl ?_
  exact ⟨_, _, er_, (crN HO350 BK341 fun _ hk => hk.1.2), (crN HO353 BK341 fun _ hk => hk.1.2), blw HB⟩

/-! ### impl_whole: function 58 -/
def impl_whole.f (k : Nat) (a0 : Int) : Option (Bool × List Int × List Int) := if a0 < 0 then ((impl_natOf.f k (wrap64 (-a0))).bind fun t355 => ((impl_one.f).bind fun t358 => (some (true, t355, t358)))) else ((impl_natOf.f k a0).bind fun t361 => ((impl_one.f).bind fun t364 => (some (false, t361, t364))))
theorem impl_whole.mono : ∀ a0 k, LeO (impl_whole.f k a0) (impl_whole.f (k + 1) a0) := by
 intro a0 k
 unfold impl_whole.f
 repeat' first
   | (with_reducible exact impl_natOf.mono _ _)
   | (with_reducible exact LeO.refl _)
   | (with_reducible exact LeO.none _)
   | (with_reducible refine LeO.ite ?_ ?_)
   | (with_reducible refine LeO.bind ?_ (fun _ => ?_))
   | exact impl_natOf.mono _ _
   | exact LeO.none _
   | refine LeO.ite ?_ ?_
   | refine LeO.bind ?_ (fun _ => ?_)
set_option maxHeartbeats 8000000 in
set_option maxRecDepth 100000 in
theorem impl_whole.calls (k : Nat) (a0 : Int) (r1 : Bool) (r2 : List Int) (r3 : List Int) (w : World) (h : impl_whole.f k a0 = some (r1, r2, r3)) :
  Calls Try.prog 58 #[.int .i64 a0] w fun e w' => ∃ v1_ v2_ : Value, e = .returned (.agg #[.bool r1, v1_, v2_]) ∧ Kd.R (Kd.int .i64) 3 w' w.heap.size (fun k_ => nO k_ v2_) v1_ r2 ∧ Kd.R (Kd.int .i64) 3 w' w.heap.size (fun k_ => nO k_ v1_) v2_ r3 ∧ Below w.heap.size w w' := by
 have hu32 := Try.underlying32
 have HB := Aside0.mk (Below.refl w.heap.size w)
 have H : (if a0 < 0 then ((impl_natOf.f k (wrap64 (-a0))).bind fun t355 => ((impl_one.f).bind fun t358 => (some (true, t355, t358)))) else ((impl_natOf.f k a0).bind fun t361 => ((impl_one.f).bind fun t364 => (some (false, t361, t364))))) = some (r1, r2, r3) := h
 clear h
 by_cases c2 : a0 < 0
 ·
  rw [if_pos c2] at H
  have c2b0 : decide (a0 < 0) = true := decide_eq_true c2
  clear c2
  replace H := Option.bind_eq_some_iff.mp H
  obtain ⟨t355, A30, H⟩ := H
  replace H : ((impl_one.f).bind fun t358 => (some (true, t355, t358))) = some (r1, r2, r3) := H
  have A3 := Aside0.mk A30
  clear A30
  replace H := Option.bind_eq_some_iff.mp H
  obtain ⟨t358, A40, H⟩ := H
  replace H : (some (true, t355, t358)) = some (r1, r2, r3) := H
  have A4 := Aside0.mk A40
  clear A40
  simp only [Option.some.injEq, Prod.mk.injEq] at H
  obtain ⟨rfl, rfl, rfl⟩ := H
  go_enter Try.func58, Try.ntmps58
  go_wp2_with (first | ((with_reducible refine gate_dst (N := 2) rfl ?_); refine bx_ (N := 2) (cs := #[.bool false, .slice none 0 0, .slice none 0 0]) (t := 32) ?_; intro gb354 hg w5 hbox hb; have BK354 := Aside0.mk (hbox); have GW354 := geh hg HB; have GE354 := geh hg HB; replace HB := bst HB hb; clear hb hbox hg) | ((with_reducible refine gate_callee (f := 79) rfl ?_); refine gL_ (some 7) Try.func79 #[.int .i64 (wrap64 (-a0))] ?_; (with_reducible refine (impl_natOf.calls k (wrap64 (-a0)) t355 _ A3.out).mono ?_); rintro e w6 ⟨v356, rfl, ho0, hb⟩; refine ⟨_, rfl, ?_⟩; have HO357 := lwR ho0 HB; replace BK354 := bkb BK354 hb; replace HB := bst HB hb; (try clear hb); (try clear hb2); (try clear hk); (try clear hi); (try clear ho0)) | ((with_reducible refine gate_callee (f := 68) rfl ?_); refine gL_ (some 8) Try.func68 #[] ?_; (with_reducible refine (impl_one.calls  t358 _ A4.out).mono ?_); rintro e w7 ⟨v359, rfl, ho0, hb⟩; refine ⟨_, rfl, ?_⟩; have HO360 := lwR (nwR ho0 HO357) HB; replace HO357 := eldR HO357 (Kd.R_base ho0) hb; replace BK354 := bkb BK354 hb; replace HB := bst HB hb; (try clear hb); (try clear hb2); (try clear hk); (try clear hi); (try clear ho0); obtain ⟨Ao8, co8, eo8⟩ := Kd.R_slice HO360.out; subst eo8; obtain ⟨Ao9, co9, eo9⟩ := Kd.R_slice HO357.out; subst eo9; obtain ⟨hcz10_0, hcz10_1, hcz10_2, hfz10_0, hfz10_1, hfz10_2⟩ := bc3 BK354))
  refine bodyPost_ret (results_cell_row rfl _ _ gb354 32 #[.bool true, .slice Ao9 t355.length co9, .slice Ao8 t358.length co8] (0, 0) _ rfl (bp3 BK354 _ _ _) Try.underlying32 rfl (by kernel_rfl)) rfl ?_
  exact ⟨_, _, er_, (crN HO357 BK354 fun _ hk => hk.1.2), (crN HO360 BK354 fun _ hk => hk.1.2), blw HB⟩
 ·
  rw [if_neg c2] at H
  have c2b0 : decide (a0 < 0) = false := decide_eq_false c2
  clear c2
  replace H := Option.bind_eq_some_iff.mp H
  obtain ⟨t361, A110, H⟩ := H
  replace H : ((impl_one.f).bind fun t364 => (some (false, t361, t364))) = some (r1, r2, r3) := H
  have A11 := Aside0.mk A110
  clear A110
  replace H := Option.bind_eq_some_iff.mp H
  obtain ⟨t364, A120, H⟩ := H
  replace H : (some (false, t361, t364)) = some (r1, r2, r3) := H
  have A12 := Aside0.mk A120
  clear A120
  simp only [Option.some.injEq, Prod.mk.injEq] at H
  obtain ⟨rfl, rfl, rfl⟩ := H
  go_enter Try.func58, Try.ntmps58
  go_wp2_with (first | ((with_reducible refine gate_dst (N := 2) rfl ?_); refine bx_ (N := 2) (cs := #[.bool false, .slice none 0 0, .slice none 0 0]) (t := 32) ?_; intro gb354 hg w13 hbox hb; have BK354 := Aside0.mk (hbox); have GW354 := geh hg HB; have GE354 := geh hg HB; replace HB := bst HB hb; clear hb hbox hg) | ((with_reducible refine gate_callee (f := 79) rfl ?_); refine gL_ (some 11) Try.func79 #[.int .i64 a0] ?_; (with_reducible refine (impl_natOf.calls k a0 t361 _ A11.out).mono ?_); rintro e w14 ⟨v362, rfl, ho0, hb⟩; refine ⟨_, rfl, ?_⟩; have HO363 := lwR ho0 HB; replace BK354 := bkb BK354 hb; replace HB := bst HB hb; (try clear hb); (try clear hb2); (try clear hk); (try clear hi); (try clear ho0)) | ((with_reducible refine gate_callee (f := 68) rfl ?_); refine gL_ (some 12) Try.func68 #[] ?_; (with_reducible refine (impl_one.calls  t364 _ A12.out).mono ?_); rintro e w15 ⟨v365, rfl, ho0, hb⟩; refine ⟨_, rfl, ?_⟩; have HO366 := lwR (nwR ho0 HO363) HB; replace HO363 := eldR HO363 (Kd.R_base ho0) hb; replace BK354 := bkb BK354 hb; replace HB := bst HB hb; (try clear hb); (try clear hb2); (try clear hk); (try clear hi); (try clear ho0); obtain ⟨Ao16, co16, eo16⟩ := Kd.R_slice HO366.out; subst eo16; obtain ⟨Ao17, co17, eo17⟩ := Kd.R_slice HO363.out; subst eo17; obtain ⟨hcz18_0, hcz18_1, hcz18_2, hfz18_0, hfz18_1, hfz18_2⟩ := bc3 BK354))
  refine bodyPost_ret (results_cell_row rfl _ _ gb354 32 #[.bool false, .slice Ao17 t361.length co17, .slice Ao16 t364.length co16] (0, 0) _ rfl (bp3 BK354 _ _ _) Try.underlying32 rfl (by kernel_rfl)) rfl ?_
  exact ⟨_, _, er_, (crN HO363 BK354 fun _ hk => hk.1.2), (crN HO366 BK354 fun _ hk => hk.1.2), blw HB⟩

end Go.Proofs.Ytegbmillbbcmfaa.Q
