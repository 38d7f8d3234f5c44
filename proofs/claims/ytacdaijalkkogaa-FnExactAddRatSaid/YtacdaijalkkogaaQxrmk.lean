-- written by a program of this claim's session (myprint.py) out of the translation; Lean checks it.
import Derived.Test.YtacdaijalkkogaaQx0
import Derived.Test.YtacdaijalkkogaaSq
import Derived.Test.YtacdaijalkkogaaQxcmp
import Derived.Test.YtacdaijalkkogaaQxdiv
import Derived.Test.YtacdaijalkkogaaQxsub
import Derived.Test.YtacdaijalkkogaaQxgcd
import Derived.Test.YtacdaijalkkogaaQxrk
namespace Go.Proofs.Ytacdaijalkkogaa.Q
open Go.RowKit Go.Proofs.YtacdaijalkkogaaW.PrintWords Go.Proofs.YtacdaijalkkogaaW.PrintLast Go.Proofs.YtacdaijalkkogaaW.PrintMore
attribute [local go_sem] max2_int min2_int max_two min_two max_three min_three max_four min_four   -- for this text's walks alone
set_option linter.unusedVariables false
set_option linter.unusedSimpArgs false

theorem l02Make_gt (l : List Int) : decide (0 < l.length) = decide ((l.length : Int) > 0) := by simp only [decide_eq_decide]; omega
def spec_l02Make.f (k : Nat) (a0 : Bool) (l1 : List Int) (l2 : List Int) : Option (Bool × List Int × List Int) := (spec_l01Gcd.f k l1 l2).bind fun t261 => ((spec_l01Div.f k l1 t261).bind fun bt264 => ((spec_l01Div.f k l2 t261).bind fun bt270 => (if a0 = true then (some (decide ((bt264.1.length : Int) > 0), bt264.1, bt270.1)) else (some (false, bt264.1, bt270.1)))))
theorem spec_l02Make.mono : ∀ a0 a1 a2 k, LeO (spec_l02Make.f k a0 a1 a2) (spec_l02Make.f (k + 1) a0 a1 a2) := by
 intro a0 a1 a2 k
 unfold spec_l02Make.f
 repeat' first
   | (with_reducible exact spec_l01Div.mono _ _ _)
   | (with_reducible exact spec_l01Gcd.mono _ _ _)
   | (with_reducible exact LeO.refl _)
   | (with_reducible exact LeO.none _)
   | (with_reducible refine LeO.ite ?_ ?_)
   | (with_reducible refine LeO.bind ?_ (fun _ => ?_))
   | exact spec_l01Div.mono _ _ _
   | exact spec_l01Gcd.mono _ _ _
   | exact LeO.none _
   | refine LeO.ite ?_ ?_
   | refine LeO.bind ?_ (fun _ => ?_)
set_option maxHeartbeats 8000000 in
set_option maxRecDepth 100000 in
theorem spec_l02Make.calls (k : Nat) (a0 : Bool) (A1 : Option Addr) (c1 : Nat) (l1 : List Int) (A2 : Option Addr) (c2 : Nat) (l2 : List Int) (r1 : Bool) (r2 : List Int) (r3 : List Int) (w : World) (hr1 : Kd.C (Kd.int .i64) w A1 l1.length l1) (hc1 : l1.length ≤ c1) (hr2 : Kd.C (Kd.int .i64) w A2 l2.length l2) (hc2 : l2.length ≤ c2) (h : spec_l02Make.f k a0 l1 l2 = some (r1, r2, r3)) :
  Calls Try.prog 47 #[.bool a0, .slice A1 l1.length c1, .slice A2 l2.length c2] w fun e w' => ∃ v1_ v2_ : Value, e = .returned (.agg #[.bool r1, v1_, v2_]) ∧ Kd.R (Kd.int .i64) 3 w' w.heap.size (fun k_ => nO k_ v2_) v1_ r2 ∧ Kd.R (Kd.int .i64) 3 w' w.heap.size (fun k_ => nO k_ v1_) v2_ r3 ∧ Below w.heap.size w w' := by
 have hu24 := Try.underlying24
 have HR1 := Aside0.mk hr1
 have HC1 := Aside0.mk hc1
 clear hr1 hc1
 have HR2 := Aside0.mk hr2
 have HC2 := Aside0.mk hc2
 clear hr2 hc2
 have HB := Aside0.mk (Below.refl w.heap.size w)
 have H : ((spec_l01Gcd.f k l1 l2).bind fun t261 => ((spec_l01Div.f k l1 t261).bind fun bt264 => ((spec_l01Div.f k l2 t261).bind fun bt270 => (if a0 = true then (some (decide ((bt264.1.length : Int) > 0), bt264.1, bt270.1)) else (some (false, bt264.1, bt270.1)))))) = some (r1, r2, r3) := h
 clear h
 replace H := Option.bind_eq_some_iff.mp H
 obtain ⟨t261, A40, H⟩ := H
 replace H : ((spec_l01Div.f k l1 t261).bind fun bt264 => ((spec_l01Div.f k l2 t261).bind fun bt270 => (if a0 = true then (some (decide ((bt264.1.length : Int) > 0), bt264.1, bt270.1)) else (some (false, bt264.1, bt270.1))))) = some (r1, r2, r3) := H
 have A4 := Aside0.mk A40
 clear A40
 replace H := Option.bind_eq_some_iff.mp H
 obtain ⟨⟨t264, t265⟩, A50, H⟩ := H
 replace H : ((spec_l01Div.f k l2 t261).bind fun bt270 => (if a0 = true then (some (decide ((t264.length : Int) > 0), t264, bt270.1)) else (some (false, t264, bt270.1)))) = some (r1, r2, r3) := H
 have A5 := Aside0.mk A50
 clear A50
 replace H := Option.bind_eq_some_iff.mp H
 obtain ⟨⟨t270, t271⟩, A60, H⟩ := H
 replace H : (if a0 = true then (some (decide ((t264.length : Int) > 0), t264, t270)) else (some (false, t264, t270))) = some (r1, r2, r3) := H
 have A6 := Aside0.mk A60
 clear A60
 by_cases c7 : a0 = true
 ·
  subst c7
  have H1 : (some (decide ((t264.length : Int) > 0), t264, t270)) = some (r1, r2, r3) := by rw [if_pos rfl] at H; exact H
  clear H
  have H := H1
  clear H1
  simp only [Option.some.injEq, Prod.mk.injEq] at H
  obtain ⟨rfl, rfl, rfl⟩ := H
  go_enter Try.func47, Try.ntmps47
  go_wp2_with (first | ((with_reducible refine gate_dst (N := 6) rfl ?_); (try (refine gate_guard (by rfl) ?_; dsimp only)); refine bx_ (N := 6) (cs := #[.bool false, .slice none 0 0, .slice none 0 0]) (t := 24) ?_; intro gb260 hg w8 hbox hb; have BK260 := Aside0.mk (hbox); have GW260 := geh hg HB; have GE260 := geh hg HB; replace HB := bst HB hb; clear hb hbox hg) | ((with_reducible refine gate_callee (f := 56) rfl ?_); refine gL_ (some 14) Try.func56 #[.slice A1 l1.length c1, .slice A2 l2.length c2] ?_; (with_reducible refine (spec_l01Gcd.calls k (fun k_ => k_ < w.heap.size) _ _ l1 (fun k_ => k_ < w.heap.size) _ _ l2 t261 _ ?side1 ?side2 A4.out).mono ?_); (case side1 => exact Kd.V_mk HC1.out (Kd.F_below (Kd.C_F (Kd.heap_int .i64) HR1.out) (blw HB))); (case side2 => exact Kd.V_mk HC2.out (Kd.F_below (Kd.C_F (Kd.heap_int .i64) HR2.out) (blw HB))); rintro e w9 ⟨v262, rfl, ho0, hb⟩; refine ⟨_, rfl, ?_⟩; have HO263 := lwR (Kd.R_mono (ok' := fun k_ => True) ho0 (fun _ hk_ => trivial)) HB; replace BK260 := bkb BK260 hb; replace HB := bst HB hb; (try clear hb); (try clear hb2); (try clear hk); (try clear hi); (try clear ho0); obtain ⟨Ao10, co10, eo10⟩ := Kd.R_slice HO263.out; subst eo10) | ((with_reducible refine gate_callee (f := 92) rfl ?_); refine gL_ (some 18) Try.func92 #[.slice A1 l1.length c1, .slice Ao10 t261.length co10] ?_; (with_reducible refine (spec_l01Div.calls k _ _ l1 _ _ t261 t264 t265 _ ?side1 ?side2 ?side3 ?side4 A5.out).mono ?_); (case side1 => exact crC (Kd.C_below HR1.out HB.out)); (case side2 => exact HC1.out); (case side3 => exact crC (Kd.R_reads' HO263.out).2.2); (case side4 => exact (Kd.R_reads' HO263.out).2.1); rintro e w11 ⟨v266, v268, rfl, ho0, ho1, hb⟩; refine ⟨_, rfl, ?_⟩; have HO267 := lwR (nwR ho0 HO263) HB; have HO269 := lwR (nwR ho1 HO263) HB; replace HO263 := tldR HO263 hb (Kd.R_base ho0) (Kd.R_base ho1); replace BK260 := bkb BK260 hb; replace HB := bst HB hb; (try clear hb); (try clear hb2); (try clear hk); (try clear hi); (try clear ho0); (try clear ho1)) | ((with_reducible refine gate_callee (f := 92) rfl ?_); refine gL_ (some 24) Try.func92 #[.slice A2 l2.length c2, .slice Ao10 t261.length co10] ?_; (with_reducible refine (spec_l01Div.calls k _ _ l2 _ _ t261 t270 t271 _ ?side1 ?side2 ?side3 ?side4 A6.out).mono ?_); (case side1 => exact crC (Kd.C_below HR2.out HB.out)); (case side2 => exact HC2.out); (case side3 => exact crC (Kd.R_reads' HO263.out).2.2); (case side4 => exact (Kd.R_reads' HO263.out).2.1); rintro e w12 ⟨v272, v274, rfl, ho0, ho1, hb⟩; refine ⟨_, rfl, ?_⟩; have HO273 := lwR (nwR (nwR (nwR ho0 HO263) HO267) HO269) HB; have HO275 := lwR (nwR (nwR (nwR ho1 HO263) HO267) HO269) HB; replace HO263 := tldR HO263 hb (Kd.R_base ho0) (Kd.R_base ho1); replace HO267 := tldR HO267 hb (Kd.R_base ho0) (Kd.R_base ho1); replace HO269 := tldR HO269 hb (Kd.R_base ho0) (Kd.R_base ho1); replace BK260 := bkb BK260 hb; replace HB := bst HB hb; (try clear hb); (try clear hb2); (try clear hk); (try clear hi); (try clear ho0); (try clear ho1); obtain ⟨Ao13, co13, eo13⟩ := Kd.R_slice HO267.out; subst eo13; obtain ⟨Ao14, co14, eo14⟩ := Kd.R_slice HO273.out; subst eo14; obtain ⟨hcz15_0, hcz15_1, hcz15_2, hfz15_0, hfz15_1, hfz15_2⟩ := bc3 BK260))
  refine bodyPost_ret (results_cell_row rfl _ _ gb260 24 #[.bool (decide (0 < t264.length)), .slice Ao13 t264.length co13, .slice Ao14 t270.length co14] (0, 0) _ rfl (bp3 BK260 _ _ _) Try.underlying24 rfl (by kernel_rfl)) rfl ?_
  exact ⟨_, _, by first | rfl | (simp only [l02Make_gt]; rfl) | (simp [errW_none, errW_some] <;> rfl) | (simp [*, errW_none, errW_some] <;> rfl), (crN HO267 BK260 fun _ hk => hk.1.1.2), (crN HO273 BK260 fun _ hk => hk.1.1.2), blw HB⟩
 ·
  replace c7 := Bool.eq_false_iff.mpr c7
  subst c7
  have H1 : (some (false, t264, t270)) = some (r1, r2, r3) := by rw [if_neg (show ¬ (false = true) by decide)] at H; exact H
  clear H
  have H := H1
  clear H1
  simp only [Option.some.injEq, Prod.mk.injEq] at H
  obtain ⟨rfl, rfl, rfl⟩ := H
  go_enter Try.func47, Try.ntmps47
  go_wp2_with (first | ((with_reducible refine gate_dst (N := 6) rfl ?_); (try (refine gate_guard (by rfl) ?_; dsimp only)); refine bx_ (N := 6) (cs := #[.bool false, .slice none 0 0, .slice none 0 0]) (t := 24) ?_; intro gb260 hg w16 hbox hb; have BK260 := Aside0.mk (hbox); have GW260 := geh hg HB; have GE260 := geh hg HB; replace HB := bst HB hb; clear hb hbox hg) | ((with_reducible refine gate_callee (f := 56) rfl ?_); refine gL_ (some 14) Try.func56 #[.slice A1 l1.length c1, .slice A2 l2.length c2] ?_; (with_reducible refine (spec_l01Gcd.calls k (fun k_ => k_ < w.heap.size) _ _ l1 (fun k_ => k_ < w.heap.size) _ _ l2 t261 _ ?side1 ?side2 A4.out).mono ?_); (case side1 => exact Kd.V_mk HC1.out (Kd.F_below (Kd.C_F (Kd.heap_int .i64) HR1.out) (blw HB))); (case side2 => exact Kd.V_mk HC2.out (Kd.F_below (Kd.C_F (Kd.heap_int .i64) HR2.out) (blw HB))); rintro e w17 ⟨v262, rfl, ho0, hb⟩; refine ⟨_, rfl, ?_⟩; have HO263 := lwR (Kd.R_mono (ok' := fun k_ => True) ho0 (fun _ hk_ => trivial)) HB; replace BK260 := bkb BK260 hb; replace HB := bst HB hb; (try clear hb); (try clear hb2); (try clear hk); (try clear hi); (try clear ho0); obtain ⟨Ao18, co18, eo18⟩ := Kd.R_slice HO263.out; subst eo18) | ((with_reducible refine gate_callee (f := 92) rfl ?_); refine gL_ (some 18) Try.func92 #[.slice A1 l1.length c1, .slice Ao18 t261.length co18] ?_; (with_reducible refine (spec_l01Div.calls k _ _ l1 _ _ t261 t264 t265 _ ?side1 ?side2 ?side3 ?side4 A5.out).mono ?_); (case side1 => exact crC (Kd.C_below HR1.out HB.out)); (case side2 => exact HC1.out); (case side3 => exact crC (Kd.R_reads' HO263.out).2.2); (case side4 => exact (Kd.R_reads' HO263.out).2.1); rintro e w19 ⟨v266, v268, rfl, ho0, ho1, hb⟩; refine ⟨_, rfl, ?_⟩; have HO267 := lwR (nwR ho0 HO263) HB; have HO269 := lwR (nwR ho1 HO263) HB; replace HO263 := tldR HO263 hb (Kd.R_base ho0) (Kd.R_base ho1); replace BK260 := bkb BK260 hb; replace HB := bst HB hb; (try clear hb); (try clear hb2); (try clear hk); (try clear hi); (try clear ho0); (try clear ho1)) | ((with_reducible refine gate_callee (f := 92) rfl ?_); refine gL_ (some 24) Try.func92 #[.slice A2 l2.length c2, .slice Ao18 t261.length co18] ?_; (with_reducible refine (spec_l01Div.calls k _ _ l2 _ _ t261 t270 t271 _ ?side1 ?side2 ?side3 ?side4 A6.out).mono ?_); (case side1 => exact crC (Kd.C_below HR2.out HB.out)); (case side2 => exact HC2.out); (case side3 => exact crC (Kd.R_reads' HO263.out).2.2); (case side4 => exact (Kd.R_reads' HO263.out).2.1); rintro e w20 ⟨v272, v274, rfl, ho0, ho1, hb⟩; refine ⟨_, rfl, ?_⟩; have HO273 := lwR (nwR (nwR (nwR ho0 HO263) HO267) HO269) HB; have HO275 := lwR (nwR (nwR (nwR ho1 HO263) HO267) HO269) HB; replace HO263 := tldR HO263 hb (Kd.R_base ho0) (Kd.R_base ho1); replace HO267 := tldR HO267 hb (Kd.R_base ho0) (Kd.R_base ho1); replace HO269 := tldR HO269 hb (Kd.R_base ho0) (Kd.R_base ho1); replace BK260 := bkb BK260 hb; replace HB := bst HB hb; (try clear hb); (try clear hb2); (try clear hk); (try clear hi); (try clear ho0); (try clear ho1); obtain ⟨Ao21, co21, eo21⟩ := Kd.R_slice HO273.out; subst eo21; obtain ⟨Ao22, co22, eo22⟩ := Kd.R_slice HO267.out; subst eo22; obtain ⟨hcz23_0, hcz23_1, hcz23_2, hfz23_0, hfz23_1, hfz23_2⟩ := bc3 BK260))
  refine bodyPost_ret (results_cell_row rfl _ _ gb260 24 #[.bool false, .slice Ao22 t264.length co22, .slice Ao21 t270.length co21] (0, 0) _ rfl (bp3 BK260 _ _ _) Try.underlying24 rfl (by kernel_rfl)) rfl ?_
  exact ⟨_, _, by first | rfl | (simp only [l02Make_gt]; rfl) | (simp [errW_none, errW_some] <;> rfl) | (simp [*, errW_none, errW_some] <;> rfl), (crN HO267 BK260 fun _ hk => hk.1.1.2), (crN HO273 BK260 fun _ hk => hk.1.1.2), blw HB⟩

theorem lowest_gt (l : List Int) : decide (0 < l.length) = decide ((l.length : Int) > 0) := by simp only [decide_eq_decide]; omega
def impl_lowest.f (k : Nat) (a0 : Bool) (l1 : List Int) (l2 : List Int) : Option (Bool × List Int × List Int) := (impl_natGcd.f k l1 l2).bind fun t1069 => ((impl_one.f).bind fun t1072 => ((impl_natCmp.f t1069 t1072).bind fun t1075 => (if t1075 = 0 then (if a0 = true then ((slices_Clone_int_int.f l1).bind fun t1076 => ((slices_Clone_int_int.f l2).bind fun t1079 => (some (decide ((l1.length : Int) > 0), t1076, t1079)))) else ((slices_Clone_int_int.f l1).bind fun t1082 => ((slices_Clone_int_int.f l2).bind fun t1085 => (some (false, t1082, t1085))))) else ((impl_natDiv.f l1 t1069).bind fun bt1088 => ((impl_natDiv.f l2 t1069).bind fun bt1094 => (if a0 = true then ((slices_Clone_int_int.f bt1088.1).bind fun t1100 => ((slices_Clone_int_int.f bt1094.1).bind fun t1103 => (some (decide ((bt1088.1.length : Int) > 0), t1100, t1103)))) else ((slices_Clone_int_int.f bt1088.1).bind fun t1106 => ((slices_Clone_int_int.f bt1094.1).bind fun t1109 => (some (false, t1106, t1109))))))))))
theorem impl_lowest.mono : ∀ a0 a1 a2 k, LeO (impl_lowest.f k a0 a1 a2) (impl_lowest.f (k + 1) a0 a1 a2) := by
 intro a0 a1 a2 k
 unfold impl_lowest.f
 repeat' first
   | (with_reducible exact impl_natGcd.mono _ _ _)
   | (with_reducible exact LeO.refl _)
   | (with_reducible exact LeO.none _)
   | (with_reducible refine LeO.ite ?_ ?_)
   | (with_reducible refine LeO.bind ?_ (fun _ => ?_))
   | exact impl_natGcd.mono _ _ _
   | exact LeO.none _
   | refine LeO.ite ?_ ?_
   | refine LeO.bind ?_ (fun _ => ?_)
set_option maxHeartbeats 8000000 in
set_option maxRecDepth 100000 in
theorem impl_lowest.calls (k : Nat) (a0 : Bool) (A1 : Option Addr) (c1 : Nat) (l1 : List Int) (A2 : Option Addr) (c2 : Nat) (l2 : List Int) (r1 : Bool) (r2 : List Int) (r3 : List Int) (w : World) (hr1 : Kd.C (Kd.int .i64) w A1 l1.length l1) (hc1 : l1.length ≤ c1) (hr2 : Kd.C (Kd.int .i64) w A2 l2.length l2) (hc2 : l2.length ≤ c2) (h : impl_lowest.f k a0 l1 l2 = some (r1, r2, r3)) :
  Calls Try.prog 94 #[.bool a0, .slice A1 l1.length c1, .slice A2 l2.length c2] w fun e w' => ∃ v1_ v2_ : Value, e = .returned (.agg #[.bool r1, v1_, v2_]) ∧ Kd.R (Kd.int .i64) 3 w' w.heap.size (fun k_ => nO k_ v2_) v1_ r2 ∧ Kd.R (Kd.int .i64) 3 w' w.heap.size (fun k_ => nO k_ v1_) v2_ r3 ∧ Below w.heap.size w w' := by
 have hu24 := Try.underlying24
 have HR1 := Aside0.mk hr1
 have HC1 := Aside0.mk hc1
 clear hr1 hc1
 have HR2 := Aside0.mk hr2
 have HC2 := Aside0.mk hc2
 clear hr2 hc2
 have HB := Aside0.mk (Below.refl w.heap.size w)
 have H : ((impl_natGcd.f k l1 l2).bind fun t1069 => ((impl_one.f).bind fun t1072 => ((impl_natCmp.f t1069 t1072).bind fun t1075 => (if t1075 = 0 then (if a0 = true then ((slices_Clone_int_int.f l1).bind fun t1076 => ((slices_Clone_int_int.f l2).bind fun t1079 => (some (decide ((l1.length : Int) > 0), t1076, t1079)))) else ((slices_Clone_int_int.f l1).bind fun t1082 => ((slices_Clone_int_int.f l2).bind fun t1085 => (some (false, t1082, t1085))))) else ((impl_natDiv.f l1 t1069).bind fun bt1088 => ((impl_natDiv.f l2 t1069).bind fun bt1094 => (if a0 = true then ((slices_Clone_int_int.f bt1088.1).bind fun t1100 => ((slices_Clone_int_int.f bt1094.1).bind fun t1103 => (some (decide ((bt1088.1.length : Int) > 0), t1100, t1103)))) else ((slices_Clone_int_int.f bt1088.1).bind fun t1106 => ((slices_Clone_int_int.f bt1094.1).bind fun t1109 => (some (false, t1106, t1109))))))))))) = some (r1, r2, r3) := h
 clear h
 replace H := Option.bind_eq_some_iff.mp H
 obtain ⟨t1069, A40, H⟩ := H
 replace H : ((impl_one.f).bind fun t1072 => ((impl_natCmp.f t1069 t1072).bind fun t1075 => (if t1075 = 0 then (if a0 = true then ((slices_Clone_int_int.f l1).bind fun t1076 => ((slices_Clone_int_int.f l2).bind fun t1079 => (some (decide ((l1.length : Int) > 0), t1076, t1079)))) else ((slices_Clone_int_int.f l1).bind fun t1082 => ((slices_Clone_int_int.f l2).bind fun t1085 => (some (false, t1082, t1085))))) else ((impl_natDiv.f l1 t1069).bind fun bt1088 => ((impl_natDiv.f l2 t1069).bind fun bt1094 => (if a0 = true then ((slices_Clone_int_int.f bt1088.1).bind fun t1100 => ((slices_Clone_int_int.f bt1094.1).bind fun t1103 => (some (decide ((bt1088.1.length : Int) > 0), t1100, t1103)))) else ((slices_Clone_int_int.f bt1088.1).bind fun t1106 => ((slices_Clone_int_int.f bt1094.1).bind fun t1109 => (some (false, t1106, t1109)))))))))) = some (r1, r2, r3) := H
 have A4 := Aside0.mk A40
 clear A40
 replace H := Option.bind_eq_some_iff.mp H
 obtain ⟨t1072, A50, H⟩ := H
 replace H : ((impl_natCmp.f t1069 t1072).bind fun t1075 => (if t1075 = 0 then (if a0 = true then ((slices_Clone_int_int.f l1).bind fun t1076 => ((slices_Clone_int_int.f l2).bind fun t1079 => (some (decide ((l1.length : Int) > 0), t1076, t1079)))) else ((slices_Clone_int_int.f l1).bind fun t1082 => ((slices_Clone_int_int.f l2).bind fun t1085 => (some (false, t1082, t1085))))) else ((impl_natDiv.f l1 t1069).bind fun bt1088 => ((impl_natDiv.f l2 t1069).bind fun bt1094 => (if a0 = true then ((slices_Clone_int_int.f bt1088.1).bind fun t1100 => ((slices_Clone_int_int.f bt1094.1).bind fun t1103 => (some (decide ((bt1088.1.length : Int) > 0), t1100, t1103)))) else ((slices_Clone_int_int.f bt1088.1).bind fun t1106 => ((slices_Clone_int_int.f bt1094.1).bind fun t1109 => (some (false, t1106, t1109))))))))) = some (r1, r2, r3) := H
 have A5 := Aside0.mk A50
 clear A50
 replace H := Option.bind_eq_some_iff.mp H
 obtain ⟨t1075, A60, H⟩ := H
 replace H : (if t1075 = 0 then (if a0 = true then ((slices_Clone_int_int.f l1).bind fun t1076 => ((slices_Clone_int_int.f l2).bind fun t1079 => (some (decide ((l1.length : Int) > 0), t1076, t1079)))) else ((slices_Clone_int_int.f l1).bind fun t1082 => ((slices_Clone_int_int.f l2).bind fun t1085 => (some (false, t1082, t1085))))) else ((impl_natDiv.f l1 t1069).bind fun bt1088 => ((impl_natDiv.f l2 t1069).bind fun bt1094 => (if a0 = true then ((slices_Clone_int_int.f bt1088.1).bind fun t1100 => ((slices_Clone_int_int.f bt1094.1).bind fun t1103 => (some (decide ((bt1088.1.length : Int) > 0), t1100, t1103)))) else ((slices_Clone_int_int.f bt1088.1).bind fun t1106 => ((slices_Clone_int_int.f bt1094.1).bind fun t1109 => (some (false, t1106, t1109)))))))) = some (r1, r2, r3) := H
 have A6 := Aside0.mk A60
 clear A60
 by_cases c7 : t1075 = 0
 ·
  rw [if_pos c7] at H
  have c7b0 : (t1075 == 0) = true := beq_iff_eq.mpr c7
  have c7b1 : (t1075 != 0) = false := bne_eq_false_iff_eq.mpr c7
  clear c7
  by_cases c8 : a0 = true
  ·
   subst c8
   have H1 : ((slices_Clone_int_int.f l1).bind fun t1076 => ((slices_Clone_int_int.f l2).bind fun t1079 => (some (decide ((l1.length : Int) > 0), t1076, t1079)))) = some (r1, r2, r3) := by rw [if_pos rfl] at H; exact H
   clear H
   have H := H1
   clear H1
   replace H := Option.bind_eq_some_iff.mp H
   obtain ⟨t1076, A90, H⟩ := H
   replace H : ((slices_Clone_int_int.f l2).bind fun t1079 => (some (decide ((l1.length : Int) > 0), t1076, t1079))) = some (r1, r2, r3) := H
   have A9 := Aside0.mk A90
   clear A90
   replace H := Option.bind_eq_some_iff.mp H
   obtain ⟨t1079, A100, H⟩ := H
   replace H : (some (decide ((l1.length : Int) > 0), t1076, t1079)) = some (r1, r2, r3) := H
   have A10 := Aside0.mk A100
   clear A100
   simp only [Option.some.injEq, Prod.mk.injEq] at H
   obtain ⟨rfl, rfl, rfl⟩ := H
   go_enter Try.func94, Try.ntmps94
   go_wp2_with (first | ((with_reducible refine gate_dst (N := 6) rfl ?_); (try (refine gate_guard (by rfl) ?_; dsimp only)); refine bx_ (N := 6) (cs := #[.bool false, .slice none 0 0, .slice none 0 0]) (t := 24) ?_; intro gb1068 hg w11 hbox hb; have BK1068 := Aside0.mk (hbox); have GW1068 := geh hg HB; have GE1068 := geh hg HB; replace HB := bst HB hb; clear hb hbox hg) | ((with_reducible refine gate_callee (f := 61) rfl ?_); refine gL_ (some 10) Try.func61 #[.slice A1 l1.length c1, .slice A2 l2.length c2] ?_; (with_reducible refine (impl_natGcd.calls k (fun k_ => k_ < w.heap.size) _ _ l1 (fun k_ => k_ < w.heap.size) _ _ l2 t1069 _ ?side1 ?side2 A4.out).mono ?_); (case side1 => exact Kd.V_mk HC1.out (Kd.F_below (Kd.C_F (Kd.heap_int .i64) HR1.out) (blw HB))); (case side2 => exact Kd.V_mk HC2.out (Kd.F_below (Kd.C_F (Kd.heap_int .i64) HR2.out) (blw HB))); rintro e w12 ⟨v1070, rfl, ho0, hb⟩; refine ⟨_, rfl, ?_⟩; have HO1071 := Aside0.mk (Kd.V_lower (Kd.V_mono (ok' := fun k_ => k_ ≠ gb1068) ho0 (fun k_ hk_ => Or.elim hk_ (fun hs_ => Or.elim hs_ (fun hs_ => fun e_ => Nat.not_le.2 hs_ (by rw [e_]; exact GW1068.out)) (fun hs_ => fun e_ => Nat.not_le.2 hs_ (by rw [e_]; exact GW1068.out))) (fun hn_ => (Kd.freshB (g := gb1068) (o := .cells #[.bool false, .slice none 0 0, .slice none 0 0] 24 (0, 0)) (crb BK1068) k_ hn_)))) (bsz HB)); replace BK1068 := bkb BK1068 hb; replace HB := bst HB hb; (try clear hb); (try clear hb2); (try clear hk); (try clear hi); (try clear ho0)) | ((with_reducible refine gate_callee (f := 62) rfl ?_); refine gL_ (some 12) Try.func62 #[] ?_; (with_reducible refine (impl_one.calls  t1072 _ A5.out).mono ?_); rintro e w13 ⟨v1073, rfl, ho0, hb⟩; refine ⟨_, rfl, ?_⟩; replace HO1071 := eldV HO1071 (Kd.R_base ho0) hb; have HO1074 := lwR ho0 HB; replace BK1068 := bkb BK1068 hb; replace HB := bst HB hb; (try clear hb); (try clear hb2); (try clear hk); (try clear hi); (try clear ho0); obtain ⟨Ao14, co14, eo14⟩ := Kd.V_slice HO1071.out; subst eo14; obtain ⟨Ao15, co15, eo15⟩ := Kd.R_slice HO1074.out; subst eo15) | ((with_reducible refine gate_callee (f := 60) rfl ?_); refine gL_ (some 13) Try.func60 #[.slice Ao14 t1069.length co14, .slice Ao15 t1072.length co15] ?_; (with_reducible refine (impl_natCmp.calls _ _ t1069 _ _ t1072 t1075 _ ?side1 ?side2 ?side3 ?side4 A6.out).mono ?_); (case side1 => exact crC (Kd.V_reads' HO1071.out).2.2); (case side2 => exact (Kd.V_reads' HO1071.out).2.1); (case side3 => exact crC (Kd.R_reads' HO1074.out).2.2); (case side4 => exact (Kd.R_reads' HO1074.out).2.1); rintro e w16 ⟨rfl, hb⟩; refine ⟨_, rfl, ?_⟩; replace HO1071 := rblV HO1071 hb; replace HO1074 := rblR HO1074 hb; replace BK1068 := bkb BK1068 hb; replace HB := bst HB hb; (try clear hb); (try clear hb2); (try clear hk); (try clear hi)) | ((with_reducible refine gate_callee (f := 102) rfl ?_); refine gL_ (some 34) Try.func102 #[.slice A1 l1.length c1] ?_; (with_reducible refine (slices_Clone_int_int.calls _ _ l1 t1076 _ ?side1 ?side2 A9.out).mono ?_); (case side1 => exact crC (Kd.C_below HR1.out HB.out)); (case side2 => exact HC1.out); rintro e w17 ⟨v1077, rfl, ho0, hb⟩; refine ⟨_, rfl, ?_⟩; replace HO1071 := eldV HO1071 (Kd.R_base ho0) hb; have HO1078 := lwR (nwR ho0 HO1074) HB; replace HO1074 := eldR HO1074 (Kd.R_base ho0) hb; replace BK1068 := bkb BK1068 hb; replace HB := bst HB hb; (try clear hb); (try clear hb2); (try clear hk); (try clear hi); (try clear ho0)) | ((with_reducible refine gate_callee (f := 102) rfl ?_); refine gL_ (some 36) Try.func102 #[.slice A2 l2.length c2] ?_; (with_reducible refine (slices_Clone_int_int.calls _ _ l2 t1079 _ ?side1 ?side2 A10.out).mono ?_); (case side1 => exact crC (Kd.C_below HR2.out HB.out)); (case side2 => exact HC2.out); rintro e w18 ⟨v1080, rfl, ho0, hb⟩; refine ⟨_, rfl, ?_⟩; replace HO1071 := eldV HO1071 (Kd.R_base ho0) hb; have HO1081 := lwR (nwR (nwR ho0 HO1074) HO1078) HB; replace HO1074 := eldR HO1074 (Kd.R_base ho0) hb; replace HO1078 := eldR HO1078 (Kd.R_base ho0) hb; replace BK1068 := bkb BK1068 hb; replace HB := bst HB hb; (try clear hb); (try clear hb2); (try clear hk); (try clear hi); (try clear ho0); obtain ⟨Ao19, co19, eo19⟩ := Kd.R_slice HO1081.out; subst eo19; obtain ⟨Ao20, co20, eo20⟩ := Kd.R_slice HO1078.out; subst eo20; obtain ⟨hcz21_0, hcz21_1, hcz21_2, hfz21_0, hfz21_1, hfz21_2⟩ := bc3 BK1068))
   refine bodyPost_ret (results_cell_row rfl _ _ gb1068 24 #[.bool (decide (0 < l1.length)), .slice Ao20 t1076.length co20, .slice Ao19 t1079.length co19] (0, 0) _ rfl (bp3 BK1068 _ _ _) Try.underlying24 rfl (by kernel_rfl)) rfl ?_
   exact ⟨_, _, by first | rfl | (simp only [lowest_gt]; rfl) | (simp [errW_none, errW_some] <;> rfl) | (simp [*, errW_none, errW_some] <;> rfl), (crN HO1078 BK1068 fun _ hk => hk.1.2), (crN HO1081 BK1068 fun _ hk => hk.1.2), blw HB⟩
  ·
   replace c8 := Bool.eq_false_iff.mpr c8
   subst c8
   have H1 : ((slices_Clone_int_int.f l1).bind fun t1082 => ((slices_Clone_int_int.f l2).bind fun t1085 => (some (false, t1082, t1085)))) = some (r1, r2, r3) := by rw [if_neg (show ¬ (false = true) by decide)] at H; exact H
   clear H
   have H := H1
   clear H1
   replace H := Option.bind_eq_some_iff.mp H
   obtain ⟨t1082, A220, H⟩ := H
   replace H : ((slices_Clone_int_int.f l2).bind fun t1085 => (some (false, t1082, t1085))) = some (r1, r2, r3) := H
   have A22 := Aside0.mk A220
   clear A220
   replace H := Option.bind_eq_some_iff.mp H
   obtain ⟨t1085, A230, H⟩ := H
   replace H : (some (false, t1082, t1085)) = some (r1, r2, r3) := H
   have A23 := Aside0.mk A230
   clear A230
   simp only [Option.some.injEq, Prod.mk.injEq] at H
   obtain ⟨rfl, rfl, rfl⟩ := H
   go_enter Try.func94, Try.ntmps94
   go_wp2_with (first | ((with_reducible refine gate_dst (N := 6) rfl ?_); (try (refine gate_guard (by rfl) ?_; dsimp only)); refine bx_ (N := 6) (cs := #[.bool false, .slice none 0 0, .slice none 0 0]) (t := 24) ?_; intro gb1068 hg w24 hbox hb; have BK1068 := Aside0.mk (hbox); have GW1068 := geh hg HB; have GE1068 := geh hg HB; replace HB := bst HB hb; clear hb hbox hg) | ((with_reducible refine gate_callee (f := 61) rfl ?_); refine gL_ (some 10) Try.func61 #[.slice A1 l1.length c1, .slice A2 l2.length c2] ?_; (with_reducible refine (impl_natGcd.calls k (fun k_ => k_ < w.heap.size) _ _ l1 (fun k_ => k_ < w.heap.size) _ _ l2 t1069 _ ?side1 ?side2 A4.out).mono ?_); (case side1 => exact Kd.V_mk HC1.out (Kd.F_below (Kd.C_F (Kd.heap_int .i64) HR1.out) (blw HB))); (case side2 => exact Kd.V_mk HC2.out (Kd.F_below (Kd.C_F (Kd.heap_int .i64) HR2.out) (blw HB))); rintro e w25 ⟨v1070, rfl, ho0, hb⟩; refine ⟨_, rfl, ?_⟩; have HO1071 := Aside0.mk (Kd.V_lower (Kd.V_mono (ok' := fun k_ => k_ ≠ gb1068) ho0 (fun k_ hk_ => Or.elim hk_ (fun hs_ => Or.elim hs_ (fun hs_ => fun e_ => Nat.not_le.2 hs_ (by rw [e_]; exact GW1068.out)) (fun hs_ => fun e_ => Nat.not_le.2 hs_ (by rw [e_]; exact GW1068.out))) (fun hn_ => (Kd.freshB (g := gb1068) (o := .cells #[.bool false, .slice none 0 0, .slice none 0 0] 24 (0, 0)) (crb BK1068) k_ hn_)))) (bsz HB)); replace BK1068 := bkb BK1068 hb; replace HB := bst HB hb; (try clear hb); (try clear hb2); (try clear hk); (try clear hi); (try clear ho0)) | ((with_reducible refine gate_callee (f := 62) rfl ?_); refine gL_ (some 12) Try.func62 #[] ?_; (with_reducible refine (impl_one.calls  t1072 _ A5.out).mono ?_); rintro e w26 ⟨v1073, rfl, ho0, hb⟩; refine ⟨_, rfl, ?_⟩; replace HO1071 := eldV HO1071 (Kd.R_base ho0) hb; have HO1074 := lwR ho0 HB; replace BK1068 := bkb BK1068 hb; replace HB := bst HB hb; (try clear hb); (try clear hb2); (try clear hk); (try clear hi); (try clear ho0); obtain ⟨Ao27, co27, eo27⟩ := Kd.V_slice HO1071.out; subst eo27; obtain ⟨Ao28, co28, eo28⟩ := Kd.R_slice HO1074.out; subst eo28) | ((with_reducible refine gate_callee (f := 60) rfl ?_); refine gL_ (some 13) Try.func60 #[.slice Ao27 t1069.length co27, .slice Ao28 t1072.length co28] ?_; (with_reducible refine (impl_natCmp.calls _ _ t1069 _ _ t1072 t1075 _ ?side1 ?side2 ?side3 ?side4 A6.out).mono ?_); (case side1 => exact crC (Kd.V_reads' HO1071.out).2.2); (case side2 => exact (Kd.V_reads' HO1071.out).2.1); (case side3 => exact crC (Kd.R_reads' HO1074.out).2.2); (case side4 => exact (Kd.R_reads' HO1074.out).2.1); rintro e w29 ⟨rfl, hb⟩; refine ⟨_, rfl, ?_⟩; replace HO1071 := rblV HO1071 hb; replace HO1074 := rblR HO1074 hb; replace BK1068 := bkb BK1068 hb; replace HB := bst HB hb; (try clear hb); (try clear hb2); (try clear hk); (try clear hi)) | ((with_reducible refine gate_callee (f := 102) rfl ?_); refine gL_ (some 34) Try.func102 #[.slice A1 l1.length c1] ?_; (with_reducible refine (slices_Clone_int_int.calls _ _ l1 t1082 _ ?side1 ?side2 A22.out).mono ?_); (case side1 => exact crC (Kd.C_below HR1.out HB.out)); (case side2 => exact HC1.out); rintro e w30 ⟨v1083, rfl, ho0, hb⟩; refine ⟨_, rfl, ?_⟩; replace HO1071 := eldV HO1071 (Kd.R_base ho0) hb; have HO1084 := lwR (nwR ho0 HO1074) HB; replace HO1074 := eldR HO1074 (Kd.R_base ho0) hb; replace BK1068 := bkb BK1068 hb; replace HB := bst HB hb; (try clear hb); (try clear hb2); (try clear hk); (try clear hi); (try clear ho0)) | ((with_reducible refine gate_callee (f := 102) rfl ?_); refine gL_ (some 36) Try.func102 #[.slice A2 l2.length c2] ?_; (with_reducible refine (slices_Clone_int_int.calls _ _ l2 t1085 _ ?side1 ?side2 A23.out).mono ?_); (case side1 => exact crC (Kd.C_below HR2.out HB.out)); (case side2 => exact HC2.out); rintro e w31 ⟨v1086, rfl, ho0, hb⟩; refine ⟨_, rfl, ?_⟩; replace HO1071 := eldV HO1071 (Kd.R_base ho0) hb; have HO1087 := lwR (nwR (nwR ho0 HO1074) HO1084) HB; replace HO1074 := eldR HO1074 (Kd.R_base ho0) hb; replace HO1084 := eldR HO1084 (Kd.R_base ho0) hb; replace BK1068 := bkb BK1068 hb; replace HB := bst HB hb; (try clear hb); (try clear hb2); (try clear hk); (try clear hi); (try clear ho0); obtain ⟨Ao32, co32, eo32⟩ := Kd.R_slice HO1087.out; subst eo32; obtain ⟨Ao33, co33, eo33⟩ := Kd.R_slice HO1084.out; subst eo33; obtain ⟨hcz34_0, hcz34_1, hcz34_2, hfz34_0, hfz34_1, hfz34_2⟩ := bc3 BK1068))
   refine bodyPost_ret (results_cell_row rfl _ _ gb1068 24 #[.bool false, .slice Ao33 t1082.length co33, .slice Ao32 t1085.length co32] (0, 0) _ rfl (bp3 BK1068 _ _ _) Try.underlying24 rfl (by kernel_rfl)) rfl ?_
   exact ⟨_, _, by first | rfl | (simp only [lowest_gt]; rfl) | (simp [errW_none, errW_some] <;> rfl) | (simp [*, errW_none, errW_some] <;> rfl), (crN HO1084 BK1068 fun _ hk => hk.1.2), (crN HO1087 BK1068 fun _ hk => hk.1.2), blw HB⟩
 ·
  rw [if_neg c7] at H
  have c7b0 : (t1075 == 0) = false := beq_eq_false_iff_ne.mpr c7
  have c7b1 : (t1075 != 0) = true := bne_iff_ne.mpr c7
  replace H := Option.bind_eq_some_iff.mp H
  obtain ⟨⟨t1088, t1089⟩, A350, H⟩ := H
  replace H : ((impl_natDiv.f l2 t1069).bind fun bt1094 => (if a0 = true then ((slices_Clone_int_int.f t1088).bind fun t1100 => ((slices_Clone_int_int.f bt1094.1).bind fun t1103 => (some (decide ((t1088.length : Int) > 0), t1100, t1103)))) else ((slices_Clone_int_int.f t1088).bind fun t1106 => ((slices_Clone_int_int.f bt1094.1).bind fun t1109 => (some (false, t1106, t1109)))))) = some (r1, r2, r3) := H
  have A35 := Aside0.mk A350
  clear A350
  replace H := Option.bind_eq_some_iff.mp H
  obtain ⟨⟨t1094, t1095⟩, A360, H⟩ := H
  replace H : (if a0 = true then ((slices_Clone_int_int.f t1088).bind fun t1100 => ((slices_Clone_int_int.f t1094).bind fun t1103 => (some (decide ((t1088.length : Int) > 0), t1100, t1103)))) else ((slices_Clone_int_int.f t1088).bind fun t1106 => ((slices_Clone_int_int.f t1094).bind fun t1109 => (some (false, t1106, t1109))))) = some (r1, r2, r3) := H
  have A36 := Aside0.mk A360
  clear A360
  by_cases c37 : a0 = true
  ·
   subst c37
   have H1 : ((slices_Clone_int_int.f t1088).bind fun t1100 => ((slices_Clone_int_int.f t1094).bind fun t1103 => (some (decide ((t1088.length : Int) > 0), t1100, t1103)))) = some (r1, r2, r3) := by rw [if_pos rfl] at H; exact H
   clear H
   have H := H1
   clear H1
   replace H := Option.bind_eq_some_iff.mp H
   obtain ⟨t1100, A380, H⟩ := H
   replace H : ((slices_Clone_int_int.f t1094).bind fun t1103 => (some (decide ((t1088.length : Int) > 0), t1100, t1103))) = some (r1, r2, r3) := H
   have A38 := Aside0.mk A380
   clear A380
   replace H := Option.bind_eq_some_iff.mp H
   obtain ⟨t1103, A390, H⟩ := H
   replace H : (some (decide ((t1088.length : Int) > 0), t1100, t1103)) = some (r1, r2, r3) := H
   have A39 := Aside0.mk A390
   clear A390
   simp only [Option.some.injEq, Prod.mk.injEq] at H
   obtain ⟨rfl, rfl, rfl⟩ := H
   go_enter Try.func94, Try.ntmps94
   go_wp2_with (first | ((with_reducible refine gate_dst (N := 6) rfl ?_); (try (refine gate_guard (by rfl) ?_; dsimp only)); refine bx_ (N := 6) (cs := #[.bool false, .slice none 0 0, .slice none 0 0]) (t := 24) ?_; intro gb1068 hg w40 hbox hb; have BK1068 := Aside0.mk (hbox); have GW1068 := geh hg HB; have GE1068 := geh hg HB; replace HB := bst HB hb; clear hb hbox hg) | ((with_reducible refine gate_callee (f := 61) rfl ?_); refine gL_ (some 10) Try.func61 #[.slice A1 l1.length c1, .slice A2 l2.length c2] ?_; (with_reducible refine (impl_natGcd.calls k (fun k_ => k_ < w.heap.size) _ _ l1 (fun k_ => k_ < w.heap.size) _ _ l2 t1069 _ ?side1 ?side2 A4.out).mono ?_); (case side1 => exact Kd.V_mk HC1.out (Kd.F_below (Kd.C_F (Kd.heap_int .i64) HR1.out) (blw HB))); (case side2 => exact Kd.V_mk HC2.out (Kd.F_below (Kd.C_F (Kd.heap_int .i64) HR2.out) (blw HB))); rintro e w41 ⟨v1070, rfl, ho0, hb⟩; refine ⟨_, rfl, ?_⟩; have HO1071 := Aside0.mk (Kd.V_lower (Kd.V_mono (ok' := fun k_ => k_ ≠ gb1068) ho0 (fun k_ hk_ => Or.elim hk_ (fun hs_ => Or.elim hs_ (fun hs_ => fun e_ => Nat.not_le.2 hs_ (by rw [e_]; exact GW1068.out)) (fun hs_ => fun e_ => Nat.not_le.2 hs_ (by rw [e_]; exact GW1068.out))) (fun hn_ => (Kd.freshB (g := gb1068) (o := .cells #[.bool false, .slice none 0 0, .slice none 0 0] 24 (0, 0)) (crb BK1068) k_ hn_)))) (bsz HB)); replace BK1068 := bkb BK1068 hb; replace HB := bst HB hb; (try clear hb); (try clear hb2); (try clear hk); (try clear hi); (try clear ho0)) | ((with_reducible refine gate_callee (f := 62) rfl ?_); refine gL_ (some 12) Try.func62 #[] ?_; (with_reducible refine (impl_one.calls  t1072 _ A5.out).mono ?_); rintro e w42 ⟨v1073, rfl, ho0, hb⟩; refine ⟨_, rfl, ?_⟩; replace HO1071 := eldV HO1071 (Kd.R_base ho0) hb; have HO1074 := lwR ho0 HB; replace BK1068 := bkb BK1068 hb; replace HB := bst HB hb; (try clear hb); (try clear hb2); (try clear hk); (try clear hi); (try clear ho0); obtain ⟨Ao43, co43, eo43⟩ := Kd.V_slice HO1071.out; subst eo43; obtain ⟨Ao44, co44, eo44⟩ := Kd.R_slice HO1074.out; subst eo44) | ((with_reducible refine gate_callee (f := 60) rfl ?_); refine gL_ (some 13) Try.func60 #[.slice Ao43 t1069.length co43, .slice Ao44 t1072.length co44] ?_; (with_reducible refine (impl_natCmp.calls _ _ t1069 _ _ t1072 t1075 _ ?side1 ?side2 ?side3 ?side4 A6.out).mono ?_); (case side1 => exact crC (Kd.V_reads' HO1071.out).2.2); (case side2 => exact (Kd.V_reads' HO1071.out).2.1); (case side3 => exact crC (Kd.R_reads' HO1074.out).2.2); (case side4 => exact (Kd.R_reads' HO1074.out).2.1); rintro e w45 ⟨rfl, hb⟩; refine ⟨_, rfl, ?_⟩; replace HO1071 := rblV HO1071 hb; replace HO1074 := rblR HO1074 hb; replace BK1068 := bkb BK1068 hb; replace HB := bst HB hb; (try clear hb); (try clear hb2); (try clear hk); (try clear hi)) | ((with_reducible refine gate_callee (f := 75) rfl ?_); refine gL_ (some 18) Try.func75 #[.slice A1 l1.length c1, .slice Ao43 t1069.length co43] ?_; (with_reducible refine (impl_natDiv.calls _ _ l1 _ _ t1069 t1088 t1089 _ ?side1 ?side2 ?side3 ?side4 A35.out).mono ?_); (case side1 => exact crC (Kd.C_below HR1.out HB.out)); (case side2 => exact HC1.out); (case side3 => exact crC (Kd.V_reads' HO1071.out).2.2); (case side4 => exact (Kd.V_reads' HO1071.out).2.1); rintro e w46 ⟨v1090, v1092, rfl, ho0, ho1, hb⟩; refine ⟨_, rfl, ?_⟩; replace HO1071 := tldV HO1071 hb (Kd.R_base ho0) (Kd.R_base ho1); have HO1091 := lwR (nwR ho0 HO1074) HB; have HO1093 := lwR (nwR ho1 HO1074) HB; replace HO1074 := tldR HO1074 hb (Kd.R_base ho0) (Kd.R_base ho1); replace BK1068 := bkb BK1068 hb; replace HB := bst HB hb; (try clear hb); (try clear hb2); (try clear hk); (try clear hi); (try clear ho0); (try clear ho1)) | ((with_reducible refine gate_callee (f := 75) rfl ?_); refine gL_ (some 24) Try.func75 #[.slice A2 l2.length c2, .slice Ao43 t1069.length co43] ?_; (with_reducible refine (impl_natDiv.calls _ _ l2 _ _ t1069 t1094 t1095 _ ?side1 ?side2 ?side3 ?side4 A36.out).mono ?_); (case side1 => exact crC (Kd.C_below HR2.out HB.out)); (case side2 => exact HC2.out); (case side3 => exact crC (Kd.V_reads' HO1071.out).2.2); (case side4 => exact (Kd.V_reads' HO1071.out).2.1); rintro e w47 ⟨v1096, v1098, rfl, ho0, ho1, hb⟩; refine ⟨_, rfl, ?_⟩; replace HO1071 := tldV HO1071 hb (Kd.R_base ho0) (Kd.R_base ho1); have HO1097 := lwR (nwR (nwR (nwR ho0 HO1074) HO1091) HO1093) HB; have HO1099 := lwR (nwR (nwR (nwR ho1 HO1074) HO1091) HO1093) HB; replace HO1074 := tldR HO1074 hb (Kd.R_base ho0) (Kd.R_base ho1); replace HO1091 := tldR HO1091 hb (Kd.R_base ho0) (Kd.R_base ho1); replace HO1093 := tldR HO1093 hb (Kd.R_base ho0) (Kd.R_base ho1); replace BK1068 := bkb BK1068 hb; replace HB := bst HB hb; (try clear hb); (try clear hb2); (try clear hk); (try clear hi); (try clear ho0); (try clear ho1); obtain ⟨Ao48, co48, eo48⟩ := Kd.R_slice HO1091.out; subst eo48) | ((with_reducible refine gate_callee (f := 102) rfl ?_); refine gL_ (some 34) Try.func102 #[.slice Ao48 t1088.length co48] ?_; (with_reducible refine (slices_Clone_int_int.calls _ _ t1088 t1100 _ ?side1 ?side2 A38.out).mono ?_); (case side1 => exact crC (Kd.R_reads' HO1091.out).2.2); (case side2 => exact (Kd.R_reads' HO1091.out).2.1); rintro e w49 ⟨v1101, rfl, ho0, hb⟩; refine ⟨_, rfl, ?_⟩; replace HO1071 := eldV HO1071 (Kd.R_base ho0) hb; have HO1102 := lwR (nwR (nwR (nwR (nwR (nwR ho0 HO1074) HO1091) HO1093) HO1097) HO1099) HB; replace HO1074 := eldR HO1074 (Kd.R_base ho0) hb; replace HO1091 := eldR HO1091 (Kd.R_base ho0) hb; replace HO1093 := eldR HO1093 (Kd.R_base ho0) hb; replace HO1097 := eldR HO1097 (Kd.R_base ho0) hb; replace HO1099 := eldR HO1099 (Kd.R_base ho0) hb; replace BK1068 := bkb BK1068 hb; replace HB := bst HB hb; (try clear hb); (try clear hb2); (try clear hk); (try clear hi); (try clear ho0); obtain ⟨Ao50, co50, eo50⟩ := Kd.R_slice HO1097.out; subst eo50) | ((with_reducible refine gate_callee (f := 102) rfl ?_); refine gL_ (some 36) Try.func102 #[.slice Ao50 t1094.length co50] ?_; (with_reducible refine (slices_Clone_int_int.calls _ _ t1094 t1103 _ ?side1 ?side2 A39.out).mono ?_); (case side1 => exact crC (Kd.R_reads' HO1097.out).2.2); (case side2 => exact (Kd.R_reads' HO1097.out).2.1); rintro e w51 ⟨v1104, rfl, ho0, hb⟩; refine ⟨_, rfl, ?_⟩; replace HO1071 := eldV HO1071 (Kd.R_base ho0) hb; have HO1105 := lwR (nwR (nwR (nwR (nwR (nwR (nwR ho0 HO1074) HO1091) HO1093) HO1097) HO1099) HO1102) HB; replace HO1074 := eldR HO1074 (Kd.R_base ho0) hb; replace HO1091 := eldR HO1091 (Kd.R_base ho0) hb; replace HO1093 := eldR HO1093 (Kd.R_base ho0) hb; replace HO1097 := eldR HO1097 (Kd.R_base ho0) hb; replace HO1099 := eldR HO1099 (Kd.R_base ho0) hb; replace HO1102 := eldR HO1102 (Kd.R_base ho0) hb; replace BK1068 := bkb BK1068 hb; replace HB := bst HB hb; (try clear hb); (try clear hb2); (try clear hk); (try clear hi); (try clear ho0); obtain ⟨Ao52, co52, eo52⟩ := Kd.R_slice HO1105.out; subst eo52; obtain ⟨Ao53, co53, eo53⟩ := Kd.R_slice HO1102.out; subst eo53; obtain ⟨hcz54_0, hcz54_1, hcz54_2, hfz54_0, hfz54_1, hfz54_2⟩ := bc3 BK1068))
   refine bodyPost_ret (results_cell_row rfl _ _ gb1068 24 #[.bool (decide (0 < t1088.length)), .slice Ao53 t1100.length co53, .slice Ao52 t1103.length co52] (0, 0) _ rfl (bp3 BK1068 _ _ _) Try.underlying24 rfl (by kernel_rfl)) rfl ?_
   exact ⟨_, _, by first | rfl | (simp only [lowest_gt]; rfl) | (simp [errW_none, errW_some] <;> rfl) | (simp [*, errW_none, errW_some] <;> rfl), (crN HO1102 BK1068 fun _ hk => hk.1.2), (crN HO1105 BK1068 fun _ hk => hk.1.2), blw HB⟩
  ·
   replace c37 := Bool.eq_false_iff.mpr c37
   subst c37
   have H1 : ((slices_Clone_int_int.f t1088).bind fun t1106 => ((slices_Clone_int_int.f t1094).bind fun t1109 => (some (false, t1106, t1109)))) = some (r1, r2, r3) := by rw [if_neg (show ¬ (false = true) by decide)] at H; exact H
   clear H
   have H := H1
   clear H1
   replace H := Option.bind_eq_some_iff.mp H
   obtain ⟨t1106, A550, H⟩ := H
   replace H : ((slices_Clone_int_int.f t1094).bind fun t1109 => (some (false, t1106, t1109))) = some (r1, r2, r3) := H
   have A55 := Aside0.mk A550
   clear A550
   replace H := Option.bind_eq_some_iff.mp H
   obtain ⟨t1109, A560, H⟩ := H
   replace H : (some (false, t1106, t1109)) = some (r1, r2, r3) := H
   have A56 := Aside0.mk A560
   clear A560
   simp only [Option.some.injEq, Prod.mk.injEq] at H
   obtain ⟨rfl, rfl, rfl⟩ := H
   go_enter Try.func94, Try.ntmps94
   go_wp2_with (first | ((with_reducible refine gate_dst (N := 6) rfl ?_); (try (refine gate_guard (by rfl) ?_; dsimp only)); refine bx_ (N := 6) (cs := #[.bool false, .slice none 0 0, .slice none 0 0]) (t := 24) ?_; intro gb1068 hg w57 hbox hb; have BK1068 := Aside0.mk (hbox); have GW1068 := geh hg HB; have GE1068 := geh hg HB; replace HB := bst HB hb; clear hb hbox hg) | ((with_reducible refine gate_callee (f := 61) rfl ?_); refine gL_ (some 10) Try.func61 #[.slice A1 l1.length c1, .slice A2 l2.length c2] ?_; (with_reducible refine (impl_natGcd.calls k (fun k_ => k_ < w.heap.size) _ _ l1 (fun k_ => k_ < w.heap.size) _ _ l2 t1069 _ ?side1 ?side2 A4.out).mono ?_); (case side1 => exact Kd.V_mk HC1.out (Kd.F_below (Kd.C_F (Kd.heap_int .i64) HR1.out) (blw HB))); (case side2 => exact Kd.V_mk HC2.out (Kd.F_below (Kd.C_F (Kd.heap_int .i64) HR2.out) (blw HB))); rintro e w58 ⟨v1070, rfl, ho0, hb⟩; refine ⟨_, rfl, ?_⟩; have HO1071 := Aside0.mk (Kd.V_lower (Kd.V_mono (ok' := fun k_ => k_ ≠ gb1068) ho0 (fun k_ hk_ => Or.elim hk_ (fun hs_ => Or.elim hs_ (fun hs_ => fun e_ => Nat.not_le.2 hs_ (by rw [e_]; exact GW1068.out)) (fun hs_ => fun e_ => Nat.not_le.2 hs_ (by rw [e_]; exact GW1068.out))) (fun hn_ => (Kd.freshB (g := gb1068) (o := .cells #[.bool false, .slice none 0 0, .slice none 0 0] 24 (0, 0)) (crb BK1068) k_ hn_)))) (bsz HB)); replace BK1068 := bkb BK1068 hb; replace HB := bst HB hb; (try clear hb); (try clear hb2); (try clear hk); (try clear hi); (try clear ho0)) | ((with_reducible refine gate_callee (f := 62) rfl ?_); refine gL_ (some 12) Try.func62 #[] ?_; (with_reducible refine (impl_one.calls  t1072 _ A5.out).mono ?_); rintro e w59 ⟨v1073, rfl, ho0, hb⟩; refine ⟨_, rfl, ?_⟩; replace HO1071 := eldV HO1071 (Kd.R_base ho0) hb; have HO1074 := lwR ho0 HB; replace BK1068 := bkb BK1068 hb; replace HB := bst HB hb; (try clear hb); (try clear hb2); (try clear hk); (try clear hi); (try clear ho0); obtain ⟨Ao60, co60, eo60⟩ := Kd.V_slice HO1071.out; subst eo60; obtain ⟨Ao61, co61, eo61⟩ := Kd.R_slice HO1074.out; subst eo61) | ((with_reducible refine gate_callee (f := 60) rfl ?_); refine gL_ (some 13) Try.func60 #[.slice Ao60 t1069.length co60, .slice Ao61 t1072.length co61] ?_; (with_reducible refine (impl_natCmp.calls _ _ t1069 _ _ t1072 t1075 _ ?side1 ?side2 ?side3 ?side4 A6.out).mono ?_); (case side1 => exact crC (Kd.V_reads' HO1071.out).2.2); (case side2 => exact (Kd.V_reads' HO1071.out).2.1); (case side3 => exact crC (Kd.R_reads' HO1074.out).2.2); (case side4 => exact (Kd.R_reads' HO1074.out).2.1); rintro e w62 ⟨rfl, hb⟩; refine ⟨_, rfl, ?_⟩; replace HO1071 := rblV HO1071 hb; replace HO1074 := rblR HO1074 hb; replace BK1068 := bkb BK1068 hb; replace HB := bst HB hb; (try clear hb); (try clear hb2); (try clear hk); (try clear hi)) | ((with_reducible refine gate_callee (f := 75) rfl ?_); refine gL_ (some 18) Try.func75 #[.slice A1 l1.length c1, .slice Ao60 t1069.length co60] ?_; (with_reducible refine (impl_natDiv.calls _ _ l1 _ _ t1069 t1088 t1089 _ ?side1 ?side2 ?side3 ?side4 A35.out).mono ?_); (case side1 => exact crC (Kd.C_below HR1.out HB.out)); (case side2 => exact HC1.out); (case side3 => exact crC (Kd.V_reads' HO1071.out).2.2); (case side4 => exact (Kd.V_reads' HO1071.out).2.1); rintro e w63 ⟨v1090, v1092, rfl, ho0, ho1, hb⟩; refine ⟨_, rfl, ?_⟩; replace HO1071 := tldV HO1071 hb (Kd.R_base ho0) (Kd.R_base ho1); have HO1091 := lwR (nwR ho0 HO1074) HB; have HO1093 := lwR (nwR ho1 HO1074) HB; replace HO1074 := tldR HO1074 hb (Kd.R_base ho0) (Kd.R_base ho1); replace BK1068 := bkb BK1068 hb; replace HB := bst HB hb; (try clear hb); (try clear hb2); (try clear hk); (try clear hi); (try clear ho0); (try clear ho1)) | ((with_reducible refine gate_callee (f := 75) rfl ?_); refine gL_ (some 24) Try.func75 #[.slice A2 l2.length c2, .slice Ao60 t1069.length co60] ?_; (with_reducible refine (impl_natDiv.calls _ _ l2 _ _ t1069 t1094 t1095 _ ?side1 ?side2 ?side3 ?side4 A36.out).mono ?_); (case side1 => exact crC (Kd.C_below HR2.out HB.out)); (case side2 => exact HC2.out); (case side3 => exact crC (Kd.V_reads' HO1071.out).2.2); (case side4 => exact (Kd.V_reads' HO1071.out).2.1); rintro e w64 ⟨v1096, v1098, rfl, ho0, ho1, hb⟩; refine ⟨_, rfl, ?_⟩; replace HO1071 := tldV HO1071 hb (Kd.R_base ho0) (Kd.R_base ho1); have HO1097 := lwR (nwR (nwR (nwR ho0 HO1074) HO1091) HO1093) HB; have HO1099 := lwR (nwR (nwR (nwR ho1 HO1074) HO1091) HO1093) HB; replace HO1074 := tldR HO1074 hb (Kd.R_base ho0) (Kd.R_base ho1); replace HO1091 := tldR HO1091 hb (Kd.R_base ho0) (Kd.R_base ho1); replace HO1093 := tldR HO1093 hb (Kd.R_base ho0) (Kd.R_base ho1); replace BK1068 := bkb BK1068 hb; replace HB := bst HB hb; (try clear hb); (try clear hb2); (try clear hk); (try clear hi); (try clear ho0); (try clear ho1); obtain ⟨Ao65, co65, eo65⟩ := Kd.R_slice HO1091.out; subst eo65) | ((with_reducible refine gate_callee (f := 102) rfl ?_); refine gL_ (some 34) Try.func102 #[.slice Ao65 t1088.length co65] ?_; (with_reducible refine (slices_Clone_int_int.calls _ _ t1088 t1106 _ ?side1 ?side2 A55.out).mono ?_); (case side1 => exact crC (Kd.R_reads' HO1091.out).2.2); (case side2 => exact (Kd.R_reads' HO1091.out).2.1); rintro e w66 ⟨v1107, rfl, ho0, hb⟩; refine ⟨_, rfl, ?_⟩; replace HO1071 := eldV HO1071 (Kd.R_base ho0) hb; have HO1108 := lwR (nwR (nwR (nwR (nwR (nwR ho0 HO1074) HO1091) HO1093) HO1097) HO1099) HB; replace HO1074 := eldR HO1074 (Kd.R_base ho0) hb; replace HO1091 := eldR HO1091 (Kd.R_base ho0) hb; replace HO1093 := eldR HO1093 (Kd.R_base ho0) hb; replace HO1097 := eldR HO1097 (Kd.R_base ho0) hb; replace HO1099 := eldR HO1099 (Kd.R_base ho0) hb; replace BK1068 := bkb BK1068 hb; replace HB := bst HB hb; (try clear hb); (try clear hb2); (try clear hk); (try clear hi); (try clear ho0); obtain ⟨Ao67, co67, eo67⟩ := Kd.R_slice HO1097.out; subst eo67) | ((with_reducible refine gate_callee (f := 102) rfl ?_); refine gL_ (some 36) Try.func102 #[.slice Ao67 t1094.length co67] ?_; (with_reducible refine (slices_Clone_int_int.calls _ _ t1094 t1109 _ ?side1 ?side2 A56.out).mono ?_); (case side1 => exact crC (Kd.R_reads' HO1097.out).2.2); (case side2 => exact (Kd.R_reads' HO1097.out).2.1); rintro e w68 ⟨v1110, rfl, ho0, hb⟩; refine ⟨_, rfl, ?_⟩; replace HO1071 := eldV HO1071 (Kd.R_base ho0) hb; have HO1111 := lwR (nwR (nwR (nwR (nwR (nwR (nwR ho0 HO1074) HO1091) HO1093) HO1097) HO1099) HO1108) HB; replace HO1074 := eldR HO1074 (Kd.R_base ho0) hb; replace HO1091 := eldR HO1091 (Kd.R_base ho0) hb; replace HO1093 := eldR HO1093 (Kd.R_base ho0) hb; replace HO1097 := eldR HO1097 (Kd.R_base ho0) hb; replace HO1099 := eldR HO1099 (Kd.R_base ho0) hb; replace HO1108 := eldR HO1108 (Kd.R_base ho0) hb; replace BK1068 := bkb BK1068 hb; replace HB := bst HB hb; (try clear hb); (try clear hb2); (try clear hk); (try clear hi); (try clear ho0); obtain ⟨Ao69, co69, eo69⟩ := Kd.R_slice HO1111.out; subst eo69; obtain ⟨Ao70, co70, eo70⟩ := Kd.R_slice HO1108.out; subst eo70; obtain ⟨hcz71_0, hcz71_1, hcz71_2, hfz71_0, hfz71_1, hfz71_2⟩ := bc3 BK1068))
   refine bodyPost_ret (results_cell_row rfl _ _ gb1068 24 #[.bool false, .slice Ao70 t1106.length co70, .slice Ao69 t1109.length co69] (0, 0) _ rfl (bp3 BK1068 _ _ _) Try.underlying24 rfl (by kernel_rfl)) rfl ?_
   exact ⟨_, _, by first | rfl | (simp only [lowest_gt]; rfl) | (simp [errW_none, errW_some] <;> rfl) | (simp [*, errW_none, errW_some] <;> rfl), (crN HO1108 BK1068 fun _ hk => hk.1.2), (crN HO1111 BK1068 fun _ hk => hk.1.2), blw HB⟩

end Go.Proofs.Ytacdaijalkkogaa.Q
