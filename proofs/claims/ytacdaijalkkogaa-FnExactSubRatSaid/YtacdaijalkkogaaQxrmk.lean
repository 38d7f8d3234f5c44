-- written by a program of this claim's session (myprint.py) out of the translation; Lean checks it.
import Derived.Test.YtacdaijalkkogaaQx0
import Derived.Test.YtacdaijalkkogaaSq
import Derived.Test.YtacdaijalkkogaaQxcmp
import Derived.Test.YtacdaijalkkogaaQxdiv
import Derived.Test.YtacdaijalkkogaaQxsub
import Derived.Test.YtacdaijalkkogaaQxgcd
import Derived.Test.YtacdaijalkkogaaQxrk
namespace Go.Proofs.Ytacdaijalkkogaa.Q
open Go.RowKit Go.Proofs.YtacdaijalkkogaaW.PrintWords Go.Proofs.YtacdaijalkkogaaW.PrintLast Go.Proofs.YtacdaijalkkogaaW.PrintMore
attribute [local go_sem] max2_int min2_int max_two min_two max_three min_three max_four min_four   -- for this text's walks alone
set_option linter.unusedVariables false
set_option linter.unusedSimpArgs false

theorem l02Make_gt (l : List Int) : decide (0 < l.length) = decide ((l.length : Int) > 0) := by simp only [decide_eq_decide]; omega
def spec_l02Make.f (k : Nat) (a0 : Bool) (l1 : List Int) (l2 : List Int) : Option (Bool × List Int × List Int) := (spec_l01Gcd.f k l1 l2).bind fun tC4 => ((spec_l01Div.f k l1 tC4).bind fun btC2 => ((spec_l01Div.f k l2 tC4).bind fun btC3 => (if a0 = true then (some (decide ((btC2.1.length : Int) > 0), btC2.1, btC3.1)) else (some (false, btC2.1, btC3.1)))))
theorem spec_l02Make.mono : ∀ a0 a1 a2 k, LeO (spec_l02Make.f k a0 a1 a2) (spec_l02Make.f (k + 1) a0 a1 a2) := by
 intro a0 a1 a2 k
 unfold spec_l02Make.f
 repeat' first
   | (with_reducible exact spec_l01Div.mono _ _ _)
   | (with_reducible exact spec_l01Gcd.mono _ _ _)
   | (with_reducible exact LeO.refl _)
   | (with_reducible exact LeO.none _)
   | (with_reducible refine LeO.ite ?_ ?_)
   | (with_reducible refine LeO.bind ?_ (fun _ => ?_))
   | exact spec_l01Div.mono _ _ _
   | exact spec_l01Gcd.mono _ _ _
   | exact LeO.none _
   | refine LeO.ite ?_ ?_
   | refine LeO.bind ?_ (fun _ => ?_)
set_option maxHeartbeats 8000000 in
set_option maxRecDepth 100000 in
theorem spec_l02Make.calls (k : Nat) (a0 : Bool) (A1 : Option Addr) (c1 : Nat) (l1 : List Int) (A2 : Option Addr) (c2 : Nat) (l2 : List Int) (r1 : Bool) (r2 : List Int) (r3 : List Int) (w : World) (hr1 : Kd.C (Kd.int .i64) w A1 l1.length l1) (hc1 : l1.length ≤ c1) (hr2 : Kd.C (Kd.int .i64) w A2 l2.length l2) (hc2 : l2.length ≤ c2) (h : spec_l02Make.f k a0 l1 l2 = some (r1, r2, r3)) :
  Calls Try.prog 47 #[.bool a0, .slice A1 l1.length c1, .slice A2 l2.length c2] w fun e w' => ∃ v1_ v2_ : Value, e = .returned (.agg #[.bool r1, v1_, v2_]) ∧ Kd.R (Kd.int .i64) 3 w' w.heap.size (fun k_ => nO k_ v2_) v1_ r2 ∧ Kd.R (Kd.int .i64) 3 w' w.heap.size (fun k_ => nO k_ v1_) v2_ r3 ∧ Below w.heap.size w w' := by
 have hu24 := Try.underlying24
 have HR1 := Aside0.mk hr1
 have HC1 := Aside0.mk hc1
 clear hr1 hc1
 have HR2 := Aside0.mk hr2
 have HC2 := Aside0.mk hc2
 clear hr2 hc2
 have HB := Aside0.mk (Below.refl w.heap.size w)
 have H : ((spec_l01Gcd.f k l1 l2).bind fun tC4 => ((spec_l01Div.f k l1 tC4).bind fun btC2 => ((spec_l01Div.f k l2 tC4).bind fun btC3 => (if a0 = true then (some (decide ((btC2.1.length : Int) > 0), btC2.1, btC3.1)) else (some (false, btC2.1, btC3.1)))))) = some (r1, r2, r3) := h
 clear h
 replace H := Option.bind_eq_some_iff.mp H
 obtain ⟨tC4, A40, H⟩ := H
 replace H : ((spec_l01Div.f k l1 tC4).bind fun btC2 => ((spec_l01Div.f k l2 tC4).bind fun btC3 => (if a0 = true then (some (decide ((btC2.1.length : Int) > 0), btC2.1, btC3.1)) else (some (false, btC2.1, btC3.1))))) = some (r1, r2, r3) := H
 have A4 := Aside0.mk A40
 clear A40
 replace H := Option.bind_eq_some_iff.mp H
 obtain ⟨⟨tC2, tE4⟩, A50, H⟩ := H
 replace H : ((spec_l01Div.f k l2 tC4).bind fun btC3 => (if a0 = true then (some (decide ((tC2.length : Int) > 0), tC2, btC3.1)) else (some (false, tC2, btC3.1)))) = some (r1, r2, r3) := H
 have A5 := Aside0.mk A50
 clear A50
 replace H := Option.bind_eq_some_iff.mp H
 obtain ⟨⟨tC3, tE5⟩, A60, H⟩ := H
 replace H : (if a0 = true then (some (decide ((tC2.length : Int) > 0), tC2, tC3)) else (some (false, tC2, tC3))) = some (r1, r2, r3) := H
 have A6 := Aside0.mk A60
 clear A60
 by_cases c7 : a0 = true
 ·
  subst c7
  have H1 : (some (decide ((tC2.length : Int) > 0), tC2, tC3)) = some (r1, r2, r3) := by rw [if_pos rfl] at H; exact H
  clear H
  have H := H1
  clear H1
  simp only [Option.some.injEq, Prod.mk.injEq] at H
  obtain ⟨rfl, rfl, rfl⟩ := H
  go_enter Try.func47, Try.ntmps47
  go_wp2_with (first | ((with_reducible refine gate_dst (N := 6) rfl ?_); (try (refine gate_guard (by rfl) ?_; dsimp only)); refine bx_ (N := 6) (cs := #[.bool false, .slice none 0 0, .slice none 0 0]) (t := 24) ?_; intro gbB9 hg w8 hbox hb; have BKB9 := Aside0.mk (hbox); have GWB9 := geh hg HB; have GEB9 := geh hg HB; replace HB := bst HB hb; clear hb hbox hg) | ((with_reducible refine gate_callee (f := 56) rfl ?_); refine gL_ (some 14) Try.func56 #[.slice A1 l1.length c1, .slice A2 l2.length c2] ?_; (with_reducible refine (spec_l01Gcd.calls k (fun k_ => k_ < w.heap.size) _ _ l1 (fun k_ => k_ < w.heap.size) _ _ l2 tC4 _ ?side1 ?side2 A4.out).mono ?_); (case side1 => exact Kd.V_mk HC1.out (Kd.F_below (Kd.C_F (Kd.heap_int .i64) HR1.out) (blw HB))); (case side2 => exact Kd.V_mk HC2.out (Kd.F_below (Kd.C_F (Kd.heap_int .i64) HR2.out) (blw HB))); rintro e w9 ⟨vF5, rfl, ho0, hb⟩; refine ⟨_, rfl, ?_⟩; have HOC0 := lwR (Kd.R_mono (ok' := fun k_ => True) ho0 (fun _ hk_ => trivial)) HB; replace BKB9 := bkb BKB9 hb; replace HB := bst HB hb; (try clear hb); (try clear hb2); (try clear hk); (try clear hi); (try clear ho0); obtain ⟨Ao10, co10, eo10⟩ := Kd.R_slice HOC0.out; subst eo10) | ((with_reducible refine gate_callee (f := 92) rfl ?_); refine gL_ (some 18) Try.func92 #[.slice A1 l1.length c1, .slice Ao10 tC4.length co10] ?_; (with_reducible refine (spec_l01Div.calls k _ _ l1 _ _ tC4 tC2 tE4 _ ?side1 ?side2 ?side3 ?side4 A5.out).mono ?_); (case side1 => exact crC (Kd.C_below HR1.out HB.out)); (case side2 => exact HC1.out); (case side3 => exact crC (Kd.R_reads' HOC0.out).2.2); (case side4 => exact (Kd.R_reads' HOC0.out).2.1); rintro e w11 ⟨vF6, vF7, rfl, ho0, ho1, hb⟩; refine ⟨_, rfl, ?_⟩; have HOC5 := lwR (nwR ho0 HOC0) HB; have HOD0 := lwR (nwR ho1 HOC0) HB; replace HOC0 := tldR HOC0 hb (Kd.R_base ho0) (Kd.R_base ho1); replace BKB9 := bkb BKB9 hb; replace HB := bst HB hb; (try clear hb); (try clear hb2); (try clear hk); (try clear hi); (try clear ho0); (try clear ho1)) | ((with_reducible refine gate_callee (f := 92) rfl ?_); refine gL_ (some 24) Try.func92 #[.slice A2 l2.length c2, .slice Ao10 tC4.length co10] ?_; (with_reducible refine (spec_l01Div.calls k _ _ l2 _ _ tC4 tC3 tE5 _ ?side1 ?side2 ?side3 ?side4 A6.out).mono ?_); (case side1 => exact crC (Kd.C_below HR2.out HB.out)); (case side2 => exact HC2.out); (case side3 => exact crC (Kd.R_reads' HOC0.out).2.2); (case side4 => exact (Kd.R_reads' HOC0.out).2.1); rintro e w12 ⟨vF8, vF9, rfl, ho0, ho1, hb⟩; refine ⟨_, rfl, ?_⟩; have HOD3 := lwR (nwR (nwR (nwR ho0 HOC0) HOC5) HOD0) HB; have HOG0 := lwR (nwR (nwR (nwR ho1 HOC0) HOC5) HOD0) HB; replace HOC0 := tldR HOC0 hb (Kd.R_base ho0) (Kd.R_base ho1); replace HOC5 := tldR HOC5 hb (Kd.R_base ho0) (Kd.R_base ho1); replace HOD0 := tldR HOD0 hb (Kd.R_base ho0) (Kd.R_base ho1); replace BKB9 := bkb BKB9 hb; replace HB := bst HB hb; (try clear hb); (try clear hb2); (try clear hk); (try clear hi); (try clear ho0); (try clear ho1); obtain ⟨Ao13, co13, eo13⟩ := Kd.R_slice HOC5.out; subst eo13; obtain ⟨Ao14, co14, eo14⟩ := Kd.R_slice HOD3.out; subst eo14; obtain ⟨hcz15_0, hcz15_1, hcz15_2, hfz15_0, hfz15_1, hfz15_2⟩ := bc3 BKB9))
  refine bodyPost_ret (results_cell_row rfl _ _ gbB9 24 #[.bool (decide (0 < tC2.length)), .slice Ao13 tC2.length co13, .slice Ao14 tC3.length co14] (0, 0) _ rfl (bp3 BKB9 _ _ _) Try.underlying24 rfl (by kernel_rfl)) rfl ?_
  exact ⟨_, _, by first | rfl | (simp only [l02Make_gt]; rfl) | (simp [errW_none, errW_some] <;> rfl) | (simp [*, errW_none, errW_some] <;> rfl), (crN HOC5 BKB9 fun _ hk => hk.1.1.2), (crN HOD3 BKB9 fun _ hk => hk.1.1.2), blw HB⟩
 ·
  replace c7 := Bool.eq_false_iff.mpr c7
  subst c7
  have H1 : (some (false, tC2, tC3)) = some (r1, r2, r3) := by rw [if_neg (show ¬ (false = true) by decide)] at H; exact H
  clear H
  have H := H1
  clear H1
  simp only [Option.some.injEq, Prod.mk.injEq] at H
  obtain ⟨rfl, rfl, rfl⟩ := H
  go_enter Try.func47, Try.ntmps47
  go_wp2_with (first | ((with_reducible refine gate_dst (N := 6) rfl ?_); (try (refine gate_guard (by rfl) ?_; dsimp only)); refine bx_ (N := 6) (cs := #[.bool false, .slice none 0 0, .slice none 0 0]) (t := 24) ?_; intro gbB9 hg w16 hbox hb; have BKB9 := Aside0.mk (hbox); have GWB9 := geh hg HB; have GEB9 := geh hg HB; replace HB := bst HB hb; clear hb hbox hg) | ((with_reducible refine gate_callee (f := 56) rfl ?_); refine gL_ (some 14) Try.func56 #[.slice A1 l1.length c1, .slice A2 l2.length c2] ?_; (with_reducible refine (spec_l01Gcd.calls k (fun k_ => k_ < w.heap.size) _ _ l1 (fun k_ => k_ < w.heap.size) _ _ l2 tC4 _ ?side1 ?side2 A4.out).mono ?_); (case side1 => exact Kd.V_mk HC1.out (Kd.F_below (Kd.C_F (Kd.heap_int .i64) HR1.out) (blw HB))); (case side2 => exact Kd.V_mk HC2.out (Kd.F_below (Kd.C_F (Kd.heap_int .i64) HR2.out) (blw HB))); rintro e w17 ⟨vF5, rfl, ho0, hb⟩; refine ⟨_, rfl, ?_⟩; have HOC0 := lwR (Kd.R_mono (ok' := fun k_ => True) ho0 (fun _ hk_ => trivial)) HB; replace BKB9 := bkb BKB9 hb; replace HB := bst HB hb; (try clear hb); (try clear hb2); (try clear hk); (try clear hi); (try clear ho0); obtain ⟨Ao18, co18, eo18⟩ := Kd.R_slice HOC0.out; subst eo18) | ((with_reducible refine gate_callee (f := 92) rfl ?_); refine gL_ (some 18) Try.func92 #[.slice A1 l1.length c1, .slice Ao18 tC4.length co18] ?_; (with_reducible refine (spec_l01Div.calls k _ _ l1 _ _ tC4 tC2 tE4 _ ?side1 ?side2 ?side3 ?side4 A5.out).mono ?_); (case side1 => exact crC (Kd.C_below HR1.out HB.out)); (case side2 => exact HC1.out); (case side3 => exact crC (Kd.R_reads' HOC0.out).2.2); (case side4 => exact (Kd.R_reads' HOC0.out).2.1); rintro e w19 ⟨vF6, vF7, rfl, ho0, ho1, hb⟩; refine ⟨_, rfl, ?_⟩; have HOC5 := lwR (nwR ho0 HOC0) HB; have HOD0 := lwR (nwR ho1 HOC0) HB; replace HOC0 := tldR HOC0 hb (Kd.R_base ho0) (Kd.R_base ho1); replace BKB9 := bkb BKB9 hb; replace HB := bst HB hb; (try clear hb); (try clear hb2); (try clear hk); (try clear hi); (try clear ho0); (try clear ho1)) | ((with_reducible refine gate_callee (f := 92) rfl ?_); refine gL_ (some 24) Try.func92 #[.slice A2 l2.length c2, .slice Ao18 tC4.length co18] ?_; (with_reducible refine (spec_l01Div.calls k _ _ l2 _ _ tC4 tC3 tE5 _ ?side1 ?side2 ?side3 ?side4 A6.out).mono ?_); (case side1 => exact crC (Kd.C_below HR2.out HB.out)); (case side2 => exact HC2.out); (case side3 => exact crC (Kd.R_reads' HOC0.out).2.2); (case side4 => exact (Kd.R_reads' HOC0.out).2.1); rintro e w20 ⟨vF8, vF9, rfl, ho0, ho1, hb⟩; refine ⟨_, rfl, ?_⟩; have HOD3 := lwR (nwR (nwR (nwR ho0 HOC0) HOC5) HOD0) HB; have HOG0 := lwR (nwR (nwR (nwR ho1 HOC0) HOC5) HOD0) HB; replace HOC0 := tldR HOC0 hb (Kd.R_base ho0) (Kd.R_base ho1); replace HOC5 := tldR HOC5 hb (Kd.R_base ho0) (Kd.R_base ho1); replace HOD0 := tldR HOD0 hb (Kd.R_base ho0) (Kd.R_base ho1); replace BKB9 := bkb BKB9 hb; replace HB := bst HB hb; (try clear hb); (try clear hb2); (try clear hk); (try clear hi); (try clear ho0); (try clear ho1); obtain ⟨Ao21, co21, eo21⟩ := Kd.R_slice HOD3.out; subst eo21; obtain ⟨Ao22, co22, eo22⟩ := Kd.R_slice HOC5.out; subst eo22; obtain ⟨hcz23_0, hcz23_1, hcz23_2, hfz23_0, hfz23_1, hfz23_2⟩ := bc3 BKB9))
  refine bodyPost_ret (results_cell_row rfl _ _ gbB9 24 #[.bool false, .slice Ao22 tC2.length co22, .slice Ao21 tC3.length co21] (0, 0) _ rfl (bp3 BKB9 _ _ _) Try.underlying24 rfl (by kernel_rfl)) rfl ?_
  exact ⟨_, _, by first | rfl | (simp only [l02Make_gt]; rfl) | (simp [errW_none, errW_some] <;> rfl) | (simp [*, errW_none, errW_some] <;> rfl), (crN HOC5 BKB9 fun _ hk => hk.1.1.2), (crN HOD3 BKB9 fun _ hk => hk.1.1.2), blw HB⟩

theorem lowest_gt (l : List Int) : decide (0 < l.length) = decide ((l.length : Int) > 0) := by simp only [decide_eq_decide]; omega
def impl_lowest.f (k : Nat) (a0 : Bool) (l1 : List Int) (l2 : List Int) : Option (Bool × List Int × List Int) := (impl_natGcd.f k l1 l2).bind fun tA4 => ((impl_one.f).bind fun tB2 => ((impl_natCmp.f tA4 tB2).bind fun tB4 => (if tB4 = 0 then (if a0 = true then ((slices_Clone_int_int.f l1).bind fun tB7 => ((slices_Clone_int_int.f l2).bind fun tB5 => (some (decide ((l1.length : Int) > 0), tB7, tB5)))) else ((slices_Clone_int_int.f l1).bind fun tB8 => ((slices_Clone_int_int.f l2).bind fun tB6 => (some (false, tB8, tB6))))) else ((impl_natDiv.f l1 tA4).bind fun btA3 => ((impl_natDiv.f l2 tA4).bind fun btA5 => (if a0 = true then ((slices_Clone_int_int.f btA3.1).bind fun tB0 => ((slices_Clone_int_int.f btA5.1).bind fun tA7 => (some (decide ((btA3.1.length : Int) > 0), tB0, tA7)))) else ((slices_Clone_int_int.f btA3.1).bind fun tB1 => ((slices_Clone_int_int.f btA5.1).bind fun tA8 => (some (false, tB1, tA8))))))))))
theorem impl_lowest.mono : ∀ a0 a1 a2 k, LeO (impl_lowest.f k a0 a1 a2) (impl_lowest.f (k + 1) a0 a1 a2) := by
 intro a0 a1 a2 k
 unfold impl_lowest.f
 repeat' first
   | (with_reducible exact impl_natGcd.mono _ _ _)
   | (with_reducible exact LeO.refl _)
   | (with_reducible exact LeO.none _)
   | (with_reducible refine LeO.ite ?_ ?_)
   | (with_reducible refine LeO.bind ?_ (fun _ => ?_))
   | exact impl_natGcd.mono _ _ _
   | exact LeO.none _
   | refine LeO.ite ?_ ?_
   | refine LeO.bind ?_ (fun _ => ?_)
set_option maxHeartbeats 8000000 in
set_option maxRecDepth 100000 in
theorem impl_lowest.calls (k : Nat) (a0 : Bool) (A1 : Option Addr) (c1 : Nat) (l1 : List Int) (A2 : Option Addr) (c2 : Nat) (l2 : List Int) (r1 : Bool) (r2 : List Int) (r3 : List Int) (w : World) (hr1 : Kd.C (Kd.int .i64) w A1 l1.length l1) (hc1 : l1.length ≤ c1) (hr2 : Kd.C (Kd.int .i64) w A2 l2.length l2) (hc2 : l2.length ≤ c2) (h : impl_lowest.f k a0 l1 l2 = some (r1, r2, r3)) :
  Calls Try.prog 94 #[.bool a0, .slice A1 l1.length c1, .slice A2 l2.length c2] w fun e w' => ∃ v1_ v2_ : Value, e = .returned (.agg #[.bool r1, v1_, v2_]) ∧ Kd.R (Kd.int .i64) 3 w' w.heap.size (fun k_ => nO k_ v2_) v1_ r2 ∧ Kd.R (Kd.int .i64) 3 w' w.heap.size (fun k_ => nO k_ v1_) v2_ r3 ∧ Below w.heap.size w w' := by
 have hu24 := Try.underlying24
 have HR1 := Aside0.mk hr1
 have HC1 := Aside0.mk hc1
 clear hr1 hc1
 have HR2 := Aside0.mk hr2
 have HC2 := Aside0.mk hc2
 clear hr2 hc2
 have HB := Aside0.mk (Below.refl w.heap.size w)
 have H : ((impl_natGcd.f k l1 l2).bind fun tA4 => ((impl_one.f).bind fun tB2 => ((impl_natCmp.f tA4 tB2).bind fun tB4 => (if tB4 = 0 then (if a0 = true then ((slices_Clone_int_int.f l1).bind fun tB7 => ((slices_Clone_int_int.f l2).bind fun tB5 => (some (decide ((l1.length : Int) > 0), tB7, tB5)))) else ((slices_Clone_int_int.f l1).bind fun tB8 => ((slices_Clone_int_int.f l2).bind fun tB6 => (some (false, tB8, tB6))))) else ((impl_natDiv.f l1 tA4).bind fun btA3 => ((impl_natDiv.f l2 tA4).bind fun btA5 => (if a0 = true then ((slices_Clone_int_int.f btA3.1).bind fun tB0 => ((slices_Clone_int_int.f btA5.1).bind fun tA7 => (some (decide ((btA3.1.length : Int) > 0), tB0, tA7)))) else ((slices_Clone_int_int.f btA3.1).bind fun tB1 => ((slices_Clone_int_int.f btA5.1).bind fun tA8 => (some (false, tB1, tA8))))))))))) = some (r1, r2, r3) := h
 clear h
 replace H := Option.bind_eq_some_iff.mp H
 obtain ⟨tA4, A40, H⟩ := H
 replace H : ((impl_one.f).bind fun tB2 => ((impl_natCmp.f tA4 tB2).bind fun tB4 => (if tB4 = 0 then (if a0 = true then ((slices_Clone_int_int.f l1).bind fun tB7 => ((slices_Clone_int_int.f l2).bind fun tB5 => (some (decide ((l1.length : Int) > 0), tB7, tB5)))) else ((slices_Clone_int_int.f l1).bind fun tB8 => ((slices_Clone_int_int.f l2).bind fun tB6 => (some (false, tB8, tB6))))) else ((impl_natDiv.f l1 tA4).bind fun btA3 => ((impl_natDiv.f l2 tA4).bind fun btA5 => (if a0 = true then ((slices_Clone_int_int.f btA3.1).bind fun tB0 => ((slices_Clone_int_int.f btA5.1).bind fun tA7 => (some (decide ((btA3.1.length : Int) > 0), tB0, tA7)))) else ((slices_Clone_int_int.f btA3.1).bind fun tB1 => ((slices_Clone_int_int.f btA5.1).bind fun tA8 => (some (false, tB1, tA8)))))))))) = some (r1, r2, r3) := H
 have A4 := Aside0.mk A40
 clear A40
 replace H := Option.bind_eq_some_iff.mp H
 obtain ⟨tB2, A50, H⟩ := H
 replace H : ((impl_natCmp.f tA4 tB2).bind fun tB4 => (if tB4 = 0 then (if a0 = true then ((slices_Clone_int_int.f l1).bind fun tB7 => ((slices_Clone_int_int.f l2).bind fun tB5 => (some (decide ((l1.length : Int) > 0), tB7, tB5)))) else ((slices_Clone_int_int.f l1).bind fun tB8 => ((slices_Clone_int_int.f l2).bind fun tB6 => (some (false, tB8, tB6))))) else ((impl_natDiv.f l1 tA4).bind fun btA3 => ((impl_natDiv.f l2 tA4).bind fun btA5 => (if a0 = true then ((slices_Clone_int_int.f btA3.1).bind fun tB0 => ((slices_Clone_int_int.f btA5.1).bind fun tA7 => (some (decide ((btA3.1.length : Int) > 0), tB0, tA7)))) else ((slices_Clone_int_int.f btA3.1).bind fun tB1 => ((slices_Clone_int_int.f btA5.1).bind fun tA8 => (some (false, tB1, tA8))))))))) = some (r1, r2, r3) := H
 have A5 := Aside0.mk A50
 clear A50
 replace H := Option.bind_eq_some_iff.mp H
 obtain ⟨tB4, A60, H⟩ := H
 replace H : (if tB4 = 0 then (if a0 = true then ((slices_Clone_int_int.f l1).bind fun tB7 => ((slices_Clone_int_int.f l2).bind fun tB5 => (some (decide ((l1.length : Int) > 0), tB7, tB5)))) else ((slices_Clone_int_int.f l1).bind fun tB8 => ((slices_Clone_int_int.f l2).bind fun tB6 => (some (false, tB8, tB6))))) else ((impl_natDiv.f l1 tA4).bind fun btA3 => ((impl_natDiv.f l2 tA4).bind fun btA5 => (if a0 = true then ((slices_Clone_int_int.f btA3.1).bind fun tB0 => ((slices_Clone_int_int.f btA5.1).bind fun tA7 => (some (decide ((btA3.1.length : Int) > 0), tB0, tA7)))) else ((slices_Clone_int_int.f btA3.1).bind fun tB1 => ((slices_Clone_int_int.f btA5.1).bind fun tA8 => (some (false, tB1, tA8)))))))) = some (r1, r2, r3) := H
 have A6 := Aside0.mk A60
 clear A60
 by_cases c7 : tB4 = 0
 ·
  rw [if_pos c7] at H
  have c7b0 : (tB4 == 0) = true := beq_iff_eq.mpr c7
  have c7b1 : (tB4 != 0) = false := bne_eq_false_iff_eq.mpr c7
  clear c7
  by_cases c8 : a0 = true
  ·
   subst c8
   have H1 : ((slices_Clone_int_int.f l1).bind fun tB7 => ((slices_Clone_int_int.f l2).bind fun tB5 => (some (decide ((l1.length : Int) > 0), tB7, tB5)))) = some (r1, r2, r3) := by rw [if_pos rfl] at H; exact H
   clear H
   have H := H1
   clear H1
   replace H := Option.bind_eq_some_iff.mp H
   obtain ⟨tB7, A90, H⟩ := H
   replace H : ((slices_Clone_int_int.f l2).bind fun tB5 => (some (decide ((l1.length : Int) > 0), tB7, tB5))) = some (r1, r2, r3) := H
   have A9 := Aside0.mk A90
   clear A90
   replace H := Option.bind_eq_some_iff.mp H
   obtain ⟨tB5, AE6, H⟩ := H
   replace H : (some (decide ((l1.length : Int) > 0), tB7, tB5)) = some (r1, r2, r3) := H
   have A10 := Aside0.mk AE6
   clear AE6
   simp only [Option.some.injEq, Prod.mk.injEq] at H
   obtain ⟨rfl, rfl, rfl⟩ := H
   go_enter Try.func94, Try.ntmps94
   go_wp2_with (first | ((with_reducible refine gate_dst (N := 6) rfl ?_); (try (refine gate_guard (by rfl) ?_; dsimp only)); refine bx_ (N := 6) (cs := #[.bool false, .slice none 0 0, .slice none 0 0]) (t := 24) ?_; intro gbA0 hg w11 hbox hb; have BKA0 := Aside0.mk (hbox); have GWA0 := geh hg HB; have GEA0 := geh hg HB; replace HB := bst HB hb; clear hb hbox hg) | ((with_reducible refine gate_callee (f := 61) rfl ?_); refine gL_ (some 10) Try.func61 #[.slice A1 l1.length c1, .slice A2 l2.length c2] ?_; (with_reducible refine (impl_natGcd.calls k (fun k_ => k_ < w.heap.size) _ _ l1 (fun k_ => k_ < w.heap.size) _ _ l2 tA4 _ ?side1 ?side2 A4.out).mono ?_); (case side1 => exact Kd.V_mk HC1.out (Kd.F_below (Kd.C_F (Kd.heap_int .i64) HR1.out) (blw HB))); (case side2 => exact Kd.V_mk HC2.out (Kd.F_below (Kd.C_F (Kd.heap_int .i64) HR2.out) (blw HB))); rintro e w12 ⟨vD1, rfl, ho0, hb⟩; refine ⟨_, rfl, ?_⟩; have HOA1 := Aside0.mk (Kd.V_lower (Kd.V_mono (ok' := fun k_ => k_ ≠ gbA0) ho0 (fun k_ hk_ => Or.elim hk_ (fun hs_ => Or.elim hs_ (fun hs_ => fun e_ => Nat.not_le.2 hs_ (by rw [e_]; exact GWA0.out)) (fun hs_ => fun e_ => Nat.not_le.2 hs_ (by rw [e_]; exact GWA0.out))) (fun hn_ => (Kd.freshB (g := gbA0) (o := .cells #[.bool false, .slice none 0 0, .slice none 0 0] 24 (0, 0)) (crb BKA0) k_ hn_)))) (bsz HB)); replace BKA0 := bkb BKA0 hb; replace HB := bst HB hb; (try clear hb); (try clear hb2); (try clear hk); (try clear hi); (try clear ho0)) | ((with_reducible refine gate_callee (f := 62) rfl ?_); refine gL_ (some 12) Try.func62 #[] ?_; (with_reducible refine (impl_one.calls  tB2 _ A5.out).mono ?_); rintro e w13 ⟨vD2, rfl, ho0, hb⟩; refine ⟨_, rfl, ?_⟩; replace HOA1 := eldV HOA1 (Kd.R_base ho0) hb; have HOA2 := lwR ho0 HB; replace BKA0 := bkb BKA0 hb; replace HB := bst HB hb; (try clear hb); (try clear hb2); (try clear hk); (try clear hi); (try clear ho0); obtain ⟨Ao14, co14, eo14⟩ := Kd.V_slice HOA1.out; subst eo14; obtain ⟨Ao15, co15, eo15⟩ := Kd.R_slice HOA2.out; subst eo15) | ((with_reducible refine gate_callee (f := 60) rfl ?_); refine gL_ (some 13) Try.func60 #[.slice Ao14 tA4.length co14, .slice Ao15 tB2.length co15] ?_; (with_reducible refine (impl_natCmp.calls _ _ tA4 _ _ tB2 tB4 _ ?side1 ?side2 ?side3 ?side4 A6.out).mono ?_); (case side1 => exact crC (Kd.V_reads' HOA1.out).2.2); (case side2 => exact (Kd.V_reads' HOA1.out).2.1); (case side3 => exact crC (Kd.R_reads' HOA2.out).2.2); (case side4 => exact (Kd.R_reads' HOA2.out).2.1); rintro e w16 ⟨rfl, hb⟩; refine ⟨_, rfl, ?_⟩; replace HOA1 := rblV HOA1 hb; replace HOA2 := rblR HOA2 hb; replace BKA0 := bkb BKA0 hb; replace HB := bst HB hb; (try clear hb); (try clear hb2); (try clear hk); (try clear hi)) | ((with_reducible refine gate_callee (f := 102) rfl ?_); refine gL_ (some 34) Try.func102 #[.slice A1 l1.length c1] ?_; (with_reducible refine (slices_Clone_int_int.calls _ _ l1 tB7 _ ?side1 ?side2 A9.out).mono ?_); (case side1 => exact crC (Kd.C_below HR1.out HB.out)); (case side2 => exact HC1.out); rintro e w17 ⟨vG1, rfl, ho0, hb⟩; refine ⟨_, rfl, ?_⟩; replace HOA1 := eldV HOA1 (Kd.R_base ho0) hb; have HOC6 := lwR (nwR ho0 HOA2) HB; replace HOA2 := eldR HOA2 (Kd.R_base ho0) hb; replace BKA0 := bkb BKA0 hb; replace HB := bst HB hb; (try clear hb); (try clear hb2); (try clear hk); (try clear hi); (try clear ho0)) | ((with_reducible refine gate_callee (f := 102) rfl ?_); refine gL_ (some 36) Try.func102 #[.slice A2 l2.length c2] ?_; (with_reducible refine (slices_Clone_int_int.calls _ _ l2 tB5 _ ?side1 ?side2 A10.out).mono ?_); (case side1 => exact crC (Kd.C_below HR2.out HB.out)); (case side2 => exact HC2.out); rintro e w18 ⟨vG2, rfl, ho0, hb⟩; refine ⟨_, rfl, ?_⟩; replace HOA1 := eldV HOA1 (Kd.R_base ho0) hb; have HOD4 := lwR (nwR (nwR ho0 HOA2) HOC6) HB; replace HOA2 := eldR HOA2 (Kd.R_base ho0) hb; replace HOC6 := eldR HOC6 (Kd.R_base ho0) hb; replace BKA0 := bkb BKA0 hb; replace HB := bst HB hb; (try clear hb); (try clear hb2); (try clear hk); (try clear hi); (try clear ho0); obtain ⟨Ao19, co19, eo19⟩ := Kd.R_slice HOD4.out; subst eo19; obtain ⟨Ao20, co20, eo20⟩ := Kd.R_slice HOC6.out; subst eo20; obtain ⟨hcz21_0, hcz21_1, hcz21_2, hfz21_0, hfz21_1, hfz21_2⟩ := bc3 BKA0))
   refine bodyPost_ret (results_cell_row rfl _ _ gbA0 24 #[.bool (decide (0 < l1.length)), .slice Ao20 tB7.length co20, .slice Ao19 tB5.length co19] (0, 0) _ rfl (bp3 BKA0 _ _ _) Try.underlying24 rfl (by kernel_rfl)) rfl ?_
   exact ⟨_, _, by first | rfl | (simp only [lowest_gt]; rfl) | (simp [errW_none, errW_some] <;> rfl) | (simp [*, errW_none, errW_some] <;> rfl), (crN HOC6 BKA0 fun _ hk => hk.1.2), (crN HOD4 BKA0 fun _ hk => hk.1.2), blw HB⟩
  ·
   replace c8 := Bool.eq_false_iff.mpr c8
   subst c8
   have H1 : ((slices_Clone_int_int.f l1).bind fun tB8 => ((slices_Clone_int_int.f l2).bind fun tB6 => (some (false, tB8, tB6)))) = some (r1, r2, r3) := by rw [if_neg (show ¬ (false = true) by decide)] at H; exact H
   clear H
   have H := H1
   clear H1
   replace H := Option.bind_eq_some_iff.mp H
   obtain ⟨tB8, AE7, H⟩ := H
   replace H : ((slices_Clone_int_int.f l2).bind fun tB6 => (some (false, tB8, tB6))) = some (r1, r2, r3) := H
   have A22 := Aside0.mk AE7
   clear AE7
   replace H := Option.bind_eq_some_iff.mp H
   obtain ⟨tB6, AE8, H⟩ := H
   replace H : (some (false, tB8, tB6)) = some (r1, r2, r3) := H
   have A23 := Aside0.mk AE8
   clear AE8
   simp only [Option.some.injEq, Prod.mk.injEq] at H
   obtain ⟨rfl, rfl, rfl⟩ := H
   go_enter Try.func94, Try.ntmps94
   go_wp2_with (first | ((with_reducible refine gate_dst (N := 6) rfl ?_); (try (refine gate_guard (by rfl) ?_; dsimp only)); refine bx_ (N := 6) (cs := #[.bool false, .slice none 0 0, .slice none 0 0]) (t := 24) ?_; intro gbA0 hg w24 hbox hb; have BKA0 := Aside0.mk (hbox); have GWA0 := geh hg HB; have GEA0 := geh hg HB; replace HB := bst HB hb; clear hb hbox hg) | ((with_reducible refine gate_callee (f := 61) rfl ?_); refine gL_ (some 10) Try.func61 #[.slice A1 l1.length c1, .slice A2 l2.length c2] ?_; (with_reducible refine (impl_natGcd.calls k (fun k_ => k_ < w.heap.size) _ _ l1 (fun k_ => k_ < w.heap.size) _ _ l2 tA4 _ ?side1 ?side2 A4.out).mono ?_); (case side1 => exact Kd.V_mk HC1.out (Kd.F_below (Kd.C_F (Kd.heap_int .i64) HR1.out) (blw HB))); (case side2 => exact Kd.V_mk HC2.out (Kd.F_below (Kd.C_F (Kd.heap_int .i64) HR2.out) (blw HB))); rintro e w25 ⟨vD1, rfl, ho0, hb⟩; refine ⟨_, rfl, ?_⟩; have HOA1 := Aside0.mk (Kd.V_lower (Kd.V_mono (ok' := fun k_ => k_ ≠ gbA0) ho0 (fun k_ hk_ => Or.elim hk_ (fun hs_ => Or.elim hs_ (fun hs_ => fun e_ => Nat.not_le.2 hs_ (by rw [e_]; exact GWA0.out)) (fun hs_ => fun e_ => Nat.not_le.2 hs_ (by rw [e_]; exact GWA0.out))) (fun hn_ => (Kd.freshB (g := gbA0) (o := .cells #[.bool false, .slice none 0 0, .slice none 0 0] 24 (0, 0)) (crb BKA0) k_ hn_)))) (bsz HB)); replace BKA0 := bkb BKA0 hb; replace HB := bst HB hb; (try clear hb); (try clear hb2); (try clear hk); (try clear hi); (try clear ho0)) | ((with_reducible refine gate_callee (f := 62) rfl ?_); refine gL_ (some 12) Try.func62 #[] ?_; (with_reducible refine (impl_one.calls  tB2 _ A5.out).mono ?_); rintro e w26 ⟨vD2, rfl, ho0, hb⟩; refine ⟨_, rfl, ?_⟩; replace HOA1 := eldV HOA1 (Kd.R_base ho0) hb; have HOA2 := lwR ho0 HB; replace BKA0 := bkb BKA0 hb; replace HB := bst HB hb; (try clear hb); (try clear hb2); (try clear hk); (try clear hi); (try clear ho0); obtain ⟨Ao27, co27, eo27⟩ := Kd.V_slice HOA1.out; subst eo27; obtain ⟨Ao28, co28, eo28⟩ := Kd.R_slice HOA2.out; subst eo28) | ((with_reducible refine gate_callee (f := 60) rfl ?_); refine gL_ (some 13) Try.func60 #[.slice Ao27 tA4.length co27, .slice Ao28 tB2.length co28] ?_; (with_reducible refine (impl_natCmp.calls _ _ tA4 _ _ tB2 tB4 _ ?side1 ?side2 ?side3 ?side4 A6.out).mono ?_); (case side1 => exact crC (Kd.V_reads' HOA1.out).2.2); (case side2 => exact (Kd.V_reads' HOA1.out).2.1); (case side3 => exact crC (Kd.R_reads' HOA2.out).2.2); (case side4 => exact (Kd.R_reads' HOA2.out).2.1); rintro e w29 ⟨rfl, hb⟩; refine ⟨_, rfl, ?_⟩; replace HOA1 := rblV HOA1 hb; replace HOA2 := rblR HOA2 hb; replace BKA0 := bkb BKA0 hb; replace HB := bst HB hb; (try clear hb); (try clear hb2); (try clear hk); (try clear hi)) | ((with_reducible refine gate_callee (f := 102) rfl ?_); refine gL_ (some 34) Try.func102 #[.slice A1 l1.length c1] ?_; (with_reducible refine (slices_Clone_int_int.calls _ _ l1 tB8 _ ?side1 ?side2 A22.out).mono ?_); (case side1 => exact crC (Kd.C_below HR1.out HB.out)); (case side2 => exact HC1.out); rintro e w30 ⟨vG3, rfl, ho0, hb⟩; refine ⟨_, rfl, ?_⟩; replace HOA1 := eldV HOA1 (Kd.R_base ho0) hb; have HOC7 := lwR (nwR ho0 HOA2) HB; replace HOA2 := eldR HOA2 (Kd.R_base ho0) hb; replace BKA0 := bkb BKA0 hb; replace HB := bst HB hb; (try clear hb); (try clear hb2); (try clear hk); (try clear hi); (try clear ho0)) | ((with_reducible refine gate_callee (f := 102) rfl ?_); refine gL_ (some 36) Try.func102 #[.slice A2 l2.length c2] ?_; (with_reducible refine (slices_Clone_int_int.calls _ _ l2 tB6 _ ?side1 ?side2 A23.out).mono ?_); (case side1 => exact crC (Kd.C_below HR2.out HB.out)); (case side2 => exact HC2.out); rintro e w31 ⟨vG4, rfl, ho0, hb⟩; refine ⟨_, rfl, ?_⟩; replace HOA1 := eldV HOA1 (Kd.R_base ho0) hb; have HOD5 := lwR (nwR (nwR ho0 HOA2) HOC7) HB; replace HOA2 := eldR HOA2 (Kd.R_base ho0) hb; replace HOC7 := eldR HOC7 (Kd.R_base ho0) hb; replace BKA0 := bkb BKA0 hb; replace HB := bst HB hb; (try clear hb); (try clear hb2); (try clear hk); (try clear hi); (try clear ho0); obtain ⟨Ao32, co32, eo32⟩ := Kd.R_slice HOD5.out; subst eo32; obtain ⟨Ao33, co33, eo33⟩ := Kd.R_slice HOC7.out; subst eo33; obtain ⟨hcz34_0, hcz34_1, hcz34_2, hfz34_0, hfz34_1, hfz34_2⟩ := bc3 BKA0))
   refine bodyPost_ret (results_cell_row rfl _ _ gbA0 24 #[.bool false, .slice Ao33 tB8.length co33, .slice Ao32 tB6.length co32] (0, 0) _ rfl (bp3 BKA0 _ _ _) Try.underlying24 rfl (by kernel_rfl)) rfl ?_
   exact ⟨_, _, by first | rfl | (simp only [lowest_gt]; rfl) | (simp [errW_none, errW_some] <;> rfl) | (simp [*, errW_none, errW_some] <;> rfl), (crN HOC7 BKA0 fun _ hk => hk.1.2), (crN HOD5 BKA0 fun _ hk => hk.1.2), blw HB⟩
 ·
  rw [if_neg c7] at H
  have c7b0 : (tB4 == 0) = false := beq_eq_false_iff_ne.mpr c7
  have c7b1 : (tB4 != 0) = true := bne_iff_ne.mpr c7
  replace H := Option.bind_eq_some_iff.mp H
  obtain ⟨⟨tA3, tD6⟩, AE9, H⟩ := H
  replace H : ((impl_natDiv.f l2 tA4).bind fun btA5 => (if a0 = true then ((slices_Clone_int_int.f tA3).bind fun tB0 => ((slices_Clone_int_int.f btA5.1).bind fun tA7 => (some (decide ((tA3.length : Int) > 0), tB0, tA7)))) else ((slices_Clone_int_int.f tA3).bind fun tB1 => ((slices_Clone_int_int.f btA5.1).bind fun tA8 => (some (false, tB1, tA8)))))) = some (r1, r2, r3) := H
  have A35 := Aside0.mk AE9
  clear AE9
  replace H := Option.bind_eq_some_iff.mp H
  obtain ⟨⟨tA5, tD7⟩, AF0, H⟩ := H
  replace H : (if a0 = true then ((slices_Clone_int_int.f tA3).bind fun tB0 => ((slices_Clone_int_int.f tA5).bind fun tA7 => (some (decide ((tA3.length : Int) > 0), tB0, tA7)))) else ((slices_Clone_int_int.f tA3).bind fun tB1 => ((slices_Clone_int_int.f tA5).bind fun tA8 => (some (false, tB1, tA8))))) = some (r1, r2, r3) := H
  have A36 := Aside0.mk AF0
  clear AF0
  by_cases c37 : a0 = true
  ·
   subst c37
   have H1 : ((slices_Clone_int_int.f tA3).bind fun tB0 => ((slices_Clone_int_int.f tA5).bind fun tA7 => (some (decide ((tA3.length : Int) > 0), tB0, tA7)))) = some (r1, r2, r3) := by rw [if_pos rfl] at H; exact H
   clear H
   have H := H1
   clear H1
   replace H := Option.bind_eq_some_iff.mp H
   obtain ⟨tB0, AF1, H⟩ := H
   replace H : ((slices_Clone_int_int.f tA5).bind fun tA7 => (some (decide ((tA3.length : Int) > 0), tB0, tA7))) = some (r1, r2, r3) := H
   have A38 := Aside0.mk AF1
   clear AF1
   replace H := Option.bind_eq_some_iff.mp H
   obtain ⟨tA7, AF2, H⟩ := H
   replace H : (some (decide ((tA3.length : Int) > 0), tB0, tA7)) = some (r1, r2, r3) := H
   have A39 := Aside0.mk AF2
   clear AF2
   simp only [Option.some.injEq, Prod.mk.injEq] at H
   obtain ⟨rfl, rfl, rfl⟩ := H
   go_enter Try.func94, Try.ntmps94
   go_wp2_with (first | ((with_reducible refine gate_dst (N := 6) rfl ?_); (try (refine gate_guard (by rfl) ?_; dsimp only)); refine bx_ (N := 6) (cs := #[.bool false, .slice none 0 0, .slice none 0 0]) (t := 24) ?_; intro gbA0 hg w40 hbox hb; have BKA0 := Aside0.mk (hbox); have GWA0 := geh hg HB; have GEA0 := geh hg HB; replace HB := bst HB hb; clear hb hbox hg) | ((with_reducible refine gate_callee (f := 61) rfl ?_); refine gL_ (some 10) Try.func61 #[.slice A1 l1.length c1, .slice A2 l2.length c2] ?_; (with_reducible refine (impl_natGcd.calls k (fun k_ => k_ < w.heap.size) _ _ l1 (fun k_ => k_ < w.heap.size) _ _ l2 tA4 _ ?side1 ?side2 A4.out).mono ?_); (case side1 => exact Kd.V_mk HC1.out (Kd.F_below (Kd.C_F (Kd.heap_int .i64) HR1.out) (blw HB))); (case side2 => exact Kd.V_mk HC2.out (Kd.F_below (Kd.C_F (Kd.heap_int .i64) HR2.out) (blw HB))); rintro e w41 ⟨vD1, rfl, ho0, hb⟩; refine ⟨_, rfl, ?_⟩; have HOA1 := Aside0.mk (Kd.V_lower (Kd.V_mono (ok' := fun k_ => k_ ≠ gbA0) ho0 (fun k_ hk_ => Or.elim hk_ (fun hs_ => Or.elim hs_ (fun hs_ => fun e_ => Nat.not_le.2 hs_ (by rw [e_]; exact GWA0.out)) (fun hs_ => fun e_ => Nat.not_le.2 hs_ (by rw [e_]; exact GWA0.out))) (fun hn_ => (Kd.freshB (g := gbA0) (o := .cells #[.bool false, .slice none 0 0, .slice none 0 0] 24 (0, 0)) (crb BKA0) k_ hn_)))) (bsz HB)); replace BKA0 := bkb BKA0 hb; replace HB := bst HB hb; (try clear hb); (try clear hb2); (try clear hk); (try clear hi); (try clear ho0)) | ((with_reducible refine gate_callee (f := 62) rfl ?_); refine gL_ (some 12) Try.func62 #[] ?_; (with_reducible refine (impl_one.calls  tB2 _ A5.out).mono ?_); rintro e w42 ⟨vD2, rfl, ho0, hb⟩; refine ⟨_, rfl, ?_⟩; replace HOA1 := eldV HOA1 (Kd.R_base ho0) hb; have HOA2 := lwR ho0 HB; replace BKA0 := bkb BKA0 hb; replace HB := bst HB hb; (try clear hb); (try clear hb2); (try clear hk); (try clear hi); (try clear ho0); obtain ⟨Ao43, co43, eo43⟩ := Kd.V_slice HOA1.out; subst eo43; obtain ⟨Ao44, co44, eo44⟩ := Kd.R_slice HOA2.out; subst eo44) | ((with_reducible refine gate_callee (f := 60) rfl ?_); refine gL_ (some 13) Try.func60 #[.slice Ao43 tA4.length co43, .slice Ao44 tB2.length co44] ?_; (with_reducible refine (impl_natCmp.calls _ _ tA4 _ _ tB2 tB4 _ ?side1 ?side2 ?side3 ?side4 A6.out).mono ?_); (case side1 => exact crC (Kd.V_reads' HOA1.out).2.2); (case side2 => exact (Kd.V_reads' HOA1.out).2.1); (case side3 => exact crC (Kd.R_reads' HOA2.out).2.2); (case side4 => exact (Kd.R_reads' HOA2.out).2.1); rintro e w45 ⟨rfl, hb⟩; refine ⟨_, rfl, ?_⟩; replace HOA1 := rblV HOA1 hb; replace HOA2 := rblR HOA2 hb; replace BKA0 := bkb BKA0 hb; replace HB := bst HB hb; (try clear hb); (try clear hb2); (try clear hk); (try clear hi)) | ((with_reducible refine gate_callee (f := 75) rfl ?_); refine gL_ (some 18) Try.func75 #[.slice A1 l1.length c1, .slice Ao43 tA4.length co43] ?_; (with_reducible refine (impl_natDiv.calls _ _ l1 _ _ tA4 tA3 tD6 _ ?side1 ?side2 ?side3 ?side4 A35.out).mono ?_); (case side1 => exact crC (Kd.C_below HR1.out HB.out)); (case side2 => exact HC1.out); (case side3 => exact crC (Kd.V_reads' HOA1.out).2.2); (case side4 => exact (Kd.V_reads' HOA1.out).2.1); rintro e w46 ⟨vE0, vE1, rfl, ho0, ho1, hb⟩; refine ⟨_, rfl, ?_⟩; replace HOA1 := tldV HOA1 hb (Kd.R_base ho0) (Kd.R_base ho1); have HOA6 := lwR (nwR ho0 HOA2) HB; have HOA9 := lwR (nwR ho1 HOA2) HB; replace HOA2 := tldR HOA2 hb (Kd.R_base ho0) (Kd.R_base ho1); replace BKA0 := bkb BKA0 hb; replace HB := bst HB hb; (try clear hb); (try clear hb2); (try clear hk); (try clear hi); (try clear ho0); (try clear ho1)) | ((with_reducible refine gate_callee (f := 75) rfl ?_); refine gL_ (some 24) Try.func75 #[.slice A2 l2.length c2, .slice Ao43 tA4.length co43] ?_; (with_reducible refine (impl_natDiv.calls _ _ l2 _ _ tA4 tA5 tD7 _ ?side1 ?side2 ?side3 ?side4 A36.out).mono ?_); (case side1 => exact crC (Kd.C_below HR2.out HB.out)); (case side2 => exact HC2.out); (case side3 => exact crC (Kd.V_reads' HOA1.out).2.2); (case side4 => exact (Kd.V_reads' HOA1.out).2.1); rintro e w47 ⟨vE2, vE3, rfl, ho0, ho1, hb⟩; refine ⟨_, rfl, ?_⟩; replace HOA1 := tldV HOA1 hb (Kd.R_base ho0) (Kd.R_base ho1); have HOB3 := lwR (nwR (nwR (nwR ho0 HOA2) HOA6) HOA9) HB; have HOC1 := lwR (nwR (nwR (nwR ho1 HOA2) HOA6) HOA9) HB; replace HOA2 := tldR HOA2 hb (Kd.R_base ho0) (Kd.R_base ho1); replace HOA6 := tldR HOA6 hb (Kd.R_base ho0) (Kd.R_base ho1); replace HOA9 := tldR HOA9 hb (Kd.R_base ho0) (Kd.R_base ho1); replace BKA0 := bkb BKA0 hb; replace HB := bst HB hb; (try clear hb); (try clear hb2); (try clear hk); (try clear hi); (try clear ho0); (try clear ho1); obtain ⟨Ao48, co48, eo48⟩ := Kd.R_slice HOA6.out; subst eo48) | ((with_reducible refine gate_callee (f := 102) rfl ?_); refine gL_ (some 34) Try.func102 #[.slice Ao48 tA3.length co48] ?_; (with_reducible refine (slices_Clone_int_int.calls _ _ tA3 tB0 _ ?side1 ?side2 A38.out).mono ?_); (case side1 => exact crC (Kd.R_reads' HOA6.out).2.2); (case side2 => exact (Kd.R_reads' HOA6.out).2.1); rintro e w49 ⟨vG5, rfl, ho0, hb⟩; refine ⟨_, rfl, ?_⟩; replace HOA1 := eldV HOA1 (Kd.R_base ho0) hb; have HOC8 := lwR (nwR (nwR (nwR (nwR (nwR ho0 HOA2) HOA6) HOA9) HOB3) HOC1) HB; replace HOA2 := eldR HOA2 (Kd.R_base ho0) hb; replace HOA6 := eldR HOA6 (Kd.R_base ho0) hb; replace HOA9 := eldR HOA9 (Kd.R_base ho0) hb; replace HOB3 := eldR HOB3 (Kd.R_base ho0) hb; replace HOC1 := eldR HOC1 (Kd.R_base ho0) hb; replace BKA0 := bkb BKA0 hb; replace HB := bst HB hb; (try clear hb); (try clear hb2); (try clear hk); (try clear hi); (try clear ho0); obtain ⟨Ao50, co50, eo50⟩ := Kd.R_slice HOB3.out; subst eo50) | ((with_reducible refine gate_callee (f := 102) rfl ?_); refine gL_ (some 36) Try.func102 #[.slice Ao50 tA5.length co50] ?_; (with_reducible refine (slices_Clone_int_int.calls _ _ tA5 tA7 _ ?side1 ?side2 A39.out).mono ?_); (case side1 => exact crC (Kd.R_reads' HOB3.out).2.2); (case side2 => exact (Kd.R_reads' HOB3.out).2.1); rintro e w51 ⟨vG6, rfl, ho0, hb⟩; refine ⟨_, rfl, ?_⟩; replace HOA1 := eldV HOA1 (Kd.R_base ho0) hb; have HOD8 := lwR (nwR (nwR (nwR (nwR (nwR (nwR ho0 HOA2) HOA6) HOA9) HOB3) HOC1) HOC8) HB; replace HOA2 := eldR HOA2 (Kd.R_base ho0) hb; replace HOA6 := eldR HOA6 (Kd.R_base ho0) hb; replace HOA9 := eldR HOA9 (Kd.R_base ho0) hb; replace HOB3 := eldR HOB3 (Kd.R_base ho0) hb; replace HOC1 := eldR HOC1 (Kd.R_base ho0) hb; replace HOC8 := eldR HOC8 (Kd.R_base ho0) hb; replace BKA0 := bkb BKA0 hb; replace HB := bst HB hb; (try clear hb); (try clear hb2); (try clear hk); (try clear hi); (try clear ho0); obtain ⟨Ao52, co52, eo52⟩ := Kd.R_slice HOD8.out; subst eo52; obtain ⟨Ao53, co53, eo53⟩ := Kd.R_slice HOC8.out; subst eo53; obtain ⟨hcz54_0, hcz54_1, hcz54_2, hfz54_0, hfz54_1, hfz54_2⟩ := bc3 BKA0))
   refine bodyPost_ret (results_cell_row rfl _ _ gbA0 24 #[.bool (decide (0 < tA3.length)), .slice Ao53 tB0.length co53, .slice Ao52 tA7.length co52] (0, 0) _ rfl (bp3 BKA0 _ _ _) Try.underlying24 rfl (by kernel_rfl)) rfl ?_
   exact ⟨_, _, by first | rfl | (simp only [lowest_gt]; rfl) | (simp [errW_none, errW_some] <;> rfl) | (simp [*, errW_none, errW_some] <;> rfl), (crN HOC8 BKA0 fun _ hk => hk.1.2), (crN HOD8 BKA0 fun _ hk => hk.1.2), blw HB⟩
  ·
   replace c37 := Bool.eq_false_iff.mpr c37
   subst c37
   have H1 : ((slices_Clone_int_int.f tA3).bind fun tB1 => ((slices_Clone_int_int.f tA5).bind fun tA8 => (some (false, tB1, tA8)))) = some (r1, r2, r3) := by rw [if_neg (show ¬ (false = true) by decide)] at H; exact H
   clear H
   have H := H1
   clear H1
   replace H := Option.bind_eq_some_iff.mp H
   obtain ⟨tB1, AF3, H⟩ := H
   replace H : ((slices_Clone_int_int.f tA5).bind fun tA8 => (some (false, tB1, tA8))) = some (r1, r2, r3) := H
   have A55 := Aside0.mk AF3
   clear AF3
   replace H := Option.bind_eq_some_iff.mp H
   obtain ⟨tA8, AF4, H⟩ := H
   replace H : (some (false, tB1, tA8)) = some (r1, r2, r3) := H
   have A56 := Aside0.mk AF4
   clear AF4
   simp only [Option.some.injEq, Prod.mk.injEq] at H
   obtain ⟨rfl, rfl, rfl⟩ := H
   go_enter Try.func94, Try.ntmps94
   go_wp2_with (first | ((with_reducible refine gate_dst (N := 6) rfl ?_); (try (refine gate_guard (by rfl) ?_; dsimp only)); refine bx_ (N := 6) (cs := #[.bool false, .slice none 0 0, .slice none 0 0]) (t := 24) ?_; intro gbA0 hg w57 hbox hb; have BKA0 := Aside0.mk (hbox); have GWA0 := geh hg HB; have GEA0 := geh hg HB; replace HB := bst HB hb; clear hb hbox hg) | ((with_reducible refine gate_callee (f := 61) rfl ?_); refine gL_ (some 10) Try.func61 #[.slice A1 l1.length c1, .slice A2 l2.length c2] ?_; (with_reducible refine (impl_natGcd.calls k (fun k_ => k_ < w.heap.size) _ _ l1 (fun k_ => k_ < w.heap.size) _ _ l2 tA4 _ ?side1 ?side2 A4.out).mono ?_); (case side1 => exact Kd.V_mk HC1.out (Kd.F_below (Kd.C_F (Kd.heap_int .i64) HR1.out) (blw HB))); (case side2 => exact Kd.V_mk HC2.out (Kd.F_below (Kd.C_F (Kd.heap_int .i64) HR2.out) (blw HB))); rintro e w58 ⟨vD1, rfl, ho0, hb⟩; refine ⟨_, rfl, ?_⟩; have HOA1 := Aside0.mk (Kd.V_lower (Kd.V_mono (ok' := fun k_ => k_ ≠ gbA0) ho0 (fun k_ hk_ => Or.elim hk_ (fun hs_ => Or.elim hs_ (fun hs_ => fun e_ => Nat.not_le.2 hs_ (by rw [e_]; exact GWA0.out)) (fun hs_ => fun e_ => Nat.not_le.2 hs_ (by rw [e_]; exact GWA0.out))) (fun hn_ => (Kd.freshB (g := gbA0) (o := .cells #[.bool false, .slice none 0 0, .slice none 0 0] 24 (0, 0)) (crb BKA0) k_ hn_)))) (bsz HB)); replace BKA0 := bkb BKA0 hb; replace HB := bst HB hb; (try clear hb); (try clear hb2); (try clear hk); (try clear hi); (try clear ho0)) | ((with_reducible refine gate_callee (f := 62) rfl ?_); refine gL_ (some 12) Try.func62 #[] ?_; (with_reducible refine (impl_one.calls  tB2 _ A5.out).mono ?_); rintro e w59 ⟨vD2, rfl, ho0, hb⟩; refine ⟨_, rfl, ?_⟩; replace HOA1 := eldV HOA1 (Kd.R_base ho0) hb; have HOA2 := lwR ho0 HB; replace BKA0 := bkb BKA0 hb; replace HB := bst HB hb; (try clear hb); (try clear hb2); (try clear hk); (try clear hi); (try clear ho0); obtain ⟨Ao60, co60, eo60⟩ := Kd.V_slice HOA1.out; subst eo60; obtain ⟨Ao61, co61, eo61⟩ := Kd.R_slice HOA2.out; subst eo61) | ((with_reducible refine gate_callee (f := 60) rfl ?_); refine gL_ (some 13) Try.func60 #[.slice Ao60 tA4.length co60, .slice Ao61 tB2.length co61] ?_; (with_reducible refine (impl_natCmp.calls _ _ tA4 _ _ tB2 tB4 _ ?side1 ?side2 ?side3 ?side4 A6.out).mono ?_); (case side1 => exact crC (Kd.V_reads' HOA1.out).2.2); (case side2 => exact (Kd.V_reads' HOA1.out).2.1); (case side3 => exact crC (Kd.R_reads' HOA2.out).2.2); (case side4 => exact (Kd.R_reads' HOA2.out).2.1); rintro e w62 ⟨rfl, hb⟩; refine ⟨_, rfl, ?_⟩; replace HOA1 := rblV HOA1 hb; replace HOA2 := rblR HOA2 hb; replace BKA0 := bkb BKA0 hb; replace HB := bst HB hb; (try clear hb); (try clear hb2); (try clear hk); (try clear hi)) | ((with_reducible refine gate_callee (f := 75) rfl ?_); refine gL_ (some 18) Try.func75 #[.slice A1 l1.length c1, .slice Ao60 tA4.length co60] ?_; (with_reducible refine (impl_natDiv.calls _ _ l1 _ _ tA4 tA3 tD6 _ ?side1 ?side2 ?side3 ?side4 A35.out).mono ?_); (case side1 => exact crC (Kd.C_below HR1.out HB.out)); (case side2 => exact HC1.out); (case side3 => exact crC (Kd.V_reads' HOA1.out).2.2); (case side4 => exact (Kd.V_reads' HOA1.out).2.1); rintro e w63 ⟨vE0, vE1, rfl, ho0, ho1, hb⟩; refine ⟨_, rfl, ?_⟩; replace HOA1 := tldV HOA1 hb (Kd.R_base ho0) (Kd.R_base ho1); have HOA6 := lwR (nwR ho0 HOA2) HB; have HOA9 := lwR (nwR ho1 HOA2) HB; replace HOA2 := tldR HOA2 hb (Kd.R_base ho0) (Kd.R_base ho1); replace BKA0 := bkb BKA0 hb; replace HB := bst HB hb; (try clear hb); (try clear hb2); (try clear hk); (try clear hi); (try clear ho0); (try clear ho1)) | ((with_reducible refine gate_callee (f := 75) rfl ?_); refine gL_ (some 24) Try.func75 #[.slice A2 l2.length c2, .slice Ao60 tA4.length co60] ?_; (with_reducible refine (impl_natDiv.calls _ _ l2 _ _ tA4 tA5 tD7 _ ?side1 ?side2 ?side3 ?side4 A36.out).mono ?_); (case side1 => exact crC (Kd.C_below HR2.out HB.out)); (case side2 => exact HC2.out); (case side3 => exact crC (Kd.V_reads' HOA1.out).2.2); (case side4 => exact (Kd.V_reads' HOA1.out).2.1); rintro e w64 ⟨vE2, vE3, rfl, ho0, ho1, hb⟩; refine ⟨_, rfl, ?_⟩; replace HOA1 := tldV HOA1 hb (Kd.R_base ho0) (Kd.R_base ho1); have HOB3 := lwR (nwR (nwR (nwR ho0 HOA2) HOA6) HOA9) HB; have HOC1 := lwR (nwR (nwR (nwR ho1 HOA2) HOA6) HOA9) HB; replace HOA2 := tldR HOA2 hb (Kd.R_base ho0) (Kd.R_base ho1); replace HOA6 := tldR HOA6 hb (Kd.R_base ho0) (Kd.R_base ho1); replace HOA9 := tldR HOA9 hb (Kd.R_base ho0) (Kd.R_base ho1); replace BKA0 := bkb BKA0 hb; replace HB := bst HB hb; (try clear hb); (try clear hb2); (try clear hk); (try clear hi); (try clear ho0); (try clear ho1); obtain ⟨Ao65, co65, eo65⟩ := Kd.R_slice HOA6.out; subst eo65) | ((with_reducible refine gate_callee (f := 102) rfl ?_); refine gL_ (some 34) Try.func102 #[.slice Ao65 tA3.length co65] ?_; (with_reducible refine (slices_Clone_int_int.calls _ _ tA3 tB1 _ ?side1 ?side2 A55.out).mono ?_); (case side1 => exact crC (Kd.R_reads' HOA6.out).2.2); (case side2 => exact (Kd.R_reads' HOA6.out).2.1); rintro e w66 ⟨vG7, rfl, ho0, hb⟩; refine ⟨_, rfl, ?_⟩; replace HOA1 := eldV HOA1 (Kd.R_base ho0) hb; have HOC9 := lwR (nwR (nwR (nwR (nwR (nwR ho0 HOA2) HOA6) HOA9) HOB3) HOC1) HB; replace HOA2 := eldR HOA2 (Kd.R_base ho0) hb; replace HOA6 := eldR HOA6 (Kd.R_base ho0) hb; replace HOA9 := eldR HOA9 (Kd.R_base ho0) hb; replace HOB3 := eldR HOB3 (Kd.R_base ho0) hb; replace HOC1 := eldR HOC1 (Kd.R_base ho0) hb; replace BKA0 := bkb BKA0 hb; replace HB := bst HB hb; (try clear hb); (try clear hb2); (try clear hk); (try clear hi); (try clear ho0); obtain ⟨Ao67, co67, eo67⟩ := Kd.R_slice HOB3.out; subst eo67) | ((with_reducible refine gate_callee (f := 102) rfl ?_); refine gL_ (some 36) Try.func102 #[.slice Ao67 tA5.length co67] ?_; (with_reducible refine (slices_Clone_int_int.calls _ _ tA5 tA8 _ ?side1 ?side2 A56.out).mono ?_); (case side1 => exact crC (Kd.R_reads' HOB3.out).2.2); (case side2 => exact (Kd.R_reads' HOB3.out).2.1); rintro e w68 ⟨vG8, rfl, ho0, hb⟩; refine ⟨_, rfl, ?_⟩; replace HOA1 := eldV HOA1 (Kd.R_base ho0) hb; have HOD9 := lwR (nwR (nwR (nwR (nwR (nwR (nwR ho0 HOA2) HOA6) HOA9) HOB3) HOC1) HOC9) HB; replace HOA2 := eldR HOA2 (Kd.R_base ho0) hb; replace HOA6 := eldR HOA6 (Kd.R_base ho0) hb; replace HOA9 := eldR HOA9 (Kd.R_base ho0) hb; replace HOB3 := eldR HOB3 (Kd.R_base ho0) hb; replace HOC1 := eldR HOC1 (Kd.R_base ho0) hb; replace HOC9 := eldR HOC9 (Kd.R_base ho0) hb; replace BKA0 := bkb BKA0 hb; replace HB := bst HB hb; (try clear hb); (try clear hb2); (try clear hk); (try clear hi); (try clear ho0); obtain ⟨Ao69, co69, eo69⟩ := Kd.R_slice HOD9.out; subst eo69; obtain ⟨Ao70, co70, eo70⟩ := Kd.R_slice HOC9.out; subst eo70; obtain ⟨hcz71_0, hcz71_1, hcz71_2, hfz71_0, hfz71_1, hfz71_2⟩ := bc3 BKA0))
   refine bodyPost_ret (results_cell_row rfl _ _ gbA0 24 #[.bool false, .slice Ao70 tB1.length co70, .slice Ao69 tA8.length co69] (0, 0) _ rfl (bp3 BKA0 _ _ _) Try.underlying24 rfl (by kernel_rfl)) rfl ?_
   exact ⟨_, _, by first | rfl | (simp only [lowest_gt]; rfl) | (simp [errW_none, errW_some] <;> rfl) | (simp [*, errW_none, errW_some] <;> rfl), (crN HOC9 BKA0 fun _ hk => hk.1.2), (crN HOD9 BKA0 fun _ hk => hk.1.2), blw HB⟩

end Go.Proofs.Ytacdaijalkkogaa.Q
