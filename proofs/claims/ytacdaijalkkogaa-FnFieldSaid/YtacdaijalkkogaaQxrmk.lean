-- written by a program of this claim's session (myprint.py) out of the translation; Lean checks it.
import Derived.Test.YtacdaijalkkogaaQx0
import Derived.Test.YtacdaijalkkogaaWords
import Derived.Test.YtacdaijalkkogaaQxrk
import Derived.Test.YtacdaijalkkogaaQxcmp
import Derived.Test.YtacdaijalkkogaaQxdiv
import Derived.Test.YtacdaijalkkogaaQxsub
import Derived.Test.YtacdaijalkkogaaQxgcd
namespace Go.Proofs.Ytacdaijalkkogaa.Q
open Go.RowKit Go.Proofs.YtacdaijalkkogaaW.PrintWords Go.Proofs.YtacdaijalkkogaaW.PrintLast Go.Proofs.YtacdaijalkkogaaW.PrintMore
attribute [local go_sem] max2_int min2_int max_two min_two max_three min_three max_four min_four   -- for this text's walks alone
set_option linter.unusedVariables false
set_option linter.unusedSimpArgs false

theorem l02Make_gt (l : List Int) : decide (0 < l.length) = decide ((l.length : Int) > 0) := by simp only [decide_eq_decide]; omega
def spec_l02Make.f (k : Nat) (a0 : Bool) (l1 : List Int) (l2 : List Int) : Option (Bool × List Int × List Int) := (spec_l01Gcd.f k l1 l2).bind fun tB7 => ((spec_l01Div.f k l1 tB7).bind fun btA9 => ((spec_l01Div.f k l2 tB7).bind fun btB5 => (if a0 = true then (some (decide ((btA9.1.length : Int) > 0), btA9.1, btB5.1)) else (some (false, btA9.1, btB5.1)))))
theorem spec_l02Make.mono : ∀ a0 a1 a2 k, LeO (spec_l02Make.f k a0 a1 a2) (spec_l02Make.f (k + 1) a0 a1 a2) := by
 intro a0 a1 a2 k
 unfold spec_l02Make.f
 repeat' first
   | (with_reducible exact spec_l01Div.mono _ _ _)
   | (with_reducible exact spec_l01Gcd.mono _ _ _)
   | (with_reducible exact LeO.refl _)
   | (with_reducible exact LeO.none _)
   | (with_reducible refine LeO.ite ?_ ?_)
   | (with_reducible refine LeO.bind ?_ (fun _ => ?_))
   | exact spec_l01Div.mono _ _ _
   | exact spec_l01Gcd.mono _ _ _
   | exact LeO.none _
   | refine LeO.ite ?_ ?_
   | refine LeO.bind ?_ (fun _ => ?_)
set_option maxHeartbeats 8000000 in
set_option maxRecDepth 100000 in
theorem spec_l02Make.calls (k : Nat) (a0 : Bool) (A1 : Option Addr) (c1 : Nat) (l1 : List Int) (A2 : Option Addr) (c2 : Nat) (l2 : List Int) (r1 : Bool) (r2 : List Int) (r3 : List Int) (w : World) (hr1 : Kd.C (Kd.int .i64) w A1 l1.length l1) (hc1 : l1.length ≤ c1) (hr2 : Kd.C (Kd.int .i64) w A2 l2.length l2) (hc2 : l2.length ≤ c2) (h : spec_l02Make.f k a0 l1 l2 = some (r1, r2, r3)) :
  Calls Try.prog 47 #[.bool a0, .slice A1 l1.length c1, .slice A2 l2.length c2] w fun e w' => ∃ v1_ v2_ : Value, e = .returned (.agg #[.bool r1, v1_, v2_]) ∧ Kd.R (Kd.int .i64) 3 w' w.heap.size (fun k_ => nO k_ v2_) v1_ r2 ∧ Kd.R (Kd.int .i64) 3 w' w.heap.size (fun k_ => nO k_ v1_) v2_ r3 ∧ Below w.heap.size w w' := by
 have hu24 := Try.underlying24
 have HR1 := Aside0.mk hr1
 have HC1 := Aside0.mk hc1
 clear hr1 hc1
 have HR2 := Aside0.mk hr2
 have HC2 := Aside0.mk hc2
 clear hr2 hc2
 have HB := Aside0.mk (Below.refl w.heap.size w)
 have H : ((spec_l01Gcd.f k l1 l2).bind fun tB7 => ((spec_l01Div.f k l1 tB7).bind fun btA9 => ((spec_l01Div.f k l2 tB7).bind fun btB5 => (if a0 = true then (some (decide ((btA9.1.length : Int) > 0), btA9.1, btB5.1)) else (some (false, btA9.1, btB5.1)))))) = some (r1, r2, r3) := h
 clear h
 replace H := Option.bind_eq_some_iff.mp H
 obtain ⟨tB7, A40, H⟩ := H
 replace H : ((spec_l01Div.f k l1 tB7).bind fun btA9 => ((spec_l01Div.f k l2 tB7).bind fun btB5 => (if a0 = true then (some (decide ((btA9.1.length : Int) > 0), btA9.1, btB5.1)) else (some (false, btA9.1, btB5.1))))) = some (r1, r2, r3) := H
 have A4 := Aside0.mk A40
 clear A40
 replace H := Option.bind_eq_some_iff.mp H
 obtain ⟨⟨tA9, tE3⟩, A50, H⟩ := H
 replace H : ((spec_l01Div.f k l2 tB7).bind fun btB5 => (if a0 = true then (some (decide ((tA9.length : Int) > 0), tA9, btB5.1)) else (some (false, tA9, btB5.1)))) = some (r1, r2, r3) := H
 have A5 := Aside0.mk A50
 clear A50
 replace H := Option.bind_eq_some_iff.mp H
 obtain ⟨⟨tB5, tE4⟩, A60, H⟩ := H
 replace H : (if a0 = true then (some (decide ((tA9.length : Int) > 0), tA9, tB5)) else (some (false, tA9, tB5))) = some (r1, r2, r3) := H
 have A6 := Aside0.mk A60
 clear A60
 by_cases c7 : a0 = true
 ·
  subst c7
  have H1 : (some (decide ((tA9.length : Int) > 0), tA9, tB5)) = some (r1, r2, r3) := by rw [if_pos rfl] at H; exact H
  clear H
  have H := H1
  clear H1
  simp only [Option.some.injEq, Prod.mk.injEq] at H
  obtain ⟨rfl, rfl, rfl⟩ := H
  go_enter Try.func47, Try.ntmps47
  go_wp2_with (first | ((with_reducible refine gate_dst (N := 6) rfl ?_); (try (refine gate_guard (by rfl) ?_; dsimp only)); refine bx_ (N := 6) (cs := #[.bool false, .slice none 0 0, .slice none 0 0]) (t := 24) ?_; intro gbA6 hg w8 hbox hb; have BKA6 := Aside0.mk (hbox); have GWA6 := geh hg HB; have GEA6 := geh hg HB; replace HB := bst HB hb; clear hb hbox hg) | ((with_reducible refine gate_callee (f := 56) rfl ?_); refine gL_ (some 14) Try.func56 #[.slice A1 l1.length c1, .slice A2 l2.length c2] ?_; (with_reducible refine (spec_l01Gcd.calls k (fun k_ => k_ < w.heap.size) _ _ l1 (fun k_ => k_ < w.heap.size) _ _ l2 tB7 _ ?side1 ?side2 A4.out).mono ?_); (case side1 => exact Kd.V_mk HC1.out (Kd.F_below (Kd.C_F (Kd.heap_int .i64) HR1.out) (blw HB))); (case side2 => exact Kd.V_mk HC2.out (Kd.F_below (Kd.C_F (Kd.heap_int .i64) HR2.out) (blw HB))); rintro e w9 ⟨vF8, rfl, ho0, hb⟩; refine ⟨_, rfl, ?_⟩; have HOA7 := lwR (Kd.R_mono (ok' := fun k_ => True) ho0 (fun _ hk_ => trivial)) HB; replace BKA6 := bkb BKA6 hb; replace HB := bst HB hb; (try clear hb); (try clear hb2); (try clear hk); (try clear hi); (try clear ho0); obtain ⟨Ao10, co10, eo10⟩ := Kd.R_slice HOA7.out; subst eo10) | ((with_reducible refine gate_callee (f := 92) rfl ?_); refine gL_ (some 18) Try.func92 #[.slice A1 l1.length c1, .slice Ao10 tB7.length co10] ?_; (with_reducible refine (spec_l01Div.calls k _ _ l1 _ _ tB7 tA9 tE3 _ ?side1 ?side2 ?side3 ?side4 A5.out).mono ?_); (case side1 => exact crC (Kd.C_below HR1.out HB.out)); (case side2 => exact HC1.out); (case side3 => exact crC (Kd.R_reads' HOA7.out).2.2); (case side4 => exact (Kd.R_reads' HOA7.out).2.1); rintro e w11 ⟨vF9, vG0, rfl, ho0, ho1, hb⟩; refine ⟨_, rfl, ?_⟩; have HOC5 := lwR (nwR ho0 HOA7) HB; have HOC8 := lwR (nwR ho1 HOA7) HB; replace HOA7 := tldR HOA7 hb (Kd.R_base ho0) (Kd.R_base ho1); replace BKA6 := bkb BKA6 hb; replace HB := bst HB hb; (try clear hb); (try clear hb2); (try clear hk); (try clear hi); (try clear ho0); (try clear ho1)) | ((with_reducible refine gate_callee (f := 92) rfl ?_); refine gL_ (some 24) Try.func92 #[.slice A2 l2.length c2, .slice Ao10 tB7.length co10] ?_; (with_reducible refine (spec_l01Div.calls k _ _ l2 _ _ tB7 tB5 tE4 _ ?side1 ?side2 ?side3 ?side4 A6.out).mono ?_); (case side1 => exact crC (Kd.C_below HR2.out HB.out)); (case side2 => exact HC2.out); (case side3 => exact crC (Kd.R_reads' HOA7.out).2.2); (case side4 => exact (Kd.R_reads' HOA7.out).2.1); rintro e w12 ⟨vG1, vG2, rfl, ho0, ho1, hb⟩; refine ⟨_, rfl, ?_⟩; have HOD1 := lwR (nwR (nwR (nwR ho0 HOA7) HOC5) HOC8) HB; have HOG3 := lwR (nwR (nwR (nwR ho1 HOA7) HOC5) HOC8) HB; replace HOA7 := tldR HOA7 hb (Kd.R_base ho0) (Kd.R_base ho1); replace HOC5 := tldR HOC5 hb (Kd.R_base ho0) (Kd.R_base ho1); replace HOC8 := tldR HOC8 hb (Kd.R_base ho0) (Kd.R_base ho1); replace BKA6 := bkb BKA6 hb; replace HB := bst HB hb; (try clear hb); (try clear hb2); (try clear hk); (try clear hi); (try clear ho0); (try clear ho1); obtain ⟨Ao13, co13, eo13⟩ := Kd.R_slice HOC5.out; subst eo13; obtain ⟨Ao14, co14, eo14⟩ := Kd.R_slice HOD1.out; subst eo14; obtain ⟨hcz15_0, hcz15_1, hcz15_2, hfz15_0, hfz15_1, hfz15_2⟩ := bc3 BKA6))
  refine bodyPost_ret (results_cell_row rfl _ _ gbA6 24 #[.bool (decide (0 < tA9.length)), .slice Ao13 tA9.length co13, .slice Ao14 tB5.length co14] (0, 0) _ rfl (bp3 BKA6 _ _ _) Try.underlying24 rfl (by kernel_rfl)) rfl ?_
  exact ⟨_, _, by first | rfl | (simp only [l02Make_gt]; rfl) | (simp [errW_none, errW_some] <;> rfl) | (simp [*, errW_none, errW_some] <;> rfl), (crN HOC5 BKA6 fun _ hk => hk.1.1.2), (crN HOD1 BKA6 fun _ hk => hk.1.1.2), blw HB⟩
 ·
  replace c7 := Bool.eq_false_iff.mpr c7
  subst c7
  have H1 : (some (false, tA9, tB5)) = some (r1, r2, r3) := by rw [if_neg (show ¬ (false = true) by decide)] at H; exact H
  clear H
  have H := H1
  clear H1
  simp only [Option.some.injEq, Prod.mk.injEq] at H
  obtain ⟨rfl, rfl, rfl⟩ := H
  go_enter Try.func47, Try.ntmps47
  go_wp2_with (first | ((with_reducible refine gate_dst (N := 6) rfl ?_); (try (refine gate_guard (by rfl) ?_; dsimp only)); refine bx_ (N := 6) (cs := #[.bool false, .slice none 0 0, .slice none 0 0]) (t := 24) ?_; intro gbA6 hg w16 hbox hb; have BKA6 := Aside0.mk (hbox); have GWA6 := geh hg HB; have GEA6 := geh hg HB; replace HB := bst HB hb; clear hb hbox hg) | ((with_reducible refine gate_callee (f := 56) rfl ?_); refine gL_ (some 14) Try.func56 #[.slice A1 l1.length c1, .slice A2 l2.length c2] ?_; (with_reducible refine (spec_l01Gcd.calls k (fun k_ => k_ < w.heap.size) _ _ l1 (fun k_ => k_ < w.heap.size) _ _ l2 tB7 _ ?side1 ?side2 A4.out).mono ?_); (case side1 => exact Kd.V_mk HC1.out (Kd.F_below (Kd.C_F (Kd.heap_int .i64) HR1.out) (blw HB))); (case side2 => exact Kd.V_mk HC2.out (Kd.F_below (Kd.C_F (Kd.heap_int .i64) HR2.out) (blw HB))); rintro e w17 ⟨vF8, rfl, ho0, hb⟩; refine ⟨_, rfl, ?_⟩; have HOA7 := lwR (Kd.R_mono (ok' := fun k_ => True) ho0 (fun _ hk_ => trivial)) HB; replace BKA6 := bkb BKA6 hb; replace HB := bst HB hb; (try clear hb); (try clear hb2); (try clear hk); (try clear hi); (try clear ho0); obtain ⟨Ao18, co18, eo18⟩ := Kd.R_slice HOA7.out; subst eo18) | ((with_reducible refine gate_callee (f := 92) rfl ?_); refine gL_ (some 18) Try.func92 #[.slice A1 l1.length c1, .slice Ao18 tB7.length co18] ?_; (with_reducible refine (spec_l01Div.calls k _ _ l1 _ _ tB7 tA9 tE3 _ ?side1 ?side2 ?side3 ?side4 A5.out).mono ?_); (case side1 => exact crC (Kd.C_below HR1.out HB.out)); (case side2 => exact HC1.out); (case side3 => exact crC (Kd.R_reads' HOA7.out).2.2); (case side4 => exact (Kd.R_reads' HOA7.out).2.1); rintro e w19 ⟨vF9, vG0, rfl, ho0, ho1, hb⟩; refine ⟨_, rfl, ?_⟩; have HOC5 := lwR (nwR ho0 HOA7) HB; have HOC8 := lwR (nwR ho1 HOA7) HB; replace HOA7 := tldR HOA7 hb (Kd.R_base ho0) (Kd.R_base ho1); replace BKA6 := bkb BKA6 hb; replace HB := bst HB hb; (try clear hb); (try clear hb2); (try clear hk); (try clear hi); (try clear ho0); (try clear ho1)) | ((with_reducible refine gate_callee (f := 92) rfl ?_); refine gL_ (some 24) Try.func92 #[.slice A2 l2.length c2, .slice Ao18 tB7.length co18] ?_; (with_reducible refine (spec_l01Div.calls k _ _ l2 _ _ tB7 tB5 tE4 _ ?side1 ?side2 ?side3 ?side4 A6.out).mono ?_); (case side1 => exact crC (Kd.C_below HR2.out HB.out)); (case side2 => exact HC2.out); (case side3 => exact crC (Kd.R_reads' HOA7.out).2.2); (case side4 => exact (Kd.R_reads' HOA7.out).2.1); rintro e w20 ⟨vG1, vG2, rfl, ho0, ho1, hb⟩; refine ⟨_, rfl, ?_⟩; have HOD1 := lwR (nwR (nwR (nwR ho0 HOA7) HOC5) HOC8) HB; have HOG3 := lwR (nwR (nwR (nwR ho1 HOA7) HOC5) HOC8) HB; replace HOA7 := tldR HOA7 hb (Kd.R_base ho0) (Kd.R_base ho1); replace HOC5 := tldR HOC5 hb (Kd.R_base ho0) (Kd.R_base ho1); replace HOC8 := tldR HOC8 hb (Kd.R_base ho0) (Kd.R_base ho1); replace BKA6 := bkb BKA6 hb; replace HB := bst HB hb; (try clear hb); (try clear hb2); (try clear hk); (try clear hi); (try clear ho0); (try clear ho1); obtain ⟨Ao21, co21, eo21⟩ := Kd.R_slice HOD1.out; subst eo21; obtain ⟨Ao22, co22, eo22⟩ := Kd.R_slice HOC5.out; subst eo22; obtain ⟨hcz23_0, hcz23_1, hcz23_2, hfz23_0, hfz23_1, hfz23_2⟩ := bc3 BKA6))
  refine bodyPost_ret (results_cell_row rfl _ _ gbA6 24 #[.bool false, .slice Ao22 tA9.length co22, .slice Ao21 tB5.length co21] (0, 0) _ rfl (bp3 BKA6 _ _ _) Try.underlying24 rfl (by kernel_rfl)) rfl ?_
  exact ⟨_, _, by first | rfl | (simp only [l02Make_gt]; rfl) | (simp [errW_none, errW_some] <;> rfl) | (simp [*, errW_none, errW_some] <;> rfl), (crN HOC5 BKA6 fun _ hk => hk.1.1.2), (crN HOD1 BKA6 fun _ hk => hk.1.1.2), blw HB⟩

theorem lowest_gt (l : List Int) : decide (0 < l.length) = decide ((l.length : Int) > 0) := by simp only [decide_eq_decide]; omega
def impl_lowest.f (k : Nat) (a0 : Bool) (l1 : List Int) (l2 : List Int) : Option (Bool × List Int × List Int) := (impl_natGcd.f k l1 l2).bind fun tA4 => ((impl_one.f).bind fun tB8 => ((impl_natCmp.f tA4 tB8).bind fun tC0 => (if tC0 = 0 then (if a0 = true then ((slices_Clone_int_int.f l1).bind fun tC3 => ((slices_Clone_int_int.f l2).bind fun tC1 => (some (decide ((l1.length : Int) > 0), tC3, tC1)))) else ((slices_Clone_int_int.f l1).bind fun tC4 => ((slices_Clone_int_int.f l2).bind fun tC2 => (some (false, tC4, tC2))))) else ((impl_natDiv.f l1 tA4).bind fun btA3 => ((impl_natDiv.f l2 tA4).bind fun btA5 => (if a0 = true then ((slices_Clone_int_int.f btA3.1).bind fun tB1 => ((slices_Clone_int_int.f btA5.1).bind fun tB2 => (some (decide ((btA3.1.length : Int) > 0), tB1, tB2)))) else ((slices_Clone_int_int.f btA3.1).bind fun tB6 => ((slices_Clone_int_int.f btA5.1).bind fun tB3 => (some (false, tB6, tB3))))))))))
theorem impl_lowest.mono : ∀ a0 a1 a2 k, LeO (impl_lowest.f k a0 a1 a2) (impl_lowest.f (k + 1) a0 a1 a2) := by
 intro a0 a1 a2 k
 unfold impl_lowest.f
 repeat' first
   | (with_reducible exact impl_natGcd.mono _ _ _)
   | (with_reducible exact LeO.refl _)
   | (with_reducible exact LeO.none _)
   | (with_reducible refine LeO.ite ?_ ?_)
   | (with_reducible refine LeO.bind ?_ (fun _ => ?_))
   | exact impl_natGcd.mono _ _ _
   | exact LeO.none _
   | refine LeO.ite ?_ ?_
   | refine LeO.bind ?_ (fun _ => ?_)
set_option maxHeartbeats 8000000 in
set_option maxRecDepth 100000 in
theorem impl_lowest.calls (k : Nat) (a0 : Bool) (A1 : Option Addr) (c1 : Nat) (l1 : List Int) (A2 : Option Addr) (c2 : Nat) (l2 : List Int) (r1 : Bool) (r2 : List Int) (r3 : List Int) (w : World) (hr1 : Kd.C (Kd.int .i64) w A1 l1.length l1) (hc1 : l1.length ≤ c1) (hr2 : Kd.C (Kd.int .i64) w A2 l2.length l2) (hc2 : l2.length ≤ c2) (h : impl_lowest.f k a0 l1 l2 = some (r1, r2, r3)) :
  Calls Try.prog 94 #[.bool a0, .slice A1 l1.length c1, .slice A2 l2.length c2] w fun e w' => ∃ v1_ v2_ : Value, e = .returned (.agg #[.bool r1, v1_, v2_]) ∧ Kd.R (Kd.int .i64) 3 w' w.heap.size (fun k_ => nO k_ v2_) v1_ r2 ∧ Kd.R (Kd.int .i64) 3 w' w.heap.size (fun k_ => nO k_ v1_) v2_ r3 ∧ Below w.heap.size w w' := by
 have hu24 := Try.underlying24
 have HR1 := Aside0.mk hr1
 have HC1 := Aside0.mk hc1
 clear hr1 hc1
 have HR2 := Aside0.mk hr2
 have HC2 := Aside0.mk hc2
 clear hr2 hc2
 have HB := Aside0.mk (Below.refl w.heap.size w)
 have H : ((impl_natGcd.f k l1 l2).bind fun tA4 => ((impl_one.f).bind fun tB8 => ((impl_natCmp.f tA4 tB8).bind fun tC0 => (if tC0 = 0 then (if a0 = true then ((slices_Clone_int_int.f l1).bind fun tC3 => ((slices_Clone_int_int.f l2).bind fun tC1 => (some (decide ((l1.length : Int) > 0), tC3, tC1)))) else ((slices_Clone_int_int.f l1).bind fun tC4 => ((slices_Clone_int_int.f l2).bind fun tC2 => (some (false, tC4, tC2))))) else ((impl_natDiv.f l1 tA4).bind fun btA3 => ((impl_natDiv.f l2 tA4).bind fun btA5 => (if a0 = true then ((slices_Clone_int_int.f btA3.1).bind fun tB1 => ((slices_Clone_int_int.f btA5.1).bind fun tB2 => (some (decide ((btA3.1.length : Int) > 0), tB1, tB2)))) else ((slices_Clone_int_int.f btA3.1).bind fun tB6 => ((slices_Clone_int_int.f btA5.1).bind fun tB3 => (some (false, tB6, tB3))))))))))) = some (r1, r2, r3) := h
 clear h
 replace H := Option.bind_eq_some_iff.mp H
 obtain ⟨tA4, A40, H⟩ := H
 replace H : ((impl_one.f).bind fun tB8 => ((impl_natCmp.f tA4 tB8).bind fun tC0 => (if tC0 = 0 then (if a0 = true then ((slices_Clone_int_int.f l1).bind fun tC3 => ((slices_Clone_int_int.f l2).bind fun tC1 => (some (decide ((l1.length : Int) > 0), tC3, tC1)))) else ((slices_Clone_int_int.f l1).bind fun tC4 => ((slices_Clone_int_int.f l2).bind fun tC2 => (some (false, tC4, tC2))))) else ((impl_natDiv.f l1 tA4).bind fun btA3 => ((impl_natDiv.f l2 tA4).bind fun btA5 => (if a0 = true then ((slices_Clone_int_int.f btA3.1).bind fun tB1 => ((slices_Clone_int_int.f btA5.1).bind fun tB2 => (some (decide ((btA3.1.length : Int) > 0), tB1, tB2)))) else ((slices_Clone_int_int.f btA3.1).bind fun tB6 => ((slices_Clone_int_int.f btA5.1).bind fun tB3 => (some (false, tB6, tB3)))))))))) = some (r1, r2, r3) := H
 have A4 := Aside0.mk A40
 clear A40
 replace H := Option.bind_eq_some_iff.mp H
 obtain ⟨tB8, A50, H⟩ := H
 replace H : ((impl_natCmp.f tA4 tB8).bind fun tC0 => (if tC0 = 0 then (if a0 = true then ((slices_Clone_int_int.f l1).bind fun tC3 => ((slices_Clone_int_int.f l2).bind fun tC1 => (some (decide ((l1.length : Int) > 0), tC3, tC1)))) else ((slices_Clone_int_int.f l1).bind fun tC4 => ((slices_Clone_int_int.f l2).bind fun tC2 => (some (false, tC4, tC2))))) else ((impl_natDiv.f l1 tA4).bind fun btA3 => ((impl_natDiv.f l2 tA4).bind fun btA5 => (if a0 = true then ((slices_Clone_int_int.f btA3.1).bind fun tB1 => ((slices_Clone_int_int.f btA5.1).bind fun tB2 => (some (decide ((btA3.1.length : Int) > 0), tB1, tB2)))) else ((slices_Clone_int_int.f btA3.1).bind fun tB6 => ((slices_Clone_int_int.f btA5.1).bind fun tB3 => (some (false, tB6, tB3))))))))) = some (r1, r2, r3) := H
 have A5 := Aside0.mk A50
 clear A50
 replace H := Option.bind_eq_some_iff.mp H
 obtain ⟨tC0, A60, H⟩ := H
 replace H : (if tC0 = 0 then (if a0 = true then ((slices_Clone_int_int.f l1).bind fun tC3 => ((slices_Clone_int_int.f l2).bind fun tC1 => (some (decide ((l1.length : Int) > 0), tC3, tC1)))) else ((slices_Clone_int_int.f l1).bind fun tC4 => ((slices_Clone_int_int.f l2).bind fun tC2 => (some (false, tC4, tC2))))) else ((impl_natDiv.f l1 tA4).bind fun btA3 => ((impl_natDiv.f l2 tA4).bind fun btA5 => (if a0 = true then ((slices_Clone_int_int.f btA3.1).bind fun tB1 => ((slices_Clone_int_int.f btA5.1).bind fun tB2 => (some (decide ((btA3.1.length : Int) > 0), tB1, tB2)))) else ((slices_Clone_int_int.f btA3.1).bind fun tB6 => ((slices_Clone_int_int.f btA5.1).bind fun tB3 => (some (false, tB6, tB3)))))))) = some (r1, r2, r3) := H
 have A6 := Aside0.mk A60
 clear A60
 by_cases c7 : tC0 = 0
 ·
  rw [if_pos c7] at H
  have c7b0 : (tC0 == 0) = true := beq_iff_eq.mpr c7
  have c7b1 : (tC0 != 0) = false := bne_eq_false_iff_eq.mpr c7
  clear c7
  by_cases c8 : a0 = true
  ·
   subst c8
   have H1 : ((slices_Clone_int_int.f l1).bind fun tC3 => ((slices_Clone_int_int.f l2).bind fun tC1 => (some (decide ((l1.length : Int) > 0), tC3, tC1)))) = some (r1, r2, r3) := by rw [if_pos rfl] at H; exact H
   clear H
   have H := H1
   clear H1
   replace H := Option.bind_eq_some_iff.mp H
   obtain ⟨tC3, A90, H⟩ := H
   replace H : ((slices_Clone_int_int.f l2).bind fun tC1 => (some (decide ((l1.length : Int) > 0), tC3, tC1))) = some (r1, r2, r3) := H
   have A9 := Aside0.mk A90
   clear A90
   replace H := Option.bind_eq_some_iff.mp H
   obtain ⟨tC1, AE5, H⟩ := H
   replace H : (some (decide ((l1.length : Int) > 0), tC3, tC1)) = some (r1, r2, r3) := H
   have A10 := Aside0.mk AE5
   clear AE5
   simp only [Option.some.injEq, Prod.mk.injEq] at H
   obtain ⟨rfl, rfl, rfl⟩ := H
   go_enter Try.func94, Try.ntmps94
   go_wp2_with (first | ((with_reducible refine gate_dst (N := 6) rfl ?_); (try (refine gate_guard (by rfl) ?_; dsimp only)); refine bx_ (N := 6) (cs := #[.bool false, .slice none 0 0, .slice none 0 0]) (t := 24) ?_; intro gbA0 hg w11 hbox hb; have BKA0 := Aside0.mk (hbox); have GWA0 := geh hg HB; have GEA0 := geh hg HB; replace HB := bst HB hb; clear hb hbox hg) | ((with_reducible refine gate_callee (f := 61) rfl ?_); refine gL_ (some 10) Try.func61 #[.slice A1 l1.length c1, .slice A2 l2.length c2] ?_; (with_reducible refine (impl_natGcd.calls k (fun k_ => k_ < w.heap.size) _ _ l1 (fun k_ => k_ < w.heap.size) _ _ l2 tA4 _ ?side1 ?side2 A4.out).mono ?_); (case side1 => exact Kd.V_mk HC1.out (Kd.F_below (Kd.C_F (Kd.heap_int .i64) HR1.out) (blw HB))); (case side2 => exact Kd.V_mk HC2.out (Kd.F_below (Kd.C_F (Kd.heap_int .i64) HR2.out) (blw HB))); rintro e w12 ⟨vD0, rfl, ho0, hb⟩; refine ⟨_, rfl, ?_⟩; have HOA1 := Aside0.mk (Kd.V_lower (Kd.V_mono (ok' := fun k_ => k_ ≠ gbA0) ho0 (fun k_ hk_ => Or.elim hk_ (fun hs_ => Or.elim hs_ (fun hs_ => fun e_ => Nat.not_le.2 hs_ (by rw [e_]; exact GWA0.out)) (fun hs_ => fun e_ => Nat.not_le.2 hs_ (by rw [e_]; exact GWA0.out))) (fun hn_ => (Kd.freshB (g := gbA0) (o := .cells #[.bool false, .slice none 0 0, .slice none 0 0] 24 (0, 0)) (crb BKA0) k_ hn_)))) (bsz HB)); replace BKA0 := bkb BKA0 hb; replace HB := bst HB hb; (try clear hb); (try clear hb2); (try clear hk); (try clear hi); (try clear ho0)) | ((with_reducible refine gate_callee (f := 62) rfl ?_); refine gL_ (some 12) Try.func62 #[] ?_; (with_reducible refine (impl_one.calls  tB8 _ A5.out).mono ?_); rintro e w13 ⟨vE0, rfl, ho0, hb⟩; refine ⟨_, rfl, ?_⟩; replace HOA1 := eldV HOA1 (Kd.R_base ho0) hb; have HOA2 := lwR ho0 HB; replace BKA0 := bkb BKA0 hb; replace HB := bst HB hb; (try clear hb); (try clear hb2); (try clear hk); (try clear hi); (try clear ho0); obtain ⟨Ao14, co14, eo14⟩ := Kd.V_slice HOA1.out; subst eo14; obtain ⟨Ao15, co15, eo15⟩ := Kd.R_slice HOA2.out; subst eo15) | ((with_reducible refine gate_callee (f := 60) rfl ?_); refine gL_ (some 13) Try.func60 #[.slice Ao14 tA4.length co14, .slice Ao15 tB8.length co15] ?_; (with_reducible refine (impl_natCmp.calls _ _ tA4 _ _ tB8 tC0 _ ?side1 ?side2 ?side3 ?side4 A6.out).mono ?_); (case side1 => exact crC (Kd.V_reads' HOA1.out).2.2); (case side2 => exact (Kd.V_reads' HOA1.out).2.1); (case side3 => exact crC (Kd.R_reads' HOA2.out).2.2); (case side4 => exact (Kd.R_reads' HOA2.out).2.1); rintro e w16 ⟨rfl, hb⟩; refine ⟨_, rfl, ?_⟩; replace HOA1 := rblV HOA1 hb; replace HOA2 := rblR HOA2 hb; replace BKA0 := bkb BKA0 hb; replace HB := bst HB hb; (try clear hb); (try clear hb2); (try clear hk); (try clear hi)) | ((with_reducible refine gate_callee (f := 102) rfl ?_); refine gL_ (some 34) Try.func102 #[.slice A1 l1.length c1] ?_; (with_reducible refine (slices_Clone_int_int.calls _ _ l1 tC3 _ ?side1 ?side2 A9.out).mono ?_); (case side1 => exact crC (Kd.C_below HR1.out HB.out)); (case side2 => exact HC1.out); rintro e w17 ⟨vG8, rfl, ho0, hb⟩; refine ⟨_, rfl, ?_⟩; replace HOA1 := eldV HOA1 (Kd.R_base ho0) hb; have HOD2 := lwR (nwR ho0 HOA2) HB; replace HOA2 := eldR HOA2 (Kd.R_base ho0) hb; replace BKA0 := bkb BKA0 hb; replace HB := bst HB hb; (try clear hb); (try clear hb2); (try clear hk); (try clear hi); (try clear ho0)) | ((with_reducible refine gate_callee (f := 102) rfl ?_); refine gL_ (some 36) Try.func102 #[.slice A2 l2.length c2] ?_; (with_reducible refine (slices_Clone_int_int.calls _ _ l2 tC1 _ ?side1 ?side2 A10.out).mono ?_); (case side1 => exact crC (Kd.C_below HR2.out HB.out)); (case side2 => exact HC2.out); rintro e w18 ⟨vE1, rfl, ho0, hb⟩; refine ⟨_, rfl, ?_⟩; replace HOA1 := eldV HOA1 (Kd.R_base ho0) hb; have HOE6 := lwR (nwR (nwR ho0 HOA2) HOD2) HB; replace HOA2 := eldR HOA2 (Kd.R_base ho0) hb; replace HOD2 := eldR HOD2 (Kd.R_base ho0) hb; replace BKA0 := bkb BKA0 hb; replace HB := bst HB hb; (try clear hb); (try clear hb2); (try clear hk); (try clear hi); (try clear ho0); obtain ⟨Ao19, co19, eo19⟩ := Kd.R_slice HOE6.out; subst eo19; obtain ⟨Ao20, co20, eo20⟩ := Kd.R_slice HOD2.out; subst eo20; obtain ⟨hcz21_0, hcz21_1, hcz21_2, hfz21_0, hfz21_1, hfz21_2⟩ := bc3 BKA0))
   refine bodyPost_ret (results_cell_row rfl _ _ gbA0 24 #[.bool (decide (0 < l1.length)), .slice Ao20 tC3.length co20, .slice Ao19 tC1.length co19] (0, 0) _ rfl (bp3 BKA0 _ _ _) Try.underlying24 rfl (by kernel_rfl)) rfl ?_
   exact ⟨_, _, by first | rfl | (simp only [lowest_gt]; rfl) | (simp [errW_none, errW_some] <;> rfl) | (simp [*, errW_none, errW_some] <;> rfl), (crN HOD2 BKA0 fun _ hk => hk.1.2), (crN HOE6 BKA0 fun _ hk => hk.1.2), blw HB⟩
  ·
   replace c8 := Bool.eq_false_iff.mpr c8
   subst c8
   have H1 : ((slices_Clone_int_int.f l1).bind fun tC4 => ((slices_Clone_int_int.f l2).bind fun tC2 => (some (false, tC4, tC2)))) = some (r1, r2, r3) := by rw [if_neg (show ¬ (false = true) by decide)] at H; exact H
   clear H
   have H := H1
   clear H1
   replace H := Option.bind_eq_some_iff.mp H
   obtain ⟨tC4, AE7, H⟩ := H
   replace H : ((slices_Clone_int_int.f l2).bind fun tC2 => (some (false, tC4, tC2))) = some (r1, r2, r3) := H
   have A22 := Aside0.mk AE7
   clear AE7
   replace H := Option.bind_eq_some_iff.mp H
   obtain ⟨tC2, AE8, H⟩ := H
   replace H : (some (false, tC4, tC2)) = some (r1, r2, r3) := H
   have A23 := Aside0.mk AE8
   clear AE8
   simp only [Option.some.injEq, Prod.mk.injEq] at H
   obtain ⟨rfl, rfl, rfl⟩ := H
   go_enter Try.func94, Try.ntmps94
   go_wp2_with (first | ((with_reducible refine gate_dst (N := 6) rfl ?_); (try (refine gate_guard (by rfl) ?_; dsimp only)); refine bx_ (N := 6) (cs := #[.bool false, .slice none 0 0, .slice none 0 0]) (t := 24) ?_; intro gbA0 hg w24 hbox hb; have BKA0 := Aside0.mk (hbox); have GWA0 := geh hg HB; have GEA0 := geh hg HB; replace HB := bst HB hb; clear hb hbox hg) | ((with_reducible refine gate_callee (f := 61) rfl ?_); refine gL_ (some 10) Try.func61 #[.slice A1 l1.length c1, .slice A2 l2.length c2] ?_; (with_reducible refine (impl_natGcd.calls k (fun k_ => k_ < w.heap.size) _ _ l1 (fun k_ => k_ < w.heap.size) _ _ l2 tA4 _ ?side1 ?side2 A4.out).mono ?_); (case side1 => exact Kd.V_mk HC1.out (Kd.F_below (Kd.C_F (Kd.heap_int .i64) HR1.out) (blw HB))); (case side2 => exact Kd.V_mk HC2.out (Kd.F_below (Kd.C_F (Kd.heap_int .i64) HR2.out) (blw HB))); rintro e w25 ⟨vD0, rfl, ho0, hb⟩; refine ⟨_, rfl, ?_⟩; have HOA1 := Aside0.mk (Kd.V_lower (Kd.V_mono (ok' := fun k_ => k_ ≠ gbA0) ho0 (fun k_ hk_ => Or.elim hk_ (fun hs_ => Or.elim hs_ (fun hs_ => fun e_ => Nat.not_le.2 hs_ (by rw [e_]; exact GWA0.out)) (fun hs_ => fun e_ => Nat.not_le.2 hs_ (by rw [e_]; exact GWA0.out))) (fun hn_ => (Kd.freshB (g := gbA0) (o := .cells #[.bool false, .slice none 0 0, .slice none 0 0] 24 (0, 0)) (crb BKA0) k_ hn_)))) (bsz HB)); replace BKA0 := bkb BKA0 hb; replace HB := bst HB hb; (try clear hb); (try clear hb2); (try clear hk); (try clear hi); (try clear ho0)) | ((with_reducible refine gate_callee (f := 62) rfl ?_); refine gL_ (some 12) Try.func62 #[] ?_; (with_reducible refine (impl_one.calls  tB8 _ A5.out).mono ?_); rintro e w26 ⟨vE0, rfl, ho0, hb⟩; refine ⟨_, rfl, ?_⟩; replace HOA1 := eldV HOA1 (Kd.R_base ho0) hb; have HOA2 := lwR ho0 HB; replace BKA0 := bkb BKA0 hb; replace HB := bst HB hb; (try clear hb); (try clear hb2); (try clear hk); (try clear hi); (try clear ho0); obtain ⟨Ao27, co27, eo27⟩ := Kd.V_slice HOA1.out; subst eo27; obtain ⟨Ao28, co28, eo28⟩ := Kd.R_slice HOA2.out; subst eo28) | ((with_reducible refine gate_callee (f := 60) rfl ?_); refine gL_ (some 13) Try.func60 #[.slice Ao27 tA4.length co27, .slice Ao28 tB8.length co28] ?_; (with_reducible refine (impl_natCmp.calls _ _ tA4 _ _ tB8 tC0 _ ?side1 ?side2 ?side3 ?side4 A6.out).mono ?_); (case side1 => exact crC (Kd.V_reads' HOA1.out).2.2); (case side2 => exact (Kd.V_reads' HOA1.out).2.1); (case side3 => exact crC (Kd.R_reads' HOA2.out).2.2); (case side4 => exact (Kd.R_reads' HOA2.out).2.1); rintro e w29 ⟨rfl, hb⟩; refine ⟨_, rfl, ?_⟩; replace HOA1 := rblV HOA1 hb; replace HOA2 := rblR HOA2 hb; replace BKA0 := bkb BKA0 hb; replace HB := bst HB hb; (try clear hb); (try clear hb2); (try clear hk); (try clear hi)) | ((with_reducible refine gate_callee (f := 102) rfl ?_); refine gL_ (some 34) Try.func102 #[.slice A1 l1.length c1] ?_; (with_reducible refine (slices_Clone_int_int.calls _ _ l1 tC4 _ ?side1 ?side2 A22.out).mono ?_); (case side1 => exact crC (Kd.C_below HR1.out HB.out)); (case side2 => exact HC1.out); rintro e w30 ⟨vG9, rfl, ho0, hb⟩; refine ⟨_, rfl, ?_⟩; replace HOA1 := eldV HOA1 (Kd.R_base ho0) hb; have HOD3 := lwR (nwR ho0 HOA2) HB; replace HOA2 := eldR HOA2 (Kd.R_base ho0) hb; replace BKA0 := bkb BKA0 hb; replace HB := bst HB hb; (try clear hb); (try clear hb2); (try clear hk); (try clear hi); (try clear ho0)) | ((with_reducible refine gate_callee (f := 102) rfl ?_); refine gL_ (some 36) Try.func102 #[.slice A2 l2.length c2] ?_; (with_reducible refine (slices_Clone_int_int.calls _ _ l2 tC2 _ ?side1 ?side2 A23.out).mono ?_); (case side1 => exact crC (Kd.C_below HR2.out HB.out)); (case side2 => exact HC2.out); rintro e w31 ⟨vH0, rfl, ho0, hb⟩; refine ⟨_, rfl, ?_⟩; replace HOA1 := eldV HOA1 (Kd.R_base ho0) hb; have HOE9 := lwR (nwR (nwR ho0 HOA2) HOD3) HB; replace HOA2 := eldR HOA2 (Kd.R_base ho0) hb; replace HOD3 := eldR HOD3 (Kd.R_base ho0) hb; replace BKA0 := bkb BKA0 hb; replace HB := bst HB hb; (try clear hb); (try clear hb2); (try clear hk); (try clear hi); (try clear ho0); obtain ⟨Ao32, co32, eo32⟩ := Kd.R_slice HOE9.out; subst eo32; obtain ⟨Ao33, co33, eo33⟩ := Kd.R_slice HOD3.out; subst eo33; obtain ⟨hcz34_0, hcz34_1, hcz34_2, hfz34_0, hfz34_1, hfz34_2⟩ := bc3 BKA0))
   refine bodyPost_ret (results_cell_row rfl _ _ gbA0 24 #[.bool false, .slice Ao33 tC4.length co33, .slice Ao32 tC2.length co32] (0, 0) _ rfl (bp3 BKA0 _ _ _) Try.underlying24 rfl (by kernel_rfl)) rfl ?_
   exact ⟨_, _, by first | rfl | (simp only [lowest_gt]; rfl) | (simp [errW_none, errW_some] <;> rfl) | (simp [*, errW_none, errW_some] <;> rfl), (crN HOD3 BKA0 fun _ hk => hk.1.2), (crN HOE9 BKA0 fun _ hk => hk.1.2), blw HB⟩
 ·
  rw [if_neg c7] at H
  have c7b0 : (tC0 == 0) = false := beq_eq_false_iff_ne.mpr c7
  have c7b1 : (tC0 != 0) = true := bne_iff_ne.mpr c7
  replace H := Option.bind_eq_some_iff.mp H
  obtain ⟨⟨tA3, tF0⟩, AD0, H⟩ := H
  replace H : ((impl_natDiv.f l2 tA4).bind fun btA5 => (if a0 = true then ((slices_Clone_int_int.f tA3).bind fun tB1 => ((slices_Clone_int_int.f btA5.1).bind fun tB2 => (some (decide ((tA3.length : Int) > 0), tB1, tB2)))) else ((slices_Clone_int_int.f tA3).bind fun tB6 => ((slices_Clone_int_int.f btA5.1).bind fun tB3 => (some (false, tB6, tB3)))))) = some (r1, r2, r3) := H
  have A35 := Aside0.mk AD0
  clear AD0
  replace H := Option.bind_eq_some_iff.mp H
  obtain ⟨⟨tA5, tF1⟩, AE1, H⟩ := H
  replace H : (if a0 = true then ((slices_Clone_int_int.f tA3).bind fun tB1 => ((slices_Clone_int_int.f tA5).bind fun tB2 => (some (decide ((tA3.length : Int) > 0), tB1, tB2)))) else ((slices_Clone_int_int.f tA3).bind fun tB6 => ((slices_Clone_int_int.f tA5).bind fun tB3 => (some (false, tB6, tB3))))) = some (r1, r2, r3) := H
  have A36 := Aside0.mk AE1
  clear AE1
  by_cases c37 : a0 = true
  ·
   subst c37
   have H1 : ((slices_Clone_int_int.f tA3).bind fun tB1 => ((slices_Clone_int_int.f tA5).bind fun tB2 => (some (decide ((tA3.length : Int) > 0), tB1, tB2)))) = some (r1, r2, r3) := by rw [if_pos rfl] at H; exact H
   clear H
   have H := H1
   clear H1
   replace H := Option.bind_eq_some_iff.mp H
   obtain ⟨tB1, AB1, H⟩ := H
   replace H : ((slices_Clone_int_int.f tA5).bind fun tB2 => (some (decide ((tA3.length : Int) > 0), tB1, tB2))) = some (r1, r2, r3) := H
   have A38 := Aside0.mk AB1
   clear AB1
   replace H := Option.bind_eq_some_iff.mp H
   obtain ⟨tB2, AE2, H⟩ := H
   replace H : (some (decide ((tA3.length : Int) > 0), tB1, tB2)) = some (r1, r2, r3) := H
   have A39 := Aside0.mk AE2
   clear AE2
   simp only [Option.some.injEq, Prod.mk.injEq] at H
   obtain ⟨rfl, rfl, rfl⟩ := H
   go_enter Try.func94, Try.ntmps94
   go_wp2_with (first | ((with_reducible refine gate_dst (N := 6) rfl ?_); (try (refine gate_guard (by rfl) ?_; dsimp only)); refine bx_ (N := 6) (cs := #[.bool false, .slice none 0 0, .slice none 0 0]) (t := 24) ?_; intro gbA0 hg w40 hbox hb; have BKA0 := Aside0.mk (hbox); have GWA0 := geh hg HB; have GEA0 := geh hg HB; replace HB := bst HB hb; clear hb hbox hg) | ((with_reducible refine gate_callee (f := 61) rfl ?_); refine gL_ (some 10) Try.func61 #[.slice A1 l1.length c1, .slice A2 l2.length c2] ?_; (with_reducible refine (impl_natGcd.calls k (fun k_ => k_ < w.heap.size) _ _ l1 (fun k_ => k_ < w.heap.size) _ _ l2 tA4 _ ?side1 ?side2 A4.out).mono ?_); (case side1 => exact Kd.V_mk HC1.out (Kd.F_below (Kd.C_F (Kd.heap_int .i64) HR1.out) (blw HB))); (case side2 => exact Kd.V_mk HC2.out (Kd.F_below (Kd.C_F (Kd.heap_int .i64) HR2.out) (blw HB))); rintro e w41 ⟨vD0, rfl, ho0, hb⟩; refine ⟨_, rfl, ?_⟩; have HOA1 := Aside0.mk (Kd.V_lower (Kd.V_mono (ok' := fun k_ => k_ ≠ gbA0) ho0 (fun k_ hk_ => Or.elim hk_ (fun hs_ => Or.elim hs_ (fun hs_ => fun e_ => Nat.not_le.2 hs_ (by rw [e_]; exact GWA0.out)) (fun hs_ => fun e_ => Nat.not_le.2 hs_ (by rw [e_]; exact GWA0.out))) (fun hn_ => (Kd.freshB (g := gbA0) (o := .cells #[.bool false, .slice none 0 0, .slice none 0 0] 24 (0, 0)) (crb BKA0) k_ hn_)))) (bsz HB)); replace BKA0 := bkb BKA0 hb; replace HB := bst HB hb; (try clear hb); (try clear hb2); (try clear hk); (try clear hi); (try clear ho0)) | ((with_reducible refine gate_callee (f := 62) rfl ?_); refine gL_ (some 12) Try.func62 #[] ?_; (with_reducible refine (impl_one.calls  tB8 _ A5.out).mono ?_); rintro e w42 ⟨vE0, rfl, ho0, hb⟩; refine ⟨_, rfl, ?_⟩; replace HOA1 := eldV HOA1 (Kd.R_base ho0) hb; have HOA2 := lwR ho0 HB; replace BKA0 := bkb BKA0 hb; replace HB := bst HB hb; (try clear hb); (try clear hb2); (try clear hk); (try clear hi); (try clear ho0); obtain ⟨Ao43, co43, eo43⟩ := Kd.V_slice HOA1.out; subst eo43; obtain ⟨Ao44, co44, eo44⟩ := Kd.R_slice HOA2.out; subst eo44) | ((with_reducible refine gate_callee (f := 60) rfl ?_); refine gL_ (some 13) Try.func60 #[.slice Ao43 tA4.length co43, .slice Ao44 tB8.length co44] ?_; (with_reducible refine (impl_natCmp.calls _ _ tA4 _ _ tB8 tC0 _ ?side1 ?side2 ?side3 ?side4 A6.out).mono ?_); (case side1 => exact crC (Kd.V_reads' HOA1.out).2.2); (case side2 => exact (Kd.V_reads' HOA1.out).2.1); (case side3 => exact crC (Kd.R_reads' HOA2.out).2.2); (case side4 => exact (Kd.R_reads' HOA2.out).2.1); rintro e w45 ⟨rfl, hb⟩; refine ⟨_, rfl, ?_⟩; replace HOA1 := rblV HOA1 hb; replace HOA2 := rblR HOA2 hb; replace BKA0 := bkb BKA0 hb; replace HB := bst HB hb; (try clear hb); (try clear hb2); (try clear hk); (try clear hi)) | ((with_reducible refine gate_callee (f := 75) rfl ?_); refine gL_ (some 18) Try.func75 #[.slice A1 l1.length c1, .slice Ao43 tA4.length co43] ?_; (with_reducible refine (impl_natDiv.calls _ _ l1 _ _ tA4 tA3 tF0 _ ?side1 ?side2 ?side3 ?side4 A35.out).mono ?_); (case side1 => exact crC (Kd.C_below HR1.out HB.out)); (case side2 => exact HC1.out); (case side3 => exact crC (Kd.V_reads' HOA1.out).2.2); (case side4 => exact (Kd.V_reads' HOA1.out).2.1); rintro e w46 ⟨vG4, vG5, rfl, ho0, ho1, hb⟩; refine ⟨_, rfl, ?_⟩; replace HOA1 := tldV HOA1 hb (Kd.R_base ho0) (Kd.R_base ho1); have HOA8 := lwR (nwR ho0 HOA2) HB; have HOB4 := lwR (nwR ho1 HOA2) HB; replace HOA2 := tldR HOA2 hb (Kd.R_base ho0) (Kd.R_base ho1); replace BKA0 := bkb BKA0 hb; replace HB := bst HB hb; (try clear hb); (try clear hb2); (try clear hk); (try clear hi); (try clear ho0); (try clear ho1)) | ((with_reducible refine gate_callee (f := 75) rfl ?_); refine gL_ (some 24) Try.func75 #[.slice A2 l2.length c2, .slice Ao43 tA4.length co43] ?_; (with_reducible refine (impl_natDiv.calls _ _ l2 _ _ tA4 tA5 tF1 _ ?side1 ?side2 ?side3 ?side4 A36.out).mono ?_); (case side1 => exact crC (Kd.C_below HR2.out HB.out)); (case side2 => exact HC2.out); (case side3 => exact crC (Kd.V_reads' HOA1.out).2.2); (case side4 => exact (Kd.V_reads' HOA1.out).2.1); rintro e w47 ⟨vG6, vG7, rfl, ho0, ho1, hb⟩; refine ⟨_, rfl, ?_⟩; replace HOA1 := tldV HOA1 hb (Kd.R_base ho0) (Kd.R_base ho1); have HOB9 := lwR (nwR (nwR (nwR ho0 HOA2) HOA8) HOB4) HB; have HOC6 := lwR (nwR (nwR (nwR ho1 HOA2) HOA8) HOB4) HB; replace HOA2 := tldR HOA2 hb (Kd.R_base ho0) (Kd.R_base ho1); replace HOA8 := tldR HOA8 hb (Kd.R_base ho0) (Kd.R_base ho1); replace HOB4 := tldR HOB4 hb (Kd.R_base ho0) (Kd.R_base ho1); replace BKA0 := bkb BKA0 hb; replace HB := bst HB hb; (try clear hb); (try clear hb2); (try clear hk); (try clear hi); (try clear ho0); (try clear ho1); obtain ⟨Ao48, co48, eo48⟩ := Kd.R_slice HOA8.out; subst eo48) | ((with_reducible refine gate_callee (f := 102) rfl ?_); refine gL_ (some 34) Try.func102 #[.slice Ao48 tA3.length co48] ?_; (with_reducible refine (slices_Clone_int_int.calls _ _ tA3 tB1 _ ?side1 ?side2 A38.out).mono ?_); (case side1 => exact crC (Kd.R_reads' HOA8.out).2.2); (case side2 => exact (Kd.R_reads' HOA8.out).2.1); rintro e w49 ⟨vH1, rfl, ho0, hb⟩; refine ⟨_, rfl, ?_⟩; replace HOA1 := eldV HOA1 (Kd.R_base ho0) hb; have HOD4 := lwR (nwR (nwR (nwR (nwR (nwR ho0 HOA2) HOA8) HOB4) HOB9) HOC6) HB; replace HOA2 := eldR HOA2 (Kd.R_base ho0) hb; replace HOA8 := eldR HOA8 (Kd.R_base ho0) hb; replace HOB4 := eldR HOB4 (Kd.R_base ho0) hb; replace HOB9 := eldR HOB9 (Kd.R_base ho0) hb; replace HOC6 := eldR HOC6 (Kd.R_base ho0) hb; replace BKA0 := bkb BKA0 hb; replace HB := bst HB hb; (try clear hb); (try clear hb2); (try clear hk); (try clear hi); (try clear ho0); obtain ⟨Ao50, co50, eo50⟩ := Kd.R_slice HOB9.out; subst eo50) | ((with_reducible refine gate_callee (f := 102) rfl ?_); refine gL_ (some 36) Try.func102 #[.slice Ao50 tA5.length co50] ?_; (with_reducible refine (slices_Clone_int_int.calls _ _ tA5 tB2 _ ?side1 ?side2 A39.out).mono ?_); (case side1 => exact crC (Kd.R_reads' HOB9.out).2.2); (case side2 => exact (Kd.R_reads' HOB9.out).2.1); rintro e w51 ⟨vH2, rfl, ho0, hb⟩; refine ⟨_, rfl, ?_⟩; replace HOA1 := eldV HOA1 (Kd.R_base ho0) hb; have HOF2 := lwR (nwR (nwR (nwR (nwR (nwR (nwR ho0 HOA2) HOA8) HOB4) HOB9) HOC6) HOD4) HB; replace HOA2 := eldR HOA2 (Kd.R_base ho0) hb; replace HOA8 := eldR HOA8 (Kd.R_base ho0) hb; replace HOB4 := eldR HOB4 (Kd.R_base ho0) hb; replace HOB9 := eldR HOB9 (Kd.R_base ho0) hb; replace HOC6 := eldR HOC6 (Kd.R_base ho0) hb; replace HOD4 := eldR HOD4 (Kd.R_base ho0) hb; replace BKA0 := bkb BKA0 hb; replace HB := bst HB hb; (try clear hb); (try clear hb2); (try clear hk); (try clear hi); (try clear ho0); obtain ⟨Ao52, co52, eo52⟩ := Kd.R_slice HOF2.out; subst eo52; obtain ⟨Ao53, co53, eo53⟩ := Kd.R_slice HOD4.out; subst eo53; obtain ⟨hcz54_0, hcz54_1, hcz54_2, hfz54_0, hfz54_1, hfz54_2⟩ := bc3 BKA0))
   refine bodyPost_ret (results_cell_row rfl _ _ gbA0 24 #[.bool (decide (0 < tA3.length)), .slice Ao53 tB1.length co53, .slice Ao52 tB2.length co52] (0, 0) _ rfl (bp3 BKA0 _ _ _) Try.underlying24 rfl (by kernel_rfl)) rfl ?_
   exact ⟨_, _, by first | rfl | (simp only [lowest_gt]; rfl) | (simp [errW_none, errW_some] <;> rfl) | (simp [*, errW_none, errW_some] <;> rfl), (crN HOD4 BKA0 fun _ hk => hk.1.2), (crN HOF2 BKA0 fun _ hk => hk.1.2), blw HB⟩
  ·
   replace c37 := Bool.eq_false_iff.mpr c37
   subst c37
   have H1 : ((slices_Clone_int_int.f tA3).bind fun tB6 => ((slices_Clone_int_int.f tA5).bind fun tB3 => (some (false, tB6, tB3)))) = some (r1, r2, r3) := by rw [if_neg (show ¬ (false = true) by decide)] at H; exact H
   clear H
   have H := H1
   clear H1
   replace H := Option.bind_eq_some_iff.mp H
   obtain ⟨tB6, AC7, H⟩ := H
   replace H : ((slices_Clone_int_int.f tA5).bind fun tB3 => (some (false, tB6, tB3))) = some (r1, r2, r3) := H
   have A55 := Aside0.mk AC7
   clear AC7
   replace H := Option.bind_eq_some_iff.mp H
   obtain ⟨tB3, AF3, H⟩ := H
   replace H : (some (false, tB6, tB3)) = some (r1, r2, r3) := H
   have A56 := Aside0.mk AF3
   clear AF3
   simp only [Option.some.injEq, Prod.mk.injEq] at H
   obtain ⟨rfl, rfl, rfl⟩ := H
   go_enter Try.func94, Try.ntmps94
   go_wp2_with (first | ((with_reducible refine gate_dst (N := 6) rfl ?_); (try (refine gate_guard (by rfl) ?_; dsimp only)); refine bx_ (N := 6) (cs := #[.bool false, .slice none 0 0, .slice none 0 0]) (t := 24) ?_; intro gbA0 hg w57 hbox hb; have BKA0 := Aside0.mk (hbox); have GWA0 := geh hg HB; have GEA0 := geh hg HB; replace HB := bst HB hb; clear hb hbox hg) | ((with_reducible refine gate_callee (f := 61) rfl ?_); refine gL_ (some 10) Try.func61 #[.slice A1 l1.length c1, .slice A2 l2.length c2] ?_; (with_reducible refine (impl_natGcd.calls k (fun k_ => k_ < w.heap.size) _ _ l1 (fun k_ => k_ < w.heap.size) _ _ l2 tA4 _ ?side1 ?side2 A4.out).mono ?_); (case side1 => exact Kd.V_mk HC1.out (Kd.F_below (Kd.C_F (Kd.heap_int .i64) HR1.out) (blw HB))); (case side2 => exact Kd.V_mk HC2.out (Kd.F_below (Kd.C_F (Kd.heap_int .i64) HR2.out) (blw HB))); rintro e w58 ⟨vD0, rfl, ho0, hb⟩; refine ⟨_, rfl, ?_⟩; have HOA1 := Aside0.mk (Kd.V_lower (Kd.V_mono (ok' := fun k_ => k_ ≠ gbA0) ho0 (fun k_ hk_ => Or.elim hk_ (fun hs_ => Or.elim hs_ (fun hs_ => fun e_ => Nat.not_le.2 hs_ (by rw [e_]; exact GWA0.out)) (fun hs_ => fun e_ => Nat.not_le.2 hs_ (by rw [e_]; exact GWA0.out))) (fun hn_ => (Kd.freshB (g := gbA0) (o := .cells #[.bool false, .slice none 0 0, .slice none 0 0] 24 (0, 0)) (crb BKA0) k_ hn_)))) (bsz HB)); replace BKA0 := bkb BKA0 hb; replace HB := bst HB hb; (try clear hb); (try clear hb2); (try clear hk); (try clear hi); (try clear ho0)) | ((with_reducible refine gate_callee (f := 62) rfl ?_); refine gL_ (some 12) Try.func62 #[] ?_; (with_reducible refine (impl_one.calls  tB8 _ A5.out).mono ?_); rintro e w59 ⟨vE0, rfl, ho0, hb⟩; refine ⟨_, rfl, ?_⟩; replace HOA1 := eldV HOA1 (Kd.R_base ho0) hb; have HOA2 := lwR ho0 HB; replace BKA0 := bkb BKA0 hb; replace HB := bst HB hb; (try clear hb); (try clear hb2); (try clear hk); (try clear hi); (try clear ho0); obtain ⟨Ao60, co60, eo60⟩ := Kd.V_slice HOA1.out; subst eo60; obtain ⟨Ao61, co61, eo61⟩ := Kd.R_slice HOA2.out; subst eo61) | ((with_reducible refine gate_callee (f := 60) rfl ?_); refine gL_ (some 13) Try.func60 #[.slice Ao60 tA4.length co60, .slice Ao61 tB8.length co61] ?_; (with_reducible refine (impl_natCmp.calls _ _ tA4 _ _ tB8 tC0 _ ?side1 ?side2 ?side3 ?side4 A6.out).mono ?_); (case side1 => exact crC (Kd.V_reads' HOA1.out).2.2); (case side2 => exact (Kd.V_reads' HOA1.out).2.1); (case side3 => exact crC (Kd.R_reads' HOA2.out).2.2); (case side4 => exact (Kd.R_reads' HOA2.out).2.1); rintro e w62 ⟨rfl, hb⟩; refine ⟨_, rfl, ?_⟩; replace HOA1 := rblV HOA1 hb; replace HOA2 := rblR HOA2 hb; replace BKA0 := bkb BKA0 hb; replace HB := bst HB hb; (try clear hb); (try clear hb2); (try clear hk); (try clear hi)) | ((with_reducible refine gate_callee (f := 75) rfl ?_); refine gL_ (some 18) Try.func75 #[.slice A1 l1.length c1, .slice Ao60 tA4.length co60] ?_; (with_reducible refine (impl_natDiv.calls _ _ l1 _ _ tA4 tA3 tF0 _ ?side1 ?side2 ?side3 ?side4 A35.out).mono ?_); (case side1 => exact crC (Kd.C_below HR1.out HB.out)); (case side2 => exact HC1.out); (case side3 => exact crC (Kd.V_reads' HOA1.out).2.2); (case side4 => exact (Kd.V_reads' HOA1.out).2.1); rintro e w63 ⟨vG4, vG5, rfl, ho0, ho1, hb⟩; refine ⟨_, rfl, ?_⟩; replace HOA1 := tldV HOA1 hb (Kd.R_base ho0) (Kd.R_base ho1); have HOA8 := lwR (nwR ho0 HOA2) HB; have HOB4 := lwR (nwR ho1 HOA2) HB; replace HOA2 := tldR HOA2 hb (Kd.R_base ho0) (Kd.R_base ho1); replace BKA0 := bkb BKA0 hb; replace HB := bst HB hb; (try clear hb); (try clear hb2); (try clear hk); (try clear hi); (try clear ho0); (try clear ho1)) | ((with_reducible refine gate_callee (f := 75) rfl ?_); refine gL_ (some 24) Try.func75 #[.slice A2 l2.length c2, .slice Ao60 tA4.length co60] ?_; (with_reducible refine (impl_natDiv.calls _ _ l2 _ _ tA4 tA5 tF1 _ ?side1 ?side2 ?side3 ?side4 A36.out).mono ?_); (case side1 => exact crC (Kd.C_below HR2.out HB.out)); (case side2 => exact HC2.out); (case side3 => exact crC (Kd.V_reads' HOA1.out).2.2); (case side4 => exact (Kd.V_reads' HOA1.out).2.1); rintro e w64 ⟨vG6, vG7, rfl, ho0, ho1, hb⟩; refine ⟨_, rfl, ?_⟩; replace HOA1 := tldV HOA1 hb (Kd.R_base ho0) (Kd.R_base ho1); have HOB9 := lwR (nwR (nwR (nwR ho0 HOA2) HOA8) HOB4) HB; have HOC6 := lwR (nwR (nwR (nwR ho1 HOA2) HOA8) HOB4) HB; replace HOA2 := tldR HOA2 hb (Kd.R_base ho0) (Kd.R_base ho1); replace HOA8 := tldR HOA8 hb (Kd.R_base ho0) (Kd.R_base ho1); replace HOB4 := tldR HOB4 hb (Kd.R_base ho0) (Kd.R_base ho1); replace BKA0 := bkb BKA0 hb; replace HB := bst HB hb; (try clear hb); (try clear hb2); (try clear hk); (try clear hi); (try clear ho0); (try clear ho1); obtain ⟨Ao65, co65, eo65⟩ := Kd.R_slice HOA8.out; subst eo65) | ((with_reducible refine gate_callee (f := 102) rfl ?_); refine gL_ (some 34) Try.func102 #[.slice Ao65 tA3.length co65] ?_; (with_reducible refine (slices_Clone_int_int.calls _ _ tA3 tB6 _ ?side1 ?side2 A55.out).mono ?_); (case side1 => exact crC (Kd.R_reads' HOA8.out).2.2); (case side2 => exact (Kd.R_reads' HOA8.out).2.1); rintro e w66 ⟨vH3, rfl, ho0, hb⟩; refine ⟨_, rfl, ?_⟩; replace HOA1 := eldV HOA1 (Kd.R_base ho0) hb; have HOD5 := lwR (nwR (nwR (nwR (nwR (nwR ho0 HOA2) HOA8) HOB4) HOB9) HOC6) HB; replace HOA2 := eldR HOA2 (Kd.R_base ho0) hb; replace HOA8 := eldR HOA8 (Kd.R_base ho0) hb; replace HOB4 := eldR HOB4 (Kd.R_base ho0) hb; replace HOB9 := eldR HOB9 (Kd.R_base ho0) hb; replace HOC6 := eldR HOC6 (Kd.R_base ho0) hb; replace BKA0 := bkb BKA0 hb; replace HB := bst HB hb; (try clear hb); (try clear hb2); (try clear hk); (try clear hi); (try clear ho0); obtain ⟨Ao67, co67, eo67⟩ := Kd.R_slice HOB9.out; subst eo67) | ((with_reducible refine gate_callee (f := 102) rfl ?_); refine gL_ (some 36) Try.func102 #[.slice Ao67 tA5.length co67] ?_; (with_reducible refine (slices_Clone_int_int.calls _ _ tA5 tB3 _ ?side1 ?side2 A56.out).mono ?_); (case side1 => exact crC (Kd.R_reads' HOB9.out).2.2); (case side2 => exact (Kd.R_reads' HOB9.out).2.1); rintro e w68 ⟨vE2, rfl, ho0, hb⟩; refine ⟨_, rfl, ?_⟩; replace HOA1 := eldV HOA1 (Kd.R_base ho0) hb; have HOF4 := lwR (nwR (nwR (nwR (nwR (nwR (nwR ho0 HOA2) HOA8) HOB4) HOB9) HOC6) HOD5) HB; replace HOA2 := eldR HOA2 (Kd.R_base ho0) hb; replace HOA8 := eldR HOA8 (Kd.R_base ho0) hb; replace HOB4 := eldR HOB4 (Kd.R_base ho0) hb; replace HOB9 := eldR HOB9 (Kd.R_base ho0) hb; replace HOC6 := eldR HOC6 (Kd.R_base ho0) hb; replace HOD5 := eldR HOD5 (Kd.R_base ho0) hb; replace BKA0 := bkb BKA0 hb; replace HB := bst HB hb; (try clear hb); (try clear hb2); (try clear hk); (try clear hi); (try clear ho0); obtain ⟨Ao69, co69, eo69⟩ := Kd.R_slice HOF4.out; subst eo69; obtain ⟨Ao70, co70, eo70⟩ := Kd.R_slice HOD5.out; subst eo70; obtain ⟨hcz71_0, hcz71_1, hcz71_2, hfz71_0, hfz71_1, hfz71_2⟩ := bc3 BKA0))
   refine bodyPost_ret (results_cell_row rfl _ _ gbA0 24 #[.bool false, .slice Ao70 tB6.length co70, .slice Ao69 tB3.length co69] (0, 0) _ rfl (bp3 BKA0 _ _ _) Try.underlying24 rfl (by kernel_rfl)) rfl ?_
   exact ⟨_, _, by first | rfl | (simp only [lowest_gt]; rfl) | (simp [errW_none, errW_some] <;> rfl) | (simp [*, errW_none, errW_some] <;> rfl), (crN HOD5 BKA0 fun _ hk => hk.1.2), (crN HOF4 BKA0 fun _ hk => hk.1.2), blw HB⟩

def spec_l02Int.f (k : Nat) (a0 : Int) : Option (Bool × List Int × List Int) := if a0 < 0 then ((spec_l01Small.f k (wrap64 (-a0))).bind fun tC9 => (some (true, tC9, (([1] : List Int))))) else ((spec_l01Small.f k a0).bind fun tC7 => (some (false, tC7, (([1] : List Int)))))
theorem spec_l02Int.mono : ∀ a0 k, LeO (spec_l02Int.f k a0) (spec_l02Int.f (k + 1) a0) := by
 intro a0 k
 unfold spec_l02Int.f
 repeat' first
   | (with_reducible exact spec_l01Small.mono _ _)
   | (with_reducible exact LeO.refl _)
   | (with_reducible exact LeO.none _)
   | (with_reducible refine LeO.ite ?_ ?_)
   | (with_reducible refine LeO.bind ?_ (fun _ => ?_))
   | exact spec_l01Small.mono _ _
   | exact LeO.none _
   | refine LeO.ite ?_ ?_
   | refine LeO.bind ?_ (fun _ => ?_)
set_option maxHeartbeats 8000000 in
set_option maxRecDepth 100000 in
theorem spec_l02Int.calls (k : Nat) (a0 : Int) (r1 : Bool) (r2 : List Int) (r3 : List Int) (w : World) (h : spec_l02Int.f k a0 = some (r1, r2, r3)) :
  Calls Try.prog 46 #[.int .i64 a0] w fun e w' => ∃ v1_ v2_ : Value, e = .returned (.agg #[.bool r1, v1_, v2_]) ∧ Kd.R (Kd.int .i64) 3 w' w.heap.size (fun k_ => nO k_ v2_) v1_ r2 ∧ Kd.R (Kd.int .i64) 3 w' w.heap.size (fun k_ => nO k_ v1_) v2_ r3 ∧ Below w.heap.size w w' := by
 have hu24 := Try.underlying24
 have HB := Aside0.mk (Below.refl w.heap.size w)
 have H : (if a0 < 0 then ((spec_l01Small.f k (wrap64 (-a0))).bind fun tC9 => (some (true, tC9, (([1] : List Int))))) else ((spec_l01Small.f k a0).bind fun tC7 => (some (false, tC7, (([1] : List Int)))))) = some (r1, r2, r3) := h
 clear h
 by_cases c2 : a0 < 0
 ·
  rw [if_pos c2] at H
  have c2b0 : decide (a0 < 0) = true := decide_eq_true c2
  clear c2
  replace H := Option.bind_eq_some_iff.mp H
  obtain ⟨tC9, A30, H⟩ := H
  replace H : (some (true, tC9, (([1] : List Int)))) = some (r1, r2, r3) := H
  have A3 := Aside0.mk A30
  clear A30
  obtain ⟨yD6, hy547⟩ : ∃ y_ : List Int, y_ = (([1] : List Int)) := ⟨_, rfl⟩
  replace H : (some (true, tC9, yD6)) = some (r1, r2, r3) := by first | (rw [hy547]; with_reducible exact H) | (have H2_ := (Option.bind_some _ _).symm.trans H; rw [hy547]; with_reducible exact H2_) | (have H2_ := (Option.bind_some _ _).symm.trans H; with_reducible exact H2_) | with_reducible exact H | (rw [hy547]; exact H) | exact H
  have NyD6 := Aside0.mk hy547
  clear hy547
  simp only [Option.some.injEq, Prod.mk.injEq] at H
  obtain ⟨rfl, rfl, rfl⟩ := H
  go_enter Try.func46, Try.ntmps46
  go_wp2_with (first | ((with_reducible refine gate_dst (N := 2) rfl ?_); refine bx_ (N := 2) (cs := #[.bool false, .slice none 0 0, .slice none 0 0]) (t := 24) ?_; intro gbB0 hg w4 hbox hb; have BKB0 := Aside0.mk (hbox); have GWB0 := geh hg HB; have GEB0 := geh hg HB; replace HB := bst HB hb; clear hb hbox hg) | ((with_reducible refine gate_callee (f := 91) rfl ?_); refine gL_ (some 7) Try.func91 #[.int .i64 (wrap64 (-a0))] ?_; (with_reducible refine (spec_l01Small.calls k (wrap64 (-a0)) tC9 _ A3.out).mono ?_); rintro e w5 ⟨vH4, rfl, ho0, hb⟩; refine ⟨_, rfl, ?_⟩; have HOD7 := lwR ho0 HB; replace BKB0 := bkb BKB0 hb; replace HB := bst HB hb; (try clear hb); (try clear hb2); (try clear hk); (try clear hi); (try clear ho0)) | ((with_reducible refine gate_dst (N := 8) rfl ?_); refine Kd.R_lit (Kd.int .i64) _ 3 ?hg (N := 8) ?hd (xs := ([1] : List Int)) (inner := [.int .i64 1]) (ok := fun _ => True) (okp := fun _ => True) ?hr ?hp (fun _ hk => hk) trivial (Below.refl _ _) (Nat.le_refl _) (by simp) ?_; (case hd => rfl); (case hg => rfl); (case hr => first | (go_simp; done) | (go_simp; rfl)); (case hp => exact (Reps.one (show Kd.M (Kd.int .i64) _ _ _ 1 [.int .i64 1] from rfl) (Reps.none _ _))); intro vH5 w6 ho7 hb hg_ hnew_; clear hg_ hnew_; (first | rw [← NyD6.out] at ho7 | (simp only [Int.reduceToNat] at ho7; rw [← NyD6.out] at ho7)); have HOF5 := lwR (nwR ho7 HOD7) HB; replace HOD7 := eldR HOD7 (Kd.R_base ho7) hb; replace BKB0 := bkb BKB0 hb; replace HB := bst HB hb; clear hb ho7; obtain ⟨Ao8, co8, eo8⟩ := Kd.R_slice HOF5.out; subst eo8; obtain ⟨Ao9, co9, eo9⟩ := Kd.R_slice HOD7.out; subst eo9; obtain ⟨hcz10_0, hcz10_1, hcz10_2, hfz10_0, hfz10_1, hfz10_2⟩ := bc3 BKB0))
  refine bodyPost_ret (results_cell_row rfl _ _ gbB0 24 #[.bool true, .slice Ao9 tC9.length co9, .slice Ao8 yD6.length co8] (0, 0) _ rfl (bp3 BKB0 _ _ _) Try.underlying24 rfl (by kernel_rfl)) rfl ?_
  exact ⟨_, _, er_, (crN HOD7 BKB0 fun _ hk => hk.1.2), (crN HOF5 BKB0 fun _ hk => hk.1.2), blw HB⟩
 ·
  rw [if_neg c2] at H
  have c2b0 : decide (a0 < 0) = false := decide_eq_false c2
  clear c2
  replace H := Option.bind_eq_some_iff.mp H
  obtain ⟨tC7, AF6, H⟩ := H
  replace H : (some (false, tC7, (([1] : List Int)))) = some (r1, r2, r3) := H
  have A11 := Aside0.mk AF6
  clear AF6
  obtain ⟨yD8, hy553⟩ : ∃ y_ : List Int, y_ = (([1] : List Int)) := ⟨_, rfl⟩
  replace H : (some (false, tC7, yD8)) = some (r1, r2, r3) := by first | (rw [hy553]; with_reducible exact H) | (have H2_ := (Option.bind_some _ _).symm.trans H; rw [hy553]; with_reducible exact H2_) | (have H2_ := (Option.bind_some _ _).symm.trans H; with_reducible exact H2_) | with_reducible exact H | (rw [hy553]; exact H) | exact H
  have NyD8 := Aside0.mk hy553
  clear hy553
  simp only [Option.some.injEq, Prod.mk.injEq] at H
  obtain ⟨rfl, rfl, rfl⟩ := H
  go_enter Try.func46, Try.ntmps46
  go_wp2_with (first | ((with_reducible refine gate_dst (N := 2) rfl ?_); refine bx_ (N := 2) (cs := #[.bool false, .slice none 0 0, .slice none 0 0]) (t := 24) ?_; intro gbB0 hg w12 hbox hb; have BKB0 := Aside0.mk (hbox); have GWB0 := geh hg HB; have GEB0 := geh hg HB; replace HB := bst HB hb; clear hb hbox hg) | ((with_reducible refine gate_callee (f := 91) rfl ?_); refine gL_ (some 11) Try.func91 #[.int .i64 a0] ?_; (with_reducible refine (spec_l01Small.calls k a0 tC7 _ A11.out).mono ?_); rintro e w13 ⟨vH6, rfl, ho0, hb⟩; refine ⟨_, rfl, ?_⟩; have HOD9 := lwR ho0 HB; replace BKB0 := bkb BKB0 hb; replace HB := bst HB hb; (try clear hb); (try clear hb2); (try clear hk); (try clear hi); (try clear ho0)) | ((with_reducible refine gate_dst (N := 12) rfl ?_); refine Kd.R_lit (Kd.int .i64) _ 3 ?hg (N := 12) ?hd (xs := ([1] : List Int)) (inner := [.int .i64 1]) (ok := fun _ => True) (okp := fun _ => True) ?hr ?hp (fun _ hk => hk) trivial (Below.refl _ _) (Nat.le_refl _) (by simp) ?_; (case hd => rfl); (case hg => rfl); (case hr => first | (go_simp; done) | (go_simp; rfl)); (case hp => exact (Reps.one (show Kd.M (Kd.int .i64) _ _ _ 1 [.int .i64 1] from rfl) (Reps.none _ _))); intro vH7 w14 ho15 hb hg_ hnew_; clear hg_ hnew_; (first | rw [← NyD8.out] at ho15 | (simp only [Int.reduceToNat] at ho15; rw [← NyD8.out] at ho15)); have HOF7 := lwR (nwR ho15 HOD9) HB; replace HOD9 := eldR HOD9 (Kd.R_base ho15) hb; replace BKB0 := bkb BKB0 hb; replace HB := bst HB hb; clear hb ho15; obtain ⟨Ao16, co16, eo16⟩ := Kd.R_slice HOF7.out; subst eo16; obtain ⟨Ao17, co17, eo17⟩ := Kd.R_slice HOD9.out; subst eo17; obtain ⟨hcz18_0, hcz18_1, hcz18_2, hfz18_0, hfz18_1, hfz18_2⟩ := bc3 BKB0))
  refine bodyPost_ret (results_cell_row rfl _ _ gbB0 24 #[.bool false, .slice Ao17 tC7.length co17, .slice Ao16 yD8.length co16] (0, 0) _ rfl (bp3 BKB0 _ _ _) Try.underlying24 rfl (by kernel_rfl)) rfl ?_
  exact ⟨_, _, er_, (crN HOD9 BKB0 fun _ hk => hk.1.2), (crN HOF7 BKB0 fun _ hk => hk.1.2), blw HB⟩

end Go.Proofs.Ytacdaijalkkogaa.Q
