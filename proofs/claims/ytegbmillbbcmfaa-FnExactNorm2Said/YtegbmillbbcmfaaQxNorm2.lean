-- written by a program of this claim's session (myprint.py) out of the translation; Lean checks it.
import Derived.Test.YtegbmillbbcmfaaQx0
import Derived.Test.YtegbmillbbcmfaaWords
import Derived.Test.YtegbmillbbcmfaaQxl03Ask
import Derived.Test.YtegbmillbbcmfaaQxrsp
import Derived.Test.YtegbmillbbcmfaaQxl03Dot
import Derived.Test.YtegbmillbbcmfaaQxDot
namespace Go.Proofs.Ytegbmillbbcmfaa.Q
open Go.RowKit Go.Proofs.YtegbmillbbcmfaaW.PrintWords Go.Proofs.YtegbmillbbcmfaaW.PrintLast Go.Proofs.YtegbmillbbcmfaaW.PrintMore
attribute [local go_sem] max2_int min2_int max_two min_two max_three min_three max_four min_four   -- for this text's walks alone
set_option linter.unusedVariables false
set_option linter.unusedSimpArgs false

def spec_Norm2.f (k : Nat) (l0 : List (S32)) : Option (Bool × List Int × List Int × Int) := if (l0.length : Int) > 4096 then (some (false, ([] : List Int), ([] : List Int), 2)) else ((spec_l03Ask.f k l0 l0).bind fun tA3 => (if tA3 = 0 then ((spec_l03Dot.f k l0 l0).bind fun btA2 => ((spec_l02Fit.f btA2.1 btA2.2.1 btA2.2.2).bind fun btA1 => (some (btA1.1, btA1.2.1, btA1.2.2.1, btA1.2.2.2)))) else (some (false, ([] : List Int), ([] : List Int), tA3))))
set_option maxHeartbeats 8000000 in
set_option maxRecDepth 100000 in
theorem spec_Norm2.calls (k : Nat) (A0 : Option Addr) (c0 : Nat) (l0 : List (S32)) (r1 : Bool) (r2 : List Int) (r3 : List Int) (r4 : Int) (w : World) (hr0 : Kd.C k32 w A0 l0.length l0) (hc0 : l0.length ≤ c0) (h : spec_Norm2.f k l0 = some (r1, r2, r3, r4)) :
  Calls Try.prog 20 #[.slice A0 l0.length c0] w fun e w' => ∃ v1_ v2_ : Value, e = .returned (.tuple #[.agg #[.bool r1, v1_, v2_], .int .i64 r4]) ∧ Kd.R (Kd.int .i64) 3 w' w.heap.size (fun k_ => nO k_ v2_) v1_ r2 ∧ Kd.R (Kd.int .i64) 3 w' w.heap.size (fun k_ => nO k_ v1_) v2_ r3 ∧ Below w.heap.size w w' := by
 have hu32 := Try.underlying32
 have HR0 := Aside0.mk hr0
 have HC0 := Aside0.mk hc0
 clear hr0 hc0
 have HB := Aside0.mk (Below.refl w.heap.size w)
 have H : (if (l0.length : Int) > 4096 then (some (false, ([] : List Int), ([] : List Int), 2)) else ((spec_l03Ask.f k l0 l0).bind fun tA3 => (if tA3 = 0 then ((spec_l03Dot.f k l0 l0).bind fun btA2 => ((spec_l02Fit.f btA2.1 btA2.2.1 btA2.2.2).bind fun btA1 => (some (btA1.1, btA1.2.1, btA1.2.2.1, btA1.2.2.2)))) else (some (false, ([] : List Int), ([] : List Int), tA3))))) = some (r1, r2, r3, r4) := h
 clear h
 by_cases c2 : (l0.length : Int) > 4096
 ·
  rw [if_pos c2] at H
  have c2b0 : decide (4096 < (l0.length : Int)) = true := decide_eq_true c2
  have c2b1 : decide (4096 < l0.length) = true := decide_eq_true (by omega)
  clear c2
  simp only [Option.some.injEq, Prod.mk.injEq] at H
  obtain ⟨rfl, rfl, rfl, rfl⟩ := H
  go_enter Try.func20, Try.ntmps20
  go_wp2_with (first | ((with_reducible refine gate_dst (N := 2) rfl ?_); refine bx_ (N := 2) (cs := #[.bool false, .slice none 0 0, .slice none 0 0]) (t := 32) ?_; intro gbA0 hg w3 hbox hb; have BKA0 := Aside0.mk (hbox); have GWA0 := geh hg HB; have GEA0 := geh hg HB; replace HB := bst HB hb; clear hb hbox hg; obtain ⟨hcz4_0, hcz4_1, hcz4_2, hfz4_0, hfz4_1, hfz4_2⟩ := bc3 BKA0))
  refine bodyPost_ret (results_ct rfl _ _ gbA0 32 #[.bool false, .slice none 0 0, .slice none 0 0] (0, 0) _ rfl (bp3 BKA0 _ _ _) Try.underlying32 rfl (by kernel_rfl)) rfl ?_
  exact ⟨_, _, er_, by first | exact Kd.R_nil _ _ _ _ _ | exact Kd.N_nil _ _ _ _ _ | exact Kd.V_nil _ _ _ _ _ | exact Kd.Q_nil _ _ _ _ _ | exact Kd.S_nil _ _ _ _ _, by first | exact Kd.R_nil _ _ _ _ _ | exact Kd.N_nil _ _ _ _ _ | exact Kd.V_nil _ _ _ _ _ | exact Kd.Q_nil _ _ _ _ _ | exact Kd.S_nil _ _ _ _ _, blw HB⟩
 ·
  rw [if_neg c2] at H
  have c2b0 : decide (4096 < (l0.length : Int)) = false := decide_eq_false c2
  have c2b1 : decide (4096 < l0.length) = false := decide_eq_false (by omega)
  clear c2
  replace H := Option.bind_eq_some_iff.mp H
  obtain ⟨tA3, A50, H⟩ := H
  replace H : (if tA3 = 0 then ((spec_l03Dot.f k l0 l0).bind fun btA2 => ((spec_l02Fit.f btA2.1 btA2.2.1 btA2.2.2).bind fun btA1 => (some (btA1.1, btA1.2.1, btA1.2.2.1, btA1.2.2.2)))) else (some (false, ([] : List Int), ([] : List Int), tA3))) = some (r1, r2, r3, r4) := H
  have A5 := Aside0.mk A50
  clear A50
  by_cases c6 : tA3 = 0
  ·
   rw [if_pos c6] at H
   have c6b0 : (tA3 == 0) = true := beq_iff_eq.mpr c6
   have c6b1 : (tA3 != 0) = false := bne_eq_false_iff_eq.mpr c6
   clear c6
   replace H := Option.bind_eq_some_iff.mp H
   obtain ⟨⟨tA2, tA8, tA9⟩, A70, H⟩ := H
   replace H : ((spec_l02Fit.f tA2 tA8 tA9).bind fun btA1 => (some (btA1.1, btA1.2.1, btA1.2.2.1, btA1.2.2.2))) = some (r1, r2, r3, r4) := H
   have A7 := Aside0.mk A70
   clear A70
   replace H := Option.bind_eq_some_iff.mp H
   obtain ⟨⟨tA1, tB0, tB1, tB4⟩, A80, H⟩ := H
   replace H : (some (tA1, tB0, tB1, tB4)) = some (r1, r2, r3, r4) := H
   have A8 := Aside0.mk A80
   clear A80
   simp only [Option.some.injEq, Prod.mk.injEq] at H
   obtain ⟨rfl, rfl, rfl, rfl⟩ := H
   go_enter Try.func20, Try.ntmps20
   go_wp2_with (first | ((with_reducible refine gate_dst (N := 2) rfl ?_); refine bx_ (N := 2) (cs := #[.bool false, .slice none 0 0, .slice none 0 0]) (t := 32) ?_; intro gbA0 hg w9 hbox hb; have BKA0 := Aside0.mk (hbox); have GWA0 := geh hg HB; have GEA0 := geh hg HB; replace HB := bst HB hb; clear hb hbox hg) | ((with_reducible refine gate_callee (f := 29) rfl ?_); refine gL_ (some 11) Try.func29 #[.slice A0 l0.length c0, .slice A0 l0.length c0] ?_; (with_reducible refine (spec_l03Ask.calls k _ _ l0 _ _ l0 tA3 _ ?side1 ?side2 ?side3 ?side4 A5.out).mono ?_); (case side1 => exact crC (Kd.C_below HR0.out HB.out)); (case side2 => exact HC0.out); (case side3 => exact crC (Kd.C_below HR0.out HB.out)); (case side4 => exact HC0.out); rintro e w10 ⟨rfl, hb⟩; refine ⟨_, rfl, ?_⟩; replace BKA0 := bkb BKA0 hb; replace HB := bst HB hb; (try clear hb); (try clear hb2); (try clear hk); (try clear hi)) | ((with_reducible refine gate_callee (f := 31) rfl ?_); refine gL_ (some 18) Try.func31 #[.slice A0 l0.length c0, .slice A0 l0.length c0] ?_; (with_reducible refine (spec_l03Dot.calls k _ _ l0 _ _ l0 tA2 tA8 tA9 _ ?side1 ?side2 ?side3 ?side4 A7.out).mono ?_); (case side1 => exact crC (Kd.C_below HR0.out HB.out)); (case side2 => exact HC0.out); (case side3 => exact crC (Kd.C_below HR0.out HB.out)); (case side4 => exact HC0.out); rintro e w11 ⟨vC2, vC3, rfl, ho0, ho1, hb⟩; refine ⟨_, rfl, ?_⟩; have HOA6 := lwR ho0 HB; have HOA7 := lwR ho1 HB; replace BKA0 := bkb BKA0 hb; replace HB := bst HB hb; (try clear hb); (try clear hb2); (try clear hk); (try clear hi); (try clear ho0); (try clear ho1); obtain ⟨Ao12, co12, eo12⟩ := Kd.R_slice HOA6.out; subst eo12; obtain ⟨Ao13, co13, eo13⟩ := Kd.R_slice HOA7.out; subst eo13) | ((with_reducible refine gate_callee (f := 30) rfl ?_); refine gL_ (some 19) Try.func30 #[.agg #[.bool tA2, .slice Ao12 tA8.length co12, .slice Ao13 tA9.length co13]] ?_; (with_reducible refine (spec_l02Fit.calls tA2 _ _ tA8 _ _ tA9 tA1 tB0 tB1 tB4 _ ?side1 ?side2 ?side3 ?side4 A8.out).mono ?_); (case side1 => exact crC (Kd.R_reads' HOA6.out).2.2); (case side2 => exact (Kd.R_reads' HOA6.out).2.1); (case side3 => exact crC (Kd.R_reads' HOA7.out).2.2); (case side4 => exact (Kd.R_reads' HOA7.out).2.1); rintro e w14 ⟨vC4, vC5, rfl, ho0, ho1, hb⟩; refine ⟨_, rfl, ?_⟩; have HOB5 := lwR (nwR (nwR ho0 HOA6) HOA7) HB; have HOB6 := lwR (nwR (nwR ho1 HOA6) HOA7) HB; replace HOA6 := tldR HOA6 hb (Kd.R_base ho0) (Kd.R_base ho1); replace HOA7 := tldR HOA7 hb (Kd.R_base ho0) (Kd.R_base ho1); replace BKA0 := bkb BKA0 hb; replace HB := bst HB hb; (try clear hb); (try clear hb2); (try clear hk); (try clear hi); (try clear ho0); (try clear ho1); obtain ⟨hcz15_0, hcz15_1, hcz15_2, hfz15_0, hfz15_1, hfz15_2⟩ := bc3 BKA0; obtain ⟨Ao16, co16, eo16⟩ := Kd.R_slice HOB5.out; subst eo16; obtain ⟨Ao17, co17, eo17⟩ := Kd.R_slice HOB6.out; subst eo17))
   refine bodyPost_ret (results_ct rfl _ _ gbA0 32 #[.bool tA1, .slice Ao16 tB0.length co16, .slice Ao17 tB1.length co17] (0, 0) _ rfl (bp3 BKA0 _ _ _) Try.underlying32 rfl (by kernel_rfl)) rfl ?_
   exact ⟨_, _, er_, (crN HOB5 BKA0 fun _ hk => hk.1.1.1), (crN HOB6 BKA0 fun _ hk => hk.1.1.1), blw HB⟩
  ·
   rw [if_neg c6] at H
   have c6b0 : (tA3 == 0) = false := beq_eq_false_iff_ne.mpr c6
   have c6b1 : (tA3 != 0) = true := bne_iff_ne.mpr c6
   simp only [Option.some.injEq, Prod.mk.injEq] at H
   obtain ⟨rfl, rfl, rfl, rfl⟩ := H
   go_enter Try.func20, Try.ntmps20
   go_wp2_with (first | ((with_reducible refine gate_dst (N := 2) rfl ?_); refine bx_ (N := 2) (cs := #[.bool false, .slice none 0 0, .slice none 0 0]) (t := 32) ?_; intro gbA0 hg w18 hbox hb; have BKA0 := Aside0.mk (hbox); have GWA0 := geh hg HB; have GEA0 := geh hg HB; replace HB := bst HB hb; clear hb hbox hg) | ((with_reducible refine gate_callee (f := 29) rfl ?_); refine gL_ (some 11) Try.func29 #[.slice A0 l0.length c0, .slice A0 l0.length c0] ?_; (with_reducible refine (spec_l03Ask.calls k _ _ l0 _ _ l0 tA3 _ ?side1 ?side2 ?side3 ?side4 A5.out).mono ?_); (case side1 => exact crC (Kd.C_below HR0.out HB.out)); (case side2 => exact HC0.out); (case side3 => exact crC (Kd.C_below HR0.out HB.out)); (case side4 => exact HC0.out); rintro e w19 ⟨rfl, hb⟩; refine ⟨_, rfl, ?_⟩; replace BKA0 := bkb BKA0 hb; replace HB := bst HB hb; (try clear hb); (try clear hb2); (try clear hk); (try clear hi); obtain ⟨hcz20_0, hcz20_1, hcz20_2, hfz20_0, hfz20_1, hfz20_2⟩ := bc3 BKA0))
   refine bodyPost_ret (results_ct rfl _ _ gbA0 32 #[.bool false, .slice none 0 0, .slice none 0 0] (0, 0) _ rfl (bp3 BKA0 _ _ _) Try.underlying32 rfl (by kernel_rfl)) rfl ?_
   exact ⟨_, _, er_, by first | exact Kd.R_nil _ _ _ _ _ | exact Kd.N_nil _ _ _ _ _ | exact Kd.V_nil _ _ _ _ _ | exact Kd.Q_nil _ _ _ _ _ | exact Kd.S_nil _ _ _ _ _, by first | exact Kd.R_nil _ _ _ _ _ | exact Kd.N_nil _ _ _ _ _ | exact Kd.V_nil _ _ _ _ _ | exact Kd.Q_nil _ _ _ _ _ | exact Kd.S_nil _ _ _ _ _, blw HB⟩

def impl_Norm2.f (k : Nat) (l0 : List (S32)) : Option (Bool × List Int × List Int × Int) := (impl_Dot.f k l0 l0).bind fun btA4 => (some (btA4.1, btA4.2.1, btA4.2.2.1, btA4.2.2.2))
set_option maxHeartbeats 8000000 in
set_option maxRecDepth 100000 in
theorem impl_Norm2.calls (k : Nat) (A0 : Option Addr) (c0 : Nat) (l0 : List (S32)) (r1 : Bool) (r2 : List Int) (r3 : List Int) (r4 : Int) (w : World) (hr0 : Kd.C k32 w A0 l0.length l0) (hc0 : l0.length ≤ c0) (h : impl_Norm2.f k l0 = some (r1, r2, r3, r4)) :
  Calls Try.prog 21 #[.slice A0 l0.length c0] w fun e w' => ∃ v1_ v2_ : Value, e = .returned (.tuple #[.agg #[.bool r1, v1_, v2_], .int .i64 r4]) ∧ Kd.R (Kd.int .i64) 3 w' w.heap.size (fun k_ => nO k_ v2_) v1_ r2 ∧ Kd.R (Kd.int .i64) 3 w' w.heap.size (fun k_ => nO k_ v1_) v2_ r3 ∧ Below w.heap.size w w' := by
 have hu32 := Try.underlying32
 have HR0 := Aside0.mk hr0
 have HC0 := Aside0.mk hc0
 clear hr0 hc0
 have HB := Aside0.mk (Below.refl w.heap.size w)
 have H : ((impl_Dot.f k l0 l0).bind fun btA4 => (some (btA4.1, btA4.2.1, btA4.2.2.1, btA4.2.2.2))) = some (r1, r2, r3, r4) := h
 clear h
 replace H := Option.bind_eq_some_iff.mp H
 obtain ⟨⟨tA4, tB2, tB3, tB7⟩, A20, H⟩ := H
 replace H : (some (tA4, tB2, tB3, tB7)) = some (r1, r2, r3, r4) := H
 have A2 := Aside0.mk A20
 clear A20
 simp only [Option.some.injEq, Prod.mk.injEq] at H
 obtain ⟨rfl, rfl, rfl, rfl⟩ := H
 go_enter Try.func21, Try.ntmps21
 go_wp2_with (first | ((with_reducible refine gate_dst (N := 2) rfl ?_); refine bx_ (N := 2) (cs := #[.bool false, .slice none 0 0, .slice none 0 0]) (t := 32) ?_; intro gbA5 hg w3 hbox hb; have BKA5 := Aside0.mk (hbox); have GWA5 := geh hg HB; have GEA5 := geh hg HB; replace HB := bst HB hb; clear hb hbox hg) | ((with_reducible refine gate_callee (f := 15) rfl ?_); refine gL_ (some 6) Try.func15 #[.slice A0 l0.length c0, .slice A0 l0.length c0] ?_; (with_reducible refine (impl_Dot.calls k (fun k_ => k_ < w.heap.size) _ _ l0 (fun k_ => k_ < w.heap.size) _ _ l0 tA4 tB2 tB3 tB7 _ ?side1 ?side2 A2.out).mono ?_); (case side1 => exact Kd.V_mk HC0.out (Kd.F_below (Kd.C_F k32_heap HR0.out) (blw HB))); (case side2 => exact Kd.V_mk HC0.out (Kd.F_below (Kd.C_F k32_heap HR0.out) (blw HB))); rintro e w4 ⟨vC0, vC1, rfl, ho0, ho1, hb⟩; refine ⟨_, rfl, ?_⟩; have HOB8 := lwR (Kd.R_mono (ok' := fun k_ => nO k_ vC1) ho0 (fun _ hk_ => hk_.2)) HB; have HOB9 := lwR (Kd.R_mono (ok' := fun k_ => nO k_ vC0) ho1 (fun _ hk_ => hk_.2)) HB; replace BKA5 := bkb BKA5 hb; replace HB := bst HB hb; (try clear hb); (try clear hb2); (try clear hk); (try clear hi); (try clear ho0); (try clear ho1); obtain ⟨hcz5_0, hcz5_1, hcz5_2, hfz5_0, hfz5_1, hfz5_2⟩ := bc3 BKA5; obtain ⟨Ao6, co6, eo6⟩ := Kd.R_slice HOB8.out; subst eo6; obtain ⟨Ao7, co7, eo7⟩ := Kd.R_slice HOB9.out; subst eo7))
 refine bodyPost_ret (results_ct rfl _ _ gbA5 32 #[.bool tA4, .slice Ao6 tB2.length co6, .slice Ao7 tB3.length co7] (0, 0) _ rfl (bp3 BKA5 _ _ _) Try.underlying32 rfl (by kernel_rfl)) rfl ?_
 exact ⟨_, _, er_, (crN HOB8 BKA5 fun _ hk => hk.1), (crN HOB9 BKA5 fun _ hk => hk.1), blw HB⟩

end Go.Proofs.Ytegbmillbbcmfaa.Q
