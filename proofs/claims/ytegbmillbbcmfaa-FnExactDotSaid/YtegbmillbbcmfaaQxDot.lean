-- written by a program of this claim's session (myprint.py) out of the translation; Lean checks it.
import Derived.Test.YtegbmillbbcmfaaQx0
import Derived.Test.YtegbmillbbcmfaaWords
import Derived.Test.YtegbmillbbcmfaaQxrim
import Derived.Test.YtegbmillbbcmfaaQxl03Ask
import Derived.Test.YtegbmillbbcmfaaQxrsp
import Derived.Test.YtegbmillbbcmfaaQxl03Dot
import Derived.Test.YtegbmillbbcmfaaQxvecsCode
import Derived.Test.YtegbmillbbcmfaaQxdot
namespace Go.Proofs.Ytegbmillbbcmfaa.Q
open Go.RowKit Go.Proofs.YtegbmillbbcmfaaW.PrintWords Go.Proofs.YtegbmillbbcmfaaW.PrintLast Go.Proofs.YtegbmillbbcmfaaW.PrintMore
attribute [local go_sem] max2_int min2_int max_two min_two max_three min_three max_four min_four   -- for this text's walks alone
set_option linter.unusedVariables false
set_option linter.unusedSimpArgs false

def spec_Dot.j0 : Nat → List (S32) → List (S32) → Bool → Option (Bool × List Int × List Int × Int)
 | 0, _, _, _ => none
 | k + 1, x0, x1, x14 => if x14 = true then (some (false, ([] : List Int), ([] : List Int), 2)) else ((spec_l03Ask.f k x0 x1).bind fun tA7 => (if tA7 = 0 then ((spec_l03Dot.f k x0 x1).bind fun btA8 => ((spec_l02Fit.f btA8.1 btA8.2.1 btA8.2.2).bind fun btA4 => (some (btA4.1, btA4.2.1, btA4.2.2.1, btA4.2.2.2)))) else (some (false, ([] : List Int), ([] : List Int), tA7))))
def spec_Dot.f (k : Nat) (l0 : List (S32)) (l1 : List (S32)) : Option (Bool × List Int × List Int × Int) := if (l0.length : Int) > 4096 then (spec_Dot.j0 k l0 l1 true) else (spec_Dot.j0 k l0 l1 (decide ((l1.length : Int) > 4096)))
set_option maxHeartbeats 8000000 in
set_option maxRecDepth 100000 in
theorem spec_Dot.calls (k : Nat) (A0 : Option Addr) (c0 : Nat) (l0 : List (S32)) (A1 : Option Addr) (c1 : Nat) (l1 : List (S32)) (r1 : Bool) (r2 : List Int) (r3 : List Int) (r4 : Int) (w : World) (hr0 : Kd.C k32 w A0 l0.length l0) (hc0 : l0.length ≤ c0) (hr1 : Kd.C k32 w A1 l1.length l1) (hc1 : l1.length ≤ c1) (h : spec_Dot.f k l0 l1 = some (r1, r2, r3, r4)) :
  Calls Try.prog 14 #[.slice A0 l0.length c0, .slice A1 l1.length c1] w fun e w' => ∃ v1_ v2_ : Value, e = .returned (.tuple #[.agg #[.bool r1, v1_, v2_], .int .i64 r4]) ∧ Kd.R (Kd.int .i64) 3 w' w.heap.size (fun k_ => nO k_ v2_) v1_ r2 ∧ Kd.R (Kd.int .i64) 3 w' w.heap.size (fun k_ => nO k_ v1_) v2_ r3 ∧ Below w.heap.size w w' := by
 have hu32 := Try.underlying32
 have HR0 := Aside0.mk hr0
 have HC0 := Aside0.mk hc0
 clear hr0 hc0
 have HR1 := Aside0.mk hr1
 have HC1 := Aside0.mk hc1
 clear hr1 hc1
 have HB := Aside0.mk (Below.refl w.heap.size w)
 have H : (if (l0.length : Int) > 4096 then (spec_Dot.j0 k l0 l1 true) else (spec_Dot.j0 k l0 l1 (decide ((l1.length : Int) > 4096)))) = some (r1, r2, r3, r4) := h
 clear h
 have HC3 := Aside0.mk H
 clear H
 go_enter Try.func14, Try.ntmps14
 go_upto_region 1 with (first | ((with_reducible refine gate_dst (N := 4) rfl ?_); (try (refine gate_guard (by rfl) ?_; dsimp only)); refine bx_ (N := 4) (cs := #[.bool false, .slice none 0 0, .slice none 0 0]) (t := 32) ?_; intro gbA2 hg w4 hbox hb; have BKA2 := Aside0.mk (hbox); have GWA2 := geh hg HB; have GEA2 := geh hg HB; replace HB := bst HB hb; clear hb hbox hg))
 (try simp only [Act.put, List.setIfInBounds_toArray, List.set_cons_zero, List.set_cons_succ])
 go_cut [14] (fun v14 wc => ∃ (kq : Nat) (x14_2 : Bool), v14 = .bool x14_2 ∧ Aside0 (spec_Dot.j0 kq l0 l1 x14_2 = some (r1, r2, r3, r4)) ∧ Aside0 (kq ≤ k) ∧ Aside0 (wc.heap[gbA2]? = some (.cells #[.bool false, (.slice none 0 0), (.slice none 0 0)] 32 (0, 0))) ∧ Aside0 (Below w.heap.size w wc))
 case first =>
  have H := HC3.out
  clear HC3
  by_cases c5 : (l0.length : Int) > 4096
  ·
   rw [if_pos c5] at H
   have c5b0 : decide (4096 < (l0.length : Int)) = true := decide_eq_true c5
   have c5b1 : decide (4096 < l0.length) = true := decide_eq_true (by omega)
   clear c5
   (first | rw [c5b0] | (simp only [i64_w, i32_w]; rw [c5b0]) | skip)
   have H' := Aside0.mk H
   clear H
   go_wp2
   go_meet
   case rel => exact ⟨_, (true), rs_, H', ⟨by first | omega | exact Nat.le_refl _⟩, ⟨crb BKA2⟩, ⟨blw HB⟩⟩
  ·
   rw [if_neg c5] at H
   have c5b0 : decide (4096 < (l0.length : Int)) = false := decide_eq_false c5
   have c5b1 : decide (4096 < l0.length) = false := decide_eq_false (by omega)
   clear c5
   (first | rw [c5b0] | (simp only [i64_w, i32_w]; rw [c5b0]) | skip)
   have H' := Aside0.mk H
   clear H
   go_wp2
   go_meet
   case rel => exact ⟨_, (decide ((l1.length : Int) > 4096)), rs_, H', ⟨by first | omega | exact Nat.le_refl _⟩, ⟨crb BKA2⟩, ⟨blw HB⟩⟩
 case rest =>
  clear HC3
  try clear c1
  try clear p2
  try clear c5
  try clear c5b0
  try clear c5b1
  obtain ⟨kq, x14_2, rfl, HA, HJ2, BKA2, HB⟩ := hcut
  cases kq with
  | zero => exact absurd HA.out (by simp [spec_Dot.j0])
  | succ kj2 =>
   have H := HA.out
   clear HA
   simp only [spec_Dot.j0] at H
   by_cases c6 : x14_2 = true
   ·
    subst c6
    rw [if_pos rfl] at H
    simp only [Option.some.injEq, Prod.mk.injEq] at H
    obtain ⟨rfl, rfl, rfl, rfl⟩ := H
    obtain ⟨hcz7_0, hcz7_1, hcz7_2, hfz7_0, hfz7_1, hfz7_2⟩ := bc3 BKA2
    go_wp2
    refine bodyPost_ret (results_ct rfl _ _ gbA2 32 #[.bool false, .slice none 0 0, .slice none 0 0] (0, 0) _ rfl (bp3 BKA2 _ _ _) Try.underlying32 rfl (by kernel_rfl)) rfl ?_
    exact ⟨_, _, er_, by first | exact Kd.R_nil _ _ _ _ _ | exact Kd.N_nil _ _ _ _ _ | exact Kd.V_nil _ _ _ _ _ | exact Kd.Q_nil _ _ _ _ _ | exact Kd.S_nil _ _ _ _ _, by first | exact Kd.R_nil _ _ _ _ _ | exact Kd.N_nil _ _ _ _ _ | exact Kd.V_nil _ _ _ _ _ | exact Kd.Q_nil _ _ _ _ _ | exact Kd.S_nil _ _ _ _ _, blw HB⟩
   ·
    replace c6 := Bool.eq_false_iff.mpr c6
    subst c6
    rw [if_neg (show ¬ (false = true) by decide)] at H
    replace H := Option.bind_eq_some_iff.mp H
    obtain ⟨tA7, A80, H⟩ := H
    replace H : (if tA7 = 0 then ((spec_l03Dot.f kj2 l0 l1).bind fun btA8 => ((spec_l02Fit.f btA8.1 btA8.2.1 btA8.2.2).bind fun btA4 => (some (btA4.1, btA4.2.1, btA4.2.2.1, btA4.2.2.2)))) else (some (false, ([] : List Int), ([] : List Int), tA7))) = some (r1, r2, r3, r4) := H
    have A8 := Aside0.mk A80
    clear A80
    by_cases c9 : tA7 = 0
    ·
     rw [if_pos c9] at H
     have c9b0 : (tA7 == 0) = true := beq_iff_eq.mpr c9
     have c9b1 : (tA7 != 0) = false := bne_eq_false_iff_eq.mpr c9
     clear c9
     replace H := Option.bind_eq_some_iff.mp H
     obtain ⟨⟨tA8, tB6, tB7⟩, AC4, H⟩ := H
     replace H : ((spec_l02Fit.f tA8 tB6 tB7).bind fun btA4 => (some (btA4.1, btA4.2.1, btA4.2.2.1, btA4.2.2.2))) = some (r1, r2, r3, r4) := H
     have A10 := Aside0.mk AC4
     clear AC4
     replace H := Option.bind_eq_some_iff.mp H
     obtain ⟨⟨tA4, tC0, tC1, tC5⟩, AC6, H⟩ := H
     replace H : (some (tA4, tC0, tC1, tC5)) = some (r1, r2, r3, r4) := H
     have A11 := Aside0.mk AC6
     clear AC6
     simp only [Option.some.injEq, Prod.mk.injEq] at H
     obtain ⟨rfl, rfl, rfl, rfl⟩ := H
     go_wp2_with (first | ((with_reducible refine gate_callee (f := 29) rfl ?_); refine gL_ (some 18) Try.func29 #[.slice A0 l0.length c0, .slice A1 l1.length c1] ?_; (with_reducible refine (spec_l03Ask.calls kj2 _ _ l0 _ _ l1 tA7 _ ?side1 ?side2 ?side3 ?side4 A8.out).mono ?_); (case side1 => exact crC (Kd.C_below HR0.out HB.out)); (case side2 => exact HC0.out); (case side3 => exact crC (Kd.C_below HR1.out HB.out)); (case side4 => exact HC1.out); rintro e w12 ⟨rfl, hb⟩; refine ⟨_, rfl, ?_⟩; replace BKA2 := bkb BKA2 hb; replace HB := bst HB hb; (try clear hb); (try clear hb2); (try clear hk); (try clear hi)) | ((with_reducible refine gate_callee (f := 31) rfl ?_); refine gL_ (some 25) Try.func31 #[.slice A0 l0.length c0, .slice A1 l1.length c1] ?_; (with_reducible refine (spec_l03Dot.calls kj2 _ _ l0 _ _ l1 tA8 tB6 tB7 _ ?side1 ?side2 ?side3 ?side4 A10.out).mono ?_); (case side1 => exact crC (Kd.C_below HR0.out HB.out)); (case side2 => exact HC0.out); (case side3 => exact crC (Kd.C_below HR1.out HB.out)); (case side4 => exact HC1.out); rintro e w13 ⟨vD3, vD4, rfl, ho0, ho1, hb⟩; refine ⟨_, rfl, ?_⟩; have HOB0 := lwR ho0 HB; have HOB1 := lwR ho1 HB; replace BKA2 := bkb BKA2 hb; replace HB := bst HB hb; (try clear hb); (try clear hb2); (try clear hk); (try clear hi); (try clear ho0); (try clear ho1); obtain ⟨Ao14, co14, eo14⟩ := Kd.R_slice HOB0.out; subst eo14; obtain ⟨Ao15, co15, eo15⟩ := Kd.R_slice HOB1.out; subst eo15) | ((with_reducible refine gate_callee (f := 30) rfl ?_); refine gL_ (some 26) Try.func30 #[.agg #[.bool tA8, .slice Ao14 tB6.length co14, .slice Ao15 tB7.length co15]] ?_; (with_reducible refine (spec_l02Fit.calls tA8 _ _ tB6 _ _ tB7 tA4 tC0 tC1 tC5 _ ?side1 ?side2 ?side3 ?side4 A11.out).mono ?_); (case side1 => exact crC (Kd.R_reads' HOB0.out).2.2); (case side2 => exact (Kd.R_reads' HOB0.out).2.1); (case side3 => exact crC (Kd.R_reads' HOB1.out).2.2); (case side4 => exact (Kd.R_reads' HOB1.out).2.1); rintro e w16 ⟨vD5, vD6, rfl, ho0, ho1, hb⟩; refine ⟨_, rfl, ?_⟩; have HOC7 := lwR (nwR (nwR ho0 HOB0) HOB1) HB; have HOC8 := lwR (nwR (nwR ho1 HOB0) HOB1) HB; replace HOB0 := tldR HOB0 hb (Kd.R_base ho0) (Kd.R_base ho1); replace HOB1 := tldR HOB1 hb (Kd.R_base ho0) (Kd.R_base ho1); replace BKA2 := bkb BKA2 hb; replace HB := bst HB hb; (try clear hb); (try clear hb2); (try clear hk); (try clear hi); (try clear ho0); (try clear ho1); obtain ⟨hcz17_0, hcz17_1, hcz17_2, hfz17_0, hfz17_1, hfz17_2⟩ := bc3 BKA2; obtain ⟨Ao18, co18, eo18⟩ := Kd.R_slice HOC7.out; subst eo18; obtain ⟨Ao19, co19, eo19⟩ := Kd.R_slice HOC8.out; subst eo19))
     refine bodyPost_ret (results_ct rfl _ _ gbA2 32 #[.bool tA4, .slice Ao18 tC0.length co18, .slice Ao19 tC1.length co19] (0, 0) _ rfl (bp3 BKA2 _ _ _) Try.underlying32 rfl (by kernel_rfl)) rfl ?_
     exact ⟨_, _, er_, (crN HOC7 BKA2 fun _ hk => hk.1.1.1), (crN HOC8 BKA2 fun _ hk => hk.1.1.1), blw HB⟩
    ·
     rw [if_neg c9] at H
     have c9b0 : (tA7 == 0) = false := beq_eq_false_iff_ne.mpr c9
     have c9b1 : (tA7 != 0) = true := bne_iff_ne.mpr c9
     simp only [Option.some.injEq, Prod.mk.injEq] at H
     obtain ⟨rfl, rfl, rfl, rfl⟩ := H
     go_wp2_with (first | ((with_reducible refine gate_callee (f := 29) rfl ?_); refine gL_ (some 18) Try.func29 #[.slice A0 l0.length c0, .slice A1 l1.length c1] ?_; (with_reducible refine (spec_l03Ask.calls kj2 _ _ l0 _ _ l1 tA7 _ ?side1 ?side2 ?side3 ?side4 A8.out).mono ?_); (case side1 => exact crC (Kd.C_below HR0.out HB.out)); (case side2 => exact HC0.out); (case side3 => exact crC (Kd.C_below HR1.out HB.out)); (case side4 => exact HC1.out); rintro e w20 ⟨rfl, hb⟩; refine ⟨_, rfl, ?_⟩; replace BKA2 := bkb BKA2 hb; replace HB := bst HB hb; (try clear hb); (try clear hb2); (try clear hk); (try clear hi); obtain ⟨hcz21_0, hcz21_1, hcz21_2, hfz21_0, hfz21_1, hfz21_2⟩ := bc3 BKA2))
     refine bodyPost_ret (results_ct rfl _ _ gbA2 32 #[.bool false, .slice none 0 0, .slice none 0 0] (0, 0) _ rfl (bp3 BKA2 _ _ _) Try.underlying32 rfl (by kernel_rfl)) rfl ?_
     exact ⟨_, _, er_, by first | exact Kd.R_nil _ _ _ _ _ | exact Kd.N_nil _ _ _ _ _ | exact Kd.V_nil _ _ _ _ _ | exact Kd.Q_nil _ _ _ _ _ | exact Kd.S_nil _ _ _ _ _, by first | exact Kd.R_nil _ _ _ _ _ | exact Kd.N_nil _ _ _ _ _ | exact Kd.V_nil _ _ _ _ _ | exact Kd.Q_nil _ _ _ _ _ | exact Kd.S_nil _ _ _ _ _, blw HB⟩

def impl_Dot.f (k : Nat) (l0 : List (S32)) (l1 : List (S32)) : Option (Bool × List Int × List Int × Int) := (impl_vecsCode.f k (([l0, l1] : List (List (S32))))).bind fun tA5 => (if tA5 = 0 then ((impl_dot.f k l0 l1).bind fun btA3 => ((impl_fullRat.f btA3.1 btA3.2.1 btA3.2.2).bind fun btA1 => (some (btA1.1, btA1.2.1, btA1.2.2.1, btA1.2.2.2)))) else (some (false, ([] : List Int), ([] : List Int), tA5)))
set_option maxHeartbeats 8000000 in
set_option maxRecDepth 100000 in
theorem impl_Dot.calls (k : Nat) (P0_ : Nat → Prop) (A0 : Option Addr) (c0 : Nat) (l0 : List (S32)) (P1_ : Nat → Prop) (A1 : Option Addr) (c1 : Nat) (l1 : List (S32)) (r1 : Bool) (r2 : List Int) (r3 : List Int) (r4 : Int) (w : World) (hs0 : Kd.V k32 32 w w.heap.size (fun k_ => P0_ k_) (.slice A0 l0.length c0) l0) (hs1 : Kd.V k32 32 w w.heap.size (fun k_ => P1_ k_) (.slice A1 l1.length c1) l1) (h : impl_Dot.f k l0 l1 = some (r1, r2, r3, r4)) :
  Calls Try.prog 15 #[.slice A0 l0.length c0, .slice A1 l1.length c1] w fun e w' => ∃ v1_ v2_ : Value, e = .returned (.tuple #[.agg #[.bool r1, v1_, v2_], .int .i64 r4]) ∧ Kd.R (Kd.int .i64) 3 w' w.heap.size (fun k_ => (w.heap.size ≤ k_) ∧ nO k_ v2_) v1_ r2 ∧ Kd.R (Kd.int .i64) 3 w' w.heap.size (fun k_ => (w.heap.size ≤ k_) ∧ nO k_ v1_) v2_ r3 ∧ Below w.heap.size w w' := by
 have hu32 := Try.underlying32
 have HO0 := Aside0.mk (show Kd.V k32 32 w w.heap.size (fun k_ => ((P0_ k_ ∨ P1_ k_) ∨ w.heap.size ≤ k_)) (.slice A0 l0.length c0) l0 from Kd.V_mono hs0 (fun k_ hk => .inl (.inl hk)))
 have HO1 := Aside0.mk (show Kd.V k32 32 w w.heap.size (fun k_ => ((P0_ k_ ∨ P1_ k_) ∨ w.heap.size ≤ k_)) (.slice A1 l1.length c1) l1 from Kd.V_mono hs1 (fun k_ hk => .inl (.inr hk)))
 have HB := Aside0.mk (Below.refl w.heap.size w)
 have H : ((impl_vecsCode.f k (([l0, l1] : List (List (S32))))).bind fun tA5 => (if tA5 = 0 then ((impl_dot.f k l0 l1).bind fun btA3 => ((impl_fullRat.f btA3.1 btA3.2.1 btA3.2.2).bind fun btA1 => (some (btA1.1, btA1.2.1, btA1.2.2.1, btA1.2.2.2)))) else (some (false, ([] : List Int), ([] : List Int), tA5)))) = some (r1, r2, r3, r4) := h
 clear h
 obtain ⟨yA9, hy646⟩ : ∃ y_ : List (List (S32)), y_ = (([l0, l1] : List (List (S32)))) := ⟨_, rfl⟩
 replace H : ((impl_vecsCode.f k yA9).bind fun tA5 => (if tA5 = 0 then ((impl_dot.f k l0 l1).bind fun btA3 => ((impl_fullRat.f btA3.1 btA3.2.1 btA3.2.2).bind fun btA1 => (some (btA1.1, btA1.2.1, btA1.2.2.1, btA1.2.2.2)))) else (some (false, ([] : List Int), ([] : List Int), tA5)))) = some (r1, r2, r3, r4) := by subst hy646; first | with_reducible exact H | with_reducible exact (Option.bind_some _ _).symm.trans H | exact H
 have NyA9 := Aside0.mk hy646
 clear hy646
 replace H := Option.bind_eq_some_iff.mp H
 obtain ⟨tA5, A30, H⟩ := H
 replace H : (if tA5 = 0 then ((impl_dot.f k l0 l1).bind fun btA3 => ((impl_fullRat.f btA3.1 btA3.2.1 btA3.2.2).bind fun btA1 => (some (btA1.1, btA1.2.1, btA1.2.2.1, btA1.2.2.2)))) else (some (false, ([] : List Int), ([] : List Int), tA5))) = some (r1, r2, r3, r4) := H
 have A3 := Aside0.mk A30
 clear A30
 by_cases c4 : tA5 = 0
 ·
  rw [if_pos c4] at H
  have c4b0 : (tA5 == 0) = true := beq_iff_eq.mpr c4
  have c4b1 : (tA5 != 0) = false := bne_eq_false_iff_eq.mpr c4
  clear c4
  replace H := Option.bind_eq_some_iff.mp H
  obtain ⟨⟨tA3, tB4, tB5⟩, A50, H⟩ := H
  replace H : ((impl_fullRat.f tA3 tB4 tB5).bind fun btA1 => (some (btA1.1, btA1.2.1, btA1.2.2.1, btA1.2.2.2))) = some (r1, r2, r3, r4) := H
  have A5 := Aside0.mk A50
  clear A50
  replace H := Option.bind_eq_some_iff.mp H
  obtain ⟨⟨tA1, tC2, tC3, tC9⟩, A60, H⟩ := H
  replace H : (some (tA1, tC2, tC3, tC9)) = some (r1, r2, r3, r4) := H
  have A6 := Aside0.mk A60
  clear A60
  simp only [Option.some.injEq, Prod.mk.injEq] at H
  obtain ⟨rfl, rfl, rfl, rfl⟩ := H
  go_enter Try.func15, Try.ntmps15
  go_wp2_with (first | ((with_reducible refine gate_dst (N := 4) rfl ?_); refine bx_ (N := 4) (cs := #[.bool false, .slice none 0 0, .slice none 0 0]) (t := 32) ?_; intro gbA0 hg w7 hbox hb; replace HO0 := elbV HO0 hg hb; replace HO1 := elbV HO1 hg hb; have BKA0 := Aside0.mk (hbox); have GWA0 := geh hg HB; have GEA0 := geh hg HB; replace HB := bst HB hb; clear hb hbox hg) | ((with_reducible refine gate_dst (N := 9) rfl ?_); refine Kd.N_lit (Kd.slice 32 k32) _ 25 ?hg (N' := 9) ?hd (xs := ([l0, l1] : List (List (S32)))) (inner := [.slice A0 l0.length c0, .slice A1 l1.length c1]) (ok := (fun k_ => ((P0_ k_ ∨ P1_ k_) ∨ w.heap.size ≤ k_) ∧ k_ ≠ gbA0)) (okp := (fun k_ => ((P0_ k_ ∨ P1_ k_) ∨ w.heap.size ≤ k_) ∧ k_ ≠ gbA0)) ?hr ?hp (fun _ hk => hk) ((show ∀ k_, w7.heap.size ≤ k_ → (fun k_ => ((P0_ k_ ∨ P1_ k_) ∨ w.heap.size ≤ k_) ∧ k_ ≠ gbA0) k_ from fun k_ hk => ⟨(.inr (Nat.le_trans (bsz HB) hk)), Kd.freshB (g := gbA0) (o := .cells #[.bool false, .slice none 0 0, .slice none 0 0] 32 (0, 0)) (crb BKA0) k_ hk⟩) _ (Nat.le_refl _)) (Below.refl _ _) (Nat.le_refl _) (by simp) ?_; (case hd => rfl); (case hg => rfl); (case hr => first | (go_simp; done) | (go_simp; rfl)); (case hp => exact (Reps.one (show Kd.FK (Kd.slice 32 k32) _ _ l0 [.slice A0 l0.length c0] from (Kd.FK_slice_mk (Kd.V_reads' (Kd.V_mono (ok' := (fun k_ => ((P0_ k_ ∨ P1_ k_) ∨ w.heap.size ≤ k_) ∧ k_ ≠ gbA0)) (HO0.out) (fun k_ hk => ⟨hk.1, hk.2⟩))).2.1 (Kd.V_F (Kd.V_mono (ok' := (fun k_ => ((P0_ k_ ∨ P1_ k_) ∨ w.heap.size ≤ k_) ∧ k_ ≠ gbA0)) (HO0.out) (fun k_ hk => ⟨hk.1, hk.2⟩))))) (Reps.one (show Kd.FK (Kd.slice 32 k32) _ _ l1 [.slice A1 l1.length c1] from (Kd.FK_slice_mk (Kd.V_reads' (Kd.V_mono (ok' := (fun k_ => ((P0_ k_ ∨ P1_ k_) ∨ w.heap.size ≤ k_) ∧ k_ ≠ gbA0)) (HO1.out) (fun k_ hk => ⟨hk.1, hk.2⟩))).2.1 (Kd.V_F (Kd.V_mono (ok' := (fun k_ => ((P0_ k_ ∨ P1_ k_) ∨ w.heap.size ≤ k_) ∧ k_ ≠ gbA0)) (HO1.out) (fun k_ hk => ⟨hk.1, hk.2⟩))))) (Reps.none _ _)))); intro vD2 w8 ho9 hb hg_ hnew_; clear hg_ hnew_; (first | rw [← NyA9.out] at ho9 | (simp only [Int.reduceToNat] at ho9; rw [← NyA9.out] at ho9)); replace HO0 := eldV HO0 (Kd.N_base ho9) hb; replace HO1 := eldV HO1 (Kd.N_base ho9) hb; have HOA6 := Aside0.mk (Kd.N_lower ho9 (bsz HB)); replace BKA0 := bkb BKA0 hb; replace HB := bst HB hb; clear hb ho9; obtain ⟨Ao10, co10, eo10⟩ := Kd.N_slice HOA6.out; subst eo10) | ((with_reducible refine gate_callee (f := 32) rfl ?_); refine gL_ (some 10) Try.func32 #[.slice Ao10 yA9.length co10] ?_; (with_reducible refine (impl_vecsCode.calls k _ _ yA9 tA5 _ ?side1 ?side2 A3.out).mono ?_); (case side1 => exact crC (Kd.N_reads' HOA6.out).2.2); (case side2 => exact (Kd.N_reads' HOA6.out).2.1); rintro e w11 ⟨rfl, hb⟩; refine ⟨_, rfl, ?_⟩; replace HO0 := rblV HO0 hb; replace HO1 := rblV HO1 hb; replace HOA6 := Aside0.mk (Kd.N_below (by (with_reducible repeat (first | apply Kd.N_alloc | apply Kd.N_drewN | apply Kd.N_drew)); exact HOA6.out) hb); replace BKA0 := bkb BKA0 hb; replace HB := bst HB hb; (try clear hb); (try clear hb2); (try clear hk); (try clear hi)) | ((with_reducible refine gate_callee (f := 34) rfl ?_); refine gL_ (some 17) Try.func34 #[.slice A0 l0.length c0, .slice A1 l1.length c1] ?_; (with_reducible refine (impl_dot.calls k _ _ l0 _ _ l1 tA3 tB4 tB5 _ ?side1 ?side2 ?side3 ?side4 A5.out).mono ?_); (case side1 => exact crC (Kd.V_reads' HO0.out).2.2); (case side2 => exact (Kd.V_reads' HO0.out).2.1); (case side3 => exact crC (Kd.V_reads' HO1.out).2.2); (case side4 => exact (Kd.V_reads' HO1.out).2.1); rintro e w12 ⟨vD7, vD8, rfl, ho0, ho1, hb⟩; refine ⟨_, rfl, ?_⟩; replace HO0 := tldV HO0 hb (Kd.R_base ho0) (Kd.R_base ho1); replace HO1 := tldV HO1 hb (Kd.R_base ho0) (Kd.R_base ho1); replace HOA6 := Aside0.mk (Kd.N_mono (Kd.N_told (Kd.N_told (Kd.N_old (by (with_reducible repeat (first | apply Kd.N_alloc | apply Kd.N_drewN | apply Kd.N_drew)); exact HOA6.out) hb) (Kd.R_base ho0)) (Kd.R_base ho1)) (fun _ h_ => h_.1)); have HOB2 := lwR (Kd.R_newM (M := fun k_ => (w.heap.size ≤ k_)) ho0 (bsz HB) (fun k_ h_ => h_)) HB; have HOB3 := lwR (Kd.R_newM (M := fun k_ => (w.heap.size ≤ k_)) ho1 (bsz HB) (fun k_ h_ => h_)) HB; replace BKA0 := bkb BKA0 hb; replace HB := bst HB hb; (try clear hb); (try clear hb2); (try clear hk); (try clear hi); (try clear ho0); (try clear ho1); obtain ⟨Ao13, co13, eo13⟩ := Kd.R_slice HOB2.out; subst eo13; obtain ⟨Ao14, co14, eo14⟩ := Kd.R_slice HOB3.out; subst eo14) | ((with_reducible refine gate_callee (f := 33) rfl ?_); refine gL_ (some 18) Try.func33 #[.agg #[.bool tA3, .slice Ao13 tB4.length co13, .slice Ao14 tB5.length co14]] ?_; (with_reducible refine (impl_fullRat.calls tA3 (fun k_ => some k_ = (.slice Ao13 tB4.length co13 : Value).ownBlock) (.slice Ao13 tB4.length co13) tB4 (fun k_ => some k_ = (.slice Ao14 tB5.length co14 : Value).ownBlock) (.slice Ao14 tB5.length co14) tB5 tA1 tC2 tC3 tC9 w _ ?side1 ?side2 ?side3 ?side4 ?side5 A6.out).mono ?_); (case side1 => repeat (first | (with_reducible first | exact HB.out | apply below_alloc | apply pw_below_drewN | apply below_drew1 | refine below_set ?_ GEA0.out) | exact HB.out)); (case side2 => exact Kd.R_tight rfl HOB2.out); (case side3 => exact fun k_ e_ => (HOB2.out.1 k_ e_.symm).2); (case side4 => exact Kd.R_tight rfl HOB3.out); (case side5 => exact fun k_ e_ => (HOB3.out.1 k_ e_.symm).2); rintro e w15 ⟨vB8, vB9, rfl, ho0, ho1, hb, hkp⟩; refine ⟨_, rfl, ?_⟩; replace HO0 := Aside0.mk (Kd.V_mono (ok' := fun k_ => ((P0_ k_ ∨ P1_ k_) ∨ w.heap.size ≤ k_) ∧ nO k_ (.slice Ao10 yA9.length co10) ∧ k_ ≠ gbA0 ∧ nO k_ vB8 ∧ nO k_ vB9) (Kd.V_keptB (HO0.out) hkp (fun k_ hk_ hs_ => Or.elim hs_ (fun e_ => (hk_.1.2) e_) (fun e_ => (hk_.2) e_))) (fun k_ hk_ => ⟨hk_.1.1.1.1.1, hk_.1.1.1.2, hk_.1.1.1.1.2, fun e_ => Or.elim (ho0.1 k_ e_.symm).1 (fun hs_ => hk_.2.1 hs_) (fun hn_ => Nat.not_le.2 hk_.2.2 hn_), fun e_ => Or.elim (ho1.1 k_ e_.symm).1 (fun hs_ => hk_.2.1 hs_) (fun hn_ => Nat.not_le.2 hk_.2.2 hn_)⟩)); replace HO1 := Aside0.mk (Kd.V_mono (ok' := fun k_ => ((P0_ k_ ∨ P1_ k_) ∨ w.heap.size ≤ k_) ∧ nO k_ (.slice Ao10 yA9.length co10) ∧ k_ ≠ gbA0 ∧ nO k_ vB8 ∧ nO k_ vB9) (Kd.V_keptB (HO1.out) hkp (fun k_ hk_ hs_ => Or.elim hs_ (fun e_ => (hk_.1.2) e_) (fun e_ => (hk_.2) e_))) (fun k_ hk_ => ⟨hk_.1.1.1.1.1, hk_.1.1.1.2, hk_.1.1.1.1.2, fun e_ => Or.elim (ho0.1 k_ e_.symm).1 (fun hs_ => hk_.2.1 hs_) (fun hn_ => Nat.not_le.2 hk_.2.2 hn_), fun e_ => Or.elim (ho1.1 k_ e_.symm).1 (fun hs_ => hk_.2.1 hs_) (fun hn_ => Nat.not_le.2 hk_.2.2 hn_)⟩)); replace BKA0 := Aside0.mk (blk_kept (crb BKA0) hkp (fun hs_ => Or.elim hs_ (fun e_ => (fun e_ => (Kd.R_ne HOB2.out BKA0.out (by decide)) e_) e_) (fun e_ => (fun e_ => (Kd.R_ne HOB3.out BKA0.out (by decide)) e_) e_))); replace HOA6 := Aside0.mk (Kd.N_mono (ok' := fun k_ => ((P0_ k_ ∨ P1_ k_) ∨ w.heap.size ≤ k_) ∧ k_ ≠ gbA0 ∧ nO k_ vB8 ∧ nO k_ vB9) (Kd.N_keptB (HOA6.out) hkp (fun k_ hk_ hs_ => Or.elim hs_ (fun e_ => (hk_.1.2) e_) (fun e_ => (hk_.2) e_))) (fun k_ hk_ => ⟨hk_.1.1.1.1, hk_.1.1.1.2, fun e_ => Or.elim (ho0.1 k_ e_.symm).1 (fun hs_ => hk_.2.1 hs_) (fun hn_ => Nat.not_le.2 hk_.2.2 hn_), fun e_ => Or.elim (ho1.1 k_ e_.symm).1 (fun hs_ => hk_.2.1 hs_) (fun hn_ => Nat.not_le.2 hk_.2.2 hn_)⟩)); have HOD0 := Aside0.mk (Kd.R_mono (ok' := fun k_ => (w.heap.size ≤ k_) ∧ nO k_ vB9) ho0 (fun k_ hk_ => ⟨Or.elim hk_.1 (fun hs_ => Or.elim hs_ (fun hs_ => (HOB2.out.1 k_ (hs_).symm).1) (fun hs_ => (HOB3.out.1 k_ (hs_).symm).1)) (fun hn_ => (Nat.le_trans (bsz HB) hn_)), hk_.2⟩)); have HOD1 := Aside0.mk (Kd.R_mono (ok' := fun k_ => (w.heap.size ≤ k_) ∧ nO k_ vB8) ho1 (fun k_ hk_ => ⟨Or.elim hk_.1 (fun hs_ => Or.elim hs_ (fun hs_ => (HOB2.out.1 k_ (hs_).symm).1) (fun hs_ => (HOB3.out.1 k_ (hs_).symm).1)) (fun hn_ => (Nat.le_trans (bsz HB) hn_)), hk_.2⟩)); replace HB := Aside0.mk (hb); clear HOB2 HOB3; (try clear hb); (try clear hkp); (try clear ho0); (try clear ho1); obtain ⟨hcz16_0, hcz16_1, hcz16_2, hfz16_0, hfz16_1, hfz16_2⟩ := bc3 BKA0; obtain ⟨Ao17, co17, eo17⟩ := Kd.R_slice HOD0.out; subst eo17; obtain ⟨Ao18, co18, eo18⟩ := Kd.R_slice HOD1.out; subst eo18))
  refine bodyPost_ret (results_ct rfl _ _ gbA0 32 #[.bool tA1, .slice Ao17 tC2.length co17, .slice Ao18 tC3.length co18] (0, 0) _ rfl (bp3 BKA0 _ _ _) Try.underlying32 rfl (by kernel_rfl)) rfl ?_
  exact ⟨_, _, er_, (crN HOD0 BKA0 fun _ hk => ⟨hk.1.1, hk.1.2⟩), (crN HOD1 BKA0 fun _ hk => ⟨hk.1.1, hk.1.2⟩), blw HB⟩
 ·
  rw [if_neg c4] at H
  have c4b0 : (tA5 == 0) = false := beq_eq_false_iff_ne.mpr c4
  have c4b1 : (tA5 != 0) = true := bne_iff_ne.mpr c4
  simp only [Option.some.injEq, Prod.mk.injEq] at H
  obtain ⟨rfl, rfl, rfl, rfl⟩ := H
  go_enter Try.func15, Try.ntmps15
  go_wp2_with (first | ((with_reducible refine gate_dst (N := 4) rfl ?_); refine bx_ (N := 4) (cs := #[.bool false, .slice none 0 0, .slice none 0 0]) (t := 32) ?_; intro gbA0 hg w19 hbox hb; replace HO0 := elbV HO0 hg hb; replace HO1 := elbV HO1 hg hb; have BKA0 := Aside0.mk (hbox); have GWA0 := geh hg HB; have GEA0 := geh hg HB; replace HB := bst HB hb; clear hb hbox hg) | ((with_reducible refine gate_dst (N := 9) rfl ?_); refine Kd.N_lit (Kd.slice 32 k32) _ 25 ?hg (N' := 9) ?hd (xs := ([l0, l1] : List (List (S32)))) (inner := [.slice A0 l0.length c0, .slice A1 l1.length c1]) (ok := (fun k_ => ((P0_ k_ ∨ P1_ k_) ∨ w.heap.size ≤ k_) ∧ k_ ≠ gbA0)) (okp := (fun k_ => ((P0_ k_ ∨ P1_ k_) ∨ w.heap.size ≤ k_) ∧ k_ ≠ gbA0)) ?hr ?hp (fun _ hk => hk) ((show ∀ k_, w19.heap.size ≤ k_ → (fun k_ => ((P0_ k_ ∨ P1_ k_) ∨ w.heap.size ≤ k_) ∧ k_ ≠ gbA0) k_ from fun k_ hk => ⟨(.inr (Nat.le_trans (bsz HB) hk)), Kd.freshB (g := gbA0) (o := .cells #[.bool false, .slice none 0 0, .slice none 0 0] 32 (0, 0)) (crb BKA0) k_ hk⟩) _ (Nat.le_refl _)) (Below.refl _ _) (Nat.le_refl _) (by simp) ?_; (case hd => rfl); (case hg => rfl); (case hr => first | (go_simp; done) | (go_simp; rfl)); (case hp => exact (Reps.one (show Kd.FK (Kd.slice 32 k32) _ _ l0 [.slice A0 l0.length c0] from (Kd.FK_slice_mk (Kd.V_reads' (Kd.V_mono (ok' := (fun k_ => ((P0_ k_ ∨ P1_ k_) ∨ w.heap.size ≤ k_) ∧ k_ ≠ gbA0)) (HO0.out) (fun k_ hk => ⟨hk.1, hk.2⟩))).2.1 (Kd.V_F (Kd.V_mono (ok' := (fun k_ => ((P0_ k_ ∨ P1_ k_) ∨ w.heap.size ≤ k_) ∧ k_ ≠ gbA0)) (HO0.out) (fun k_ hk => ⟨hk.1, hk.2⟩))))) (Reps.one (show Kd.FK (Kd.slice 32 k32) _ _ l1 [.slice A1 l1.length c1] from (Kd.FK_slice_mk (Kd.V_reads' (Kd.V_mono (ok' := (fun k_ => ((P0_ k_ ∨ P1_ k_) ∨ w.heap.size ≤ k_) ∧ k_ ≠ gbA0)) (HO1.out) (fun k_ hk => ⟨hk.1, hk.2⟩))).2.1 (Kd.V_F (Kd.V_mono (ok' := (fun k_ => ((P0_ k_ ∨ P1_ k_) ∨ w.heap.size ≤ k_) ∧ k_ ≠ gbA0)) (HO1.out) (fun k_ hk => ⟨hk.1, hk.2⟩))))) (Reps.none _ _)))); intro vD2 w20 ho21 hb hg_ hnew_; clear hg_ hnew_; (first | rw [← NyA9.out] at ho21 | (simp only [Int.reduceToNat] at ho21; rw [← NyA9.out] at ho21)); replace HO0 := eldV HO0 (Kd.N_base ho21) hb; replace HO1 := eldV HO1 (Kd.N_base ho21) hb; have HOA6 := Aside0.mk (Kd.N_lower ho21 (bsz HB)); replace BKA0 := bkb BKA0 hb; replace HB := bst HB hb; clear hb ho21; obtain ⟨Ao22, co22, eo22⟩ := Kd.N_slice HOA6.out; subst eo22) | ((with_reducible refine gate_callee (f := 32) rfl ?_); refine gL_ (some 10) Try.func32 #[.slice Ao22 yA9.length co22] ?_; (with_reducible refine (impl_vecsCode.calls k _ _ yA9 tA5 _ ?side1 ?side2 A3.out).mono ?_); (case side1 => exact crC (Kd.N_reads' HOA6.out).2.2); (case side2 => exact (Kd.N_reads' HOA6.out).2.1); rintro e w23 ⟨rfl, hb⟩; refine ⟨_, rfl, ?_⟩; replace HO0 := rblV HO0 hb; replace HO1 := rblV HO1 hb; replace HOA6 := Aside0.mk (Kd.N_below (by (with_reducible repeat (first | apply Kd.N_alloc | apply Kd.N_drewN | apply Kd.N_drew)); exact HOA6.out) hb); replace BKA0 := bkb BKA0 hb; replace HB := bst HB hb; (try clear hb); (try clear hb2); (try clear hk); (try clear hi); obtain ⟨hcz24_0, hcz24_1, hcz24_2, hfz24_0, hfz24_1, hfz24_2⟩ := bc3 BKA0))
  refine bodyPost_ret (results_ct rfl _ _ gbA0 32 #[.bool false, .slice none 0 0, .slice none 0 0] (0, 0) _ rfl (bp3 BKA0 _ _ _) Try.underlying32 rfl (by kernel_rfl)) rfl ?_
  exact ⟨_, _, er_, by first | exact Kd.R_nil _ _ _ _ _ | exact Kd.N_nil _ _ _ _ _ | exact Kd.V_nil _ _ _ _ _ | exact Kd.Q_nil _ _ _ _ _ | exact Kd.S_nil _ _ _ _ _, by first | exact Kd.R_nil _ _ _ _ _ | exact Kd.N_nil _ _ _ _ _ | exact Kd.V_nil _ _ _ _ _ | exact Kd.Q_nil _ _ _ _ _ | exact Kd.S_nil _ _ _ _ _, blw HB⟩

end Go.Proofs.Ytegbmillbbcmfaa.Q
