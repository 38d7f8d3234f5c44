-- several texts of this claim in one
import Derived.Test.YtacdaijalkkogaaQa
import Derived.Test.YtacdaijalkkogaaWords
import Derived.Test.YtacdaijalkkogaaQb
import Derived.Test.YtacdaijalkkogaaQxdiv
import Derived.Test.YtacdaijalkkogaaQc
import Derived.Test.YtacdaijalkkogaaQd
namespace Go.Proofs.Ytacdaijalkkogaa.Q
open Go.RowKit Go.Proofs.YtacdaijalkkogaaW.PrintWords Go.Proofs.YtacdaijalkkogaaW.PrintLast Go.Proofs.YtacdaijalkkogaaW.PrintMore
attribute [local go_sem] max2_int min2_int max_two min_two max_three min_three max_four min_four   -- for this text's walks alone
set_option linter.unusedVariables false
set_option linter.unusedSimpArgs false
def spec_FloorRat.f (k : Nat) (a0_0 : Bool) (l0_1 : List Int) (l0_2 : List Int) : Option (Bool × List Int × List Int × Int) := (spec_RatOK.f k a0_0 l0_1 l0_2).bind fun tC8 => (if tC8 = true then ((spec_l02Floor.f k a0_0 l0_1 l0_2).bind fun btB3 => ((spec_l02Fit.f btB3.1 btB3.2.1 btB3.2.2).bind fun btA7 => (some (btA7.1, btA7.2.1, btA7.2.2.1, btA7.2.2.2)))) else (some (false, ([] : List Int), ([] : List Int), 1)))
set_option maxHeartbeats 8000000 in
set_option maxRecDepth 100000 in
theorem spec_FloorRat.calls (k : Nat) (a0_0 : Bool) (A0_1 : Option Addr) (c0_1 : Nat) (l0_1 : List Int) (A0_2 : Option Addr) (c0_2 : Nat) (l0_2 : List Int) (r1 : Bool) (r2 : List Int) (r3 : List Int) (r4 : Int) (w : World) (hr0_1 : Kd.C (Kd.int .i64) w A0_1 l0_1.length l0_1) (hc0_1 : l0_1.length ≤ c0_1) (hr0_2 : Kd.C (Kd.int .i64) w A0_2 l0_2.length l0_2) (hc0_2 : l0_2.length ≤ c0_2) (h : spec_FloorRat.f k a0_0 l0_1 l0_2 = some (r1, r2, r3, r4)) :
  Calls Try.prog 30 #[.agg #[.bool a0_0, .slice A0_1 l0_1.length c0_1, .slice A0_2 l0_2.length c0_2]] w fun e w' => ∃ v1_ v2_ : Value, e = .returned (.tuple #[.agg #[.bool r1, v1_, v2_], .int .i64 r4]) ∧ Kd.R (Kd.int .i64) 3 w' w.heap.size (fun k_ => nO k_ v2_) v1_ r2 ∧ Kd.R (Kd.int .i64) 3 w' w.heap.size (fun k_ => nO k_ v1_) v2_ r3 ∧ Below w.heap.size w w' := by
 have hu24 := Try.underlying24
 have HR0_1 := Aside0.mk hr0_1
 have HC0_1 := Aside0.mk hc0_1
 clear hr0_1 hc0_1
 have HR0_2 := Aside0.mk hr0_2
 have HC0_2 := Aside0.mk hc0_2
 clear hr0_2 hc0_2
 have HB := Aside0.mk (Below.refl w.heap.size w)
 have H : ((spec_RatOK.f k a0_0 l0_1 l0_2).bind fun tC8 => (if tC8 = true then ((spec_l02Floor.f k a0_0 l0_1 l0_2).bind fun btB3 => ((spec_l02Fit.f btB3.1 btB3.2.1 btB3.2.2).bind fun btA7 => (some (btA7.1, btA7.2.1, btA7.2.2.1, btA7.2.2.2)))) else (some (false, ([] : List Int), ([] : List Int), 1)))) = some (r1, r2, r3, r4) := h
 clear h
 replace H := Option.bind_eq_some_iff.mp H
 obtain ⟨tC8, A20, H⟩ := H
 replace H : (if tC8 = true then ((spec_l02Floor.f k a0_0 l0_1 l0_2).bind fun btB3 => ((spec_l02Fit.f btB3.1 btB3.2.1 btB3.2.2).bind fun btA7 => (some (btA7.1, btA7.2.1, btA7.2.2.1, btA7.2.2.2)))) else (some (false, ([] : List Int), ([] : List Int), 1))) = some (r1, r2, r3, r4) := H
 have A2 := Aside0.mk A20
 clear A20
 by_cases c3 : tC8 = true
 ·
  subst c3
  rw [if_pos rfl] at H
  replace H := Option.bind_eq_some_iff.mp H
  obtain ⟨⟨tB3, tD3, tD4⟩, A40, H⟩ := H
  replace H : ((spec_l02Fit.f tB3 tD3 tD4).bind fun btA7 => (some (btA7.1, btA7.2.1, btA7.2.2.1, btA7.2.2.2))) = some (r1, r2, r3, r4) := H
  have A4 := Aside0.mk A40
  clear A40
  replace H := Option.bind_eq_some_iff.mp H
  obtain ⟨⟨tA7, tD5, tD6, tF1⟩, A50, H⟩ := H
  replace H : (some (tA7, tD5, tD6, tF1)) = some (r1, r2, r3, r4) := H
  have A5 := Aside0.mk A50
  clear A50
  simp only [Option.some.injEq, Prod.mk.injEq] at H
  obtain ⟨rfl, rfl, rfl, rfl⟩ := H
  go_enter Try.func30, Try.ntmps30
  go_wp2_with (first | ((with_reducible refine gate_dst (N := 1) rfl ?_); refine bx_ (N := 1) (cs := #[.bool a0_0, .slice A0_1 l0_1.length c0_1, .slice A0_2 l0_2.length c0_2]) (t := 24) ?_; intro gbA4 hg w6 hbox hb; have BKA4 := Aside0.mk (hbox); have GWA4 := geh hg HB; have GEA4 := geh hg HB; replace HB := bst HB hb; clear hb hbox hg) | ((with_reducible refine gate_dst (N := 2) rfl ?_); refine bx_ (N := 2) (cs := #[.bool false, .slice none 0 0, .slice none 0 0]) (t := 24) ?_; intro gbA5 hg w7 hbox hb; have BKA5 := Aside0.mk (hbox); have GWA5 := geh hg HB; have GEA5 := geh hg HB; replace HB := bst HB hb; have NBA4_A5 := nlt hg BKA4; have NBA5_A4 := ngt hg BKA4; replace BKA4 := bkb BKA4 hb; clear hb hbox hg; have hnb8 := NBA4_A5.out; have hnc8 := NBA5_A4.out; obtain ⟨hcz9_0, hcz9_1, hcz9_2, hfz9_0, hfz9_1, hfz9_2⟩ := bc3 BKA4) | ((with_reducible refine gate_callee (f := 21) rfl ?_); refine gL_ (some 5) Try.func21 #[.agg #[.bool a0_0, .slice A0_1 l0_1.length c0_1, .slice A0_2 l0_2.length c0_2]] ?_; (with_reducible refine (spec_RatOK.calls k a0_0 _ _ l0_1 _ _ l0_2 true _ ?side1 ?side2 ?side3 ?side4 A2.out).mono ?_); (case side1 => exact crC (Kd.C_below HR0_1.out HB.out)); (case side2 => exact HC0_1.out); (case side3 => exact crC (Kd.C_below HR0_2.out HB.out)); (case side4 => exact HC0_2.out); rintro e w10 ⟨rfl, hb⟩; refine ⟨_, rfl, ?_⟩; replace BKA4 := bkb BKA4 hb; replace BKA5 := bkb BKA5 hb; replace HB := bst HB hb; (try clear hb); (try clear hb2); (try clear hk); (try clear hi); obtain ⟨hcz11_0, hcz11_1, hcz11_2, hfz11_0, hfz11_1, hfz11_2⟩ := bc3 BKA4) | ((with_reducible refine gate_callee (f := 74) rfl ?_); refine gL_ (some 9) Try.func74 #[.agg #[.bool a0_0, .slice A0_1 l0_1.length c0_1, .slice A0_2 l0_2.length c0_2]] ?_; (with_reducible refine (spec_l02Floor.calls k a0_0 _ _ l0_1 _ _ l0_2 tB3 tD3 tD4 _ ?side1 ?side2 ?side3 ?side4 A4.out).mono ?_); (case side1 => exact crC (Kd.C_below HR0_1.out HB.out)); (case side2 => exact HC0_1.out); (case side3 => exact crC (Kd.C_below HR0_2.out HB.out)); (case side4 => exact HC0_2.out); rintro e w12 ⟨vI1, vI2, rfl, ho0, ho1, hb⟩; refine ⟨_, rfl, ?_⟩; have HOC6 := lwR ho0 HB; have HOC7 := lwR ho1 HB; replace BKA4 := bkb BKA4 hb; replace BKA5 := bkb BKA5 hb; replace HB := bst HB hb; (try clear hb); (try clear hb2); (try clear hk); (try clear hi); (try clear ho0); (try clear ho1); obtain ⟨Ao13, co13, eo13⟩ := Kd.R_slice HOC6.out; subst eo13; obtain ⟨Ao14, co14, eo14⟩ := Kd.R_slice HOC7.out; subst eo14) | ((with_reducible refine gate_callee (f := 70) rfl ?_); refine gL_ (some 10) Try.func70 #[.agg #[.bool tB3, .slice Ao13 tD3.length co13, .slice Ao14 tD4.length co14]] ?_; (with_reducible refine (spec_l02Fit.calls tB3 _ _ tD3 _ _ tD4 tA7 tD5 tD6 tF1 _ ?side1 ?side2 ?side3 ?side4 A5.out).mono ?_); (case side1 => exact crC (Kd.R_reads' HOC6.out).2.2); (case side2 => exact (Kd.R_reads' HOC6.out).2.1); (case side3 => exact crC (Kd.R_reads' HOC7.out).2.2); (case side4 => exact (Kd.R_reads' HOC7.out).2.1); rintro e w15 ⟨vI3, vI4, rfl, ho0, ho1, hb⟩; refine ⟨_, rfl, ?_⟩; have HOF2 := lwR (nwR (nwR ho0 HOC6) HOC7) HB; have HOF3 := lwR (nwR (nwR ho1 HOC6) HOC7) HB; replace HOC6 := tldR HOC6 hb (Kd.R_base ho0) (Kd.R_base ho1); replace HOC7 := tldR HOC7 hb (Kd.R_base ho0) (Kd.R_base ho1); replace BKA4 := bkb BKA4 hb; replace BKA5 := bkb BKA5 hb; replace HB := bst HB hb; (try clear hb); (try clear hb2); (try clear hk); (try clear hi); (try clear ho0); (try clear ho1); obtain ⟨hcz16_0, hcz16_1, hcz16_2, hfz16_0, hfz16_1, hfz16_2⟩ := bc3 BKA5; obtain ⟨Ao17, co17, eo17⟩ := Kd.R_slice HOF2.out; subst eo17; obtain ⟨Ao18, co18, eo18⟩ := Kd.R_slice HOF3.out; subst eo18))
  refine bodyPost_ret (results_ct rfl _ _ gbA5 24 #[.bool tA7, .slice Ao17 tD5.length co17, .slice Ao18 tD6.length co18] (0, 0) _ rfl (bp3 BKA5 _ _ _) Try.underlying24 rfl (by kernel_rfl)) rfl ?_
  exact ⟨_, _, er_, (crN HOF2 BKA5 fun _ hk => hk.1.1.1), (crN HOF3 BKA5 fun _ hk => hk.1.1.1), blw HB⟩
 ·
  replace c3 := Bool.eq_false_iff.mpr c3
  subst c3
  rw [if_neg (show ¬ (false = true) by decide)] at H
  simp only [Option.some.injEq, Prod.mk.injEq] at H
  obtain ⟨rfl, rfl, rfl, rfl⟩ := H
  go_enter Try.func30, Try.ntmps30
  go_wp2_with (first | ((with_reducible refine gate_dst (N := 1) rfl ?_); refine bx_ (N := 1) (cs := #[.bool a0_0, .slice A0_1 l0_1.length c0_1, .slice A0_2 l0_2.length c0_2]) (t := 24) ?_; intro gbA4 hg w19 hbox hb; have BKA4 := Aside0.mk (hbox); have GWA4 := geh hg HB; have GEA4 := geh hg HB; replace HB := bst HB hb; clear hb hbox hg) | ((with_reducible refine gate_dst (N := 2) rfl ?_); refine bx_ (N := 2) (cs := #[.bool false, .slice none 0 0, .slice none 0 0]) (t := 24) ?_; intro gbA5 hg w20 hbox hb; have BKA5 := Aside0.mk (hbox); have GWA5 := geh hg HB; have GEA5 := geh hg HB; replace HB := bst HB hb; have NBA4_A5 := nlt hg BKA4; have NBA5_A4 := ngt hg BKA4; replace BKA4 := bkb BKA4 hb; clear hb hbox hg; have hnb21 := NBA4_A5.out; have hnc21 := NBA5_A4.out; obtain ⟨hcz22_0, hcz22_1, hcz22_2, hfz22_0, hfz22_1, hfz22_2⟩ := bc3 BKA4) | ((with_reducible refine gate_callee (f := 21) rfl ?_); refine gL_ (some 5) Try.func21 #[.agg #[.bool a0_0, .slice A0_1 l0_1.length c0_1, .slice A0_2 l0_2.length c0_2]] ?_; (with_reducible refine (spec_RatOK.calls k a0_0 _ _ l0_1 _ _ l0_2 false _ ?side1 ?side2 ?side3 ?side4 A2.out).mono ?_); (case side1 => exact crC (Kd.C_below HR0_1.out HB.out)); (case side2 => exact HC0_1.out); (case side3 => exact crC (Kd.C_below HR0_2.out HB.out)); (case side4 => exact HC0_2.out); rintro e w23 ⟨rfl, hb⟩; refine ⟨_, rfl, ?_⟩; replace BKA4 := bkb BKA4 hb; replace BKA5 := bkb BKA5 hb; replace HB := bst HB hb; (try clear hb); (try clear hb2); (try clear hk); (try clear hi); obtain ⟨hcz24_0, hcz24_1, hcz24_2, hfz24_0, hfz24_1, hfz24_2⟩ := bc3 BKA5))
  refine bodyPost_ret (results_ct rfl _ _ gbA5 24 #[.bool false, .slice none 0 0, .slice none 0 0] (0, 0) _ rfl (bp3 BKA5 _ _ _) Try.underlying24 rfl (by kernel_rfl)) rfl ?_
  exact ⟨_, _, er_, by first | exact Kd.R_nil _ _ _ _ _ | exact Kd.N_nil _ _ _ _ _ | exact Kd.V_nil _ _ _ _ _ | exact Kd.Q_nil _ _ _ _ _ | exact Kd.S_nil _ _ _ _ _, by first | exact Kd.R_nil _ _ _ _ _ | exact Kd.N_nil _ _ _ _ _ | exact Kd.V_nil _ _ _ _ _ | exact Kd.Q_nil _ _ _ _ _ | exact Kd.S_nil _ _ _ _ _, blw HB⟩

theorem floor_gt (l : List Int) : decide (0 < l.length) = decide ((l.length : Int) > 0) := by simp only [decide_eq_decide]; omega
def impl_FloorRat.j0 : Nat → List Int → Bool → Bool → List Int → List Int → Option (Bool × List Int × List Int × Int)
 | 0, _, _, _, _, _ => none
 | k + 1, x5, x28, x889000, x889001, x889002 => if x28 = true then ((impl_one.f).bind fun tB1 => ((impl_natAdd.f k x5 tB1).bind fun tA6 => (if x889000 = true then ((impl_one.f).bind fun tB7 => ((impl_fullRat.f (decide ((tA6.length : Int) > 0)) tA6 tB7).bind fun btA8 => (some (btA8.1, btA8.2.1, btA8.2.2.1, btA8.2.2.2)))) else ((impl_one.f).bind fun tB8 => ((impl_fullRat.f false tA6 tB8).bind fun btA9 => (some (btA9.1, btA9.2.1, btA9.2.2.1, btA9.2.2.2))))))) else (if x889000 = true then ((impl_one.f).bind fun tC0 => ((impl_fullRat.f (decide ((x5.length : Int) > 0)) x5 tC0).bind fun btB4 => (some (btB4.1, btB4.2.1, btB4.2.2.1, btB4.2.2.2)))) else ((impl_one.f).bind fun tC1 => ((impl_fullRat.f false x5 tC1).bind fun btB5 => (some (btB5.1, btB5.2.1, btB5.2.2.1, btB5.2.2.2)))))
def impl_FloorRat.f (k : Nat) (a0_0 : Bool) (l0_1 : List Int) (l0_2 : List Int) : Option (Bool × List Int × List Int × Int) := (impl_ratsCode.f k (([(⟨a0_0, l0_1, l0_2⟩ : S24)] : List (S24)))).bind fun tB2 => (if tB2 = 0 then ((impl_natDiv.f l0_1 l0_2).bind fun btA2 => (if a0_0 = true then (impl_FloorRat.j0 k btA2.1 (decide ((btA2.2.length : Int) > 0)) a0_0 l0_1 l0_2) else (impl_FloorRat.j0 k btA2.1 false a0_0 l0_1 l0_2))) else (some (false, ([] : List Int), ([] : List Int), tB2)))
set_option maxHeartbeats 8000000 in
set_option maxRecDepth 100000 in
theorem impl_FloorRat.calls (k : Nat) (a0_0 : Bool) (P0_1_ : Nat → Prop) (A0_1 : Option Addr) (c0_1 : Nat) (l0_1 : List Int) (P0_2_ : Nat → Prop) (A0_2 : Option Addr) (c0_2 : Nat) (l0_2 : List Int) (r1 : Bool) (r2 : List Int) (r3 : List Int) (r4 : Int) (w : World) (hs0_1 : Kd.V (Kd.int .i64) 3 w w.heap.size (fun k_ => P0_1_ k_) (.slice A0_1 l0_1.length c0_1) l0_1) (hs0_2 : Kd.V (Kd.int .i64) 3 w w.heap.size (fun k_ => P0_2_ k_) (.slice A0_2 l0_2.length c0_2) l0_2) (h : impl_FloorRat.f k a0_0 l0_1 l0_2 = some (r1, r2, r3, r4)) :
  Calls Try.prog 31 #[.agg #[.bool a0_0, .slice A0_1 l0_1.length c0_1, .slice A0_2 l0_2.length c0_2]] w fun e w' => ∃ v1_ v2_ : Value, e = .returned (.tuple #[.agg #[.bool r1, v1_, v2_], .int .i64 r4]) ∧ Kd.R (Kd.int .i64) 3 w' w.heap.size (fun k_ => (w.heap.size ≤ k_) ∧ nO k_ v2_) v1_ r2 ∧ Kd.R (Kd.int .i64) 3 w' w.heap.size (fun k_ => (w.heap.size ≤ k_) ∧ nO k_ v1_) v2_ r3 ∧ Below w.heap.size w w' := by
 have hu24 := Try.underlying24
 have HO0_1 := Aside0.mk (show Kd.V (Kd.int .i64) 3 w w.heap.size (fun k_ => ((P0_1_ k_ ∨ P0_2_ k_) ∨ w.heap.size ≤ k_)) (.slice A0_1 l0_1.length c0_1) l0_1 from Kd.V_mono hs0_1 (fun k_ hk => .inl (.inl hk)))
 have HO0_2 := Aside0.mk (show Kd.V (Kd.int .i64) 3 w w.heap.size (fun k_ => ((P0_1_ k_ ∨ P0_2_ k_) ∨ w.heap.size ≤ k_)) (.slice A0_2 l0_2.length c0_2) l0_2 from Kd.V_mono hs0_2 (fun k_ hk => .inl (.inr hk)))
 have HB := Aside0.mk (Below.refl w.heap.size w)
 have H : ((impl_ratsCode.f k (([(⟨a0_0, l0_1, l0_2⟩ : S24)] : List (S24)))).bind fun tB2 => (if tB2 = 0 then ((impl_natDiv.f l0_1 l0_2).bind fun btA2 => (if a0_0 = true then (impl_FloorRat.j0 k btA2.1 (decide ((btA2.2.length : Int) > 0)) a0_0 l0_1 l0_2) else (impl_FloorRat.j0 k btA2.1 false a0_0 l0_1 l0_2))) else (some (false, ([] : List Int), ([] : List Int), tB2)))) = some (r1, r2, r3, r4) := h
 clear h
 obtain ⟨yB9, hy890⟩ : ∃ y_ : List (S24), y_ = (([(⟨a0_0, l0_1, l0_2⟩ : S24)] : List (S24))) := ⟨_, rfl⟩
 replace H : ((impl_ratsCode.f k yB9).bind fun tB2 => (if tB2 = 0 then ((impl_natDiv.f l0_1 l0_2).bind fun btA2 => (if a0_0 = true then (impl_FloorRat.j0 k btA2.1 (decide ((btA2.2.length : Int) > 0)) a0_0 l0_1 l0_2) else (impl_FloorRat.j0 k btA2.1 false a0_0 l0_1 l0_2))) else (some (false, ([] : List Int), ([] : List Int), tB2)))) = some (r1, r2, r3, r4) := by subst hy890; first | with_reducible exact H | with_reducible exact (Option.bind_some _ _).symm.trans H | exact H
 have NyB9 := Aside0.mk hy890
 clear hy890
 replace H := Option.bind_eq_some_iff.mp H
 obtain ⟨tB2, A20, H⟩ := H
 replace H : (if tB2 = 0 then ((impl_natDiv.f l0_1 l0_2).bind fun btA2 => (if a0_0 = true then (impl_FloorRat.j0 k btA2.1 (decide ((btA2.2.length : Int) > 0)) a0_0 l0_1 l0_2) else (impl_FloorRat.j0 k btA2.1 false a0_0 l0_1 l0_2))) else (some (false, ([] : List Int), ([] : List Int), tB2))) = some (r1, r2, r3, r4) := H
 have A2 := Aside0.mk A20
 clear A20
 by_cases c3 : tB2 = 0
 ·
  rw [if_pos c3] at H
  have c3b0 : (tB2 == 0) = true := beq_iff_eq.mpr c3
  have c3b1 : (tB2 != 0) = false := bne_eq_false_iff_eq.mpr c3
  clear c3
  replace H := Option.bind_eq_some_iff.mp H
  obtain ⟨⟨tA2, tD7⟩, A40, H⟩ := H
  replace H : (if a0_0 = true then (impl_FloorRat.j0 k tA2 (decide ((tD7.length : Int) > 0)) a0_0 l0_1 l0_2) else (impl_FloorRat.j0 k tA2 false a0_0 l0_1 l0_2)) = some (r1, r2, r3, r4) := H
  have A4 := Aside0.mk A40
  clear A40
  have HC5 := Aside0.mk H
  clear H
  go_enter Try.func31, Try.ntmps31
  go_upto_region 5 with (first | ((with_reducible refine gate_dst (N := 1) rfl ?_); (try (refine gate_guard (by rfl) ?_; dsimp only)); refine bx_ (N := 1) (cs := #[.bool a0_0, .slice A0_1 l0_1.length c0_1, .slice A0_2 l0_2.length c0_2]) (t := 24) ?_; intro gbA1 hg w6 hbox hb; replace HO0_1 := elbV HO0_1 hg hb; replace HO0_2 := elbV HO0_2 hg hb; have BKA1 := Aside0.mk (hbox); have GWA1 := geh hg HB; have GEA1 := geh hg HB; replace HB := bst HB hb; clear hb hbox hg) | ((with_reducible refine gate_dst (N := 2) rfl ?_); (try (refine gate_guard (by rfl) ?_; dsimp only)); refine bx_ (N := 2) (cs := #[.bool false, .slice none 0 0, .slice none 0 0]) (t := 24) ?_; intro gbA0 hg w7 hbox hb; replace HO0_1 := elbV HO0_1 hg hb; replace HO0_2 := elbV HO0_2 hg hb; have BKA0 := Aside0.mk (hbox); have GWA0 := geh hg HB; have GEA0 := geh hg HB; replace HB := bst HB hb; have NBA1_A0 := nlt hg BKA1; have NBA0_A1 := ngt hg BKA1; replace BKA1 := bkb BKA1 hb; clear hb hbox hg; have hnb8 := NBA1_A0.out; have hnc8 := NBA0_A1.out; obtain ⟨hcz9_0, hcz9_1, hcz9_2, hfz9_0, hfz9_1, hfz9_2⟩ := bc3 BKA1) | ((with_reducible refine gate_dst (N := 8) rfl ?_); (try (refine gate_guard (by rfl) ?_; dsimp only)); refine Kd.N_lit k24 _ 24 ?hg (N' := 8) ?hd (xs := ([(⟨a0_0, l0_1, l0_2⟩ : S24)] : List (S24))) (inner := [.bool a0_0, .slice A0_1 l0_1.length c0_1, .slice A0_2 l0_2.length c0_2]) (ok := (fun k_ => ((P0_1_ k_ ∨ P0_2_ k_) ∨ w.heap.size ≤ k_) ∧ k_ ≠ gbA1 ∧ k_ ≠ gbA0)) (okp := (fun k_ => ((P0_1_ k_ ∨ P0_2_ k_) ∨ w.heap.size ≤ k_) ∧ k_ ≠ gbA1 ∧ k_ ≠ gbA0)) ?hr ?hp (fun _ hk => hk) ((show ∀ k_, w7.heap.size ≤ k_ → (fun k_ => ((P0_1_ k_ ∨ P0_2_ k_) ∨ w.heap.size ≤ k_) ∧ k_ ≠ gbA1 ∧ k_ ≠ gbA0) k_ from fun k_ hk => ⟨(.inr (Nat.le_trans (bsz HB) hk)), Kd.freshB (g := gbA1) (o := .cells #[.bool a0_0, .slice A0_1 l0_1.length c0_1, .slice A0_2 l0_2.length c0_2] 24 (0, 0)) (crb BKA1) k_ hk, Kd.freshB (g := gbA0) (o := .cells #[.bool false, .slice none 0 0, .slice none 0 0] 24 (0, 0)) (crb BKA0) k_ hk⟩) _ (Nat.le_refl _)) (Below.refl _ _) (Nat.le_refl _) (by simp) ?_; (case hd => rfl); (case hg => rfl); (case hr => first | (go_simp; done) | (go_simp; rfl)); (case hp => exact (Reps.c3 (show Kd.FK k24 _ _ (⟨a0_0, l0_1, l0_2⟩ : S24) [.bool a0_0, .slice A0_1 l0_1.length c0_1, .slice A0_2 l0_2.length c0_2] from (k24_mkF _ _ (⟨a0_0, l0_1, l0_2⟩ : S24) (Kd.V_reads' (Kd.V_mono (ok' := (fun k_ => ((P0_1_ k_ ∨ P0_2_ k_) ∨ w.heap.size ≤ k_) ∧ k_ ≠ gbA1 ∧ k_ ≠ gbA0)) (HO0_1.out) (fun k_ hk => ⟨hk.1.1, ⟨hk.1.2, hk.2⟩⟩))).2.1 (Kd.V_F (Kd.V_mono (ok' := (fun k_ => ((P0_1_ k_ ∨ P0_2_ k_) ∨ w.heap.size ≤ k_) ∧ k_ ≠ gbA1 ∧ k_ ≠ gbA0)) (HO0_1.out) (fun k_ hk => ⟨hk.1.1, ⟨hk.1.2, hk.2⟩⟩))) (Kd.V_reads' (Kd.V_mono (ok' := (fun k_ => ((P0_1_ k_ ∨ P0_2_ k_) ∨ w.heap.size ≤ k_) ∧ k_ ≠ gbA1 ∧ k_ ≠ gbA0)) (HO0_2.out) (fun k_ hk => ⟨hk.1.1, ⟨hk.1.2, hk.2⟩⟩))).2.1 (Kd.V_F (Kd.V_mono (ok' := (fun k_ => ((P0_1_ k_ ∨ P0_2_ k_) ∨ w.heap.size ≤ k_) ∧ k_ ≠ gbA1 ∧ k_ ≠ gbA0)) (HO0_2.out) (fun k_ hk => ⟨hk.1.1, ⟨hk.1.2, hk.2⟩⟩))))) (Reps.none _ _))); intro vH7 w10 ho11 hb hg_ hnew_; clear hg_ hnew_; (first | rw [← NyB9.out] at ho11 | (simp only [Int.reduceToNat] at ho11; rw [← NyB9.out] at ho11)); replace HO0_1 := eldV HO0_1 (Kd.N_base ho11) hb; replace HO0_2 := eldV HO0_2 (Kd.N_base ho11) hb; have HOB6 := Aside0.mk (Kd.N_lower ho11 (bsz HB)); replace BKA1 := bkb BKA1 hb; replace BKA0 := bkb BKA0 hb; replace HB := bst HB hb; clear hb ho11; obtain ⟨Ao12, co12, eo12⟩ := Kd.N_slice HOB6.out; subst eo12) | ((with_reducible refine gate_callee (f := 65) rfl ?_); refine gL_ (some 9) Try.func65 #[.slice Ao12 yB9.length co12] ?_; (with_reducible refine (impl_ratsCode.calls k _ _ yB9 tB2 _ ?side1 ?side2 A2.out).mono ?_); (case side1 => exact crC (Kd.N_reads' HOB6.out).2.2); (case side2 => exact (Kd.N_reads' HOB6.out).2.1); rintro e w13 ⟨rfl, hb⟩; refine ⟨_, rfl, ?_⟩; replace HO0_1 := rblV HO0_1 hb; replace HO0_2 := rblV HO0_2 hb; replace HOB6 := Aside0.mk (Kd.N_below (by (with_reducible repeat (first | apply Kd.N_alloc | apply Kd.N_drewN | apply Kd.N_drew)); exact HOB6.out) hb); replace BKA1 := bkb BKA1 hb; replace BKA0 := bkb BKA0 hb; replace HB := bst HB hb; (try clear hb); (try clear hb2); (try clear hk); (try clear hi); obtain ⟨hcz14_0, hcz14_1, hcz14_2, hfz14_0, hfz14_1, hfz14_2⟩ := bc3 BKA1) | ((with_reducible refine gate_callee (f := 75) rfl ?_); refine gL_ (some 19) Try.func75 #[.slice A0_1 l0_1.length c0_1, .slice A0_2 l0_2.length c0_2] ?_; (with_reducible refine (impl_natDiv.calls _ _ l0_1 _ _ l0_2 tA2 tD7 _ ?side1 ?side2 ?side3 ?side4 A4.out).mono ?_); (case side1 => exact crC (Kd.V_reads' HO0_1.out).2.2); (case side2 => exact (Kd.V_reads' HO0_1.out).2.1); (case side3 => exact crC (Kd.V_reads' HO0_2.out).2.2); (case side4 => exact (Kd.V_reads' HO0_2.out).2.1); rintro e w15 ⟨vD8, vI5, rfl, ho0, ho1, hb⟩; refine ⟨_, rfl, ?_⟩; replace HO0_1 := tldV HO0_1 hb (Kd.R_base ho0) (Kd.R_base ho1); replace HO0_2 := tldV HO0_2 hb (Kd.R_base ho0) (Kd.R_base ho1); replace HOB6 := Aside0.mk (Kd.N_mono (Kd.N_told (Kd.N_told (Kd.N_old (by (with_reducible repeat (first | apply Kd.N_alloc | apply Kd.N_drewN | apply Kd.N_drew)); exact HOB6.out) hb) (Kd.R_base ho0)) (Kd.R_base ho1)) (fun _ h_ => h_.1)); have HOF4 := lwR (Kd.R_newM (M := fun k_ => (w.heap.size ≤ k_)) ho0 (bsz HB) (fun k_ h_ => h_)) HB; have HOH8 := lwR (Kd.R_newM (M := fun k_ => (w.heap.size ≤ k_)) ho1 (bsz HB) (fun k_ h_ => h_)) HB; replace BKA1 := bkb BKA1 hb; replace BKA0 := bkb BKA0 hb; replace HB := bst HB hb; (try clear hb); (try clear hb2); (try clear hk); (try clear hi); (try clear ho0); (try clear ho1)))
  (try simp only [Act.put, List.setIfInBounds_toArray, List.set_cons_zero, List.set_cons_succ])
  go_cut [28] (fun v28 wc => ∃ (kq : Nat) (x28_4 : Bool), v28 = .bool x28_4 ∧ Aside0 (impl_FloorRat.j0 kq tA2 x28_4 a0_0 l0_1 l0_2 = some (r1, r2, r3, r4)) ∧ Aside0 (kq ≤ k) ∧ Aside0 (Kd.R (Kd.int .i64) 3 wc w.heap.size (fun k_ => (w.heap.size ≤ k_)) vD8 tA2) ∧ Aside0 (Kd.V (Kd.int .i64) 3 wc w.heap.size (fun k_ => ((P0_1_ k_ ∨ P0_2_ k_) ∨ w.heap.size ≤ k_) ∧ nO k_ vD8 ∧ k_ ≠ gbA1 ∧ k_ ≠ gbA0) (.slice A0_1 l0_1.length c0_1) l0_1) ∧ Aside0 (Kd.V (Kd.int .i64) 3 wc w.heap.size (fun k_ => ((P0_1_ k_ ∨ P0_2_ k_) ∨ w.heap.size ≤ k_) ∧ nO k_ vD8 ∧ k_ ≠ gbA1 ∧ k_ ≠ gbA0) (.slice A0_2 l0_2.length c0_2) l0_2) ∧ Aside0 (wc.heap[gbA1]? = some (.cells #[.bool a0_0, (.slice A0_1 l0_1.length c0_1), (.slice A0_2 l0_2.length c0_2)] 24 (0, 0))) ∧ Aside0 (wc.heap[gbA0]? = some (.cells #[.bool false, (.slice none 0 0), (.slice none 0 0)] 24 (0, 0))) ∧ Aside0 (Below w.heap.size w wc))
  case first =>
   have H := HC5.out
   clear HC5
   by_cases c16 : a0_0 = true
   ·
    subst c16
    rw [if_pos rfl] at H
    have H' := Aside0.mk H
    clear H
    have hnb17 := NBA1_A0.out
    have hnc17 := NBA0_A1.out
    obtain ⟨hcz18_0, hcz18_1, hcz18_2, hfz18_0, hfz18_1, hfz18_2⟩ := bc3 BKA1
    obtain ⟨Ao19, co19, eo19⟩ := Kd.R_slice HOH8.out
    subst eo19
    go_wp2
    go_meet
    case rel => exact ⟨_, (decide ((tD7.length : Int) > 0)), rs_, H', ⟨by first | omega | exact Nat.le_refl _⟩, ⟨crM HOF4 fun _ hk => hk.1⟩, ⟨by (with_reducible repeat (first | apply Kd.V_alloc | apply Kd.V_drewN | apply Kd.V_drew)); exact Kd.V_mono HO0_1.out (fun _ hk => ⟨hk.1.1.1.1.1, ⟨hk.1.2, ⟨hk.1.1.1.1.2, hk.1.1.1.2⟩⟩⟩)⟩, ⟨by (with_reducible repeat (first | apply Kd.V_alloc | apply Kd.V_drewN | apply Kd.V_drew)); exact Kd.V_mono HO0_2.out (fun _ hk => ⟨hk.1.1.1.1.1, ⟨hk.1.2, ⟨hk.1.1.1.1.2, hk.1.1.1.2⟩⟩⟩)⟩, ⟨crb BKA1⟩, ⟨crb BKA0⟩, ⟨blw HB⟩⟩
   ·
    replace c16 := Bool.eq_false_iff.mpr c16
    subst c16
    rw [if_neg (show ¬ (false = true) by decide)] at H
    have H' := Aside0.mk H
    clear H
    have hnb20 := NBA1_A0.out
    have hnc20 := NBA0_A1.out
    obtain ⟨hcz21_0, hcz21_1, hcz21_2, hfz21_0, hfz21_1, hfz21_2⟩ := bc3 BKA1
    go_wp2
    go_meet
    case rel => exact ⟨_, (false), rs_, H', ⟨by first | omega | exact Nat.le_refl _⟩, ⟨crM HOF4 fun _ hk => hk.1⟩, ⟨by (with_reducible repeat (first | apply Kd.V_alloc | apply Kd.V_drewN | apply Kd.V_drew)); exact Kd.V_mono HO0_1.out (fun _ hk => ⟨hk.1.1.1.1.1, ⟨hk.1.2, ⟨hk.1.1.1.1.2, hk.1.1.1.2⟩⟩⟩)⟩, ⟨by (with_reducible repeat (first | apply Kd.V_alloc | apply Kd.V_drewN | apply Kd.V_drew)); exact Kd.V_mono HO0_2.out (fun _ hk => ⟨hk.1.1.1.1.1, ⟨hk.1.2, ⟨hk.1.1.1.1.2, hk.1.1.1.2⟩⟩⟩)⟩, ⟨crb BKA1⟩, ⟨crb BKA0⟩, ⟨blw HB⟩⟩
  case rest =>
   clear HC5
   try clear c1
   try clear c2
   try clear p2
   try clear c3
   try clear c3b0
   try clear c3b1
   try clear c6
   try clear c7
   try clear c8
   try clear c16
   try clear c17
   try clear c20
   try clear hcz14_0
   try clear hcz14_1
   try clear hcz14_2
   try clear hcz18_0
   try clear hcz18_1
   try clear hcz18_2
   try clear hcz21_0
   try clear hcz21_1
   try clear hcz21_2
   try clear hcz9_0
   try clear hcz9_1
   try clear hcz9_2
   try clear hfz14_0
   try clear hfz14_1
   try clear hfz14_2
   try clear hfz18_0
   try clear hfz18_1
   try clear hfz18_2
   try clear hfz21_0
   try clear hfz21_1
   try clear hfz21_2
   try clear hfz9_0
   try clear hfz9_1
   try clear hfz9_2
   obtain ⟨kq, x28_4, rfl, HA, HJ4, HO_5, HO_889001, HO_889002, BKA1, BKA0, HB⟩ := hcut
   cases kq with
   | zero => exact absurd HA.out (by simp [impl_FloorRat.j0])
   | succ kj4 =>
    have H := HA.out
    clear HA
    simp only [impl_FloorRat.j0] at H
    by_cases c22 : x28_4 = true
    ·
     subst c22
     rw [if_pos rfl] at H
     replace H := Option.bind_eq_some_iff.mp H
     obtain ⟨tB1, AF5, H⟩ := H
     replace H : ((impl_natAdd.f kj4 tA2 tB1).bind fun tA6 => (if a0_0 = true then ((impl_one.f).bind fun tB7 => ((impl_fullRat.f (decide ((tA6.length : Int) > 0)) tA6 tB7).bind fun btA8 => (some (btA8.1, btA8.2.1, btA8.2.2.1, btA8.2.2.2)))) else ((impl_one.f).bind fun tB8 => ((impl_fullRat.f false tA6 tB8).bind fun btA9 => (some (btA9.1, btA9.2.1, btA9.2.2.1, btA9.2.2.2)))))) = some (r1, r2, r3, r4) := H
     have A23 := Aside0.mk AF5
     clear AF5
     replace H := Option.bind_eq_some_iff.mp H
     obtain ⟨tA6, AF6, H⟩ := H
     replace H : (if a0_0 = true then ((impl_one.f).bind fun tB7 => ((impl_fullRat.f (decide ((tA6.length : Int) > 0)) tA6 tB7).bind fun btA8 => (some (btA8.1, btA8.2.1, btA8.2.2.1, btA8.2.2.2)))) else ((impl_one.f).bind fun tB8 => ((impl_fullRat.f false tA6 tB8).bind fun btA9 => (some (btA9.1, btA9.2.1, btA9.2.2.1, btA9.2.2.2))))) = some (r1, r2, r3, r4) := H
     have A24 := Aside0.mk AF6
     clear AF6
     by_cases c25 : a0_0 = true
     ·
      subst c25
      rw [if_pos rfl] at H
      replace H := Option.bind_eq_some_iff.mp H
      obtain ⟨tB7, AF7, H⟩ := H
      replace H : ((impl_fullRat.f (decide ((tA6.length : Int) > 0)) tA6 tB7).bind fun btA8 => (some (btA8.1, btA8.2.1, btA8.2.2.1, btA8.2.2.2))) = some (r1, r2, r3, r4) := H
      have A26 := Aside0.mk AF7
      clear AF7
      replace H := Option.bind_eq_some_iff.mp H
      obtain ⟨⟨tA8, tD9, tE0, tF8⟩, AF9, H⟩ := H
      replace H : (some (tA8, tD9, tE0, tF8)) = some (r1, r2, r3, r4) := H
      have A27 := Aside0.mk AF9
      clear AF9
      simp only [Option.some.injEq, Prod.mk.injEq] at H
      obtain ⟨rfl, rfl, rfl, rfl⟩ := H
      go_wp2_with (first | ((with_reducible refine gate_callee (f := 62) rfl ?_); refine gL_ (some 30) Try.func62 #[] ?_; (with_reducible refine (impl_one.calls  tB1 _ A23.out).mono ?_); rintro e w28 ⟨vH9, rfl, ho0, hb⟩; refine ⟨_, rfl, ?_⟩; replace HO_889001 := eldV HO_889001 (Kd.R_base ho0) hb; replace HO_889002 := eldV HO_889002 (Kd.R_base ho0) hb; have HOA3 := lwR (nwR (Kd.R_newM (M := fun k_ => (w.heap.size ≤ k_)) ho0 (bsz HB) (fun k_ h_ => h_)) HO_5) HB; replace HO_5 := eldR HO_5 (Kd.R_base ho0) hb; replace BKA1 := bkb BKA1 hb; replace BKA0 := bkb BKA0 hb; replace HB := bst HB hb; (try clear hb); (try clear hb2); (try clear hk); (try clear hi); (try clear ho0); obtain ⟨Ao29, co29, eo29⟩ := Kd.R_slice HO_5.out; subst eo29; obtain ⟨Ao30, co30, eo30⟩ := Kd.R_slice HOA3.out; subst eo30) | ((with_reducible refine gate_callee (f := 76) rfl ?_); refine gL_ (some 31) Try.func76 #[.slice Ao29 tA2.length co29, .slice Ao30 tB1.length co30] ?_; (with_reducible refine (impl_natAdd.calls kj4 _ _ tA2 _ _ tB1 tA6 _ ?side1 ?side2 ?side3 ?side4 A24.out).mono ?_); (case side1 => exact crC (Kd.R_reads' HO_5.out).2.2); (case side2 => exact (Kd.R_reads' HO_5.out).2.1); (case side3 => exact crC (Kd.R_reads' HOA3.out).2.2); (case side4 => exact (Kd.R_reads' HOA3.out).2.1); rintro e w31 ⟨vI0, rfl, ho0, hb⟩; refine ⟨_, rfl, ?_⟩; replace HO_889001 := eldV HO_889001 (Kd.R_base ho0) hb; replace HO_889002 := eldV HO_889002 (Kd.R_base ho0) hb; have HOB0 := lwR (nwR (nwR (Kd.R_newM (M := fun k_ => (w.heap.size ≤ k_)) ho0 (bsz HB) (fun k_ h_ => h_)) HO_5) HOA3) HB; replace HO_5 := eldR HO_5 (Kd.R_base ho0) hb; replace HOA3 := eldR HOA3 (Kd.R_base ho0) hb; replace BKA1 := bkb BKA1 hb; replace BKA0 := bkb BKA0 hb; replace HB := bst HB hb; (try clear hb); (try clear hb2); (try clear hk); (try clear hi); (try clear ho0); have hnb32 := NBA1_A0.out; have hnc32 := NBA0_A1.out; obtain ⟨hcz33_0, hcz33_1, hcz33_2, hfz33_0, hfz33_1, hfz33_2⟩ := bc3 BKA1; obtain ⟨Ao34, co34, eo34⟩ := Kd.R_slice HOB0.out; subst eo34) | ((with_reducible refine gate_callee (f := 62) rfl ?_); refine gL_ (some 40) Try.func62 #[] ?_; (with_reducible refine (impl_one.calls  tB7 _ A26.out).mono ?_); rintro e w35 ⟨vI6, rfl, ho0, hb⟩; refine ⟨_, rfl, ?_⟩; replace HO_889001 := eldV HO_889001 (Kd.R_base ho0) hb; replace HO_889002 := eldV HO_889002 (Kd.R_base ho0) hb; have HOC2 := lwR (nwR (nwR (nwR (Kd.R_newM (M := fun k_ => (w.heap.size ≤ k_)) ho0 (bsz HB) (fun k_ h_ => h_)) HO_5) HOA3) HOB0) HB; replace HO_5 := eldR HO_5 (Kd.R_base ho0) hb; replace HOA3 := eldR HOA3 (Kd.R_base ho0) hb; replace HOB0 := eldR HOB0 (Kd.R_base ho0) hb; replace BKA1 := bkb BKA1 hb; replace BKA0 := bkb BKA0 hb; replace HB := bst HB hb; (try clear hb); (try clear hb2); (try clear hk); (try clear hi); (try clear ho0); obtain ⟨Ao36, co36, eo36⟩ := Kd.R_slice HOC2.out; subst eo36) | ((with_reducible refine gate_callee (f := 77) rfl ?_); refine goesL_ (some 42) rfl rfl Try.func77 (by kernel_rfl) rfl #[.agg #[.bool (decide ((tA6.length : Int) > 0)), .slice Ao34 tA6.length co34, .slice Ao36 tB7.length co36]] rfl (by (try simp only [floor_gt]); (try simp only [List.map_toArray, List.map_cons, List.map_nil]); first | done | rfl | (simp only [List.length_drop, List.length_take]; rfl)) ?_; (with_reducible refine (impl_fullRat.calls (decide ((tA6.length : Int) > 0)) (fun k_ => some k_ = (.slice Ao34 tA6.length co34 : Value).ownBlock) (.slice Ao34 tA6.length co34) tA6 (fun k_ => some k_ = (.slice Ao36 tB7.length co36 : Value).ownBlock) (.slice Ao36 tB7.length co36) tB7 tA8 tD9 tE0 tF8 w _ ?side1 ?side2 ?side3 ?side4 ?side5 A27.out).mono ?_); (case side1 => repeat (first | (with_reducible first | exact HB.out | apply below_alloc | apply pw_below_drewN | apply below_drew1 | refine below_set ?_ GEA1.out | refine below_set ?_ GEA0.out) | exact HB.out)); (case side2 => exact Kd.R_tight rfl HOB0.out); (case side3 => exact fun k_ e_ => (HOB0.out.1 k_ e_.symm).2); (case side4 => exact Kd.R_tight rfl HOC2.out); (case side5 => exact fun k_ e_ => (HOC2.out.1 k_ e_.symm).2); rintro e w37 ⟨vC9, vD0, rfl, ho0, ho1, hb, hkp⟩; refine ⟨_, rfl, ?_⟩; replace HO_889001 := Aside0.mk (Kd.V_mono (ok' := fun k_ => ((P0_1_ k_ ∨ P0_2_ k_) ∨ w.heap.size ≤ k_) ∧ nO k_ (.slice Ao29 tA2.length co29) ∧ nO k_ (.slice Ao30 tB1.length co30) ∧ k_ ≠ gbA1 ∧ k_ ≠ gbA0 ∧ nO k_ vC9 ∧ nO k_ vD0) (Kd.V_keptB (HO_889001.out) hkp (fun k_ hk_ hs_ => Or.elim hs_ (fun e_ => (hk_.1.2) e_) (fun e_ => (hk_.2) e_))) (fun k_ hk_ => ⟨hk_.1.1.1.1.1, hk_.1.1.1.1.2.1, hk_.1.1.1.2, hk_.1.1.1.1.2.2.1, hk_.1.1.1.1.2.2.2, fun e_ => Or.elim (ho0.1 k_ e_.symm).1 (fun hs_ => hk_.2.1 hs_) (fun hn_ => Nat.not_le.2 hk_.2.2 hn_), fun e_ => Or.elim (ho1.1 k_ e_.symm).1 (fun hs_ => hk_.2.1 hs_) (fun hn_ => Nat.not_le.2 hk_.2.2 hn_)⟩)); replace HO_889002 := Aside0.mk (Kd.V_mono (ok' := fun k_ => ((P0_1_ k_ ∨ P0_2_ k_) ∨ w.heap.size ≤ k_) ∧ nO k_ (.slice Ao29 tA2.length co29) ∧ nO k_ (.slice Ao30 tB1.length co30) ∧ k_ ≠ gbA1 ∧ k_ ≠ gbA0 ∧ nO k_ vC9 ∧ nO k_ vD0) (Kd.V_keptB (HO_889002.out) hkp (fun k_ hk_ hs_ => Or.elim hs_ (fun e_ => (hk_.1.2) e_) (fun e_ => (hk_.2) e_))) (fun k_ hk_ => ⟨hk_.1.1.1.1.1, hk_.1.1.1.1.2.1, hk_.1.1.1.2, hk_.1.1.1.1.2.2.1, hk_.1.1.1.1.2.2.2, fun e_ => Or.elim (ho0.1 k_ e_.symm).1 (fun hs_ => hk_.2.1 hs_) (fun hn_ => Nat.not_le.2 hk_.2.2 hn_), fun e_ => Or.elim (ho1.1 k_ e_.symm).1 (fun hs_ => hk_.2.1 hs_) (fun hn_ => Nat.not_le.2 hk_.2.2 hn_)⟩)); replace BKA1 := Aside0.mk (blk_kept (crb BKA1) hkp (fun hs_ => Or.elim hs_ (fun e_ => (fun e_ => (Kd.R_ne HOB0.out BKA1.out (by decide)) e_) e_) (fun e_ => (fun e_ => (Kd.R_ne HOC2.out BKA1.out (by decide)) e_) e_))); replace BKA0 := Aside0.mk (blk_kept (crb BKA0) hkp (fun hs_ => Or.elim hs_ (fun e_ => (fun e_ => (Kd.R_ne HOB0.out BKA0.out (by decide)) e_) e_) (fun e_ => (fun e_ => (Kd.R_ne HOC2.out BKA0.out (by decide)) e_) e_))); have HOG0 := Aside0.mk (Kd.R_mono (ok' := fun k_ => (w.heap.size ≤ k_) ∧ nO k_ vD0 ∧ nO k_ (.slice Ao29 tA2.length co29) ∧ nO k_ (.slice Ao30 tB1.length co30)) ho0 (fun k_ hk_ => ⟨Or.elim hk_.1 (fun hs_ => Or.elim hs_ (fun hs_ => (HOB0.out.1 k_ (hs_).symm).1.1.1.1) (fun hs_ => (HOC2.out.1 k_ (hs_).symm).1.1.1.1)) (fun hn_ => (Nat.le_trans (bsz HB) hn_)), hk_.2, Or.elim hk_.1 (fun hs_ => Or.elim hs_ (fun hs_ => fun e_ => (((HO_5.out).1 k_ e_.symm).1.2) hs_) (fun hs_ => fun e_ => (((HO_5.out).1 k_ e_.symm).2) hs_)) (fun hn_ => (Kd.fresh' (Kd.R_lt (crR HO_5)) k_ hn_)), Or.elim hk_.1 (fun hs_ => Or.elim hs_ (fun hs_ => fun e_ => (((HOA3.out).1 k_ e_.symm).1.2) hs_) (fun hs_ => fun e_ => (((HOA3.out).1 k_ e_.symm).2) hs_)) (fun hn_ => (Kd.fresh' (Kd.R_lt (crR HOA3)) k_ hn_))⟩)); have HOG1 := Aside0.mk (Kd.R_mono (ok' := fun k_ => (w.heap.size ≤ k_) ∧ nO k_ vC9 ∧ nO k_ (.slice Ao29 tA2.length co29) ∧ nO k_ (.slice Ao30 tB1.length co30)) ho1 (fun k_ hk_ => ⟨Or.elim hk_.1 (fun hs_ => Or.elim hs_ (fun hs_ => (HOB0.out.1 k_ (hs_).symm).1.1.1.1) (fun hs_ => (HOC2.out.1 k_ (hs_).symm).1.1.1.1)) (fun hn_ => (Nat.le_trans (bsz HB) hn_)), hk_.2, Or.elim hk_.1 (fun hs_ => Or.elim hs_ (fun hs_ => fun e_ => (((HO_5.out).1 k_ e_.symm).1.2) hs_) (fun hs_ => fun e_ => (((HO_5.out).1 k_ e_.symm).2) hs_)) (fun hn_ => (Kd.fresh' (Kd.R_lt (crR HO_5)) k_ hn_)), Or.elim hk_.1 (fun hs_ => Or.elim hs_ (fun hs_ => fun e_ => (((HOA3.out).1 k_ e_.symm).1.2) hs_) (fun hs_ => fun e_ => (((HOA3.out).1 k_ e_.symm).2) hs_)) (fun hn_ => (Kd.fresh' (Kd.R_lt (crR HOA3)) k_ hn_))⟩)); replace HO_5 := Aside0.mk (Kd.R_mono (ok' := fun k_ => (w.heap.size ≤ k_) ∧ nO k_ (.slice Ao30 tB1.length co30) ∧ nO k_ vC9 ∧ nO k_ vD0) (Kd.R_keptB (HO_5.out) hkp (fun k_ hk_ hs_ => Or.elim hs_ (fun e_ => (hk_.1.2) e_) (fun e_ => (hk_.2) e_))) (fun k_ hk_ => ⟨hk_.1.1.1.1, hk_.1.1.1.2, fun e_ => Or.elim (ho0.1 k_ e_.symm).1 (fun hs_ => hk_.2.1 hs_) (fun hn_ => Nat.not_le.2 hk_.2.2 hn_), fun e_ => Or.elim (ho1.1 k_ e_.symm).1 (fun hs_ => hk_.2.1 hs_) (fun hn_ => Nat.not_le.2 hk_.2.2 hn_)⟩)); replace HOA3 := Aside0.mk (Kd.R_mono (ok' := fun k_ => (w.heap.size ≤ k_) ∧ nO k_ (.slice Ao29 tA2.length co29) ∧ nO k_ vC9 ∧ nO k_ vD0) (Kd.R_keptB (HOA3.out) hkp (fun k_ hk_ hs_ => Or.elim hs_ (fun e_ => (hk_.1.2) e_) (fun e_ => (hk_.2) e_))) (fun k_ hk_ => ⟨hk_.1.1.1.1.1, hk_.1.1.1.2, fun e_ => Or.elim (ho0.1 k_ e_.symm).1 (fun hs_ => hk_.2.1 hs_) (fun hn_ => Nat.not_le.2 hk_.2.2 hn_), fun e_ => Or.elim (ho1.1 k_ e_.symm).1 (fun hs_ => hk_.2.1 hs_) (fun hn_ => Nat.not_le.2 hk_.2.2 hn_)⟩)); replace HB := Aside0.mk (hb); clear HOB0 HOC2; (try clear hb); (try clear hkp); (try clear ho0); (try clear ho1); obtain ⟨hcz38_0, hcz38_1, hcz38_2, hfz38_0, hfz38_1, hfz38_2⟩ := bc3 BKA0; obtain ⟨Ao39, co39, eo39⟩ := Kd.R_slice HOG0.out; subst eo39; obtain ⟨Ao40, co40, eo40⟩ := Kd.R_slice HOG1.out; subst eo40))
      refine bodyPost_ret (results_ct rfl _ _ gbA0 24 #[.bool tA8, .slice Ao39 tD9.length co39, .slice Ao40 tE0.length co40] (0, 0) _ rfl (bp3 BKA0 _ _ _) Try.underlying24 rfl (by kernel_rfl)) rfl ?_
      exact ⟨_, _, er_, (crN HOG0 BKA0 fun _ hk => ⟨hk.1.1, hk.1.2.1⟩), (crN HOG1 BKA0 fun _ hk => ⟨hk.1.1, hk.1.2.1⟩), blw HB⟩
     ·
      replace c25 := Bool.eq_false_iff.mpr c25
      subst c25
      rw [if_neg (show ¬ (false = true) by decide)] at H
      replace H := Option.bind_eq_some_iff.mp H
      obtain ⟨tB8, AG2, H⟩ := H
      replace H : ((impl_fullRat.f false tA6 tB8).bind fun btA9 => (some (btA9.1, btA9.2.1, btA9.2.2.1, btA9.2.2.2))) = some (r1, r2, r3, r4) := H
      have A41 := Aside0.mk AG2
      clear AG2
      replace H := Option.bind_eq_some_iff.mp H
      obtain ⟨⟨tA9, tE1, tE2, tG3⟩, AG4, H⟩ := H
      replace H : (some (tA9, tE1, tE2, tG3)) = some (r1, r2, r3, r4) := H
      have A42 := Aside0.mk AG4
      clear AG4
      simp only [Option.some.injEq, Prod.mk.injEq] at H
      obtain ⟨rfl, rfl, rfl, rfl⟩ := H
      go_wp2_with (first | ((with_reducible refine gate_callee (f := 62) rfl ?_); refine gL_ (some 30) Try.func62 #[] ?_; (with_reducible refine (impl_one.calls  tB1 _ A23.out).mono ?_); rintro e w43 ⟨vH9, rfl, ho0, hb⟩; refine ⟨_, rfl, ?_⟩; replace HO_889001 := eldV HO_889001 (Kd.R_base ho0) hb; replace HO_889002 := eldV HO_889002 (Kd.R_base ho0) hb; have HOA3 := lwR (nwR (Kd.R_newM (M := fun k_ => (w.heap.size ≤ k_)) ho0 (bsz HB) (fun k_ h_ => h_)) HO_5) HB; replace HO_5 := eldR HO_5 (Kd.R_base ho0) hb; replace BKA1 := bkb BKA1 hb; replace BKA0 := bkb BKA0 hb; replace HB := bst HB hb; (try clear hb); (try clear hb2); (try clear hk); (try clear hi); (try clear ho0); obtain ⟨Ao44, co44, eo44⟩ := Kd.R_slice HO_5.out; subst eo44; obtain ⟨Ao45, co45, eo45⟩ := Kd.R_slice HOA3.out; subst eo45) | ((with_reducible refine gate_callee (f := 76) rfl ?_); refine gL_ (some 31) Try.func76 #[.slice Ao44 tA2.length co44, .slice Ao45 tB1.length co45] ?_; (with_reducible refine (impl_natAdd.calls kj4 _ _ tA2 _ _ tB1 tA6 _ ?side1 ?side2 ?side3 ?side4 A24.out).mono ?_); (case side1 => exact crC (Kd.R_reads' HO_5.out).2.2); (case side2 => exact (Kd.R_reads' HO_5.out).2.1); (case side3 => exact crC (Kd.R_reads' HOA3.out).2.2); (case side4 => exact (Kd.R_reads' HOA3.out).2.1); rintro e w46 ⟨vI0, rfl, ho0, hb⟩; refine ⟨_, rfl, ?_⟩; replace HO_889001 := eldV HO_889001 (Kd.R_base ho0) hb; replace HO_889002 := eldV HO_889002 (Kd.R_base ho0) hb; have HOB0 := lwR (nwR (nwR (Kd.R_newM (M := fun k_ => (w.heap.size ≤ k_)) ho0 (bsz HB) (fun k_ h_ => h_)) HO_5) HOA3) HB; replace HO_5 := eldR HO_5 (Kd.R_base ho0) hb; replace HOA3 := eldR HOA3 (Kd.R_base ho0) hb; replace BKA1 := bkb BKA1 hb; replace BKA0 := bkb BKA0 hb; replace HB := bst HB hb; (try clear hb); (try clear hb2); (try clear hk); (try clear hi); (try clear ho0); have hnb47 := NBA1_A0.out; have hnc47 := NBA0_A1.out; obtain ⟨hcz48_0, hcz48_1, hcz48_2, hfz48_0, hfz48_1, hfz48_2⟩ := bc3 BKA1) | ((with_reducible refine gate_callee (f := 62) rfl ?_); refine gL_ (some 40) Try.func62 #[] ?_; (with_reducible refine (impl_one.calls  tB8 _ A41.out).mono ?_); rintro e w49 ⟨vI7, rfl, ho0, hb⟩; refine ⟨_, rfl, ?_⟩; replace HO_889001 := eldV HO_889001 (Kd.R_base ho0) hb; replace HO_889002 := eldV HO_889002 (Kd.R_base ho0) hb; have HOC3 := lwR (nwR (nwR (nwR (Kd.R_newM (M := fun k_ => (w.heap.size ≤ k_)) ho0 (bsz HB) (fun k_ h_ => h_)) HO_5) HOA3) HOB0) HB; replace HO_5 := eldR HO_5 (Kd.R_base ho0) hb; replace HOA3 := eldR HOA3 (Kd.R_base ho0) hb; replace HOB0 := eldR HOB0 (Kd.R_base ho0) hb; replace BKA1 := bkb BKA1 hb; replace BKA0 := bkb BKA0 hb; replace HB := bst HB hb; (try clear hb); (try clear hb2); (try clear hk); (try clear hi); (try clear ho0); obtain ⟨Ao50, co50, eo50⟩ := Kd.R_slice HOC3.out; subst eo50; obtain ⟨Ao51, co51, eo51⟩ := Kd.R_slice HOB0.out; subst eo51) | ((with_reducible refine gate_callee (f := 77) rfl ?_); refine gL_ (some 42) Try.func77 #[.agg #[.bool false, .slice Ao51 tA6.length co51, .slice Ao50 tB8.length co50]] ?_; (with_reducible refine (impl_fullRat.calls false (fun k_ => some k_ = (.slice Ao51 tA6.length co51 : Value).ownBlock) (.slice Ao51 tA6.length co51) tA6 (fun k_ => some k_ = (.slice Ao50 tB8.length co50 : Value).ownBlock) (.slice Ao50 tB8.length co50) tB8 tA9 tE1 tE2 tG3 w _ ?side1 ?side2 ?side3 ?side4 ?side5 A42.out).mono ?_); (case side1 => repeat (first | (with_reducible first | exact HB.out | apply below_alloc | apply pw_below_drewN | apply below_drew1 | refine below_set ?_ GEA1.out | refine below_set ?_ GEA0.out) | exact HB.out)); (case side2 => exact Kd.R_tight rfl HOB0.out); (case side3 => exact fun k_ e_ => (HOB0.out.1 k_ e_.symm).2); (case side4 => exact Kd.R_tight rfl HOC3.out); (case side5 => exact fun k_ e_ => (HOC3.out.1 k_ e_.symm).2); rintro e w52 ⟨vD1, vD2, rfl, ho0, ho1, hb, hkp⟩; refine ⟨_, rfl, ?_⟩; replace HO_889001 := Aside0.mk (Kd.V_mono (ok' := fun k_ => ((P0_1_ k_ ∨ P0_2_ k_) ∨ w.heap.size ≤ k_) ∧ nO k_ (.slice Ao44 tA2.length co44) ∧ nO k_ (.slice Ao45 tB1.length co45) ∧ k_ ≠ gbA1 ∧ k_ ≠ gbA0 ∧ nO k_ vD1 ∧ nO k_ vD2) (Kd.V_keptB (HO_889001.out) hkp (fun k_ hk_ hs_ => Or.elim hs_ (fun e_ => (hk_.1.2) e_) (fun e_ => (hk_.2) e_))) (fun k_ hk_ => ⟨hk_.1.1.1.1.1, hk_.1.1.1.1.2.1, hk_.1.1.1.2, hk_.1.1.1.1.2.2.1, hk_.1.1.1.1.2.2.2, fun e_ => Or.elim (ho0.1 k_ e_.symm).1 (fun hs_ => hk_.2.1 hs_) (fun hn_ => Nat.not_le.2 hk_.2.2 hn_), fun e_ => Or.elim (ho1.1 k_ e_.symm).1 (fun hs_ => hk_.2.1 hs_) (fun hn_ => Nat.not_le.2 hk_.2.2 hn_)⟩)); replace HO_889002 := Aside0.mk (Kd.V_mono (ok' := fun k_ => ((P0_1_ k_ ∨ P0_2_ k_) ∨ w.heap.size ≤ k_) ∧ nO k_ (.slice Ao44 tA2.length co44) ∧ nO k_ (.slice Ao45 tB1.length co45) ∧ k_ ≠ gbA1 ∧ k_ ≠ gbA0 ∧ nO k_ vD1 ∧ nO k_ vD2) (Kd.V_keptB (HO_889002.out) hkp (fun k_ hk_ hs_ => Or.elim hs_ (fun e_ => (hk_.1.2) e_) (fun e_ => (hk_.2) e_))) (fun k_ hk_ => ⟨hk_.1.1.1.1.1, hk_.1.1.1.1.2.1, hk_.1.1.1.2, hk_.1.1.1.1.2.2.1, hk_.1.1.1.1.2.2.2, fun e_ => Or.elim (ho0.1 k_ e_.symm).1 (fun hs_ => hk_.2.1 hs_) (fun hn_ => Nat.not_le.2 hk_.2.2 hn_), fun e_ => Or.elim (ho1.1 k_ e_.symm).1 (fun hs_ => hk_.2.1 hs_) (fun hn_ => Nat.not_le.2 hk_.2.2 hn_)⟩)); replace BKA1 := Aside0.mk (blk_kept (crb BKA1) hkp (fun hs_ => Or.elim hs_ (fun e_ => (fun e_ => (Kd.R_ne HOB0.out BKA1.out (by decide)) e_) e_) (fun e_ => (fun e_ => (Kd.R_ne HOC3.out BKA1.out (by decide)) e_) e_))); replace BKA0 := Aside0.mk (blk_kept (crb BKA0) hkp (fun hs_ => Or.elim hs_ (fun e_ => (fun e_ => (Kd.R_ne HOB0.out BKA0.out (by decide)) e_) e_) (fun e_ => (fun e_ => (Kd.R_ne HOC3.out BKA0.out (by decide)) e_) e_))); have HOG5 := Aside0.mk (Kd.R_mono (ok' := fun k_ => (w.heap.size ≤ k_) ∧ nO k_ vD2 ∧ nO k_ (.slice Ao44 tA2.length co44) ∧ nO k_ (.slice Ao45 tB1.length co45)) ho0 (fun k_ hk_ => ⟨Or.elim hk_.1 (fun hs_ => Or.elim hs_ (fun hs_ => (HOB0.out.1 k_ (hs_).symm).1.1.1.1) (fun hs_ => (HOC3.out.1 k_ (hs_).symm).1.1.1.1)) (fun hn_ => (Nat.le_trans (bsz HB) hn_)), hk_.2, Or.elim hk_.1 (fun hs_ => Or.elim hs_ (fun hs_ => fun e_ => (((HO_5.out).1 k_ e_.symm).1.2) hs_) (fun hs_ => fun e_ => (((HO_5.out).1 k_ e_.symm).2) hs_)) (fun hn_ => (Kd.fresh' (Kd.R_lt (crR HO_5)) k_ hn_)), Or.elim hk_.1 (fun hs_ => Or.elim hs_ (fun hs_ => fun e_ => (((HOA3.out).1 k_ e_.symm).1.2) hs_) (fun hs_ => fun e_ => (((HOA3.out).1 k_ e_.symm).2) hs_)) (fun hn_ => (Kd.fresh' (Kd.R_lt (crR HOA3)) k_ hn_))⟩)); have HOG6 := Aside0.mk (Kd.R_mono (ok' := fun k_ => (w.heap.size ≤ k_) ∧ nO k_ vD1 ∧ nO k_ (.slice Ao44 tA2.length co44) ∧ nO k_ (.slice Ao45 tB1.length co45)) ho1 (fun k_ hk_ => ⟨Or.elim hk_.1 (fun hs_ => Or.elim hs_ (fun hs_ => (HOB0.out.1 k_ (hs_).symm).1.1.1.1) (fun hs_ => (HOC3.out.1 k_ (hs_).symm).1.1.1.1)) (fun hn_ => (Nat.le_trans (bsz HB) hn_)), hk_.2, Or.elim hk_.1 (fun hs_ => Or.elim hs_ (fun hs_ => fun e_ => (((HO_5.out).1 k_ e_.symm).1.2) hs_) (fun hs_ => fun e_ => (((HO_5.out).1 k_ e_.symm).2) hs_)) (fun hn_ => (Kd.fresh' (Kd.R_lt (crR HO_5)) k_ hn_)), Or.elim hk_.1 (fun hs_ => Or.elim hs_ (fun hs_ => fun e_ => (((HOA3.out).1 k_ e_.symm).1.2) hs_) (fun hs_ => fun e_ => (((HOA3.out).1 k_ e_.symm).2) hs_)) (fun hn_ => (Kd.fresh' (Kd.R_lt (crR HOA3)) k_ hn_))⟩)); replace HO_5 := Aside0.mk (Kd.R_mono (ok' := fun k_ => (w.heap.size ≤ k_) ∧ nO k_ (.slice Ao45 tB1.length co45) ∧ nO k_ vD1 ∧ nO k_ vD2) (Kd.R_keptB (HO_5.out) hkp (fun k_ hk_ hs_ => Or.elim hs_ (fun e_ => (hk_.1.2) e_) (fun e_ => (hk_.2) e_))) (fun k_ hk_ => ⟨hk_.1.1.1.1, hk_.1.1.1.2, fun e_ => Or.elim (ho0.1 k_ e_.symm).1 (fun hs_ => hk_.2.1 hs_) (fun hn_ => Nat.not_le.2 hk_.2.2 hn_), fun e_ => Or.elim (ho1.1 k_ e_.symm).1 (fun hs_ => hk_.2.1 hs_) (fun hn_ => Nat.not_le.2 hk_.2.2 hn_)⟩)); replace HOA3 := Aside0.mk (Kd.R_mono (ok' := fun k_ => (w.heap.size ≤ k_) ∧ nO k_ (.slice Ao44 tA2.length co44) ∧ nO k_ vD1 ∧ nO k_ vD2) (Kd.R_keptB (HOA3.out) hkp (fun k_ hk_ hs_ => Or.elim hs_ (fun e_ => (hk_.1.2) e_) (fun e_ => (hk_.2) e_))) (fun k_ hk_ => ⟨hk_.1.1.1.1.1, hk_.1.1.1.2, fun e_ => Or.elim (ho0.1 k_ e_.symm).1 (fun hs_ => hk_.2.1 hs_) (fun hn_ => Nat.not_le.2 hk_.2.2 hn_), fun e_ => Or.elim (ho1.1 k_ e_.symm).1 (fun hs_ => hk_.2.1 hs_) (fun hn_ => Nat.not_le.2 hk_.2.2 hn_)⟩)); replace HB := Aside0.mk (hb); clear HOB0 HOC3; (try clear hb); (try clear hkp); (try clear ho0); (try clear ho1); obtain ⟨hcz53_0, hcz53_1, hcz53_2, hfz53_0, hfz53_1, hfz53_2⟩ := bc3 BKA0; obtain ⟨Ao54, co54, eo54⟩ := Kd.R_slice HOG5.out; subst eo54; obtain ⟨Ao55, co55, eo55⟩ := Kd.R_slice HOG6.out; subst eo55))
      refine bodyPost_ret (results_ct rfl _ _ gbA0 24 #[.bool tA9, .slice Ao54 tE1.length co54, .slice Ao55 tE2.length co55] (0, 0) _ rfl (bp3 BKA0 _ _ _) Try.underlying24 rfl (by kernel_rfl)) rfl ?_
      exact ⟨_, _, er_, (crN HOG5 BKA0 fun _ hk => ⟨hk.1.1, hk.1.2.1⟩), (crN HOG6 BKA0 fun _ hk => ⟨hk.1.1, hk.1.2.1⟩), blw HB⟩
    ·
     replace c22 := Bool.eq_false_iff.mpr c22
     subst c22
     rw [if_neg (show ¬ (false = true) by decide)] at H
     by_cases c56 : a0_0 = true
     ·
      subst c56
      rw [if_pos rfl] at H
      replace H := Option.bind_eq_some_iff.mp H
      obtain ⟨tC0, AG7, H⟩ := H
      replace H : ((impl_fullRat.f (decide ((tA2.length : Int) > 0)) tA2 tC0).bind fun btB4 => (some (btB4.1, btB4.2.1, btB4.2.2.1, btB4.2.2.2))) = some (r1, r2, r3, r4) := H
      have A57 := Aside0.mk AG7
      clear AG7
      replace H := Option.bind_eq_some_iff.mp H
      obtain ⟨⟨tB4, tE3, tE4, tG8⟩, AG9, H⟩ := H
      replace H : (some (tB4, tE3, tE4, tG8)) = some (r1, r2, r3, r4) := H
      have A58 := Aside0.mk AG9
      clear AG9
      simp only [Option.some.injEq, Prod.mk.injEq] at H
      obtain ⟨rfl, rfl, rfl, rfl⟩ := H
      have hnb59 := NBA1_A0.out
      have hnc59 := NBA0_A1.out
      obtain ⟨hcz60_0, hcz60_1, hcz60_2, hfz60_0, hfz60_1, hfz60_2⟩ := bc3 BKA1
      obtain ⟨Ao61, co61, eo61⟩ := Kd.R_slice HO_5.out
      subst eo61
      go_wp2_with (first | ((with_reducible refine gate_callee (f := 62) rfl ?_); refine gL_ (some 40) Try.func62 #[] ?_; (with_reducible refine (impl_one.calls  tC0 _ A57.out).mono ?_); rintro e w62 ⟨vI8, rfl, ho0, hb⟩; refine ⟨_, rfl, ?_⟩; replace HO_889001 := eldV HO_889001 (Kd.R_base ho0) hb; replace HO_889002 := eldV HO_889002 (Kd.R_base ho0) hb; have HOC4 := lwR (nwR (Kd.R_newM (M := fun k_ => (w.heap.size ≤ k_)) ho0 (bsz HB) (fun k_ h_ => h_)) HO_5) HB; replace HO_5 := eldR HO_5 (Kd.R_base ho0) hb; replace BKA1 := bkb BKA1 hb; replace BKA0 := bkb BKA0 hb; replace HB := bst HB hb; (try clear hb); (try clear hb2); (try clear hk); (try clear hi); (try clear ho0); obtain ⟨Ao63, co63, eo63⟩ := Kd.R_slice HOC4.out; subst eo63) | ((with_reducible refine gate_callee (f := 77) rfl ?_); refine goesL_ (some 42) rfl rfl Try.func77 (by kernel_rfl) rfl #[.agg #[.bool (decide ((tA2.length : Int) > 0)), .slice Ao61 tA2.length co61, .slice Ao63 tC0.length co63]] rfl (by (try simp only [floor_gt]); (try simp only [List.map_toArray, List.map_cons, List.map_nil]); first | done | rfl | (simp only [List.length_drop, List.length_take]; rfl)) ?_; (with_reducible refine (impl_fullRat.calls (decide ((tA2.length : Int) > 0)) (fun k_ => some k_ = (.slice Ao61 tA2.length co61 : Value).ownBlock) (.slice Ao61 tA2.length co61) tA2 (fun k_ => some k_ = (.slice Ao63 tC0.length co63 : Value).ownBlock) (.slice Ao63 tC0.length co63) tC0 tB4 tE3 tE4 tG8 w _ ?side1 ?side2 ?side3 ?side4 ?side5 A58.out).mono ?_); (case side1 => repeat (first | (with_reducible first | exact HB.out | apply below_alloc | apply pw_below_drewN | apply below_drew1 | refine below_set ?_ GEA1.out | refine below_set ?_ GEA0.out) | exact HB.out)); (case side2 => exact Kd.R_tight rfl HO_5.out); (case side3 => exact fun k_ e_ => (HO_5.out.1 k_ e_.symm).2); (case side4 => exact Kd.R_tight rfl HOC4.out); (case side5 => exact fun k_ e_ => (HOC4.out.1 k_ e_.symm).2); rintro e w64 ⟨vE5, vE6, rfl, ho0, ho1, hb, hkp⟩; refine ⟨_, rfl, ?_⟩; replace HO_889001 := Aside0.mk (Kd.V_mono (ok' := fun k_ => ((P0_1_ k_ ∨ P0_2_ k_) ∨ w.heap.size ≤ k_) ∧ k_ ≠ gbA1 ∧ k_ ≠ gbA0 ∧ nO k_ vE5 ∧ nO k_ vE6) (Kd.V_keptB (HO_889001.out) hkp (fun k_ hk_ hs_ => Or.elim hs_ (fun e_ => (hk_.1.2.1) e_) (fun e_ => (hk_.2) e_))) (fun k_ hk_ => ⟨hk_.1.1.1, hk_.1.1.2.2.1, hk_.1.1.2.2.2, fun e_ => Or.elim (ho0.1 k_ e_.symm).1 (fun hs_ => hk_.2.1 hs_) (fun hn_ => Nat.not_le.2 hk_.2.2 hn_), fun e_ => Or.elim (ho1.1 k_ e_.symm).1 (fun hs_ => hk_.2.1 hs_) (fun hn_ => Nat.not_le.2 hk_.2.2 hn_)⟩)); replace HO_889002 := Aside0.mk (Kd.V_mono (ok' := fun k_ => ((P0_1_ k_ ∨ P0_2_ k_) ∨ w.heap.size ≤ k_) ∧ k_ ≠ gbA1 ∧ k_ ≠ gbA0 ∧ nO k_ vE5 ∧ nO k_ vE6) (Kd.V_keptB (HO_889002.out) hkp (fun k_ hk_ hs_ => Or.elim hs_ (fun e_ => (hk_.1.2.1) e_) (fun e_ => (hk_.2) e_))) (fun k_ hk_ => ⟨hk_.1.1.1, hk_.1.1.2.2.1, hk_.1.1.2.2.2, fun e_ => Or.elim (ho0.1 k_ e_.symm).1 (fun hs_ => hk_.2.1 hs_) (fun hn_ => Nat.not_le.2 hk_.2.2 hn_), fun e_ => Or.elim (ho1.1 k_ e_.symm).1 (fun hs_ => hk_.2.1 hs_) (fun hn_ => Nat.not_le.2 hk_.2.2 hn_)⟩)); replace BKA1 := Aside0.mk (blk_kept (crb BKA1) hkp (fun hs_ => Or.elim hs_ (fun e_ => (fun e_ => (Kd.R_ne HO_5.out BKA1.out (by decide)) e_) e_) (fun e_ => (fun e_ => (Kd.R_ne HOC4.out BKA1.out (by decide)) e_) e_))); replace BKA0 := Aside0.mk (blk_kept (crb BKA0) hkp (fun hs_ => Or.elim hs_ (fun e_ => (fun e_ => (Kd.R_ne HO_5.out BKA0.out (by decide)) e_) e_) (fun e_ => (fun e_ => (Kd.R_ne HOC4.out BKA0.out (by decide)) e_) e_))); have HOH0 := Aside0.mk (Kd.R_mono (ok' := fun k_ => (w.heap.size ≤ k_) ∧ nO k_ vE6) ho0 (fun k_ hk_ => ⟨Or.elim hk_.1 (fun hs_ => Or.elim hs_ (fun hs_ => (HO_5.out.1 k_ (hs_).symm).1) (fun hs_ => (HOC4.out.1 k_ (hs_).symm).1.1)) (fun hn_ => (Nat.le_trans (bsz HB) hn_)), hk_.2⟩)); have HOH1 := Aside0.mk (Kd.R_mono (ok' := fun k_ => (w.heap.size ≤ k_) ∧ nO k_ vE5) ho1 (fun k_ hk_ => ⟨Or.elim hk_.1 (fun hs_ => Or.elim hs_ (fun hs_ => (HO_5.out.1 k_ (hs_).symm).1) (fun hs_ => (HOC4.out.1 k_ (hs_).symm).1.1)) (fun hn_ => (Nat.le_trans (bsz HB) hn_)), hk_.2⟩)); replace HB := Aside0.mk (hb); clear HOC4 HO_5; (try clear hb); (try clear hkp); (try clear ho0); (try clear ho1); obtain ⟨hcz65_0, hcz65_1, hcz65_2, hfz65_0, hfz65_1, hfz65_2⟩ := bc3 BKA0; obtain ⟨Ao66, co66, eo66⟩ := Kd.R_slice HOH0.out; subst eo66; obtain ⟨Ao67, co67, eo67⟩ := Kd.R_slice HOH1.out; subst eo67))
      refine bodyPost_ret (results_ct rfl _ _ gbA0 24 #[.bool tB4, .slice Ao66 tE3.length co66, .slice Ao67 tE4.length co67] (0, 0) _ rfl (bp3 BKA0 _ _ _) Try.underlying24 rfl (by kernel_rfl)) rfl ?_
      exact ⟨_, _, er_, (crN HOH0 BKA0 fun _ hk => ⟨hk.1.1, hk.1.2⟩), (crN HOH1 BKA0 fun _ hk => ⟨hk.1.1, hk.1.2⟩), blw HB⟩
     ·
      replace c56 := Bool.eq_false_iff.mpr c56
      subst c56
      rw [if_neg (show ¬ (false = true) by decide)] at H
      replace H := Option.bind_eq_some_iff.mp H
      obtain ⟨tC1, AH2, H⟩ := H
      replace H : ((impl_fullRat.f false tA2 tC1).bind fun btB5 => (some (btB5.1, btB5.2.1, btB5.2.2.1, btB5.2.2.2))) = some (r1, r2, r3, r4) := H
      have A68 := Aside0.mk AH2
      clear AH2
      replace H := Option.bind_eq_some_iff.mp H
      obtain ⟨⟨tB5, tE7, tE8, tH3⟩, AH4, H⟩ := H
      replace H : (some (tB5, tE7, tE8, tH3)) = some (r1, r2, r3, r4) := H
      have A69 := Aside0.mk AH4
      clear AH4
      simp only [Option.some.injEq, Prod.mk.injEq] at H
      obtain ⟨rfl, rfl, rfl, rfl⟩ := H
      have hnb70 := NBA1_A0.out
      have hnc70 := NBA0_A1.out
      obtain ⟨hcz71_0, hcz71_1, hcz71_2, hfz71_0, hfz71_1, hfz71_2⟩ := bc3 BKA1
      go_wp2_with (first | ((with_reducible refine gate_callee (f := 62) rfl ?_); refine gL_ (some 40) Try.func62 #[] ?_; (with_reducible refine (impl_one.calls  tC1 _ A68.out).mono ?_); rintro e w72 ⟨vI9, rfl, ho0, hb⟩; refine ⟨_, rfl, ?_⟩; replace HO_889001 := eldV HO_889001 (Kd.R_base ho0) hb; replace HO_889002 := eldV HO_889002 (Kd.R_base ho0) hb; have HOC5 := lwR (nwR (Kd.R_newM (M := fun k_ => (w.heap.size ≤ k_)) ho0 (bsz HB) (fun k_ h_ => h_)) HO_5) HB; replace HO_5 := eldR HO_5 (Kd.R_base ho0) hb; replace BKA1 := bkb BKA1 hb; replace BKA0 := bkb BKA0 hb; replace HB := bst HB hb; (try clear hb); (try clear hb2); (try clear hk); (try clear hi); (try clear ho0); obtain ⟨Ao73, co73, eo73⟩ := Kd.R_slice HOC5.out; subst eo73; obtain ⟨Ao74, co74, eo74⟩ := Kd.R_slice HO_5.out; subst eo74) | ((with_reducible refine gate_callee (f := 77) rfl ?_); refine gL_ (some 42) Try.func77 #[.agg #[.bool false, .slice Ao74 tA2.length co74, .slice Ao73 tC1.length co73]] ?_; (with_reducible refine (impl_fullRat.calls false (fun k_ => some k_ = (.slice Ao74 tA2.length co74 : Value).ownBlock) (.slice Ao74 tA2.length co74) tA2 (fun k_ => some k_ = (.slice Ao73 tC1.length co73 : Value).ownBlock) (.slice Ao73 tC1.length co73) tC1 tB5 tE7 tE8 tH3 w _ ?side1 ?side2 ?side3 ?side4 ?side5 A69.out).mono ?_); (case side1 => repeat (first | (with_reducible first | exact HB.out | apply below_alloc | apply pw_below_drewN | apply below_drew1 | refine below_set ?_ GEA1.out | refine below_set ?_ GEA0.out) | exact HB.out)); (case side2 => exact Kd.R_tight rfl HO_5.out); (case side3 => exact fun k_ e_ => (HO_5.out.1 k_ e_.symm).2); (case side4 => exact Kd.R_tight rfl HOC5.out); (case side5 => exact fun k_ e_ => (HOC5.out.1 k_ e_.symm).2); rintro e w75 ⟨vE9, vF0, rfl, ho0, ho1, hb, hkp⟩; refine ⟨_, rfl, ?_⟩; replace HO_889001 := Aside0.mk (Kd.V_mono (ok' := fun k_ => ((P0_1_ k_ ∨ P0_2_ k_) ∨ w.heap.size ≤ k_) ∧ k_ ≠ gbA1 ∧ k_ ≠ gbA0 ∧ nO k_ vE9 ∧ nO k_ vF0) (Kd.V_keptB (HO_889001.out) hkp (fun k_ hk_ hs_ => Or.elim hs_ (fun e_ => (hk_.1.2.1) e_) (fun e_ => (hk_.2) e_))) (fun k_ hk_ => ⟨hk_.1.1.1, hk_.1.1.2.2.1, hk_.1.1.2.2.2, fun e_ => Or.elim (ho0.1 k_ e_.symm).1 (fun hs_ => hk_.2.1 hs_) (fun hn_ => Nat.not_le.2 hk_.2.2 hn_), fun e_ => Or.elim (ho1.1 k_ e_.symm).1 (fun hs_ => hk_.2.1 hs_) (fun hn_ => Nat.not_le.2 hk_.2.2 hn_)⟩)); replace HO_889002 := Aside0.mk (Kd.V_mono (ok' := fun k_ => ((P0_1_ k_ ∨ P0_2_ k_) ∨ w.heap.size ≤ k_) ∧ k_ ≠ gbA1 ∧ k_ ≠ gbA0 ∧ nO k_ vE9 ∧ nO k_ vF0) (Kd.V_keptB (HO_889002.out) hkp (fun k_ hk_ hs_ => Or.elim hs_ (fun e_ => (hk_.1.2.1) e_) (fun e_ => (hk_.2) e_))) (fun k_ hk_ => ⟨hk_.1.1.1, hk_.1.1.2.2.1, hk_.1.1.2.2.2, fun e_ => Or.elim (ho0.1 k_ e_.symm).1 (fun hs_ => hk_.2.1 hs_) (fun hn_ => Nat.not_le.2 hk_.2.2 hn_), fun e_ => Or.elim (ho1.1 k_ e_.symm).1 (fun hs_ => hk_.2.1 hs_) (fun hn_ => Nat.not_le.2 hk_.2.2 hn_)⟩)); replace BKA1 := Aside0.mk (blk_kept (crb BKA1) hkp (fun hs_ => Or.elim hs_ (fun e_ => (fun e_ => (Kd.R_ne HO_5.out BKA1.out (by decide)) e_) e_) (fun e_ => (fun e_ => (Kd.R_ne HOC5.out BKA1.out (by decide)) e_) e_))); replace BKA0 := Aside0.mk (blk_kept (crb BKA0) hkp (fun hs_ => Or.elim hs_ (fun e_ => (fun e_ => (Kd.R_ne HO_5.out BKA0.out (by decide)) e_) e_) (fun e_ => (fun e_ => (Kd.R_ne HOC5.out BKA0.out (by decide)) e_) e_))); have HOH5 := Aside0.mk (Kd.R_mono (ok' := fun k_ => (w.heap.size ≤ k_) ∧ nO k_ vF0) ho0 (fun k_ hk_ => ⟨Or.elim hk_.1 (fun hs_ => Or.elim hs_ (fun hs_ => (HO_5.out.1 k_ (hs_).symm).1) (fun hs_ => (HOC5.out.1 k_ (hs_).symm).1.1)) (fun hn_ => (Nat.le_trans (bsz HB) hn_)), hk_.2⟩)); have HOH6 := Aside0.mk (Kd.R_mono (ok' := fun k_ => (w.heap.size ≤ k_) ∧ nO k_ vE9) ho1 (fun k_ hk_ => ⟨Or.elim hk_.1 (fun hs_ => Or.elim hs_ (fun hs_ => (HO_5.out.1 k_ (hs_).symm).1) (fun hs_ => (HOC5.out.1 k_ (hs_).symm).1.1)) (fun hn_ => (Nat.le_trans (bsz HB) hn_)), hk_.2⟩)); replace HB := Aside0.mk (hb); clear HOC5 HO_5; (try clear hb); (try clear hkp); (try clear ho0); (try clear ho1); obtain ⟨hcz76_0, hcz76_1, hcz76_2, hfz76_0, hfz76_1, hfz76_2⟩ := bc3 BKA0; obtain ⟨Ao77, co77, eo77⟩ := Kd.R_slice HOH5.out; subst eo77; obtain ⟨Ao78, co78, eo78⟩ := Kd.R_slice HOH6.out; subst eo78))
      refine bodyPost_ret (results_ct rfl _ _ gbA0 24 #[.bool tB5, .slice Ao77 tE7.length co77, .slice Ao78 tE8.length co78] (0, 0) _ rfl (bp3 BKA0 _ _ _) Try.underlying24 rfl (by kernel_rfl)) rfl ?_
      exact ⟨_, _, er_, (crN HOH5 BKA0 fun _ hk => ⟨hk.1.1, hk.1.2⟩), (crN HOH6 BKA0 fun _ hk => ⟨hk.1.1, hk.1.2⟩), blw HB⟩
 ·
  rw [if_neg c3] at H
  have c3b0 : (tB2 == 0) = false := beq_eq_false_iff_ne.mpr c3
  have c3b1 : (tB2 != 0) = true := bne_iff_ne.mpr c3
  simp only [Option.some.injEq, Prod.mk.injEq] at H
  obtain ⟨rfl, rfl, rfl, rfl⟩ := H
  go_enter Try.func31, Try.ntmps31
  go_wp2_with (first | ((with_reducible refine gate_dst (N := 1) rfl ?_); (try (refine gate_guard (by rfl) ?_; dsimp only)); refine bx_ (N := 1) (cs := #[.bool a0_0, .slice A0_1 l0_1.length c0_1, .slice A0_2 l0_2.length c0_2]) (t := 24) ?_; intro gbA1 hg w79 hbox hb; replace HO0_1 := elbV HO0_1 hg hb; replace HO0_2 := elbV HO0_2 hg hb; have BKA1 := Aside0.mk (hbox); have GWA1 := geh hg HB; have GEA1 := geh hg HB; replace HB := bst HB hb; clear hb hbox hg) | ((with_reducible refine gate_dst (N := 2) rfl ?_); (try (refine gate_guard (by rfl) ?_; dsimp only)); refine bx_ (N := 2) (cs := #[.bool false, .slice none 0 0, .slice none 0 0]) (t := 24) ?_; intro gbA0 hg w80 hbox hb; replace HO0_1 := elbV HO0_1 hg hb; replace HO0_2 := elbV HO0_2 hg hb; have BKA0 := Aside0.mk (hbox); have GWA0 := geh hg HB; have GEA0 := geh hg HB; replace HB := bst HB hb; have NBA1_A0 := nlt hg BKA1; have NBA0_A1 := ngt hg BKA1; replace BKA1 := bkb BKA1 hb; clear hb hbox hg; have hnb81 := NBA1_A0.out; have hnc81 := NBA0_A1.out; obtain ⟨hcz82_0, hcz82_1, hcz82_2, hfz82_0, hfz82_1, hfz82_2⟩ := bc3 BKA1) | ((with_reducible refine gate_dst (N := 8) rfl ?_); (try (refine gate_guard (by rfl) ?_; dsimp only)); refine Kd.N_lit k24 _ 24 ?hg (N' := 8) ?hd (xs := ([(⟨a0_0, l0_1, l0_2⟩ : S24)] : List (S24))) (inner := [.bool a0_0, .slice A0_1 l0_1.length c0_1, .slice A0_2 l0_2.length c0_2]) (ok := (fun k_ => ((P0_1_ k_ ∨ P0_2_ k_) ∨ w.heap.size ≤ k_) ∧ k_ ≠ gbA1 ∧ k_ ≠ gbA0)) (okp := (fun k_ => ((P0_1_ k_ ∨ P0_2_ k_) ∨ w.heap.size ≤ k_) ∧ k_ ≠ gbA1 ∧ k_ ≠ gbA0)) ?hr ?hp (fun _ hk => hk) ((show ∀ k_, w80.heap.size ≤ k_ → (fun k_ => ((P0_1_ k_ ∨ P0_2_ k_) ∨ w.heap.size ≤ k_) ∧ k_ ≠ gbA1 ∧ k_ ≠ gbA0) k_ from fun k_ hk => ⟨(.inr (Nat.le_trans (bsz HB) hk)), Kd.freshB (g := gbA1) (o := .cells #[.bool a0_0, .slice A0_1 l0_1.length c0_1, .slice A0_2 l0_2.length c0_2] 24 (0, 0)) (crb BKA1) k_ hk, Kd.freshB (g := gbA0) (o := .cells #[.bool false, .slice none 0 0, .slice none 0 0] 24 (0, 0)) (crb BKA0) k_ hk⟩) _ (Nat.le_refl _)) (Below.refl _ _) (Nat.le_refl _) (by simp) ?_; (case hd => rfl); (case hg => rfl); (case hr => first | (go_simp; done) | (go_simp; rfl)); (case hp => exact (Reps.c3 (show Kd.FK k24 _ _ (⟨a0_0, l0_1, l0_2⟩ : S24) [.bool a0_0, .slice A0_1 l0_1.length c0_1, .slice A0_2 l0_2.length c0_2] from (k24_mkF _ _ (⟨a0_0, l0_1, l0_2⟩ : S24) (Kd.V_reads' (Kd.V_mono (ok' := (fun k_ => ((P0_1_ k_ ∨ P0_2_ k_) ∨ w.heap.size ≤ k_) ∧ k_ ≠ gbA1 ∧ k_ ≠ gbA0)) (HO0_1.out) (fun k_ hk => ⟨hk.1.1, ⟨hk.1.2, hk.2⟩⟩))).2.1 (Kd.V_F (Kd.V_mono (ok' := (fun k_ => ((P0_1_ k_ ∨ P0_2_ k_) ∨ w.heap.size ≤ k_) ∧ k_ ≠ gbA1 ∧ k_ ≠ gbA0)) (HO0_1.out) (fun k_ hk => ⟨hk.1.1, ⟨hk.1.2, hk.2⟩⟩))) (Kd.V_reads' (Kd.V_mono (ok' := (fun k_ => ((P0_1_ k_ ∨ P0_2_ k_) ∨ w.heap.size ≤ k_) ∧ k_ ≠ gbA1 ∧ k_ ≠ gbA0)) (HO0_2.out) (fun k_ hk => ⟨hk.1.1, ⟨hk.1.2, hk.2⟩⟩))).2.1 (Kd.V_F (Kd.V_mono (ok' := (fun k_ => ((P0_1_ k_ ∨ P0_2_ k_) ∨ w.heap.size ≤ k_) ∧ k_ ≠ gbA1 ∧ k_ ≠ gbA0)) (HO0_2.out) (fun k_ hk => ⟨hk.1.1, ⟨hk.1.2, hk.2⟩⟩))))) (Reps.none _ _))); intro vH7 w83 ho84 hb hg_ hnew_; clear hg_ hnew_; (first | rw [← NyB9.out] at ho84 | (simp only [Int.reduceToNat] at ho84; rw [← NyB9.out] at ho84)); replace HO0_1 := eldV HO0_1 (Kd.N_base ho84) hb; replace HO0_2 := eldV HO0_2 (Kd.N_base ho84) hb; have HOB6 := Aside0.mk (Kd.N_lower ho84 (bsz HB)); replace BKA1 := bkb BKA1 hb; replace BKA0 := bkb BKA0 hb; replace HB := bst HB hb; clear hb ho84; obtain ⟨Ao85, co85, eo85⟩ := Kd.N_slice HOB6.out; subst eo85) | ((with_reducible refine gate_callee (f := 65) rfl ?_); refine gL_ (some 9) Try.func65 #[.slice Ao85 yB9.length co85] ?_; (with_reducible refine (impl_ratsCode.calls k _ _ yB9 tB2 _ ?side1 ?side2 A2.out).mono ?_); (case side1 => exact crC (Kd.N_reads' HOB6.out).2.2); (case side2 => exact (Kd.N_reads' HOB6.out).2.1); rintro e w86 ⟨rfl, hb⟩; refine ⟨_, rfl, ?_⟩; replace HO0_1 := rblV HO0_1 hb; replace HO0_2 := rblV HO0_2 hb; replace HOB6 := Aside0.mk (Kd.N_below (by (with_reducible repeat (first | apply Kd.N_alloc | apply Kd.N_drewN | apply Kd.N_drew)); exact HOB6.out) hb); replace BKA1 := bkb BKA1 hb; replace BKA0 := bkb BKA0 hb; replace HB := bst HB hb; (try clear hb); (try clear hb2); (try clear hk); (try clear hi); obtain ⟨hcz87_0, hcz87_1, hcz87_2, hfz87_0, hfz87_1, hfz87_2⟩ := bc3 BKA0))
  refine bodyPost_ret (results_ct rfl _ _ gbA0 24 #[.bool false, .slice none 0 0, .slice none 0 0] (0, 0) _ rfl (bp3 BKA0 _ _ _) Try.underlying24 rfl (by kernel_rfl)) rfl ?_
  exact ⟨_, _, er_, by first | exact Kd.R_nil _ _ _ _ _ | exact Kd.N_nil _ _ _ _ _ | exact Kd.V_nil _ _ _ _ _ | exact Kd.Q_nil _ _ _ _ _ | exact Kd.S_nil _ _ _ _ _, by first | exact Kd.R_nil _ _ _ _ _ | exact Kd.N_nil _ _ _ _ _ | exact Kd.V_nil _ _ _ _ _ | exact Kd.Q_nil _ _ _ _ _ | exact Kd.S_nil _ _ _ _ _, blw HB⟩

/-- A state of type 82 at block g of W; what its slices lead to came in by w0. -/
def IsS82 (w0 W : World) (g : Nat) (f0 : List Int) (f1 : Int) (f2 : Int) : Prop := ∃ A0 c0, W.heap[g]? = some (.cells #[.slice A0 f0.length c0, .int .i64 f1, .int .i64 f2] 82 (0, 0)) ∧ w0.heap.size ≤ g ∧ Kd.C (Kd.int .u8) w0 A0 f0.length f0
theorem IsS82.grown {w0 W : World} {g : Nat} {f0 : List Int} {f1 : Int} {f2 : Int} {W1 : World} {row : Option Nat} (h : IsS82 w0 W g f0 f1 f2) (hw : W.grownBy W1 row) (hne : some g ≠ row) : IsS82 w0 W1 g f0 f1 f2 := by
 obtain ⟨A0, c0, hb, hg, hr0⟩ := h
 exact ⟨A0, c0, blk_grown hb hw hne, hg, hr0⟩
theorem IsS82.below {w0 W : World} {g : Nat} {f0 : List Int} {f1 : Int} {f2 : Int} {W1 : World} (h : IsS82 w0 W g f0 f1 f2) (hw : Below W.heap.size W W1) : IsS82 w0 W1 g f0 f1 f2 := h.grown (grown_of_below hw none) (by simp)
theorem IsS82.apart {w0 W : World} {g : Nat} {f0 : List Int} {f1 : Int} {f2 : Int} {α : Type} {d : Kd α} {e : Nat} {base : Nat} {ok : Nat → Prop} {v : Value} {xs : List α} (h : IsS82 w0 W g f0 f1 f2) (ho : d.R e W base ok v xs) (ht : ∀ q, q ∈ e :: d.E → q ≠ 82) : d.R e W base (fun k => ok k ∧ k ≠ g) v xs := by
 obtain ⟨A0, c0, hb, hg, hr0⟩ := h
 exact Kd.R_types ho hb ht
theorem IsS82.own_ne {w0 W : World} {g : Nat} {f0 : List Int} {f1 : Int} {f2 : Int} {α : Type} {d : Kd α} {e : Nat} {base : Nat} {ok : Nat → Prop} {v : Value} {xs : List α} (h : IsS82 w0 W g f0 f1 f2) (ho : d.R e W base ok v xs) (ht : e ≠ 82) : some g ≠ v.ownBlock := by
 obtain ⟨A0, c0, hb, hg, hr0⟩ := h
 exact Kd.R_ne ho hb ht
theorem IsS82.lt {w0 W : World} {g : Nat} {f0 : List Int} {f1 : Int} {f2 : Int} (h : IsS82 w0 W g f0 f1 f2) : g < W.heap.size := by
 obtain ⟨A0, c0, hb, hg, hr0⟩ := h
 exact blk_lt hb
theorem IsS82.ne_blk {w0 W : World} {g : Nat} {f0 : List Int} {f1 : Int} {f2 : Int} {a : Nat} {cs : Array Value} {t : TypeId} {fr : Nat × Nat} (h : IsS82 w0 W g f0 f1 f2) (hb2 : W.heap[a]? = some (.cells cs t fr)) (ht : t ≠ 82) : g ≠ a := by
 obtain ⟨A0, c0, hb, hg, hr0⟩ := h
 rintro rfl
 rw [hb] at hb2
 injection hb2 with hb2
 injection hb2 with _ ht2
 exact ht ht2.symm
theorem IsS82.far {w0 W : World} {g : Nat} {f0 : List Int} {f1 : Int} {f2 : Int} {p : Addr} (h : IsS82 w0 W g f0 f1 f2) (hne : g ≠ p.block) (u : Value) : IsS82 w0 (W.setCell p u) g f0 f1 f2 := by
 obtain ⟨A0, c0, hb, hg, hr0⟩ := h
 exact ⟨A0, c0, blk_far hb hne u, hg, hr0⟩
theorem cellS82_0 {W : World} {g : Nat} {A0 : Option Addr} {c0 : Nat} {f0 : List Int} {f1 : Int} {f2 : Int} (h : W.heap[g]? = some (.cells #[.slice A0 f0.length c0, .int .i64 f1, .int .i64 f2] 82 (0, 0))) : W.cell? ⟨g, 0, none⟩ = some (.slice A0 f0.length c0) := (blk_cell h 0).trans rfl
theorem cellS82_1 {W : World} {g : Nat} {A0 : Option Addr} {c0 : Nat} {f0 : List Int} {f1 : Int} {f2 : Int} (h : W.heap[g]? = some (.cells #[.slice A0 f0.length c0, .int .i64 f1, .int .i64 f2] 82 (0, 0))) : W.cell? ⟨g, 1, none⟩ = some (.int .i64 f1) := (blk_cell h 1).trans rfl
theorem cellS82_2 {W : World} {g : Nat} {A0 : Option Addr} {c0 : Nat} {f0 : List Int} {f1 : Int} {f2 : Int} (h : W.heap[g]? = some (.cells #[.slice A0 f0.length c0, .int .i64 f1, .int .i64 f2] 82 (0, 0))) : W.cell? ⟨g, 2, none⟩ = some (.int .i64 f2) := (blk_cell h 2).trans rfl
def spec_l00Source.f (l0 : List Int) : Option (List Int × Int × Int) := some (l0, 0, (l0.length : Int) % 1000)
set_option maxHeartbeats 8000000 in
set_option maxRecDepth 100000 in
theorem spec_l00Source.calls (A0 : Option Addr) (c0 : Nat) (l0 : List Int) (r1 : List Int) (r2 : Int) (r3 : Int) (w0 w : World) (hB : Below w0.heap.size w0 w) (hr0 : Kd.C (Kd.int .u8) w0 A0 l0.length l0) (hc0 : l0.length ≤ c0) (h : spec_l00Source.f l0 = some (r1, r2, r3)) :
  Calls Try.prog 88 #[.slice A0 l0.length c0] w fun e w' => ∃ g_ : Nat, e = .returned (.pointer (some ⟨g_, 0, none⟩)) ∧ IsS82 w0 w' g_ r1 r2 r3 ∧ Below w0.heap.size w0 w' ∧ Below w.heap.size w w' := by
 have hu82 := Try.underlying82
 have HR0 := Aside0.mk hr0
 have HC0 := Aside0.mk hc0
 clear hr0 hc0
 have HBW := Aside0.mk (Below.refl w.heap.size w)
 have HW0 := Aside0.mk hB.size
 have HB := Aside0.mk hB
 clear hB
 have H : (some (l0, 0, (l0.length : Int) % 1000)) = some (r1, r2, r3) := h
 clear h
 simp only [Option.some.injEq, Prod.mk.injEq] at H
 obtain ⟨rfl, rfl, rfl⟩ := H
 go_enter Try.func88, Try.ntmps88
 go_wp2_with (first | ((with_reducible refine gate_dst (N := 8) rfl ?_); refine bx_ (N := 8) (cs := #[.slice A0 l0.length c0, .int .i64 0, .int .i64 ((l0.length : Int) % 1000)]) (t := 82) ?_; intro gbB2 hg w2 hbox hb; replace HB := bst HB hb; have BKB2 := Aside0.mk (hbox); have GWB2 := Aside0.mk ((by rw [hg]; exact (below_size (by repeat (first | (with_reducible first | exact HBW.out | apply below_alloc | apply pw_below_drewN | apply below_drew1) | exact HBW.out))) : w.heap.size ≤ gbB2)); have GEB2 := Aside0.mk ((Nat.le_trans HW0.out (by rw [hg]; exact (below_size (by repeat (first | (with_reducible first | exact HBW.out | apply below_alloc | apply pw_below_drewN | apply below_drew1) | exact HBW.out))) : w.heap.size ≤ gbB2) : w0.heap.size ≤ gbB2)); replace HBW := Aside0.mk (below_step HBW.out hb); clear hb hbox hg))
 go_ret
 exact ⟨_, rfl, (show IsS82 w0 _ gbB2 l0 0 ((l0.length : Int) % 1000) from ⟨_, _, by (with_reducible repeat (first | refine blk_drewN ?_ _ | refine blk_drew ?_ | refine blk_alloc ?_ _)); exact BKB2.out, GEB2.out, HR0.out⟩), by repeat (first | (with_reducible first | exact HB.out | apply below_alloc | apply pw_below_drewN | apply below_drew1 | refine below_set ?_ GEB2.out) | exact HB.out), by repeat (first | (with_reducible first | exact HBW.out | apply below_alloc | apply pw_below_drewN | apply below_drew1 | refine below_set ?_ GWB2.out) | exact HBW.out)⟩

def spec_l00Src_byte.f (l0 : List Int) (a b : Int) : Option (Int × Int × Int) :=
 if 0 ≤ a ∧ a < 4294967296 ∧ 0 ≤ b ∧ b < 2147483648 then
  (if a < l0.length then (if 0 ≤ rd l0 a ∧ rd l0 a < 256 then some (rd l0 a, a + 1, (b * 31 + rd l0 a + 7) % 2147483648) else none)
   else if 3000 < a + 1 then some (0, a + 1, b)
   else some ((b * 1103515245 + 12345) % 2147483648 / 65536 % 256, a + 1, (b * 1103515245 + 12345) % 2147483648))
 else none
set_option maxHeartbeats 2000000 in
set_option maxRecDepth 100000 in
theorem spec_l00Src_byte.calls (g : Nat) (s0_0 : List Int) (s0_1 : Int) (s0_2 : Int) (r1 : Int) (r2 : Int) (r3 : Int) (w0 w : World) (hI : IsS82 w0 w g s0_0 s0_1 s0_2) (hB : Below w0.heap.size w0 w) (h : spec_l00Src_byte.f s0_0 s0_1 s0_2 = some (r1, r2, r3)) :
  Calls Try.prog 120 #[.pointer (some ⟨g, 0, none⟩)] w fun e w' => e = .returned (.int .i64 r1) ∧ IsS82 w0 w' g s0_0 r2 r3 ∧ Below w0.heap.size w0 w' ∧ KeepBut w w' g none := by
 have hu56 := Try.underlying82
 obtain ⟨A0, c0, hb, hg, hr0⟩ := hI
 have HB := Aside0.mk hB
 have HR0 := Aside0.mk hr0
 have hs0 := hr0.2.1
 clear hr0 hB
 have HK := Aside0.mk (KeepBut.refl w g none)
 unfold spec_l00Src_byte.f at h
 split at h
 case isFalse => exact absurd h (by simp)
 case isTrue hc =>
 obtain ⟨ha0, ha1, hb0, hb1⟩ := hc
 have e1 := cellS82_1 hb
 have ew : wrap64 (s0_1 + 1) = s0_1 + 1 := by simp only [wrap64]; omega
 have z1 := blk_frozen hb 1
 go_enter Try.func120, Try.ntmps120
 go_wp2
 have hb2 := blk_set hb 1 (.int .i64 (s0_1 + 1))
 simp only [List.setIfInBounds_toArray, List.set_cons_succ, List.set_cons_zero] at hb2
 have HB1 := Aside0.mk (below_set (g := g) (j := 1) (v := .int .i64 (s0_1 + 1)) HB.out hg)
 have HK1 := Aside0.mk (HK.out.set_ 1 (.int .i64 (s0_1 + 1)))
 clear HB HK e1 z1 hb
 generalize World.setCell w (⟨g, 1, none⟩ : Addr) (.int .i64 (s0_1 + 1)) = w1 at hb2 HB1 HK1 ⊢
 have f0 := Aside0.mk (cellS82_0 hb2)
 have f1 := Aside0.mk (cellS82_1 hb2)
 have f2 := Aside0.mk (cellS82_2 hb2)
 have f4 := Aside0.mk (blk_frozen hb2 2)
 have E0 := f0.out
 have E1 := f1.out
 have E2 := f2.out
 have E4 := f4.out
 by_cases c1 : s0_1 < (s0_0.length : Int)
 ·
  rw [if_pos c1] at h
  have c2 : decide (s0_1 + 1 ≤ (s0_0.length : Int)) = true := decide_eq_true (by omega)
  split at h
  case isFalse => exact absurd h (by simp)
  case isTrue hx =>
  obtain ⟨hx0, hx1⟩ := hx
  have H := Aside0.mk h
  clear h
  obtain ⟨ad, rfl, hx⟩ := Kd.at_int (Kd.C_below HR0.out HB1.out) s0_1 ha0 c1
  have f3 := Aside0.mk hx
  have ew0 : wrap64 s0_1 = s0_1 := by simp only [wrap64]; omega
  have ev : (wrap64 (wrap64 (wrap64 (s0_2 * 31) + wrap64 (rd s0_0 s0_1)) + 7)).tmod 2147483648 = (s0_2 * 31 + rd s0_0 s0_1 + 7) % 2147483648 := by
   clear H hx f3 HR0
   generalize rd s0_0 s0_1 = x at *
   have h1 : wrap64 (s0_2 * 31) = s0_2 * 31 := by simp only [wrap64]; omega
   have h2 : wrap64 x = x := by simp only [wrap64]; omega
   have h3 : wrap64 (s0_2 * 31 + x) = s0_2 * 31 + x := by simp only [wrap64]; omega
   have h4 : wrap64 (s0_2 * 31 + x + 7) = s0_2 * 31 + x + 7 := by simp only [wrap64]; omega
   rw [h1, h2, h3, h4]
   exact Int.tmod_eq_emod_of_nonneg (by omega)
  have p1 := eq_true ha0
  have q1 := eq_true c1
  go_quiet (fail)
  go_wp2
  refine start_ (n := 24) (S := fun w' => w'.cell? ⟨g, 0, none⟩ = some (.slice (some ad) s0_0.length c0) ∧ w'.cell? ⟨g, 1, none⟩ = some (.int .i64 (s0_1 + 1)) ∧ w'.cell? ⟨g, 2, none⟩ = some (.int .i64 s0_2) ∧ w'.cell? (ad.add s0_1.toNat) = some (.int .u8 (rd s0_0 s0_1)) ∧ w'.frozen? ⟨g, 2, none⟩ = false) (ds := [23]) (bm 24 0) (by kernel_rfl) rfl rfl ⟨f0.out, f1.out, f2.out, f3.out, f4.out⟩ (fun hHeld => ?_)
  refine pure_ (i := 0) (N := some 20) (v := ?_) (a' := ?_) (bm 24 1) rfl rfl (by kernel_rfl) (fun _ _ _ h => h) (Or.inl ⟨by rfl, ?_⟩) ?_ ?_
  rotate_left
  ·
   intro w'
   go_simp
   with_reducible rfl
  rotate_left
  ·
   simp only [Act.put, List.setIfInBounds_toArray, List.set_cons_zero, List.set_cons_succ, i64_w, i32_w]
   rfl
  refine pure_ (i := 1) (N := some 21) (v := ?_) (a' := ?_) (bm 24 3) rfl rfl (by kernel_rfl) (fun _ _ _ h => h) (Or.inl ⟨by rfl, ?_⟩) ?_ ?_
  rotate_left
  ·
   intro w'
   go_simp
   with_reducible rfl
  rotate_left
  ·
   simp only [Act.put, List.setIfInBounds_toArray, List.set_cons_zero, List.set_cons_succ, i64_w, i32_w]
   rfl
  refine pure_ (i := 2) (N := some 22) (v := ?_) (a' := ?_) (bm 24 7) rfl rfl (by kernel_rfl) (fun _ _ _ h => h) (Or.inl ⟨by rfl, ?_⟩) ?_ ?_
  rotate_left
  ·
   intro w'
   go_simp
   with_reducible rfl
  rotate_left
  ·
   simp only [Act.put, List.setIfInBounds_toArray, List.set_cons_zero, List.set_cons_succ, i64_w, i32_w]
   rfl
  refine pure_ (i := 3) (N := some 23) (v := ?_) (a' := ?_) (bm 24 15) rfl rfl (by kernel_rfl) (fun _ _ _ h => h) (Or.inl ⟨by rfl, ?_⟩) ?_ ?_
  rotate_left
  ·
   intro w'
   go_simp
   with_reducible rfl
  rotate_left
  ·
   simp only [Act.put, List.setIfInBounds_toArray, List.set_cons_zero, List.set_cons_succ, i64_w, i32_w]
   rfl
  refine pure_ (i := 6) (N := some 26) (v := ?_) (a' := ?_) (bm 24 79) rfl rfl (by kernel_rfl) (fun _ _ _ h => h) (Or.inl ⟨by rfl, ?_⟩) ?_ ?_
  rotate_left
  ·
   intro w'
   go_simp
   with_reducible rfl
  rotate_left
  ·
   simp only [Act.put, List.setIfInBounds_toArray, List.set_cons_zero, List.set_cons_succ, i64_w, i32_w]
   rfl
  refine pure_ (i := 7) (N := some 27) (v := ?_) (a' := ?_) (bm 24 207) rfl rfl (by kernel_rfl) (fun _ _ _ h => h) (Or.inl ⟨by rfl, ?_⟩) ?_ ?_
  rotate_left
  ·
   intro w'
   go_simp
   with_reducible rfl
  rotate_left
  ·
   simp only [Act.put, List.setIfInBounds_toArray, List.set_cons_zero, List.set_cons_succ, i64_w, i32_w]
   rfl
  refine pure_ (i := 8) (N := some 28) (v := ?_) (a' := ?_) (bm 24 463) rfl rfl (by kernel_rfl) (fun _ _ _ h => h) (Or.inl ⟨by rfl, ?_⟩) ?_ ?_
  rotate_left
  ·
   intro w'
   go_simp
   with_reducible rfl
  rotate_left
  ·
   simp only [Act.put, List.setIfInBounds_toArray, List.set_cons_zero, List.set_cons_succ, i64_w, i32_w]
   rfl
  refine pure_ (i := 10) (N := some 30) (v := ?_) (a' := ?_) (bm 24 1487) rfl rfl (by kernel_rfl) (fun _ _ _ h => h) (Or.inl ⟨by rfl, ?_⟩) ?_ ?_
  rotate_left
  ·
   intro w'
   go_simp
   with_reducible rfl
  rotate_left
  ·
   simp only [Act.put, List.setIfInBounds_toArray, List.set_cons_zero, List.set_cons_succ, i64_w, i32_w]
   rfl
  refine pure_ (i := 11) (N := some 31) (v := ?_) (a' := ?_) (bm 24 3535) rfl rfl (by kernel_rfl) (fun _ _ _ h => h) (Or.inl ⟨by rfl, ?_⟩) ?_ ?_
  rotate_left
  ·
   intro w'
   go_simp
   with_reducible rfl
  rotate_left
  ·
   simp only [Act.put, List.setIfInBounds_toArray, List.set_cons_zero, List.set_cons_succ, i64_w, i32_w]
   rfl
  refine pure_ (i := 12) (N := some 32) (v := ?_) (a' := ?_) (bm 24 7631) rfl rfl (by kernel_rfl) (fun _ _ _ h => h) (Or.inl ⟨by rfl, ?_⟩) ?_ ?_
  rotate_left
  ·
   intro w'
   go_simp
   with_reducible rfl
  rotate_left
  ·
   simp only [Act.put, List.setIfInBounds_toArray, List.set_cons_zero, List.set_cons_succ, i64_w, i32_w]
   rfl
  refine take_ (i := 4) (N := some 24) (v := ?_) (a' := ?_) (bm 24 7647) rfl rfl (by kernel_rfl) (fun _ _ _ h => h) (Or.inl ⟨by rfl, ?_⟩) hHeld ?_ ?_
  rotate_left
  ·
   rintro w' ⟨s0, s1, s2, s3, s4⟩
   go_simp
   with_reducible rfl
  rotate_left
  ·
   simp only [Act.put, List.setIfInBounds_toArray, List.set_cons_zero, List.set_cons_succ, i64_w, i32_w]
   rfl
  refine pure_ (i := 5) (N := some 25) (v := ?_) (a' := ?_) (bm 24 7679) rfl rfl (by kernel_rfl) (fun _ _ _ h => h) (Or.inl ⟨by rfl, ?_⟩) ?_ ?_
  rotate_left
  ·
   intro w'
   go_simp
   with_reducible rfl
  rotate_left
  ·
   simp only [Act.put, List.setIfInBounds_toArray, List.set_cons_zero, List.set_cons_succ, i64_w, i32_w]
   rfl
  refine take_ (i := 9) (N := some 29) (v := ?_) (a' := ?_) (bm 24 8191) rfl rfl (by kernel_rfl) (fun _ _ _ h => h) (Or.inl ⟨by rfl, ?_⟩) hHeld ?_ ?_
  rotate_left
  ·
   rintro w' ⟨s0, s1, s2, s3, s4⟩
   go_simp
   with_reducible rfl
  rotate_left
  ·
   simp only [Act.put, List.setIfInBounds_toArray, List.set_cons_zero, List.set_cons_succ, i64_w, i32_w]
   rfl
  refine take_ (i := 13) (N := some 33) (v := ?_) (a' := ?_) (bm 24 16383) rfl rfl (by kernel_rfl) (fun _ _ _ h => h) (Or.inl ⟨by rfl, ?_⟩) hHeld ?_ ?_
  rotate_left
  ·
   rintro w' ⟨s0, s1, s2, s3, s4⟩
   go_simp
   with_reducible rfl
  rotate_left
  ·
   simp only [Act.put, List.setIfInBounds_toArray, List.set_cons_zero, List.set_cons_succ, i64_w, i32_w]
   rfl
  refine pure_ (i := 14) (N := some 34) (v := ?_) (a' := ?_) (bm 24 32767) rfl rfl (by kernel_rfl) (fun _ _ _ h => h) (Or.inl ⟨by rfl, ?_⟩) ?_ ?_
  rotate_left
  ·
   intro w'
   go_simp
   with_reducible rfl
  rotate_left
  ·
   simp only [Act.put, List.setIfInBounds_toArray, List.set_cons_zero, List.set_cons_succ, i64_w, i32_w]
   rfl
  refine pure_ (i := 15) (N := some 35) (v := ?_) (a' := ?_) (bm 24 65535) rfl rfl (by kernel_rfl) (fun _ _ _ h => h) (Or.inl ⟨by rfl, ?_⟩) ?_ ?_
  rotate_left
  ·
   intro w'
   go_simp
   with_reducible rfl
  rotate_left
  ·
   simp only [Act.put, List.setIfInBounds_toArray, List.set_cons_zero, List.set_cons_succ, i64_w, i32_w]
   rfl
  refine take_ (i := 16) (N := some 36) (v := ?_) (a' := ?_) (bm 24 131071) rfl rfl (by kernel_rfl) (fun _ _ _ h => h) (Or.inl ⟨by rfl, ?_⟩) hHeld ?_ ?_
  rotate_left
  ·
   rintro w' ⟨s0, s1, s2, s3, s4⟩
   go_simp
   with_reducible rfl
  rotate_left
  ·
   simp only [Act.put, List.setIfInBounds_toArray, List.set_cons_zero, List.set_cons_succ, i64_w, i32_w]
   rfl
  refine pure_ (i := 17) (N := some 37) (v := ?_) (a' := ?_) (bm 24 262143) rfl rfl (by kernel_rfl) (fun _ _ _ h => h) (Or.inl ⟨by rfl, ?_⟩) ?_ ?_
  rotate_left
  ·
   intro w'
   go_simp
   with_reducible rfl
  rotate_left
  ·
   simp only [Act.put, List.setIfInBounds_toArray, List.set_cons_zero, List.set_cons_succ, i64_w, i32_w]
   rfl
  refine pure_ (i := 18) (N := some 38) (v := ?_) (a' := ?_) (bm 24 524287) rfl rfl (by kernel_rfl) (fun _ _ _ h => h) (Or.inl ⟨by rfl, ?_⟩) ?_ ?_
  rotate_left
  ·
   intro w'
   go_simp
   with_reducible rfl
  rotate_left
  ·
   simp only [Act.put, List.setIfInBounds_toArray, List.set_cons_zero, List.set_cons_succ, i64_w, i32_w]
   rfl
  refine pure_ (i := 19) (N := some 39) (v := ?_) (a' := ?_) (bm 24 1048575) rfl rfl (by kernel_rfl) (fun _ _ _ h => h) (Or.inl ⟨by rfl, ?_⟩) ?_ ?_
  rotate_left
  ·
   intro w'
   go_simp
   with_reducible rfl
  rotate_left
  ·
   simp only [Act.put, List.setIfInBounds_toArray, List.set_cons_zero, List.set_cons_succ, i64_w, i32_w]
   rfl
  refine pure_ (i := 20) (N := some 40) (v := ?_) (a' := ?_) (bm 24 2097151) rfl rfl (by kernel_rfl) (fun _ _ _ h => h) (Or.inl ⟨by rfl, ?_⟩) ?_ ?_
  rotate_left
  ·
   intro w'
   go_simp
   with_reducible rfl
  rotate_left
  ·
   simp only [Act.put, List.setIfInBounds_toArray, List.set_cons_zero, List.set_cons_succ, i64_w, i32_w]
   rfl
  refine pure_ (i := 21) (N := some 41) (v := ?_) (a' := ?_) (bm 24 4194303) rfl rfl (by kernel_rfl) (fun _ _ _ h => h) (Or.inl ⟨by rfl, ?_⟩) ?_ ?_
  rotate_left
  ·
   intro w'
   go_simp
   with_reducible rfl
  rotate_left
  ·
   simp only [Act.put, List.setIfInBounds_toArray, List.set_cons_zero, List.set_cons_succ, i64_w, i32_w]
   rfl
  refine pure_ (i := 22) (N := some 42) (v := ?_) (a' := ?_) (bm 24 8388607) rfl rfl (by kernel_rfl) (fun _ _ _ h => h) (Or.inl ⟨by rfl, ?_⟩) ?_ ?_
  rotate_left
  ·
   intro w'
   go_simp
   with_reducible rfl
  rotate_left
  ·
   simp only [Act.put, List.setIfInBounds_toArray, List.set_cons_zero, List.set_cons_succ, i64_w, i32_w]
   rfl
  refine last_ (i := 23) (N := none) (bm 24 16777215) rfl rfl (by kernel_rfl) (by decide) (fun K hK => ?_)
  refine skip_ (w1 := ?_) (by rfl) rfl ?_ ?_
  rotate_left
  ·
   go_simp
   rfl
  refine hK.out _ _ ?_
  clear hK K
  refine done_ (by kernel_rfl) ?_

  have hb3 := blk_set (blk_drewN hb2 (nq + 1)) 2 (.int .i64 ((s0_2 * 31 + rd s0_0 s0_1 + 7) % 2147483648))
  simp only [List.setIfInBounds_toArray, List.set_cons_succ, List.set_cons_zero] at hb3
  have HB2 := Aside0.mk (below_set (g := g) (j := 2) (v := .int .i64 ((s0_2 * 31 + rd s0_0 s0_1 + 7) % 2147483648)) (pw_below_drewN HB1.out (nq + 1)) hg)
  have HK2 := Aside0.mk ((keep_drewN HK1.out (nq + 1)).set_ 2 (.int .i64 ((s0_2 * 31 + rd s0_0 s0_1 + 7) % 2147483648)))
  clear HB1 HK1 E0 E1 E2 E4 hx f0 f1 f2 f3 f4 hb2
  generalize World.setCell (World.drewN w1 (nq + 1)) (⟨g, 2, none⟩ : Addr) (.int .i64 ((s0_2 * 31 + rd s0_0 s0_1 + 7) % 2147483648)) = w2 at hb3 HB2 HK2 ⊢
  obtain ⟨ad', e', hx⟩ := Kd.at_int (Kd.C_below HR0.out HB2.out) s0_1 ha0 c1
  cases e'
  have E0 := cellS82_0 hb3
  have E1 := cellS82_1 hb3
  go_wp2
  go_quiet (fail)
  go_wp2
  go_ret
  have H' := H.out
  simp only [Option.some.injEq, Prod.mk.injEq] at H'
  obtain ⟨rfl, rfl, rfl⟩ := H'
  exact ⟨rfl, ⟨_, _, hb3, hg, HR0.out⟩, pw_below_drewN HB2.out _, keep_drewN HK2.out _⟩
 ·
  rw [if_neg c1] at h
  have c2 : decide (s0_1 + 1 ≤ (s0_0.length : Int)) = false := decide_eq_false (by omega)
  by_cases c3 : 3000 < s0_1 + 1
  ·
   rw [if_pos c3] at h
   have c4 : decide (s0_1 + 1 > 3000) = true := decide_eq_true c3
   simp only [Option.some.injEq, Prod.mk.injEq] at h
   obtain ⟨rfl, rfl, rfl⟩ := h
   go_quiet (fail)
   go_wp2
   go_ret
   exact ⟨rfl, ⟨_, _, hb2, hg, HR0.out⟩, pw_below_drewN HB1.out _, keep_drewN HK1.out _⟩
  ·
   rw [if_neg c3] at h
   have c4 : decide (s0_1 + 1 > 3000) = false := decide_eq_false c3
   simp only [Option.some.injEq, Prod.mk.injEq] at h
   obtain ⟨rfl, rfl, rfl⟩ := h
   go_quiet (fail)
   go_wp2
   go_ret
   have hb3 := blk_set (blk_drewN hb2 nq) 2 (.int .i64 ((s0_2 * 1103515245 + 12345) % 2147483648))
   simp only [List.setIfInBounds_toArray, List.set_cons_succ, List.set_cons_zero] at hb3
   exact ⟨rfl, ⟨_, _, hb3, hg, HR0.out⟩, below_set (pw_below_drewN HB1.out _) hg, (keep_drewN HK1.out _).set_ 2 _⟩

def spec_l00Src_next.f (s0_0 : List Int) (s0_1 : Int) (s0_2 : Int) (a1 : Int) : Option (Int × Int × Int) := if a1 ≤ 1 then (some (0, s0_1, s0_2)) else (if a1 ≤ 256 then ((spec_l00Src_byte.f s0_0 s0_1 s0_2).bind fun btB4 => (if a1 = 0 then (none) else (some (Int.tmod btB4.1 a1, btB4.2.1, btB4.2.2)))) else ((spec_l00Src_byte.f s0_0 s0_1 s0_2).bind fun btB0 => ((spec_l00Src_byte.f s0_0 btB0.2.1 btB0.2.2).bind fun btA8 => ((spec_l00Src_byte.f s0_0 btA8.2.1 btA8.2.2).bind fun btA7 => (if a1 = 0 then (none) else (some (Int.tmod (wrap64 ((wrap64 ((wrap64 (btB0.1 * 65536)) + (wrap64 (btA8.1 * 256)))) + btA7.1)) a1, btA7.2.1, btA7.2.2)))))))
set_option maxHeartbeats 8000000 in
set_option maxRecDepth 100000 in
theorem spec_l00Src_next.calls (g : Nat) (s0_0 : List Int) (s0_1 : Int) (s0_2 : Int) (a1 : Int) (r1 : Int) (r2 : Int) (r3 : Int) (w0 w : World) (hI : IsS82 w0 w g s0_0 s0_1 s0_2) (hB : Below w0.heap.size w0 w) (h : spec_l00Src_next.f s0_0 s0_1 s0_2 a1 = some (r1, r2, r3)) :
  Calls Try.prog 115 #[.pointer (some ⟨g, 0, none⟩), .int .i64 a1] w fun e w' => e = .returned (.int .i64 r1) ∧ IsS82 w0 w' g s0_0 r2 r3 ∧ Below w0.heap.size w0 w' ∧ KeepBut w w' g none := by
 have HI0 := Aside0.mk hI
 have HK := Aside0.mk (KeepBut.refl w g none)
 have HL := Aside0.mk hB.size
 clear hI
 have HW0 := Aside0.mk hB.size
 have HB := Aside0.mk hB
 clear hB
 have H : (if a1 ≤ 1 then (some (0, s0_1, s0_2)) else (if a1 ≤ 256 then ((spec_l00Src_byte.f s0_0 s0_1 s0_2).bind fun btB4 => (if a1 = 0 then (none) else (some (Int.tmod btB4.1 a1, btB4.2.1, btB4.2.2)))) else ((spec_l00Src_byte.f s0_0 s0_1 s0_2).bind fun btB0 => ((spec_l00Src_byte.f s0_0 btB0.2.1 btB0.2.2).bind fun btA8 => ((spec_l00Src_byte.f s0_0 btA8.2.1 btA8.2.2).bind fun btA7 => (if a1 = 0 then (none) else (some (Int.tmod (wrap64 ((wrap64 ((wrap64 (btB0.1 * 65536)) + (wrap64 (btA8.1 * 256)))) + btA7.1)) a1, btA7.2.1, btA7.2.2)))))))) = some (r1, r2, r3) := h
 clear h
 by_cases c3 : a1 ≤ 1
 ·
  rw [if_pos c3] at H
  have c3b0 : decide (a1 ≤ 1) = true := decide_eq_true c3
  clear c3
  simp only [Option.some.injEq, Prod.mk.injEq] at H
  obtain ⟨rfl, rfl, rfl⟩ := H
  go_enter Try.func115, Try.ntmps115
  go_wp2
  go_ret
  exact ⟨er_, by repeat (first | (with_reducible first | exact HI0.out | apply IsS82.alloc | apply IsS82.drewN | apply IsS82.drew | apply IsS82.set_1 | apply IsS82.set_2) | exact HI0.out), by repeat (first | (with_reducible first | exact HB.out | apply below_alloc | apply pw_below_drewN | apply below_drew1 | refine below_set ?_ (IsS82.ge HI0.out)) | exact HB.out), by repeat (first | (with_reducible first | exact HK.out | apply KeepBut.set_ | apply keep_drewN | apply keep_drew | apply keep_alloc) | exact HK.out)⟩
 ·
  rw [if_neg c3] at H
  have c3b0 : decide (a1 ≤ 1) = false := decide_eq_false c3
  clear c3
  by_cases c4 : a1 ≤ 256
  ·
   rw [if_pos c4] at H
   have c4b0 : decide (a1 ≤ 256) = true := decide_eq_true c4
   clear c4
   replace H := Option.bind_eq_some_iff.mp H
   obtain ⟨⟨tB4, tD4, tD5⟩, A50, H⟩ := H
   replace H : (if a1 = 0 then (none) else (some (Int.tmod tB4 a1, tD4, tD5))) = some (r1, r2, r3) := H
   have A5 := Aside0.mk A50
   clear A50
   by_cases c6 : a1 = 0
   ·
    rw [if_pos c6] at H
    exact absurd H (by simp)
   ·
    rw [if_neg c6] at H
    have c6b0 : (a1 == 0) = false := beq_eq_false_iff_ne.mpr c6
    have c6b1 : (a1 != 0) = true := bne_iff_ne.mpr c6
    simp only [Option.some.injEq, Prod.mk.injEq] at H
    obtain ⟨rfl, rfl, rfl⟩ := H
    go_enter Try.func115, Try.ntmps115
    go_wp2_with (first | ((with_reducible refine gate_callee (f := 120) rfl ?_); refine gL_ (some 13) Try.func120 #[.pointer (some ⟨g, 0, none⟩)] ?_; (with_reducible refine (spec_l00Src_byte.calls g s0_0 s0_1 s0_2 tB4 tD4 tD5 w0 _ ?side1 ?side2 A5.out).mono ?_); (case side1 => repeat (first | (with_reducible first | exact HI0.out | apply IsS82.alloc | apply IsS82.drewN | apply IsS82.drew | apply IsS82.set_1 | apply IsS82.set_2) | exact HI0.out)); (case side2 => repeat (first | (with_reducible first | exact HB.out | apply below_alloc | apply pw_below_drewN | apply below_drew1 | refine below_set ?_ (IsS82.ge HI0.out)) | exact HB.out)); rintro e w7 ⟨rfl, hi, hb, hk⟩; refine ⟨_, rfl, ?_⟩; replace HK := Aside0.mk (KeepBut.trans (by repeat (first | (with_reducible first | exact HK.out | apply KeepBut.set_ | apply keep_drewN | apply keep_drew | apply keep_alloc) | exact HK.out)) hk (.inl rfl)); replace HB := Aside0.mk (hb); replace HI0 := Aside0.mk (hi); (try clear hb); (try clear hb2); (try clear hk); (try clear hi)))
    go_ret
    exact ⟨er_, by repeat (first | (with_reducible first | exact HI0.out | apply IsS82.alloc | apply IsS82.drewN | apply IsS82.drew | apply IsS82.set_1 | apply IsS82.set_2) | exact HI0.out), by repeat (first | (with_reducible first | exact HB.out | apply below_alloc | apply pw_below_drewN | apply below_drew1 | refine below_set ?_ (IsS82.ge HI0.out)) | exact HB.out), by repeat (first | (with_reducible first | exact HK.out | apply KeepBut.set_ | apply keep_drewN | apply keep_drew | apply keep_alloc) | exact HK.out)⟩
  ·
   rw [if_neg c4] at H
   have c4b0 : decide (a1 ≤ 256) = false := decide_eq_false c4
   clear c4
   replace H := Option.bind_eq_some_iff.mp H
   obtain ⟨⟨tB0, tC7, tC8⟩, A80, H⟩ := H
   replace H : ((spec_l00Src_byte.f s0_0 tC7 tC8).bind fun btA8 => ((spec_l00Src_byte.f s0_0 btA8.2.1 btA8.2.2).bind fun btA7 => (if a1 = 0 then (none) else (some (Int.tmod (wrap64 ((wrap64 ((wrap64 (tB0 * 65536)) + (wrap64 (btA8.1 * 256)))) + btA7.1)) a1, btA7.2.1, btA7.2.2))))) = some (r1, r2, r3) := H
   have A8 := Aside0.mk A80
   clear A80
   replace H := Option.bind_eq_some_iff.mp H
   obtain ⟨⟨tA8, tC9, tD0⟩, A90, H⟩ := H
   replace H : ((spec_l00Src_byte.f s0_0 tC9 tD0).bind fun btA7 => (if a1 = 0 then (none) else (some (Int.tmod (wrap64 ((wrap64 ((wrap64 (tB0 * 65536)) + (wrap64 (tA8 * 256)))) + btA7.1)) a1, btA7.2.1, btA7.2.2)))) = some (r1, r2, r3) := H
   have A9 := Aside0.mk A90
   clear A90
   replace H := Option.bind_eq_some_iff.mp H
   obtain ⟨⟨tA7, tD6, tD7⟩, AD8, H⟩ := H
   replace H : (if a1 = 0 then (none) else (some (Int.tmod (wrap64 ((wrap64 ((wrap64 (tB0 * 65536)) + (wrap64 (tA8 * 256)))) + tA7)) a1, tD6, tD7))) = some (r1, r2, r3) := H
   have A10 := Aside0.mk AD8
   clear AD8
   by_cases c11 : a1 = 0
   ·
    rw [if_pos c11] at H
    exact absurd H (by simp)
   ·
    rw [if_neg c11] at H
    have c11b0 : (a1 == 0) = false := beq_eq_false_iff_ne.mpr c11
    have c11b1 : (a1 != 0) = true := bne_iff_ne.mpr c11
    simp only [Option.some.injEq, Prod.mk.injEq] at H
    obtain ⟨rfl, rfl, rfl⟩ := H
    go_enter Try.func115, Try.ntmps115
    go_wp2_with (first | ((with_reducible refine gate_callee (f := 120) rfl ?_); refine gL_ (some 17) Try.func120 #[.pointer (some ⟨g, 0, none⟩)] ?_; (with_reducible refine (spec_l00Src_byte.calls g s0_0 s0_1 s0_2 tB0 tC7 tC8 w0 _ ?side1 ?side2 A8.out).mono ?_); (case side1 => repeat (first | (with_reducible first | exact HI0.out | apply IsS82.alloc | apply IsS82.drewN | apply IsS82.drew | apply IsS82.set_1 | apply IsS82.set_2) | exact HI0.out)); (case side2 => repeat (first | (with_reducible first | exact HB.out | apply below_alloc | apply pw_below_drewN | apply below_drew1 | refine below_set ?_ (IsS82.ge HI0.out)) | exact HB.out)); rintro e w12 ⟨rfl, hi, hb, hk⟩; refine ⟨_, rfl, ?_⟩; replace HK := Aside0.mk (KeepBut.trans (by repeat (first | (with_reducible first | exact HK.out | apply KeepBut.set_ | apply keep_drewN | apply keep_drew | apply keep_alloc) | exact HK.out)) hk (.inl rfl)); replace HB := Aside0.mk (hb); replace HI0 := Aside0.mk (hi); (try clear hb); (try clear hb2); (try clear hk); (try clear hi)) | ((with_reducible refine gate_callee (f := 120) rfl ?_); refine gL_ (some 19) Try.func120 #[.pointer (some ⟨g, 0, none⟩)] ?_; (with_reducible refine (spec_l00Src_byte.calls g s0_0 tC7 tC8 tA8 tC9 tD0 w0 _ ?side1 ?side2 A9.out).mono ?_); (case side1 => repeat (first | (with_reducible first | exact HI0.out | apply IsS82.alloc | apply IsS82.drewN | apply IsS82.drew | apply IsS82.set_1 | apply IsS82.set_2) | exact HI0.out)); (case side2 => repeat (first | (with_reducible first | exact HB.out | apply below_alloc | apply pw_below_drewN | apply below_drew1 | refine below_set ?_ (IsS82.ge HI0.out)) | exact HB.out)); rintro e w13 ⟨rfl, hi, hb, hk⟩; refine ⟨_, rfl, ?_⟩; replace HK := Aside0.mk (KeepBut.trans (by repeat (first | (with_reducible first | exact HK.out | apply KeepBut.set_ | apply keep_drewN | apply keep_drew | apply keep_alloc) | exact HK.out)) hk (.inl rfl)); replace HB := Aside0.mk (hb); replace HI0 := Aside0.mk (hi); (try clear hb); (try clear hb2); (try clear hk); (try clear hi)) | ((with_reducible refine gate_callee (f := 120) rfl ?_); refine gL_ (some 21) Try.func120 #[.pointer (some ⟨g, 0, none⟩)] ?_; (with_reducible refine (spec_l00Src_byte.calls g s0_0 tC9 tD0 tA7 tD6 tD7 w0 _ ?side1 ?side2 A10.out).mono ?_); (case side1 => repeat (first | (with_reducible first | exact HI0.out | apply IsS82.alloc | apply IsS82.drewN | apply IsS82.drew | apply IsS82.set_1 | apply IsS82.set_2) | exact HI0.out)); (case side2 => repeat (first | (with_reducible first | exact HB.out | apply below_alloc | apply pw_below_drewN | apply below_drew1 | refine below_set ?_ (IsS82.ge HI0.out)) | exact HB.out)); rintro e w14 ⟨rfl, hi, hb, hk⟩; refine ⟨_, rfl, ?_⟩; replace HK := Aside0.mk (KeepBut.trans (by repeat (first | (with_reducible first | exact HK.out | apply KeepBut.set_ | apply keep_drewN | apply keep_drew | apply keep_alloc) | exact HK.out)) hk (.inl rfl)); replace HB := Aside0.mk (hb); replace HI0 := Aside0.mk (hi); (try clear hb); (try clear hb2); (try clear hk); (try clear hi)))
    go_ret
    exact ⟨er_, by repeat (first | (with_reducible first | exact HI0.out | apply IsS82.alloc | apply IsS82.drewN | apply IsS82.drew | apply IsS82.set_1 | apply IsS82.set_2) | exact HI0.out), by repeat (first | (with_reducible first | exact HB.out | apply below_alloc | apply pw_below_drewN | apply below_drew1 | refine below_set ?_ (IsS82.ge HI0.out)) | exact HB.out), by repeat (first | (with_reducible first | exact HK.out | apply KeepBut.set_ | apply keep_drewN | apply keep_drew | apply keep_alloc) | exact HK.out)⟩

def spec_l00Src_nat.l0 : Nat → List Int → Int → List Int → Int → Int → Option (List Int × Int × Int)
 | 0, _, _, _, _, _ => none
 | k + 1, x3, x4, xB6, xA5, xA6 => if x4 > 0 then ((spec_l00Src_next.f xB6 xA5 xA6 10000).bind fun btB3 => ((some (([btB3.1, 9999, 0] : List Int) : List Int)).bind fun yA2 => ((spec_l00Src_next.f xB6 btB3.2.1 btB3.2.2 9).bind fun btA1 => ((spec_l00Src_next.f xB6 btA1.2.1 btA1.2.2 2).bind fun btA0 => (if 0 ≤ (Int.tmod (wrap64 ((wrap64 (Int.tdiv btA1.1 7)) * (wrap64 (1 + btA0.1)))) 3) then (if (Int.tmod (wrap64 ((wrap64 (Int.tdiv btA1.1 7)) * (wrap64 (1 + btA0.1)))) 3) < (yA2.length : Int) then (if x3.length < 17592186044416 then (spec_l00Src_nat.l0 k (x3 ++ [rd yA2 (Int.tmod (wrap64 ((wrap64 (Int.tdiv btA1.1 7)) * (wrap64 (1 + btA0.1)))) 3)]) (wrap64 (x4 - 1)) xB6 btA0.2.1 btA0.2.2) else (none)) else (none)) else (none)))))) else ((spec_l01Trim.f x3).bind fun tC5 => (some (tC5, xA5, xA6)))
def spec_l00Src_nat.f (k : Nat) (s0_0 : List Int) (s0_1 : Int) (s0_2 : Int) : Option (List Int × Int × Int) := (spec_l00Src_next.f s0_0 s0_1 s0_2 5).bind fun btA9 => (spec_l00Src_nat.l0 k (([] : List Int)) btA9.1 s0_0 btA9.2.1 btA9.2.2)
set_option maxHeartbeats 8000000 in
set_option maxRecDepth 100000 in
theorem spec_l00Src_nat.calls (k : Nat) (g : Nat) (s0_0 : List Int) (s0_1 : Int) (s0_2 : Int) (r1 : List Int) (r2 : Int) (r3 : Int) (w0 w : World) (hI : IsS82 w0 w g s0_0 s0_1 s0_2) (hB : Below w0.heap.size w0 w) (h : spec_l00Src_nat.f k s0_0 s0_1 s0_2 = some (r1, r2, r3)) :
  Calls Try.prog 113 #[.pointer (some ⟨g, 0, none⟩)] w fun e w' => ∃ v0_ : Value, e = .returned (v0_) ∧ Kd.R (Kd.int .i64) 3 w' w.heap.size (fun _ => True) v0_ r1 ∧ IsS82 w0 w' g s0_0 r2 r3 ∧ Below w0.heap.size w0 w' ∧ KeepBut w w' g none := by
 have HI0 := Aside0.mk hI
 have HK := Aside0.mk (KeepBut.refl w g none)
 have HL := Aside0.mk hB.size
 clear hI
 have HW0 := Aside0.mk hB.size
 have HB := Aside0.mk hB
 clear hB
 have H : ((spec_l00Src_next.f s0_0 s0_1 s0_2 5).bind fun btA9 => (spec_l00Src_nat.l0 k (([] : List Int)) btA9.1 s0_0 btA9.2.1 btA9.2.2)) = some (r1, r2, r3) := h
 clear h
 obtain ⟨yB8, hy462⟩ : ∃ y_ : List Int, y_ = (([] : List Int)) := ⟨_, rfl⟩
 replace H : ((spec_l00Src_next.f s0_0 s0_1 s0_2 5).bind fun btA9 => (spec_l00Src_nat.l0 k yB8 btA9.1 s0_0 btA9.2.1 btA9.2.2)) = some (r1, r2, r3) := by subst hy462; first | with_reducible exact H | with_reducible exact (Option.bind_some _ _).symm.trans H | exact H
 have NyB8 := Aside0.mk hy462
 clear hy462
 replace H := Option.bind_eq_some_iff.mp H
 obtain ⟨⟨tA9, tD1, tD2⟩, A20, H⟩ := H
 replace H : (spec_l00Src_nat.l0 k yB8 tA9 s0_0 tD1 tD2) = some (r1, r2, r3) := H
 have A2 := Aside0.mk A20
 clear A20
 have H' := Aside0.mk H
 clear H
 go_enter Try.func113, Try.ntmps113
 go_wp2_with (first | ((with_reducible refine gate_dst (N := 5) rfl ?_); refine Kd.R_lit (Kd.int .i64) _ 3 ?hg (N := 5) ?hd (xs := ([] : List Int)) (inner := []) (ok := fun _ => True) (okp := fun _ => True) ?hr ?hp (fun _ hk => hk) trivial (Below.refl _ _) (Nat.le_refl _) (by simp) ?_; (case hd => rfl); (case hg => rfl); (case hr => first | (go_simp; done) | (go_simp; rfl)); (case hp => exact (Reps.none _ _)); intro vE4 w3 ho4 hb hg_ hnew_; clear hg_ hnew_; (first | rw [← NyB8.out] at ho4 | (simp only [Int.reduceToNat] at ho4; rw [← NyB8.out] at ho4)); have HOD3 := Aside0.mk (Kd.R_lower ho4 (keep_size (w := w) (g := g) (row := none) (by repeat (first | (with_reducible first | exact HK.out | apply KeepBut.set_ | apply keep_drewN | apply keep_drew | apply keep_alloc) | exact HK.out)))); replace HK := Aside0.mk (KeepBut.trans (by repeat (first | (with_reducible first | exact HK.out | apply KeepBut.set_ | apply keep_drewN | apply keep_drew | apply keep_alloc) | exact HK.out)) (KeepBut.of_below hb g none) (.inl rfl)); replace HB := Aside0.mk (below_step (by repeat (first | (with_reducible first | exact HB.out | apply below_alloc | apply pw_below_drewN | apply below_drew1 | refine below_set ?_ (IsS82.ge HI0.out)) | exact HB.out)) hb); replace HI0 := Aside0.mk (IsS82.below (by repeat (first | (with_reducible first | exact HI0.out | apply IsS82.alloc | apply IsS82.drewN | apply IsS82.drew | apply IsS82.set_1 | apply IsS82.set_2) | exact HI0.out)) hb); clear hb ho4) | ((with_reducible refine gate_callee (f := 115) rfl ?_); refine gL_ (some 7) Try.func115 #[.pointer (some ⟨g, 0, none⟩), .int .i64 5] ?_; (with_reducible refine (spec_l00Src_next.calls g s0_0 s0_1 s0_2 5 tA9 tD1 tD2 w0 _ ?side1 ?side2 A2.out).mono ?_); (case side1 => repeat (first | (with_reducible first | exact HI0.out | apply IsS82.alloc | apply IsS82.drewN | apply IsS82.drew | apply IsS82.set_1 | apply IsS82.set_2) | exact HI0.out)); (case side2 => repeat (first | (with_reducible first | exact HB.out | apply below_alloc | apply pw_below_drewN | apply below_drew1 | refine below_set ?_ (IsS82.ge HI0.out)) | exact HB.out)); rintro e w5 ⟨rfl, hi, hb, hk⟩; refine ⟨_, rfl, ?_⟩; replace HOD3 := Aside0.mk (Kd.R_mono (Kd.R_keep (IsS82.apart (show IsS82 w0 _ g s0_0 s0_1 s0_2 from by repeat (first | (with_reducible first | exact HI0.out | apply IsS82.alloc | apply IsS82.drewN | apply IsS82.drew | apply IsS82.set_1 | apply IsS82.set_2) | exact HI0.out)) (crR HOD3) (by decide)) hk (fun _ h => h.2)) (fun _ h => h.1)); replace HK := Aside0.mk (KeepBut.trans (by repeat (first | (with_reducible first | exact HK.out | apply KeepBut.set_ | apply keep_drewN | apply keep_drew | apply keep_alloc) | exact HK.out)) hk (.inl rfl)); replace HB := Aside0.mk (hb); replace HI0 := Aside0.mk (hi); (try clear hb); (try clear hb2); (try clear hk); (try clear hi)))
 go_loopg [3, 4] k (fun kq v3 v4 w' => ∃ (x3_1 : List Int) (x4_1 : Int) (xA5_1 : Int) (xA6_1 : Int), v4 = .int .i64 x4_1 ∧ Aside0 (spec_l00Src_nat.l0 kq x3_1 x4_1 s0_0 xA5_1 xA6_1 = some (r1, r2, r3)) ∧ Aside0 (kq ≤ k) ∧ Aside0 (Kd.R (Kd.int .i64) 3 w' w.heap.size (fun _ => True) v3 x3_1) ∧ Aside0 (IsS82 w0 w' g s0_0 xA5_1 xA6_1) ∧ Aside0 (KeepBut w w' g none) ∧ Aside0 (Below w0.heap.size w0 w'))
 case atStart => exact ⟨(yB8), (tA9), (tD1), (tD2), rs_, H', ⟨Nat.le_refl _⟩, ⟨crR HOD3⟩, ⟨by repeat (first | (with_reducible first | exact HI0.out | apply IsS82.alloc | apply IsS82.drewN | apply IsS82.drew | apply IsS82.set_1 | apply IsS82.set_2) | exact HI0.out)⟩, ⟨by repeat (first | (with_reducible first | exact HK.out | apply KeepBut.set_ | apply keep_drewN | apply keep_drew | apply keep_alloc) | exact HK.out)⟩, ⟨by repeat (first | (with_reducible first | exact HB.out | apply below_alloc | apply pw_below_drewN | apply below_drew1 | refine below_set ?_ (IsS82.ge HI0.out)) | exact HB.out)⟩⟩
 case round =>
  clear H'
  try clear c1
  try clear p2
  obtain ⟨x3_1, x4_1, xA5_1, xA6_1, rfl, HA, HK1, HO_3, HI0, HK, HB⟩ := hrel
  cases gk with
  | zero => exact absurd HA.out (by simp [spec_l00Src_nat.l0])
  | succ k1 =>
   have H := HA.out
   clear HA
   simp only [spec_l00Src_nat.l0] at H
   by_cases c6 : x4_1 > 0
   ·
    rw [if_pos c6] at H
    have c6b0 : decide (0 < x4_1) = true := decide_eq_true c6
    clear c6
    replace H := Option.bind_eq_some_iff.mp H
    obtain ⟨⟨tB3, tB9, tC0⟩, A70, H⟩ := H
    replace H : ((some (([tB3, 9999, 0] : List Int) : List Int)).bind fun yA2 => ((spec_l00Src_next.f s0_0 tB9 tC0 9).bind fun btA1 => ((spec_l00Src_next.f s0_0 btA1.2.1 btA1.2.2 2).bind fun btA0 => (if 0 ≤ (Int.tmod (wrap64 ((wrap64 (Int.tdiv btA1.1 7)) * (wrap64 (1 + btA0.1)))) 3) then (if (Int.tmod (wrap64 ((wrap64 (Int.tdiv btA1.1 7)) * (wrap64 (1 + btA0.1)))) 3) < (yA2.length : Int) then (if x3_1.length < 17592186044416 then (spec_l00Src_nat.l0 k1 (x3_1 ++ [rd yA2 (Int.tmod (wrap64 ((wrap64 (Int.tdiv btA1.1 7)) * (wrap64 (1 + btA0.1)))) 3)]) (wrap64 (x4_1 - 1)) s0_0 btA0.2.1 btA0.2.2) else (none)) else (none)) else (none))))) = some (r1, r2, r3) := H
    have A7 := Aside0.mk A70
    clear A70
    obtain ⟨yA2, hy471⟩ : ∃ y_ : List Int, y_ = (([tB3, 9999, 0] : List Int)) := ⟨_, rfl⟩
    replace H : ((spec_l00Src_next.f s0_0 tB9 tC0 9).bind fun btA1 => ((spec_l00Src_next.f s0_0 btA1.2.1 btA1.2.2 2).bind fun btA0 => (if 0 ≤ (Int.tmod (wrap64 ((wrap64 (Int.tdiv btA1.1 7)) * (wrap64 (1 + btA0.1)))) 3) then (if (Int.tmod (wrap64 ((wrap64 (Int.tdiv btA1.1 7)) * (wrap64 (1 + btA0.1)))) 3) < (yA2.length : Int) then (if x3_1.length < 17592186044416 then (spec_l00Src_nat.l0 k1 (x3_1 ++ [rd yA2 (Int.tmod (wrap64 ((wrap64 (Int.tdiv btA1.1 7)) * (wrap64 (1 + btA0.1)))) 3)]) (wrap64 (x4_1 - 1)) s0_0 btA0.2.1 btA0.2.2) else (none)) else (none)) else (none)))) = some (r1, r2, r3) := by subst hy471; first | with_reducible exact H | with_reducible exact (Option.bind_some _ _).symm.trans H | exact H
    have NyA2 := Aside0.mk hy471
    clear hy471
    replace H := Option.bind_eq_some_iff.mp H
    obtain ⟨⟨tA1, tC1, tC2⟩, A80, H⟩ := H
    replace H : ((spec_l00Src_next.f s0_0 tC1 tC2 2).bind fun btA0 => (if 0 ≤ (Int.tmod (wrap64 ((wrap64 (Int.tdiv tA1 7)) * (wrap64 (1 + btA0.1)))) 3) then (if (Int.tmod (wrap64 ((wrap64 (Int.tdiv tA1 7)) * (wrap64 (1 + btA0.1)))) 3) < (yA2.length : Int) then (if x3_1.length < 17592186044416 then (spec_l00Src_nat.l0 k1 (x3_1 ++ [rd yA2 (Int.tmod (wrap64 ((wrap64 (Int.tdiv tA1 7)) * (wrap64 (1 + btA0.1)))) 3)]) (wrap64 (x4_1 - 1)) s0_0 btA0.2.1 btA0.2.2) else (none)) else (none)) else (none))) = some (r1, r2, r3) := H
    have A8 := Aside0.mk A80
    clear A80
    replace H := Option.bind_eq_some_iff.mp H
    obtain ⟨⟨tA0, tC3, tC4⟩, A90, H⟩ := H
    replace H : (if 0 ≤ (Int.tmod (wrap64 ((wrap64 (Int.tdiv tA1 7)) * (wrap64 (1 + tA0)))) 3) then (if (Int.tmod (wrap64 ((wrap64 (Int.tdiv tA1 7)) * (wrap64 (1 + tA0)))) 3) < (yA2.length : Int) then (if x3_1.length < 17592186044416 then (spec_l00Src_nat.l0 k1 (x3_1 ++ [rd yA2 (Int.tmod (wrap64 ((wrap64 (Int.tdiv tA1 7)) * (wrap64 (1 + tA0)))) 3)]) (wrap64 (x4_1 - 1)) s0_0 tC3 tC4) else (none)) else (none)) else (none)) = some (r1, r2, r3) := H
    have A9 := Aside0.mk A90
    clear A90
    obtain ⟨ji10, hji10⟩ : ∃ j_ : Int, (Int.tmod (wrap64 ((wrap64 (Int.tdiv tA1 7)) * (wrap64 (1 + tA0)))) 3) = j_ := ⟨_, rfl⟩
    replace H : (if 0 ≤ (ji10) then (if (ji10) < (yA2.length : Int) then (if x3_1.length < 17592186044416 then (spec_l00Src_nat.l0 k1 (x3_1 ++ [rd yA2 (ji10)]) (wrap64 (x4_1 - 1)) s0_0 tC3 tC4) else (none)) else (none)) else (none)) = some (r1, r2, r3) := by first | (rw [hji10] at H; exact H) | (simp only [hji10] at H ⊢; exact H)
    (try rw [hji10] at A7)
    (try rw [hji10] at A8)
    (try rw [hji10] at A9)
    by_cases c11 : 0 ≤ (ji10)
    ·
     rw [if_pos c11] at H
     have c11b0 : decide (0 ≤ (ji10)) = true := decide_eq_true c11
     clear c11
     by_cases c12 : (ji10) < (yA2.length : Int)
     ·
      rw [if_pos c12] at H
      have c12b0 : decide ((ji10) < (yA2.length : Int)) = true := decide_eq_true c12
      clear c12
      by_cases c13 : x3_1.length < 17592186044416
      ·
       rw [if_pos c13] at H
       have LMc13 := Aside0.mk c13
       clear c13
       obtain ⟨yC6, hy481⟩ : ∃ y_ : List Int, y_ = (x3_1 ++ [rd yA2 (ji10)]) := ⟨_, rfl⟩
       replace H : (spec_l00Src_nat.l0 k1 yC6 (wrap64 (x4_1 - 1)) s0_0 tC3 tC4) = some (r1, r2, r3) := by subst hy481; first | with_reducible exact H | with_reducible exact (Option.bind_some _ _).symm.trans H | exact H
       have NyC6 := Aside0.mk hy481
       clear hy481
       have H' := Aside0.mk H
       clear H
       go_wp2_with (first | ((with_reducible refine gate_callee (f := 115) rfl ?_); refine gL_ (some 14) Try.func115 #[.pointer (some ⟨g, 0, none⟩), .int .i64 10000] ?_; (with_reducible refine (spec_l00Src_next.calls g s0_0 xA5_1 xA6_1 10000 tB3 tB9 tC0 w0 _ ?side1 ?side2 A7.out).mono ?_); (case side1 => repeat (first | (with_reducible first | exact HI0.out | apply IsS82.alloc | apply IsS82.drewN | apply IsS82.drew | apply IsS82.set_1 | apply IsS82.set_2) | exact HI0.out)); (case side2 => repeat (first | (with_reducible first | exact HB.out | apply below_alloc | apply pw_below_drewN | apply below_drew1 | refine below_set ?_ (IsS82.ge HI0.out)) | exact HB.out)); rintro e w14 ⟨rfl, hi, hb, hk⟩; refine ⟨_, rfl, ?_⟩; replace HO_3 := Aside0.mk (Kd.R_mono (Kd.R_keep (IsS82.apart (show IsS82 w0 _ g s0_0 xA5_1 xA6_1 from by repeat (first | (with_reducible first | exact HI0.out | apply IsS82.alloc | apply IsS82.drewN | apply IsS82.drew | apply IsS82.set_1 | apply IsS82.set_2) | exact HI0.out)) (crR HO_3) (by decide)) hk (fun _ h => h.2)) (fun _ h => h.1)); replace HK := Aside0.mk (KeepBut.trans (by repeat (first | (with_reducible first | exact HK.out | apply KeepBut.set_ | apply keep_drewN | apply keep_drew | apply keep_alloc) | exact HK.out)) hk (.inl rfl)); replace HB := Aside0.mk (hb); replace HI0 := Aside0.mk (hi); (try clear hb); (try clear hb2); (try clear hk); (try clear hi)) | ((with_reducible refine gate_dst (N := 15) rfl ?_); refine Kd.R_lit (Kd.int .i64) _ 3 ?hg (N := 15) ?hd (xs := ([tB3, 9999, 0] : List Int)) (inner := [.int .i64 tB3, .int .i64 9999, .int .i64 0]) (ok := fun _ => True) (okp := fun _ => True) ?hr ?hp (fun _ hk => hk) trivial (Below.refl _ _) (Nat.le_refl _) (by simp) ?_; (case hd => rfl); (case hg => rfl); (case hr => first | (go_simp; done) | (go_simp; rfl)); (case hp => exact (Reps.one (show Kd.M (Kd.int .i64) _ _ _ tB3 [.int .i64 tB3] from rfl) (Reps.one (show Kd.M (Kd.int .i64) _ _ _ 9999 [.int .i64 9999] from rfl) (Reps.one (show Kd.M (Kd.int .i64) _ _ _ 0 [.int .i64 0] from rfl) (Reps.none _ _))))); intro vE5 w15 ho16 hb hg_ hnew_; clear hg_ hnew_; (first | rw [← NyA2.out] at ho16 | (simp only [Int.reduceToNat] at ho16; rw [← NyA2.out] at ho16)); have HOB7 := Aside0.mk (Kd.R_lower (nwR ho16 HO_3) (keep_size (w := w) (g := g) (row := none) (by repeat (first | (with_reducible first | exact HK.out | apply KeepBut.set_ | apply keep_drewN | apply keep_drew | apply keep_alloc) | exact HK.out)))); replace HO_3 := eldR HO_3 (Kd.R_base ho16) hb; replace HK := Aside0.mk (KeepBut.trans (by repeat (first | (with_reducible first | exact HK.out | apply KeepBut.set_ | apply keep_drewN | apply keep_drew | apply keep_alloc) | exact HK.out)) (KeepBut.of_below hb g none) (.inl rfl)); replace HB := Aside0.mk (below_step (by repeat (first | (with_reducible first | exact HB.out | apply below_alloc | apply pw_below_drewN | apply below_drew1 | refine below_set ?_ (IsS82.ge HI0.out)) | exact HB.out)) hb); replace HI0 := Aside0.mk (IsS82.below (by repeat (first | (with_reducible first | exact HI0.out | apply IsS82.alloc | apply IsS82.drewN | apply IsS82.drew | apply IsS82.set_1 | apply IsS82.set_2) | exact HI0.out)) hb); clear hb ho16) | ((with_reducible refine gate_callee (f := 115) rfl ?_); refine gL_ (some 17) Try.func115 #[.pointer (some ⟨g, 0, none⟩), .int .i64 9] ?_; (with_reducible refine (spec_l00Src_next.calls g s0_0 tB9 tC0 9 tA1 tC1 tC2 w0 _ ?side1 ?side2 A8.out).mono ?_); (case side1 => repeat (first | (with_reducible first | exact HI0.out | apply IsS82.alloc | apply IsS82.drewN | apply IsS82.drew | apply IsS82.set_1 | apply IsS82.set_2) | exact HI0.out)); (case side2 => repeat (first | (with_reducible first | exact HB.out | apply below_alloc | apply pw_below_drewN | apply below_drew1 | refine below_set ?_ (IsS82.ge HI0.out)) | exact HB.out)); rintro e w17 ⟨rfl, hi, hb, hk⟩; refine ⟨_, rfl, ?_⟩; replace HO_3 := Aside0.mk (Kd.R_mono (Kd.R_keep (IsS82.apart (show IsS82 w0 _ g s0_0 tB9 tC0 from by repeat (first | (with_reducible first | exact HI0.out | apply IsS82.alloc | apply IsS82.drewN | apply IsS82.drew | apply IsS82.set_1 | apply IsS82.set_2) | exact HI0.out)) (crR HO_3) (by decide)) hk (fun _ h => h.2)) (fun _ h => h.1)); replace HOB7 := Aside0.mk (Kd.R_mono (Kd.R_keep (IsS82.apart (show IsS82 w0 _ g s0_0 tB9 tC0 from by repeat (first | (with_reducible first | exact HI0.out | apply IsS82.alloc | apply IsS82.drewN | apply IsS82.drew | apply IsS82.set_1 | apply IsS82.set_2) | exact HI0.out)) (crR HOB7) (by decide)) hk (fun _ h => h.2)) (fun _ h => h.1)); replace HK := Aside0.mk (KeepBut.trans (by repeat (first | (with_reducible first | exact HK.out | apply KeepBut.set_ | apply keep_drewN | apply keep_drew | apply keep_alloc) | exact HK.out)) hk (.inl rfl)); replace HB := Aside0.mk (hb); replace HI0 := Aside0.mk (hi); (try clear hb); (try clear hb2); (try clear hk); (try clear hi)) | ((with_reducible refine gate_callee (f := 115) rfl ?_); refine gL_ (some 20) Try.func115 #[.pointer (some ⟨g, 0, none⟩), .int .i64 2] ?_; (with_reducible refine (spec_l00Src_next.calls g s0_0 tC1 tC2 2 tA0 tC3 tC4 w0 _ ?side1 ?side2 A9.out).mono ?_); (case side1 => repeat (first | (with_reducible first | exact HI0.out | apply IsS82.alloc | apply IsS82.drewN | apply IsS82.drew | apply IsS82.set_1 | apply IsS82.set_2) | exact HI0.out)); (case side2 => repeat (first | (with_reducible first | exact HB.out | apply below_alloc | apply pw_below_drewN | apply below_drew1 | refine below_set ?_ (IsS82.ge HI0.out)) | exact HB.out)); rintro e w18 ⟨rfl, hi, hb, hk⟩; refine ⟨_, rfl, ?_⟩; replace HO_3 := Aside0.mk (Kd.R_mono (Kd.R_keep (IsS82.apart (show IsS82 w0 _ g s0_0 tC1 tC2 from by repeat (first | (with_reducible first | exact HI0.out | apply IsS82.alloc | apply IsS82.drewN | apply IsS82.drew | apply IsS82.set_1 | apply IsS82.set_2) | exact HI0.out)) (crR HO_3) (by decide)) hk (fun _ h => h.2)) (fun _ h => h.1)); replace HOB7 := Aside0.mk (Kd.R_mono (Kd.R_keep (IsS82.apart (show IsS82 w0 _ g s0_0 tC1 tC2 from by repeat (first | (with_reducible first | exact HI0.out | apply IsS82.alloc | apply IsS82.drewN | apply IsS82.drew | apply IsS82.set_1 | apply IsS82.set_2) | exact HI0.out)) (crR HOB7) (by decide)) hk (fun _ h => h.2)) (fun _ h => h.1)); replace HK := Aside0.mk (KeepBut.trans (by repeat (first | (with_reducible first | exact HK.out | apply KeepBut.set_ | apply keep_drewN | apply keep_drew | apply keep_alloc) | exact HK.out)) hk (.inl rfl)); replace HB := Aside0.mk (hb); replace HI0 := Aside0.mk (hi); (try clear hb); (try clear hb2); (try clear hk); (try clear hi); obtain ⟨Ao19, co19, eo19⟩ := Kd.R_slice HOB7.out; subst eo19; have pB1 : 0 ≤ ((ji10) : Int) := of_decide_eq_true (by first | (with_reducible assumption) | assumption); have qB1 : (ji10) < (yA2.length : Int) := of_decide_eq_true (by first | (with_reducible assumption) | assumption); obtain ⟨adB1, eB1, hxB1_0⟩ := Kd.at_int (Kd.R_reads' HOB7.out).2.2 (ji10) pB1 qB1; cases eB1; replace pB1 := eq_true pB1; replace qB1 := eq_true qB1) | ((with_reducible refine gate_builtin (b := .append) (xs := #[.tmp 12, .tmp 26]) rfl ?_); at_builtin; refine Kd.R_append (Kd.int .i64) w.heap.size rfl (.tmp 12) (.tmp 26) 22 3 (.int .i64 0) 8 rfl Try.underlying22 info3 rfl (by decide) (by omega) u3 x3_1 (rd yA2 (ji10)) [.int .i64 (rd yA2 (ji10))] (fun k_ => some k_ ≠ (.slice (some adB1) yA2.length co19 : Value).ownBlock) (fun _ => False) rfl rfl ?aP (fun _ hk => hk.elim) ?aF ?aO (Below.refl _ _) ?aS ?aL ?_; (case aP => exact rfl); (case aF => exact (fun k_ hk => Kd.fresh' (Kd.R_lt (crR HOB7)) k_ hk)); (case aO => exact (crM HO_3 fun _ hk => hk.2)); (case aS => exact (keep_size (w := w) (g := g) (row := none) (by repeat (first | (with_reducible first | exact HK.out | apply KeepBut.set_ | apply keep_drewN | apply keep_drew | apply keep_alloc) | exact HK.out)))); (case aL => have := LMc13.out; omega); intro vE6 w20 ho hb hg hat; rw [← NyC6.out] at ho; replace HOB7 := Aside0.mk (Kd.R_after (ok := (fun _ => True)) (crR HOB7) hg hat); replace HB := Aside0.mk (below_weaken (by repeat (first | (with_reducible first | exact HB.out | apply below_alloc | apply pw_below_drewN | apply below_drew1 | refine below_set ?_ (IsS82.ge HI0.out)) | exact HB.out)) HL.out hb); replace HI0 := Aside0.mk (IsS82.grown (by repeat (first | (with_reducible first | exact HI0.out | apply IsS82.alloc | apply IsS82.drewN | apply IsS82.drew | apply IsS82.set_1 | apply IsS82.set_2) | exact HI0.out)) hg (IsS82.own_ne HI0.out HO_3.out (by decide))); replace HK := Aside0.mk (KeepBut.trans (by repeat (first | (with_reducible first | exact HK.out | apply KeepBut.set_ | apply keep_drewN | apply keep_drew | apply keep_alloc) | exact HK.out)) (KeepBut.of_grown hg g) (Kd.R_base2 HO_3.out)); have HOE2 := Aside0.mk (ho); clear HO_3; clear ho hb hg hat))
       go_roundg k1
       case measure => have := HK1.out; omega
       case rel => exact ⟨(yC6), (wrap64 (x4_1 - 1)), (tC3), (tC4), rs_, H', ⟨by have := HK1.out; omega⟩, ⟨crM HOE2 fun _ hk => trivial⟩, ⟨by repeat (first | (with_reducible first | exact HI0.out | apply IsS82.alloc | apply IsS82.drewN | apply IsS82.drew | apply IsS82.set_1 | apply IsS82.set_2) | exact HI0.out)⟩, ⟨by repeat (first | (with_reducible first | exact HK.out | apply KeepBut.set_ | apply keep_drewN | apply keep_drew | apply keep_alloc) | exact HK.out)⟩, ⟨by repeat (first | (with_reducible first | exact HB.out | apply below_alloc | apply pw_below_drewN | apply below_drew1 | refine below_set ?_ (IsS82.ge HI0.out)) | exact HB.out)⟩⟩
      ·
       rw [if_neg c13] at H
       exact absurd H (by simp)
     ·
      rw [if_neg c12] at H
      exact absurd H (by simp)
    ·
     rw [if_neg c11] at H
     exact absurd H (by simp)
   ·
    rw [if_neg c6] at H
    have c6b0 : decide (0 < x4_1) = false := decide_eq_false c6
    clear c6
    replace H := Option.bind_eq_some_iff.mp H
    obtain ⟨tC5, AD9, H⟩ := H
    replace H : (some (tC5, xA5_1, xA6_1)) = some (r1, r2, r3) := H
    have A21 := Aside0.mk AD9
    clear AD9
    simp only [Option.some.injEq, Prod.mk.injEq] at H
    obtain ⟨rfl, rfl, rfl⟩ := H
    obtain ⟨Ao22, co22, eo22⟩ := Kd.R_slice HO_3.out
    subst eo22
    go_wp2_with (first | ((with_reducible refine gate_callee (f := 116) rfl ?_); refine gL_ (some 29) Try.func116 #[.slice Ao22 x3_1.length co22] ?_; (with_reducible refine (spec_l01Trim.calls _ _ x3_1 tC5 _ ?side1 ?side2 A21.out).mono ?_); (case side1 => exact crC (Kd.R_reads' HO_3.out).2.2); (case side2 => exact (Kd.R_reads' HO_3.out).2.1); rintro e w23 ⟨vE7, rfl, ho0, hb⟩; refine ⟨_, rfl, ?_⟩; have HOE3 := Aside0.mk (Kd.R_lower (nwR ho0 HO_3) (keep_size (w := w) (g := g) (row := none) (by repeat (first | (with_reducible first | exact HK.out | apply KeepBut.set_ | apply keep_drewN | apply keep_drew | apply keep_alloc) | exact HK.out)))); replace HO_3 := eldR HO_3 (Kd.R_base ho0) hb; replace HK := Aside0.mk (KeepBut.trans (by repeat (first | (with_reducible first | exact HK.out | apply KeepBut.set_ | apply keep_drewN | apply keep_drew | apply keep_alloc) | exact HK.out)) (KeepBut.of_below hb g none) (.inl rfl)); replace HB := Aside0.mk (below_step (by repeat (first | (with_reducible first | exact HB.out | apply below_alloc | apply pw_below_drewN | apply below_drew1 | refine below_set ?_ (IsS82.ge HI0.out)) | exact HB.out)) hb); replace HI0 := Aside0.mk (IsS82.below (by repeat (first | (with_reducible first | exact HI0.out | apply IsS82.alloc | apply IsS82.drewN | apply IsS82.drew | apply IsS82.set_1 | apply IsS82.set_2) | exact HI0.out)) hb); (try clear hb); (try clear hb2); (try clear hk); (try clear hi); (try clear ho0)))
    go_ret
    exact ⟨_, er_, by (with_reducible repeat (first | apply Kd.R_alloc | apply Kd.R_drewN | apply Kd.R_drew)); exact Kd.R_mono HOE3.out (fun _ hk => trivial), by repeat (first | (with_reducible first | exact HI0.out | apply IsS82.alloc | apply IsS82.drewN | apply IsS82.drew | apply IsS82.set_1 | apply IsS82.set_2) | exact HI0.out), by repeat (first | (with_reducible first | exact HB.out | apply below_alloc | apply pw_below_drewN | apply below_drew1 | refine below_set ?_ (IsS82.ge HI0.out)) | exact HB.out), by repeat (first | (with_reducible first | exact HK.out | apply KeepBut.set_ | apply keep_drewN | apply keep_drew | apply keep_alloc) | exact HK.out)⟩

def spec_l00Src_chance.f (s0_0 : List Int) (s0_1 : Int) (s0_2 : Int) (a1 : Int) : Option (Bool × Int × Int) := (spec_l00Src_next.f s0_0 s0_1 s0_2 a1).bind fun btB5 => (some ((btB5.1 == (wrap64 (a1 - 1))), btB5.2.1, btB5.2.2))
set_option maxHeartbeats 8000000 in
set_option maxRecDepth 100000 in
theorem spec_l00Src_chance.calls (g : Nat) (s0_0 : List Int) (s0_1 : Int) (s0_2 : Int) (a1 : Int) (r1 : Bool) (r2 : Int) (r3 : Int) (w0 w : World) (hI : IsS82 w0 w g s0_0 s0_1 s0_2) (hB : Below w0.heap.size w0 w) (h : spec_l00Src_chance.f s0_0 s0_1 s0_2 a1 = some (r1, r2, r3)) :
  Calls Try.prog 114 #[.pointer (some ⟨g, 0, none⟩), .int .i64 a1] w fun e w' => e = .returned (.bool r1) ∧ IsS82 w0 w' g s0_0 r2 r3 ∧ Below w0.heap.size w0 w' ∧ KeepBut w w' g none := by
 have HI0 := Aside0.mk hI
 have HK := Aside0.mk (KeepBut.refl w g none)
 have HL := Aside0.mk hB.size
 clear hI
 have HW0 := Aside0.mk hB.size
 have HB := Aside0.mk hB
 clear hB
 have H : ((spec_l00Src_next.f s0_0 s0_1 s0_2 a1).bind fun btB5 => (some ((btB5.1 == (wrap64 (a1 - 1))), btB5.2.1, btB5.2.2))) = some (r1, r2, r3) := h
 clear h
 replace H := Option.bind_eq_some_iff.mp H
 obtain ⟨⟨tB5, tE0, tE1⟩, A30, H⟩ := H
 replace H : (some ((tB5 == (wrap64 (a1 - 1))), tE0, tE1)) = some (r1, r2, r3) := H
 have A3 := Aside0.mk A30
 clear A30
 simp only [Option.some.injEq, Prod.mk.injEq] at H
 obtain ⟨rfl, rfl, rfl⟩ := H
 go_enter Try.func114, Try.ntmps114
 go_wp2_with (first | ((with_reducible refine gate_callee (f := 115) rfl ?_); refine gL_ (some 7) Try.func115 #[.pointer (some ⟨g, 0, none⟩), .int .i64 a1] ?_; (with_reducible refine (spec_l00Src_next.calls g s0_0 s0_1 s0_2 a1 tB5 tE0 tE1 w0 _ ?side1 ?side2 A3.out).mono ?_); (case side1 => repeat (first | (with_reducible first | exact HI0.out | apply IsS82.alloc | apply IsS82.drewN | apply IsS82.drew | apply IsS82.set_1 | apply IsS82.set_2) | exact HI0.out)); (case side2 => repeat (first | (with_reducible first | exact HB.out | apply below_alloc | apply pw_below_drewN | apply below_drew1 | refine below_set ?_ (IsS82.ge HI0.out)) | exact HB.out)); rintro e w4 ⟨rfl, hi, hb, hk⟩; refine ⟨_, rfl, ?_⟩; replace HK := Aside0.mk (KeepBut.trans (by repeat (first | (with_reducible first | exact HK.out | apply KeepBut.set_ | apply keep_drewN | apply keep_drew | apply keep_alloc) | exact HK.out)) hk (.inl rfl)); replace HB := Aside0.mk (hb); replace HI0 := Aside0.mk (hi); (try clear hb); (try clear hb2); (try clear hk); (try clear hi)))
 go_ret
 exact ⟨er_, by repeat (first | (with_reducible first | exact HI0.out | apply IsS82.alloc | apply IsS82.drewN | apply IsS82.drew | apply IsS82.set_1 | apply IsS82.set_2) | exact HI0.out), by repeat (first | (with_reducible first | exact HB.out | apply below_alloc | apply pw_below_drewN | apply below_drew1 | refine below_set ?_ (IsS82.ge HI0.out)) | exact HB.out), by repeat (first | (with_reducible first | exact HK.out | apply KeepBut.set_ | apply keep_drewN | apply keep_drew | apply keep_alloc) | exact HK.out)⟩

def laws_sameInts.l0 : Nat → List Int → List Int → Int → Option (Bool)
 | 0, _, _, _ => none
 | k + 1, x0, x1, x5 => if x5 < (x0.length : Int) then (if 0 ≤ x5 then (if x5 < (x1.length : Int) then (if (rd x0 x5) = (rd x1 x5) then (laws_sameInts.l0 k x0 x1 (wrap64 (x5 + 1))) else (some false)) else (none)) else (none)) else (some true)
def laws_sameInts.f (k : Nat) (l0 : List Int) (l1 : List Int) : Option (Bool) := if (l0.length : Int) = (l1.length : Int) then (laws_sameInts.l0 k l0 l1 0) else (some false)
set_option maxHeartbeats 8000000 in
set_option maxRecDepth 100000 in
theorem laws_sameInts.calls (k : Nat) (A0 : Option Addr) (c0 : Nat) (l0 : List Int) (A1 : Option Addr) (c1 : Nat) (l1 : List Int) (r : Bool) (w : World) (hr0 : Kd.C (Kd.int .i64) w A0 l0.length l0) (hc0 : l0.length ≤ c0) (hr1 : Kd.C (Kd.int .i64) w A1 l1.length l1) (hc1 : l1.length ≤ c1) (h : laws_sameInts.f k l0 l1 = some r) :
  Calls Try.prog 44 #[.slice A0 l0.length c0, .slice A1 l1.length c1] w fun e w' => e = .returned (.bool r) ∧ Drawn0 w w' := by
 have HR0 := Aside0.mk hr0
 have HC0 := Aside0.mk hc0
 clear hr0 hc0
 have HR1 := Aside0.mk hr1
 have HC1 := Aside0.mk hc1
 clear hr1 hc1
 have H : (if (l0.length : Int) = (l1.length : Int) then (laws_sameInts.l0 k l0 l1 0) else (some false)) = some r := h
 clear h
 by_cases c3 : (l0.length : Int) = (l1.length : Int)
 ·
  rw [if_pos c3] at H
  have c3b0 : ((l0.length : Int) == (l1.length : Int)) = true := beq_iff_eq.mpr c3
  have c3b1 : ((l0.length : Int) != (l1.length : Int)) = false := bne_eq_false_iff_eq.mpr c3
  have c3b2 : (l0.length == l1.length) = true := by first | simpa using c3 | (simp at c3 ⊢; omega)
  clear c3
  have H' := Aside0.mk H
  clear H
  go_enter Try.func44, Try.ntmps44
  go_wp2
  repeat (go_quiet (fail); try go_wp2)
  go_loopg [5] k (fun kq v5 w' => ∃ (x5_1 : Int), v5 = .int .i64 x5_1 ∧ Aside0 (laws_sameInts.l0 kq l0 l1 x5_1 = some r) ∧ Aside0 (kq ≤ k) ∧ Drawn0 w w')
  case atStart => exact ⟨(0), rs_, H', ⟨Nat.le_refl _⟩, by repeat (first | exact Drawn0.refl _ | apply Drawn0.step)⟩
  case round =>
   clear H'
   try clear c1
   try clear p2
   try clear c3
   try clear c3b0
   try clear c3b1
   try clear c3b2
   obtain ⟨x5_1, rfl, HA, HK1, ⟨m1, rfl⟩⟩ := hrel
   cases gk with
   | zero => exact absurd HA.out (by simp [laws_sameInts.l0])
   | succ k1 =>
    have H := HA.out
    clear HA
    simp only [laws_sameInts.l0] at H
    by_cases c4 : x5_1 < (l0.length : Int)
    ·
     rw [if_pos c4] at H
     have c4b0 : decide (x5_1 < (l0.length : Int)) = true := decide_eq_true c4
     clear c4
     by_cases c5 : 0 ≤ x5_1
     ·
      rw [if_pos c5] at H
      have c5b0 : decide (0 ≤ x5_1) = true := decide_eq_true c5
      clear c5
      by_cases c6 : x5_1 < (l1.length : Int)
      ·
       rw [if_pos c6] at H
       have c6b0 : decide (x5_1 < (l1.length : Int)) = true := decide_eq_true c6
       clear c6
       by_cases c7 : (rd l0 x5_1) = (rd l1 x5_1)
       ·
        rw [if_pos c7] at H
        have c7b0 : ((rd l0 x5_1) == (rd l1 x5_1)) = true := beq_iff_eq.mpr c7
        have c7b1 : ((rd l0 x5_1) != (rd l1 x5_1)) = false := bne_eq_false_iff_eq.mpr c7
        clear c7
        have H' := Aside0.mk H
        clear H
        have pA3 : 0 ≤ (x5_1 : Int) := of_decide_eq_true (by first | (with_reducible assumption) | assumption)
        have qA3 : x5_1 < (l0.length : Int) := of_decide_eq_true (by first | (with_reducible assumption) | assumption)
        obtain ⟨adA3, eA3, hxA3_0⟩ := Kd.at_int HR0.out x5_1 pA3 qA3
        cases eA3
        replace pA3 := eq_true pA3
        replace qA3 := eq_true qA3
        have pA4 : 0 ≤ (x5_1 : Int) := of_decide_eq_true (by first | (with_reducible assumption) | assumption)
        have qA4 : x5_1 < (l1.length : Int) := of_decide_eq_true (by first | (with_reducible assumption) | assumption)
        obtain ⟨adA4, eA4, hxA4_0⟩ := Kd.at_int HR1.out x5_1 pA4 qA4
        cases eA4
        replace pA4 := eq_true pA4
        replace qA4 := eq_true qA4
        go_wp2
        repeat (go_quiet (fail); try go_wp2)
        go_roundg k1
        case measure => have := HK1.out; omega
        case rel => exact ⟨(wrap64 (x5_1 + 1)), rs_, H', ⟨by have := HK1.out; omega⟩, by repeat (first | exact Drawn0.refl _ | apply Drawn0.step)⟩
       ·
        rw [if_neg c7] at H
        have c7b0 : ((rd l0 x5_1) == (rd l1 x5_1)) = false := beq_eq_false_iff_ne.mpr c7
        have c7b1 : ((rd l0 x5_1) != (rd l1 x5_1)) = true := bne_iff_ne.mpr c7
        obtain rfl := Option.some.inj H
        have pA3 : 0 ≤ (x5_1 : Int) := of_decide_eq_true (by first | (with_reducible assumption) | assumption)
        have qA3 : x5_1 < (l0.length : Int) := of_decide_eq_true (by first | (with_reducible assumption) | assumption)
        obtain ⟨adA3, eA3, hxA3_0⟩ := Kd.at_int HR0.out x5_1 pA3 qA3
        cases eA3
        replace pA3 := eq_true pA3
        replace qA3 := eq_true qA3
        have pA4 : 0 ≤ (x5_1 : Int) := of_decide_eq_true (by first | (with_reducible assumption) | assumption)
        have qA4 : x5_1 < (l1.length : Int) := of_decide_eq_true (by first | (with_reducible assumption) | assumption)
        obtain ⟨adA4, eA4, hxA4_0⟩ := Kd.at_int HR1.out x5_1 pA4 qA4
        cases eA4
        replace pA4 := eq_true pA4
        replace qA4 := eq_true qA4
        go_wp2
        repeat (go_quiet (fail); try go_wp2)
        go_ret
        exact ⟨by first | rfl | (simp; done) | (simp [*]; done), by repeat (first | exact Drawn0.refl _ | apply Drawn0.step)⟩
      ·
       rw [if_neg c6] at H
       exact absurd H (by simp)
     ·
      rw [if_neg c5] at H
      exact absurd H (by simp)
    ·
     rw [if_neg c4] at H
     have c4b0 : decide (x5_1 < (l0.length : Int)) = false := decide_eq_false c4
     clear c4
     obtain rfl := Option.some.inj H
     go_wp2
     repeat (go_quiet (fail); try go_wp2)
     go_ret
     exact ⟨by first | rfl | (simp; done) | (simp [*]; done), by repeat (first | exact Drawn0.refl _ | apply Drawn0.step)⟩
 ·
  rw [if_neg c3] at H
  have c3b0 : ((l0.length : Int) == (l1.length : Int)) = false := beq_eq_false_iff_ne.mpr c3
  have c3b1 : ((l0.length : Int) != (l1.length : Int)) = true := bne_iff_ne.mpr c3
  have c3b2 : (l0.length == l1.length) = false := by first | simpa using c3 | (simp at c3 ⊢; omega)
  obtain rfl := Option.some.inj H
  go_enter Try.func44, Try.ntmps44
  go_wp2
  repeat (go_quiet (fail); try go_wp2)
  go_ret
  exact ⟨by first | rfl | (simp; done) | (simp [*]; done), by repeat (first | exact Drawn0.refl _ | apply Drawn0.step)⟩

def spec_l00Src_rat.f (k : Nat) (s0_0 : List Int) (s0_1 : Int) (s0_2 : Int) : Option (Bool × List Int × List Int × Int × Int) := (spec_l00Src_next.f s0_0 s0_1 s0_2 21).bind fun btA4 => ((spec_l00Src_next.f s0_0 btA4.2.1 btA4.2.2 6).bind fun btA3 => ((spec_MakeRat.f k (wrap64 (btA4.1 - 10)) (wrap64 (1 + btA3.1))).bind fun btA2 => (some (btA2.1, btA2.2.1, btA2.2.2.1, btA3.2.1, btA3.2.2))))
set_option maxHeartbeats 8000000 in
set_option maxRecDepth 100000 in
theorem spec_l00Src_rat.calls (k : Nat) (g : Nat) (s0_0 : List Int) (s0_1 : Int) (s0_2 : Int) (r1 : Bool) (r2 : List Int) (r3 : List Int) (r4 : Int) (r5 : Int) (w0 w : World) (hI : IsS82 w0 w g s0_0 s0_1 s0_2) (hB : Below w0.heap.size w0 w) (h : spec_l00Src_rat.f k s0_0 s0_1 s0_2 = some (r1, r2, r3, r4, r5)) :
  Calls Try.prog 90 #[.pointer (some ⟨g, 0, none⟩)] w fun e w' => ∃ v1_ v2_ : Value, e = .returned (.agg #[.bool r1, v1_, v2_]) ∧ Kd.R (Kd.int .i64) 3 w' w.heap.size (fun k_ => nO k_ v2_) v1_ r2 ∧ Kd.R (Kd.int .i64) 3 w' w.heap.size (fun k_ => nO k_ v1_) v2_ r3 ∧ IsS82 w0 w' g s0_0 r4 r5 ∧ Below w0.heap.size w0 w' ∧ KeepBut w w' g none := by
 have hu24 := Try.underlying24
 have HI0 := Aside0.mk hI
 have HK := Aside0.mk (KeepBut.refl w g none)
 have HL := Aside0.mk hB.size
 clear hI
 have HW0 := Aside0.mk hB.size
 have HB := Aside0.mk hB
 clear hB
 have H : ((spec_l00Src_next.f s0_0 s0_1 s0_2 21).bind fun btA4 => ((spec_l00Src_next.f s0_0 btA4.2.1 btA4.2.2 6).bind fun btA3 => ((spec_MakeRat.f k (wrap64 (btA4.1 - 10)) (wrap64 (1 + btA3.1))).bind fun btA2 => (some (btA2.1, btA2.2.1, btA2.2.2.1, btA3.2.1, btA3.2.2))))) = some (r1, r2, r3, r4, r5) := h
 clear h
 replace H := Option.bind_eq_some_iff.mp H
 obtain ⟨⟨tA4, tB1, tB2⟩, A20, H⟩ := H
 replace H : ((spec_l00Src_next.f s0_0 tB1 tB2 6).bind fun btA3 => ((spec_MakeRat.f k (wrap64 (tA4 - 10)) (wrap64 (1 + btA3.1))).bind fun btA2 => (some (btA2.1, btA2.2.1, btA2.2.2.1, btA3.2.1, btA3.2.2)))) = some (r1, r2, r3, r4, r5) := H
 have A2 := Aside0.mk A20
 clear A20
 replace H := Option.bind_eq_some_iff.mp H
 obtain ⟨⟨tA3, tA7, tA8⟩, A30, H⟩ := H
 replace H : ((spec_MakeRat.f k (wrap64 (tA4 - 10)) (wrap64 (1 + tA3))).bind fun btA2 => (some (btA2.1, btA2.2.1, btA2.2.2.1, tA7, tA8))) = some (r1, r2, r3, r4, r5) := H
 have A3 := Aside0.mk A30
 clear A30
 replace H := Option.bind_eq_some_iff.mp H
 obtain ⟨⟨tA2, tA5, tA6, tB3⟩, A40, H⟩ := H
 replace H : (some (tA2, tA5, tA6, tA7, tA8)) = some (r1, r2, r3, r4, r5) := H
 have A4 := Aside0.mk A40
 clear A40
 simp only [Option.some.injEq, Prod.mk.injEq] at H
 obtain ⟨rfl, rfl, rfl, rfl, rfl⟩ := H
 go_enter Try.func90, Try.ntmps90
 go_wp2_with (first | ((with_reducible refine gate_dst (N := 2) rfl ?_); refine bx_ (N := 2) (cs := #[.bool false, .slice none 0 0, .slice none 0 0]) (t := 24) ?_; intro gbA0 hg w5 hbox hb; replace HB := Aside0.mk (below_step (by repeat (first | (with_reducible first | exact HB.out | apply below_alloc | apply pw_below_drewN | apply below_drew1 | refine below_set ?_ (IsS82.ge HI0.out)) | exact HB.out)) hb); have BKA0 := Aside0.mk (hbox); have GWA0 := Aside0.mk ((by rw [hg]; exact (keep_size (w := w) (g := g) (row := none) (by repeat (first | (with_reducible first | exact HK.out | apply KeepBut.set_ | apply keep_drewN | apply keep_drew | apply keep_alloc) | exact HK.out))) : w.heap.size ≤ gbA0)); have GEA0 := Aside0.mk ((Nat.le_trans HW0.out (by rw [hg]; exact (keep_size (w := w) (g := g) (row := none) (by repeat (first | (with_reducible first | exact HK.out | apply KeepBut.set_ | apply keep_drewN | apply keep_drew | apply keep_alloc) | exact HK.out))) : w.heap.size ≤ gbA0) : w0.heap.size ≤ gbA0)); replace HK := Aside0.mk (KeepBut.trans (by repeat (first | (with_reducible first | exact HK.out | apply KeepBut.set_ | apply keep_drewN | apply keep_drew | apply keep_alloc) | exact HK.out)) (KeepBut.of_below hb g none) (.inl rfl)); have NB0_582 := Aside0.mk ((by rw [hg]; exact Nat.ne_of_lt (IsS82.lt (show IsS82 w0 _ g s0_0 s0_1 s0_2 from by repeat (first | (with_reducible first | exact HI0.out | apply IsS82.alloc | apply IsS82.drewN | apply IsS82.drew | apply IsS82.set_1 | apply IsS82.set_2) | exact HI0.out))) : g ≠ gbA0)); have NBA0_0 := Aside0.mk ((by rw [hg]; exact Nat.ne_of_gt (IsS82.lt (show IsS82 w0 _ g s0_0 s0_1 s0_2 from by repeat (first | (with_reducible first | exact HI0.out | apply IsS82.alloc | apply IsS82.drewN | apply IsS82.drew | apply IsS82.set_1 | apply IsS82.set_2) | exact HI0.out))) : gbA0 ≠ g)); replace HI0 := Aside0.mk (IsS82.below (by repeat (first | (with_reducible first | exact HI0.out | apply IsS82.alloc | apply IsS82.drewN | apply IsS82.drew | apply IsS82.set_1 | apply IsS82.set_2) | exact HI0.out)) hb); clear hb hbox hg) | ((with_reducible refine gate_callee (f := 115) rfl ?_); refine gL_ (some 7) Try.func115 #[.pointer (some ⟨g, 0, none⟩), .int .i64 21] ?_; (with_reducible refine (spec_l00Src_next.calls g s0_0 s0_1 s0_2 21 tA4 tB1 tB2 w0 _ ?side1 ?side2 A2.out).mono ?_); (case side1 => repeat (first | (with_reducible first | exact HI0.out | apply IsS82.alloc | apply IsS82.drewN | apply IsS82.drew | apply IsS82.set_1 | apply IsS82.set_2 | refine IsS82.far ?_ NB0_582.out _) | exact HI0.out)); (case side2 => repeat (first | (with_reducible first | exact HB.out | apply below_alloc | apply pw_below_drewN | apply below_drew1 | refine below_set ?_ (IsS82.ge HI0.out) | refine below_set ?_ GEA0.out) | exact HB.out)); rintro e w6 ⟨rfl, hi, hb, hk⟩; refine ⟨_, rfl, ?_⟩; replace BKA0 := Aside0.mk (KeepBut.blk hk (g' := gbA0) (o := .cells #[.bool false, .slice none 0 0, .slice none 0 0] 24 (0, 0)) (crb BKA0) NBA0_0.out (by simp)); replace HK := Aside0.mk (KeepBut.trans (by repeat (first | (with_reducible first | exact HK.out | apply KeepBut.set_ | apply keep_drewN | apply keep_drew | apply keep_alloc | refine keep_far ?_ GWA0.out _) | exact HK.out)) hk (.inl rfl)); replace HB := Aside0.mk (hb); replace HI0 := Aside0.mk (hi); (try clear hb); (try clear hb2); (try clear hk); (try clear hi)) | ((with_reducible refine gate_callee (f := 115) rfl ?_); refine gL_ (some 10) Try.func115 #[.pointer (some ⟨g, 0, none⟩), .int .i64 6] ?_; (with_reducible refine (spec_l00Src_next.calls g s0_0 tB1 tB2 6 tA3 tA7 tA8 w0 _ ?side1 ?side2 A3.out).mono ?_); (case side1 => repeat (first | (with_reducible first | exact HI0.out | apply IsS82.alloc | apply IsS82.drewN | apply IsS82.drew | apply IsS82.set_1 | apply IsS82.set_2 | refine IsS82.far ?_ NB0_582.out _) | exact HI0.out)); (case side2 => repeat (first | (with_reducible first | exact HB.out | apply below_alloc | apply pw_below_drewN | apply below_drew1 | refine below_set ?_ (IsS82.ge HI0.out) | refine below_set ?_ GEA0.out) | exact HB.out)); rintro e w7 ⟨rfl, hi, hb, hk⟩; refine ⟨_, rfl, ?_⟩; replace BKA0 := Aside0.mk (KeepBut.blk hk (g' := gbA0) (o := .cells #[.bool false, .slice none 0 0, .slice none 0 0] 24 (0, 0)) (crb BKA0) NBA0_0.out (by simp)); replace HK := Aside0.mk (KeepBut.trans (by repeat (first | (with_reducible first | exact HK.out | apply KeepBut.set_ | apply keep_drewN | apply keep_drew | apply keep_alloc | refine keep_far ?_ GWA0.out _) | exact HK.out)) hk (.inl rfl)); replace HB := Aside0.mk (hb); replace HI0 := Aside0.mk (hi); (try clear hb); (try clear hb2); (try clear hk); (try clear hi)) | ((with_reducible refine gate_callee (f := 15) rfl ?_); refine gL_ (some 12) Try.func15 #[.int .i64 (wrap64 (tA4 - 10)), .int .i64 (wrap64 (1 + tA3))] ?_; (with_reducible refine (spec_MakeRat.calls k (wrap64 (tA4 - 10)) (wrap64 (1 + tA3)) tA2 tA5 tA6 tB3 _ A4.out).mono ?_); rintro e w8 ⟨vB4, vB5, rfl, ho0, ho1, hb⟩; refine ⟨_, rfl, ?_⟩; have HOA9 := Aside0.mk (Kd.R_lower ho0 (keep_size (w := w) (g := g) (row := none) (by repeat (first | (with_reducible first | exact HK.out | apply KeepBut.set_ | apply keep_drewN | apply keep_drew | apply keep_alloc | refine keep_far ?_ GWA0.out _) | exact HK.out)))); have HOB0 := Aside0.mk (Kd.R_lower ho1 (keep_size (w := w) (g := g) (row := none) (by repeat (first | (with_reducible first | exact HK.out | apply KeepBut.set_ | apply keep_drewN | apply keep_drew | apply keep_alloc | refine keep_far ?_ GWA0.out _) | exact HK.out)))); replace BKA0 := bkb BKA0 hb; replace HK := Aside0.mk (KeepBut.trans (by repeat (first | (with_reducible first | exact HK.out | apply KeepBut.set_ | apply keep_drewN | apply keep_drew | apply keep_alloc | refine keep_far ?_ GWA0.out _) | exact HK.out)) (KeepBut.of_below hb g none) (.inl rfl)); replace HB := Aside0.mk (below_step (by repeat (first | (with_reducible first | exact HB.out | apply below_alloc | apply pw_below_drewN | apply below_drew1 | refine below_set ?_ (IsS82.ge HI0.out) | refine below_set ?_ GEA0.out) | exact HB.out)) hb); replace HI0 := Aside0.mk (IsS82.below (by repeat (first | (with_reducible first | exact HI0.out | apply IsS82.alloc | apply IsS82.drewN | apply IsS82.drew | apply IsS82.set_1 | apply IsS82.set_2 | refine IsS82.far ?_ NB0_582.out _) | exact HI0.out)) hb); (try clear hb); (try clear hb2); (try clear hk); (try clear hi); (try clear ho0); (try clear ho1)) | ((with_reducible refine gate_dst (N := 3) rfl ?_); refine bx_ (N := 3) (cs := #[.bool false, .slice none 0 0, .slice none 0 0]) (t := 24) ?_; intro gbA1 hg w9 hbox hb; replace HOA9 := rblR HOA9 hb; replace HOB0 := rblR HOB0 hb; replace HB := Aside0.mk (below_step (by repeat (first | (with_reducible first | exact HB.out | apply below_alloc | apply pw_below_drewN | apply below_drew1 | refine below_set ?_ (IsS82.ge HI0.out) | refine below_set ?_ GEA0.out) | exact HB.out)) hb); have BKA1 := Aside0.mk (hbox); have GWA1 := Aside0.mk ((by rw [hg]; exact (keep_size (w := w) (g := g) (row := none) (by repeat (first | (with_reducible first | exact HK.out | apply KeepBut.set_ | apply keep_drewN | apply keep_drew | apply keep_alloc | refine keep_far ?_ GWA0.out _) | exact HK.out))) : w.heap.size ≤ gbA1)); have GEA1 := Aside0.mk ((Nat.le_trans HW0.out (by rw [hg]; exact (keep_size (w := w) (g := g) (row := none) (by repeat (first | (with_reducible first | exact HK.out | apply KeepBut.set_ | apply keep_drewN | apply keep_drew | apply keep_alloc | refine keep_far ?_ GWA0.out _) | exact HK.out))) : w.heap.size ≤ gbA1) : w0.heap.size ≤ gbA1)); replace HK := Aside0.mk (KeepBut.trans (by repeat (first | (with_reducible first | exact HK.out | apply KeepBut.set_ | apply keep_drewN | apply keep_drew | apply keep_alloc | refine keep_far ?_ GWA0.out _) | exact HK.out)) (KeepBut.of_below hb g none) (.inl rfl)); have NBA0_A1 := nlt hg BKA0; have NBA1_A0 := ngt hg BKA0; replace BKA0 := bkb BKA0 hb; have NB0_597 := Aside0.mk ((by rw [hg]; exact Nat.ne_of_lt (IsS82.lt (show IsS82 w0 _ g s0_0 tA7 tA8 from by repeat (first | (with_reducible first | exact HI0.out | apply IsS82.alloc | apply IsS82.drewN | apply IsS82.drew | apply IsS82.set_1 | apply IsS82.set_2 | refine IsS82.far ?_ NB0_582.out _) | exact HI0.out))) : g ≠ gbA1)); have NBA1_0 := Aside0.mk ((by rw [hg]; exact Nat.ne_of_gt (IsS82.lt (show IsS82 w0 _ g s0_0 tA7 tA8 from by repeat (first | (with_reducible first | exact HI0.out | apply IsS82.alloc | apply IsS82.drewN | apply IsS82.drew | apply IsS82.set_1 | apply IsS82.set_2 | refine IsS82.far ?_ NB0_582.out _) | exact HI0.out))) : gbA1 ≠ g)); replace HI0 := Aside0.mk (IsS82.below (by repeat (first | (with_reducible first | exact HI0.out | apply IsS82.alloc | apply IsS82.drewN | apply IsS82.drew | apply IsS82.set_1 | apply IsS82.set_2 | refine IsS82.far ?_ NB0_582.out _) | exact HI0.out)) hb); clear hb hbox hg; have hnb10 := NBA1_A0.out; have hnc10 := NBA0_A1.out; have hnb11 := NBA1_0.out; have hnc11 := NB0_597.out; obtain ⟨hcz12_0, hcz12_1, hcz12_2, hfz12_0, hfz12_1, hfz12_2⟩ := bc3 BKA1; obtain ⟨Ao13, co13, eo13⟩ := Kd.R_slice HOA9.out; subst eo13; obtain ⟨Ao14, co14, eo14⟩ := Kd.R_slice HOB0.out; subst eo14; have hnb15 := NBA0_0.out; have hnc15 := NB0_582.out; obtain ⟨hcz16_0, hcz16_1, hcz16_2, hfz16_0, hfz16_1, hfz16_2⟩ := bc3 BKA0))
 refine bodyPost_ret (results_cell_row rfl _ _ gbA0 24 #[.bool tA2, .slice Ao13 tA5.length co13, .slice Ao14 tA6.length co14] (0, 0) _ rfl (by (with_reducible repeat (first | refine blk_drewN ?_ _ | refine blk_drew ?_ | refine blk_alloc ?_ _)); refine blk_put (cs := #[.bool tA2, .slice Ao13 tA5.length co13, .slice none 0 0]) ?_ 2 _ rfl; (with_reducible repeat (first | refine blk_drewN ?_ _ | refine blk_drew ?_ | refine blk_alloc ?_ _)); refine blk_put (cs := #[.bool tA2, .slice none 0 0, .slice none 0 0]) ?_ 1 _ rfl; (with_reducible repeat (first | refine blk_drewN ?_ _ | refine blk_drew ?_ | refine blk_alloc ?_ _)); refine blk_put (cs := #[.bool false, .slice none 0 0, .slice none 0 0]) ?_ 0 _ rfl; (with_reducible repeat (first | refine blk_drewN ?_ _ | refine blk_drew ?_ | refine blk_alloc ?_ _)); refine blk_far ?_ NBA0_A1.out _; (with_reducible repeat (first | refine blk_drewN ?_ _ | refine blk_drew ?_ | refine blk_alloc ?_ _)); refine blk_far ?_ NBA0_A1.out _; (with_reducible repeat (first | refine blk_drewN ?_ _ | refine blk_drew ?_ | refine blk_alloc ?_ _)); refine blk_far ?_ NBA0_A1.out _; (with_reducible repeat (first | refine blk_drewN ?_ _ | refine blk_drew ?_ | refine blk_alloc ?_ _)); exact BKA0.out) Try.underlying24 rfl (by kernel_rfl)) rfl ?_
 exact ⟨_, _, er_, by (with_reducible repeat (first | apply Kd.R_alloc | apply Kd.R_drewN | apply Kd.R_drew)); exact Kd.R_mono (Kd.R_far (p := ⟨gbA0, 2, none⟩) (Kd.R_far (p := ⟨gbA0, 1, none⟩) (Kd.R_far (p := ⟨gbA0, 0, none⟩) (Kd.R_far (p := ⟨gbA1, 2, none⟩) (Kd.R_far (p := ⟨gbA1, 1, none⟩) (Kd.R_far (p := ⟨gbA1, 0, none⟩) (Kd.R_types (Kd.R_types HOA9.out BKA1.out (by decide)) BKA0.out (by decide)) (fun _ hk => hk.1.2) (.bool tA2)) (fun _ hk => hk.1.2) (.slice Ao13 tA5.length co13)) (fun _ hk => hk.1.2) (.slice Ao14 tA6.length co14)) (fun _ hk => hk.2) (.bool tA2)) (fun _ hk => hk.2) (.slice Ao13 tA5.length co13)) (fun _ hk => hk.2) (.slice Ao14 tA6.length co14)) (fun _ hk => hk.1.1), by (with_reducible repeat (first | apply Kd.R_alloc | apply Kd.R_drewN | apply Kd.R_drew)); exact Kd.R_mono (Kd.R_far (p := ⟨gbA0, 2, none⟩) (Kd.R_far (p := ⟨gbA0, 1, none⟩) (Kd.R_far (p := ⟨gbA0, 0, none⟩) (Kd.R_far (p := ⟨gbA1, 2, none⟩) (Kd.R_far (p := ⟨gbA1, 1, none⟩) (Kd.R_far (p := ⟨gbA1, 0, none⟩) (Kd.R_types (Kd.R_types HOB0.out BKA1.out (by decide)) BKA0.out (by decide)) (fun _ hk => hk.1.2) (.bool tA2)) (fun _ hk => hk.1.2) (.slice Ao13 tA5.length co13)) (fun _ hk => hk.1.2) (.slice Ao14 tA6.length co14)) (fun _ hk => hk.2) (.bool tA2)) (fun _ hk => hk.2) (.slice Ao13 tA5.length co13)) (fun _ hk => hk.2) (.slice Ao14 tA6.length co14)) (fun _ hk => hk.1.1), by repeat (first | (with_reducible first | exact HI0.out | apply IsS82.alloc | apply IsS82.drewN | apply IsS82.drew | apply IsS82.set_1 | apply IsS82.set_2 | refine IsS82.far ?_ NB0_582.out _ | refine IsS82.far ?_ NB0_597.out _) | exact HI0.out), by repeat (first | (with_reducible first | exact HB.out | apply below_alloc | apply pw_below_drewN | apply below_drew1 | refine below_set ?_ (IsS82.ge HI0.out) | refine below_set ?_ GEA0.out | refine below_set ?_ GEA1.out) | exact HB.out), by repeat (first | (with_reducible first | exact HK.out | apply KeepBut.set_ | apply keep_drewN | apply keep_drew | apply keep_alloc | refine keep_far ?_ GWA0.out _ | refine keep_far ?_ GWA1.out _) | exact HK.out)⟩

def spec_RatDrawn.f (k : Nat) (l0 : List Int) : Option (Bool × List Int × List Int) := (spec_l00Source.f l0).bind fun btA2 => ((spec_l00Src_rat.f k btA2.1 btA2.2.1 btA2.2.2).bind fun btA1 => (some (btA1.1, btA1.2.1, btA1.2.2.1)))
set_option maxHeartbeats 8000000 in
set_option maxRecDepth 100000 in
theorem spec_RatDrawn.calls (k : Nat) (A0 : Option Addr) (c0 : Nat) (l0 : List Int) (r1 : Bool) (r2 : List Int) (r3 : List Int) (w : World) (hr0 : Kd.C (Kd.int .u8) w A0 l0.length l0) (hc0 : l0.length ≤ c0) (h : spec_RatDrawn.f k l0 = some (r1, r2, r3)) :
  Calls Try.prog 41 #[.slice A0 l0.length c0] w fun e w' => ∃ v1_ v2_ : Value, e = .returned (.agg #[.bool r1, v1_, v2_]) ∧ Kd.R (Kd.int .i64) 3 w' w.heap.size (fun k_ => nO k_ v2_) v1_ r2 ∧ Kd.R (Kd.int .i64) 3 w' w.heap.size (fun k_ => nO k_ v1_) v2_ r3 ∧ Below w.heap.size w w' := by
 have hu24 := Try.underlying24
 have HR0 := Aside0.mk hr0
 have HC0 := Aside0.mk hc0
 clear hr0 hc0
 have HB := Aside0.mk (Below.refl w.heap.size w)
 have H : ((spec_l00Source.f l0).bind fun btA2 => ((spec_l00Src_rat.f k btA2.1 btA2.2.1 btA2.2.2).bind fun btA1 => (some (btA1.1, btA1.2.1, btA1.2.2.1)))) = some (r1, r2, r3) := h
 clear h
 replace H := Option.bind_eq_some_iff.mp H
 obtain ⟨⟨tA2, tA4, tA5⟩, A20, H⟩ := H
 replace H : ((spec_l00Src_rat.f k tA2 tA4 tA5).bind fun btA1 => (some (btA1.1, btA1.2.1, btA1.2.2.1))) = some (r1, r2, r3) := H
 have A2 := Aside0.mk A20
 clear A20
 replace H := Option.bind_eq_some_iff.mp H
 obtain ⟨⟨tA1, tA6, tA7, tB0, tB1⟩, A30, H⟩ := H
 replace H : (some (tA1, tA6, tA7)) = some (r1, r2, r3) := H
 have A3 := Aside0.mk A30
 clear A30
 simp only [Option.some.injEq, Prod.mk.injEq] at H
 obtain ⟨rfl, rfl, rfl⟩ := H
 go_enter Try.func41, Try.ntmps41
 go_wp2_with (first | ((with_reducible refine gate_dst (N := 2) rfl ?_); refine bx_ (N := 2) (cs := #[.bool false, .slice none 0 0, .slice none 0 0]) (t := 24) ?_; intro gbA0 hg w4 hbox hb; have BKA0 := Aside0.mk (hbox); have GWA0 := geh hg HB; have GEA0 := geh hg HB; replace HB := bst HB hb; clear hb hbox hg) | ((with_reducible refine gate_callee (f := 88) rfl ?_); refine gL_ (some 4) Try.func88 #[.slice A0 l0.length c0] ?_; (with_reducible refine (spec_l00Source.calls _ _ l0 tA2 tA4 tA5 w _ ?side1 ?side2 ?side3 A2.out).mono ?_); (case side1 => repeat (first | (with_reducible first | exact HB.out | apply below_alloc | apply pw_below_drewN | apply below_drew1 | refine below_set ?_ GEA0.out) | exact HB.out)); (case side2 => exact HR0.out); (case side3 => exact HC0.out); rintro e w5 ⟨g602, rfl, hi, hb, hb2⟩; refine ⟨_, rfl, ?_⟩; replace HB := Aside0.mk (hb); have HI602 := Aside0.mk (hi); have NBA3_A0 := Aside0.mk (IsS82.ne_blk hi (blk_below (g := gbA0) (o := .cells #[.bool false, .slice none 0 0, .slice none 0 0] 24 (0, 0)) (crb BKA0) hb2) (by decide)); have NBA0_A3 := Aside0.mk (Ne.symm (IsS82.ne_blk hi (blk_below (g := gbA0) (o := .cells #[.bool false, .slice none 0 0, .slice none 0 0] 24 (0, 0)) (crb BKA0) hb2) (by decide))); replace BKA0 := Aside0.mk (blk_below (g := gbA0) (o := .cells #[.bool false, .slice none 0 0, .slice none 0 0] 24 (0, 0)) (crb BKA0) hb2); (try clear hb); (try clear hb2); (try clear hk); (try clear hi)) | ((with_reducible refine gate_callee (f := 90) rfl ?_); refine gL_ (some 5) Try.func90 #[.pointer (some ⟨g602, 0, none⟩)] ?_; (with_reducible refine (spec_l00Src_rat.calls k g602 tA2 tA4 tA5 tA1 tA6 tA7 tB0 tB1 w _ ?side1 ?side2 A3.out).mono ?_); (case side1 => repeat (first | (with_reducible first | exact HI602.out | apply IsS82.alloc | apply IsS82.drewN | apply IsS82.drew | apply IsS82.set_1 | apply IsS82.set_2 | refine IsS82.far ?_ NBA3_A0.out _) | exact HI602.out)); (case side2 => repeat (first | (with_reducible first | exact HB.out | apply below_alloc | apply pw_below_drewN | apply below_drew1 | refine below_set ?_ (IsS82.ge HI602.out) | refine below_set ?_ GEA0.out) | exact HB.out)); rintro e w6 ⟨vB2, vB3, rfl, ho0, ho1, hi, hb, hk⟩; refine ⟨_, rfl, ?_⟩; replace BKA0 := Aside0.mk (KeepBut.blk hk (g' := gbA0) (o := .cells #[.bool false, .slice none 0 0, .slice none 0 0] 24 (0, 0)) (crb BKA0) NBA0_A3.out (by simp)); have HOA8 := Aside0.mk (Kd.R_lower ho0 (below_size (by repeat (first | (with_reducible first | exact HB.out | apply below_alloc | apply pw_below_drewN | apply below_drew1 | refine below_set ?_ (IsS82.ge HI602.out) | refine below_set ?_ GEA0.out) | exact HB.out)))); have HOA9 := Aside0.mk (Kd.R_lower ho1 (below_size (by repeat (first | (with_reducible first | exact HB.out | apply below_alloc | apply pw_below_drewN | apply below_drew1 | refine below_set ?_ (IsS82.ge HI602.out) | refine below_set ?_ GEA0.out) | exact HB.out)))); replace HB := Aside0.mk (hb); replace HI602 := Aside0.mk (hi); (try clear hb); (try clear hb2); (try clear hk); (try clear hi); (try clear ho0); (try clear ho1); have hnb7 := NBA0_A3.out; have hnc7 := NBA3_A0.out; obtain ⟨hcz8_0, hcz8_1, hcz8_2, hfz8_0, hfz8_1, hfz8_2⟩ := bc3 BKA0; obtain ⟨Ao9, co9, eo9⟩ := Kd.R_slice HOA8.out; subst eo9; obtain ⟨Ao10, co10, eo10⟩ := Kd.R_slice HOA9.out; subst eo10))
 refine bodyPost_ret (results_cell_row rfl _ _ gbA0 24 #[.bool tA1, .slice Ao9 tA6.length co9, .slice Ao10 tA7.length co10] (0, 0) _ rfl (bp3 BKA0 _ _ _) Try.underlying24 rfl (by kernel_rfl)) rfl ?_
 exact ⟨_, _, er_, (crN HOA8 BKA0 fun _ hk => hk.1), (crN HOA9 BKA0 fun _ hk => hk.1), by repeat (first | (with_reducible first | exact HB.out | apply below_alloc | apply pw_below_drewN | apply below_drew1 | refine below_set ?_ (IsS82.ge HI602.out) | refine below_set ?_ GEA0.out) | exact HB.out)⟩

def spec_l00Src_wideRat.f (k : Nat) (s0_0 : List Int) (s0_1 : Int) (s0_2 : Int) : Option (Bool × List Int × List Int × Int × Int) := (spec_l00Src_nat.f k s0_0 s0_1 s0_2).bind fun btA1 => (if (btA1.1.length : Int) = 0 then ((spec_l00Src_chance.f s0_0 btA1.2.1 btA1.2.2 2).bind fun btA6 => ((spec_l00Src_nat.f k s0_0 btA6.2.1 btA6.2.2).bind fun btA4 => ((spec_l02Make.f k btA6.1 btA4.1 (([1] : List Int))).bind fun btA2 => (some (btA2.1, btA2.2.1, btA2.2.2, btA4.2.1, btA4.2.2))))) else ((spec_l00Src_chance.f s0_0 btA1.2.1 btA1.2.2 2).bind fun btA8 => ((spec_l00Src_nat.f k s0_0 btA8.2.1 btA8.2.2).bind fun btA7 => ((spec_l02Make.f k btA8.1 btA7.1 btA1.1).bind fun btA5 => (some (btA5.1, btA5.2.1, btA5.2.2, btA7.2.1, btA7.2.2))))))
set_option maxHeartbeats 8000000 in
set_option maxRecDepth 100000 in
theorem spec_l00Src_wideRat.calls (k : Nat) (g : Nat) (s0_0 : List Int) (s0_1 : Int) (s0_2 : Int) (r1 : Bool) (r2 : List Int) (r3 : List Int) (r4 : Int) (r5 : Int) (w0 w : World) (hI : IsS82 w0 w g s0_0 s0_1 s0_2) (hB : Below w0.heap.size w0 w) (h : spec_l00Src_wideRat.f k s0_0 s0_1 s0_2 = some (r1, r2, r3, r4, r5)) :
  Calls Try.prog 89 #[.pointer (some ⟨g, 0, none⟩)] w fun e w' => ∃ v1_ v2_ : Value, e = .returned (.agg #[.bool r1, v1_, v2_]) ∧ Kd.R (Kd.int .i64) 3 w' w.heap.size (fun k_ => nO k_ v2_) v1_ r2 ∧ Kd.R (Kd.int .i64) 3 w' w.heap.size (fun k_ => nO k_ v1_) v2_ r3 ∧ IsS82 w0 w' g s0_0 r4 r5 ∧ Below w0.heap.size w0 w' ∧ KeepBut w w' g none := by
 have hu24 := Try.underlying24
 have HI0 := Aside0.mk hI
 have HK := Aside0.mk (KeepBut.refl w g none)
 have HL := Aside0.mk hB.size
 clear hI
 have HW0 := Aside0.mk hB.size
 have HB := Aside0.mk hB
 clear hB
 have H : ((spec_l00Src_nat.f k s0_0 s0_1 s0_2).bind fun btA1 => (if (btA1.1.length : Int) = 0 then ((spec_l00Src_chance.f s0_0 btA1.2.1 btA1.2.2 2).bind fun btA6 => ((spec_l00Src_nat.f k s0_0 btA6.2.1 btA6.2.2).bind fun btA4 => ((spec_l02Make.f k btA6.1 btA4.1 (([1] : List Int))).bind fun btA2 => (some (btA2.1, btA2.2.1, btA2.2.2, btA4.2.1, btA4.2.2))))) else ((spec_l00Src_chance.f s0_0 btA1.2.1 btA1.2.2 2).bind fun btA8 => ((spec_l00Src_nat.f k s0_0 btA8.2.1 btA8.2.2).bind fun btA7 => ((spec_l02Make.f k btA8.1 btA7.1 btA1.1).bind fun btA5 => (some (btA5.1, btA5.2.1, btA5.2.2, btA7.2.1, btA7.2.2))))))) = some (r1, r2, r3, r4, r5) := h
 clear h
 replace H := Option.bind_eq_some_iff.mp H
 obtain ⟨⟨tA1, tB0, tB1⟩, A20, H⟩ := H
 replace H : (if (tA1.length : Int) = 0 then ((spec_l00Src_chance.f s0_0 tB0 tB1 2).bind fun btA6 => ((spec_l00Src_nat.f k s0_0 btA6.2.1 btA6.2.2).bind fun btA4 => ((spec_l02Make.f k btA6.1 btA4.1 (([1] : List Int))).bind fun btA2 => (some (btA2.1, btA2.2.1, btA2.2.2, btA4.2.1, btA4.2.2))))) else ((spec_l00Src_chance.f s0_0 tB0 tB1 2).bind fun btA8 => ((spec_l00Src_nat.f k s0_0 btA8.2.1 btA8.2.2).bind fun btA7 => ((spec_l02Make.f k btA8.1 btA7.1 tA1).bind fun btA5 => (some (btA5.1, btA5.2.1, btA5.2.2, btA7.2.1, btA7.2.2)))))) = some (r1, r2, r3, r4, r5) := H
 have A2 := Aside0.mk A20
 clear A20
 by_cases c3 : (tA1.length : Int) = 0
 ·
  rw [if_pos c3] at H
  have c3b0 : ((tA1.length : Int) == 0) = true := beq_iff_eq.mpr c3
  have c3b1 : ((tA1.length : Int) != 0) = false := bne_eq_false_iff_eq.mpr c3
  clear c3
  obtain ⟨yB2, hy496⟩ : ∃ y_ : List Int, y_ = (([1] : List Int)) := ⟨_, rfl⟩
  replace H : ((spec_l00Src_chance.f s0_0 tB0 tB1 2).bind fun btA6 => ((spec_l00Src_nat.f k s0_0 btA6.2.1 btA6.2.2).bind fun btA4 => ((spec_l02Make.f k btA6.1 btA4.1 yB2).bind fun btA2 => (some (btA2.1, btA2.2.1, btA2.2.2, btA4.2.1, btA4.2.2))))) = some (r1, r2, r3, r4, r5) := by subst hy496; first | with_reducible exact H | with_reducible exact (Option.bind_some _ _).symm.trans H | exact H
  have NyB2 := Aside0.mk hy496
  clear hy496
  replace H := Option.bind_eq_some_iff.mp H
  obtain ⟨⟨tA6, tB5, tB6⟩, A40, H⟩ := H
  replace H : ((spec_l00Src_nat.f k s0_0 tB5 tB6).bind fun btA4 => ((spec_l02Make.f k tA6 btA4.1 yB2).bind fun btA2 => (some (btA2.1, btA2.2.1, btA2.2.2, btA4.2.1, btA4.2.2)))) = some (r1, r2, r3, r4, r5) := H
  have A4 := Aside0.mk A40
  clear A40
  replace H := Option.bind_eq_some_iff.mp H
  obtain ⟨⟨tA4, tB9, tC0⟩, A50, H⟩ := H
  replace H : ((spec_l02Make.f k tA6 tA4 yB2).bind fun btA2 => (some (btA2.1, btA2.2.1, btA2.2.2, tB9, tC0))) = some (r1, r2, r3, r4, r5) := H
  have A5 := Aside0.mk A50
  clear A50
  replace H := Option.bind_eq_some_iff.mp H
  obtain ⟨⟨tA2, tC1, tC2⟩, A60, H⟩ := H
  replace H : (some (tA2, tC1, tC2, tB9, tC0)) = some (r1, r2, r3, r4, r5) := H
  have A6 := Aside0.mk A60
  clear A60
  simp only [Option.some.injEq, Prod.mk.injEq] at H
  obtain ⟨rfl, rfl, rfl, rfl, rfl⟩ := H
  go_enter Try.func89, Try.ntmps89
  go_wp2_with (first | ((with_reducible refine gate_dst (N := 2) rfl ?_); refine bx_ (N := 2) (cs := #[.bool false, .slice none 0 0, .slice none 0 0]) (t := 24) ?_; intro gbA0 hg w7 hbox hb; replace HB := Aside0.mk (below_step (by repeat (first | (with_reducible first | exact HB.out | apply below_alloc | apply pw_below_drewN | apply below_drew1 | refine below_set ?_ (IsS82.ge HI0.out)) | exact HB.out)) hb); have BKA0 := Aside0.mk (hbox); have GWA0 := Aside0.mk ((by rw [hg]; exact (keep_size (w := w) (g := g) (row := none) (by repeat (first | (with_reducible first | exact HK.out | apply KeepBut.set_ | apply keep_drewN | apply keep_drew | apply keep_alloc) | exact HK.out))) : w.heap.size ≤ gbA0)); have GEA0 := Aside0.mk ((Nat.le_trans HW0.out (by rw [hg]; exact (keep_size (w := w) (g := g) (row := none) (by repeat (first | (with_reducible first | exact HK.out | apply KeepBut.set_ | apply keep_drewN | apply keep_drew | apply keep_alloc) | exact HK.out))) : w.heap.size ≤ gbA0) : w0.heap.size ≤ gbA0)); replace HK := Aside0.mk (KeepBut.trans (by repeat (first | (with_reducible first | exact HK.out | apply KeepBut.set_ | apply keep_drewN | apply keep_drew | apply keep_alloc) | exact HK.out)) (KeepBut.of_below hb g none) (.inl rfl)); have NB0_490 := Aside0.mk ((by rw [hg]; exact Nat.ne_of_lt (IsS82.lt (show IsS82 w0 _ g s0_0 s0_1 s0_2 from by repeat (first | (with_reducible first | exact HI0.out | apply IsS82.alloc | apply IsS82.drewN | apply IsS82.drew | apply IsS82.set_1 | apply IsS82.set_2) | exact HI0.out))) : g ≠ gbA0)); have NBA0_0 := Aside0.mk ((by rw [hg]; exact Nat.ne_of_gt (IsS82.lt (show IsS82 w0 _ g s0_0 s0_1 s0_2 from by repeat (first | (with_reducible first | exact HI0.out | apply IsS82.alloc | apply IsS82.drewN | apply IsS82.drew | apply IsS82.set_1 | apply IsS82.set_2) | exact HI0.out))) : gbA0 ≠ g)); replace HI0 := Aside0.mk (IsS82.below (by repeat (first | (with_reducible first | exact HI0.out | apply IsS82.alloc | apply IsS82.drewN | apply IsS82.drew | apply IsS82.set_1 | apply IsS82.set_2) | exact HI0.out)) hb); clear hb hbox hg) | ((with_reducible refine gate_callee (f := 113) rfl ?_); refine gL_ (some 5) Try.func113 #[.pointer (some ⟨g, 0, none⟩)] ?_; (with_reducible refine (spec_l00Src_nat.calls k g s0_0 s0_1 s0_2 tA1 tB0 tB1 w0 _ ?side1 ?side2 A2.out).mono ?_); (case side1 => repeat (first | (with_reducible first | exact HI0.out | apply IsS82.alloc | apply IsS82.drewN | apply IsS82.drew | apply IsS82.set_1 | apply IsS82.set_2 | refine IsS82.far ?_ NB0_490.out _) | exact HI0.out)); (case side2 => repeat (first | (with_reducible first | exact HB.out | apply below_alloc | apply pw_below_drewN | apply below_drew1 | refine below_set ?_ (IsS82.ge HI0.out) | refine below_set ?_ GEA0.out) | exact HB.out)); rintro e w8 ⟨vD4, rfl, ho0, hi, hb, hk⟩; refine ⟨_, rfl, ?_⟩; replace BKA0 := Aside0.mk (KeepBut.blk hk (g' := gbA0) (o := .cells #[.bool false, .slice none 0 0, .slice none 0 0] 24 (0, 0)) (crb BKA0) NBA0_0.out (by simp)); have HOA3 := Aside0.mk (Kd.R_lower ho0 (keep_size (w := w) (g := g) (row := none) (by repeat (first | (with_reducible first | exact HK.out | apply KeepBut.set_ | apply keep_drewN | apply keep_drew | apply keep_alloc | refine keep_far ?_ GWA0.out _) | exact HK.out)))); replace HK := Aside0.mk (KeepBut.trans (by repeat (first | (with_reducible first | exact HK.out | apply KeepBut.set_ | apply keep_drewN | apply keep_drew | apply keep_alloc | refine keep_far ?_ GWA0.out _) | exact HK.out)) hk (.inl rfl)); replace HB := Aside0.mk (hb); replace HI0 := Aside0.mk (hi); (try clear hb); (try clear hb2); (try clear hk); (try clear hi); (try clear ho0); obtain ⟨Ao9, co9, eo9⟩ := Kd.R_slice HOA3.out; subst eo9) | ((with_reducible refine gate_dst (N := 9) rfl ?_); refine Kd.R_lit (Kd.int .i64) _ 3 ?hg (N := 9) ?hd (xs := ([1] : List Int)) (inner := [.int .i64 1]) (ok := fun _ => True) (okp := fun _ => True) ?hr ?hp (fun _ hk => hk) trivial (Below.refl _ _) (Nat.le_refl _) (by simp) ?_; (case hd => rfl); (case hg => rfl); (case hr => first | (go_simp; done) | (go_simp; rfl)); (case hp => exact (Reps.one (show Kd.M (Kd.int .i64) _ _ _ 1 [.int .i64 1] from rfl) (Reps.none _ _))); intro vD5 w10 ho11 hb hg_ hnew_; clear hg_ hnew_; (first | rw [← NyB2.out] at ho11 | (simp only [Int.reduceToNat] at ho11; rw [← NyB2.out] at ho11)); have HOA9 := Aside0.mk (Kd.R_lower (nwR ho11 HOA3) (keep_size (w := w) (g := g) (row := none) (by repeat (first | (with_reducible first | exact HK.out | apply KeepBut.set_ | apply keep_drewN | apply keep_drew | apply keep_alloc | refine keep_far ?_ GWA0.out _) | exact HK.out)))); replace HOA3 := eldR HOA3 (Kd.R_base ho11) hb; replace BKA0 := bkb BKA0 hb; replace HK := Aside0.mk (KeepBut.trans (by repeat (first | (with_reducible first | exact HK.out | apply KeepBut.set_ | apply keep_drewN | apply keep_drew | apply keep_alloc | refine keep_far ?_ GWA0.out _) | exact HK.out)) (KeepBut.of_below hb g none) (.inl rfl)); replace HB := Aside0.mk (below_step (by repeat (first | (with_reducible first | exact HB.out | apply below_alloc | apply pw_below_drewN | apply below_drew1 | refine below_set ?_ (IsS82.ge HI0.out) | refine below_set ?_ GEA0.out) | exact HB.out)) hb); replace HI0 := Aside0.mk (IsS82.below (by repeat (first | (with_reducible first | exact HI0.out | apply IsS82.alloc | apply IsS82.drewN | apply IsS82.drew | apply IsS82.set_1 | apply IsS82.set_2 | refine IsS82.far ?_ NB0_490.out _) | exact HI0.out)) hb); clear hb ho11) | ((with_reducible refine gate_callee (f := 114) rfl ?_); refine gL_ (some 11) Try.func114 #[.pointer (some ⟨g, 0, none⟩), .int .i64 2] ?_; (with_reducible refine (spec_l00Src_chance.calls g s0_0 tB0 tB1 2 tA6 tB5 tB6 w0 _ ?side1 ?side2 A4.out).mono ?_); (case side1 => repeat (first | (with_reducible first | exact HI0.out | apply IsS82.alloc | apply IsS82.drewN | apply IsS82.drew | apply IsS82.set_1 | apply IsS82.set_2 | refine IsS82.far ?_ NB0_490.out _) | exact HI0.out)); (case side2 => repeat (first | (with_reducible first | exact HB.out | apply below_alloc | apply pw_below_drewN | apply below_drew1 | refine below_set ?_ (IsS82.ge HI0.out) | refine below_set ?_ GEA0.out) | exact HB.out)); rintro e w12 ⟨rfl, hi, hb, hk⟩; refine ⟨_, rfl, ?_⟩; replace BKA0 := Aside0.mk (KeepBut.blk hk (g' := gbA0) (o := .cells #[.bool false, .slice none 0 0, .slice none 0 0] 24 (0, 0)) (crb BKA0) NBA0_0.out (by simp)); replace HOA3 := Aside0.mk (Kd.R_mono (Kd.R_keep (IsS82.apart (show IsS82 w0 _ g s0_0 tB0 tB1 from by repeat (first | (with_reducible first | exact HI0.out | apply IsS82.alloc | apply IsS82.drewN | apply IsS82.drew | apply IsS82.set_1 | apply IsS82.set_2 | refine IsS82.far ?_ NB0_490.out _) | exact HI0.out)) (crR HOA3) (by decide)) hk (fun _ h => h.2)) (fun _ h => h.1)); replace HOA9 := Aside0.mk (Kd.R_mono (Kd.R_keep (IsS82.apart (show IsS82 w0 _ g s0_0 tB0 tB1 from by repeat (first | (with_reducible first | exact HI0.out | apply IsS82.alloc | apply IsS82.drewN | apply IsS82.drew | apply IsS82.set_1 | apply IsS82.set_2 | refine IsS82.far ?_ NB0_490.out _) | exact HI0.out)) (crR HOA9) (by decide)) hk (fun _ h => h.2)) (fun _ h => h.1)); replace HK := Aside0.mk (KeepBut.trans (by repeat (first | (with_reducible first | exact HK.out | apply KeepBut.set_ | apply keep_drewN | apply keep_drew | apply keep_alloc | refine keep_far ?_ GWA0.out _) | exact HK.out)) hk (.inl rfl)); replace HB := Aside0.mk (hb); replace HI0 := Aside0.mk (hi); (try clear hb); (try clear hb2); (try clear hk); (try clear hi)) | ((with_reducible refine gate_callee (f := 113) rfl ?_); refine gL_ (some 13) Try.func113 #[.pointer (some ⟨g, 0, none⟩)] ?_; (with_reducible refine (spec_l00Src_nat.calls k g s0_0 tB5 tB6 tA4 tB9 tC0 w0 _ ?side1 ?side2 A5.out).mono ?_); (case side1 => repeat (first | (with_reducible first | exact HI0.out | apply IsS82.alloc | apply IsS82.drewN | apply IsS82.drew | apply IsS82.set_1 | apply IsS82.set_2 | refine IsS82.far ?_ NB0_490.out _) | exact HI0.out)); (case side2 => repeat (first | (with_reducible first | exact HB.out | apply below_alloc | apply pw_below_drewN | apply below_drew1 | refine below_set ?_ (IsS82.ge HI0.out) | refine below_set ?_ GEA0.out) | exact HB.out)); rintro e w13 ⟨vD6, rfl, ho0, hi, hb, hk⟩; refine ⟨_, rfl, ?_⟩; replace BKA0 := Aside0.mk (KeepBut.blk hk (g' := gbA0) (o := .cells #[.bool false, .slice none 0 0, .slice none 0 0] 24 (0, 0)) (crb BKA0) NBA0_0.out (by simp)); have HOB3 := Aside0.mk (Kd.R_lower (nwR (nwR ho0 HOA3) HOA9) (keep_size (w := w) (g := g) (row := none) (by repeat (first | (with_reducible first | exact HK.out | apply KeepBut.set_ | apply keep_drewN | apply keep_drew | apply keep_alloc | refine keep_far ?_ GWA0.out _) | exact HK.out)))); replace HOA3 := Aside0.mk (Kd.R_mono (Kd.R_told (Kd.R_oldK (IsS82.apart (show IsS82 w0 _ g s0_0 tB5 tB6 from by repeat (first | (with_reducible first | exact HI0.out | apply IsS82.alloc | apply IsS82.drewN | apply IsS82.drew | apply IsS82.set_1 | apply IsS82.set_2 | refine IsS82.far ?_ NB0_490.out _) | exact HI0.out)) (crR HOA3) (by decide)) hk) (Kd.R_base ho0)) (fun _ h_ => h_.1)); replace HOA9 := Aside0.mk (Kd.R_mono (Kd.R_told (Kd.R_oldK (IsS82.apart (show IsS82 w0 _ g s0_0 tB5 tB6 from by repeat (first | (with_reducible first | exact HI0.out | apply IsS82.alloc | apply IsS82.drewN | apply IsS82.drew | apply IsS82.set_1 | apply IsS82.set_2 | refine IsS82.far ?_ NB0_490.out _) | exact HI0.out)) (crR HOA9) (by decide)) hk) (Kd.R_base ho0)) (fun _ h_ => h_.1)); replace HK := Aside0.mk (KeepBut.trans (by repeat (first | (with_reducible first | exact HK.out | apply KeepBut.set_ | apply keep_drewN | apply keep_drew | apply keep_alloc | refine keep_far ?_ GWA0.out _) | exact HK.out)) hk (.inl rfl)); replace HB := Aside0.mk (hb); replace HI0 := Aside0.mk (hi); (try clear hb); (try clear hb2); (try clear hk); (try clear hi); (try clear ho0); obtain ⟨Ao14, co14, eo14⟩ := Kd.R_slice HOB3.out; subst eo14; obtain ⟨Ao15, co15, eo15⟩ := Kd.R_slice HOA9.out; subst eo15) | ((with_reducible refine gate_callee (f := 47) rfl ?_); refine gL_ (some 15) Try.func47 #[.bool tA6, .slice Ao14 tA4.length co14, .slice Ao15 yB2.length co15] ?_; (with_reducible refine (spec_l02Make.calls k tA6 _ _ tA4 _ _ yB2 tA2 tC1 tC2 _ ?side1 ?side2 ?side3 ?side4 A6.out).mono ?_); (case side1 => exact crC (Kd.R_reads' HOB3.out).2.2); (case side2 => exact (Kd.R_reads' HOB3.out).2.1); (case side3 => exact crC (Kd.R_reads' HOA9.out).2.2); (case side4 => exact (Kd.R_reads' HOA9.out).2.1); rintro e w16 ⟨vD7, vD8, rfl, ho0, ho1, hb⟩; refine ⟨_, rfl, ?_⟩; have HOC7 := Aside0.mk (Kd.R_lower (nwR (nwR (nwR ho0 HOA3) HOA9) HOB3) (keep_size (w := w) (g := g) (row := none) (by repeat (first | (with_reducible first | exact HK.out | apply KeepBut.set_ | apply keep_drewN | apply keep_drew | apply keep_alloc | refine keep_far ?_ GWA0.out _) | exact HK.out)))); have HOC8 := Aside0.mk (Kd.R_lower (nwR (nwR (nwR ho1 HOA3) HOA9) HOB3) (keep_size (w := w) (g := g) (row := none) (by repeat (first | (with_reducible first | exact HK.out | apply KeepBut.set_ | apply keep_drewN | apply keep_drew | apply keep_alloc | refine keep_far ?_ GWA0.out _) | exact HK.out)))); replace HOA3 := tldR HOA3 hb (Kd.R_base ho0) (Kd.R_base ho1); replace HOA9 := tldR HOA9 hb (Kd.R_base ho0) (Kd.R_base ho1); replace HOB3 := tldR HOB3 hb (Kd.R_base ho0) (Kd.R_base ho1); replace BKA0 := bkb BKA0 hb; replace HK := Aside0.mk (KeepBut.trans (by repeat (first | (with_reducible first | exact HK.out | apply KeepBut.set_ | apply keep_drewN | apply keep_drew | apply keep_alloc | refine keep_far ?_ GWA0.out _) | exact HK.out)) (KeepBut.of_below hb g none) (.inl rfl)); replace HB := Aside0.mk (below_step (by repeat (first | (with_reducible first | exact HB.out | apply below_alloc | apply pw_below_drewN | apply below_drew1 | refine below_set ?_ (IsS82.ge HI0.out) | refine below_set ?_ GEA0.out) | exact HB.out)) hb); replace HI0 := Aside0.mk (IsS82.below (by repeat (first | (with_reducible first | exact HI0.out | apply IsS82.alloc | apply IsS82.drewN | apply IsS82.drew | apply IsS82.set_1 | apply IsS82.set_2 | refine IsS82.far ?_ NB0_490.out _) | exact HI0.out)) hb); (try clear hb); (try clear hb2); (try clear hk); (try clear hi); (try clear ho0); (try clear ho1); have hnb17 := NBA0_0.out; have hnc17 := NB0_490.out; obtain ⟨hcz18_0, hcz18_1, hcz18_2, hfz18_0, hfz18_1, hfz18_2⟩ := bc3 BKA0; obtain ⟨Ao19, co19, eo19⟩ := Kd.R_slice HOC7.out; subst eo19; obtain ⟨Ao20, co20, eo20⟩ := Kd.R_slice HOC8.out; subst eo20))
  refine bodyPost_ret (results_cell_row rfl _ _ gbA0 24 #[.bool tA2, .slice Ao19 tC1.length co19, .slice Ao20 tC2.length co20] (0, 0) _ rfl (bp3 BKA0 _ _ _) Try.underlying24 rfl (by kernel_rfl)) rfl ?_
  exact ⟨_, _, er_, (crN HOC7 BKA0 fun _ hk => hk.1.1.1.1), (crN HOC8 BKA0 fun _ hk => hk.1.1.1.1), by repeat (first | (with_reducible first | exact HI0.out | apply IsS82.alloc | apply IsS82.drewN | apply IsS82.drew | apply IsS82.set_1 | apply IsS82.set_2 | refine IsS82.far ?_ NB0_490.out _) | exact HI0.out), by repeat (first | (with_reducible first | exact HB.out | apply below_alloc | apply pw_below_drewN | apply below_drew1 | refine below_set ?_ (IsS82.ge HI0.out) | refine below_set ?_ GEA0.out) | exact HB.out), by repeat (first | (with_reducible first | exact HK.out | apply KeepBut.set_ | apply keep_drewN | apply keep_drew | apply keep_alloc | refine keep_far ?_ GWA0.out _) | exact HK.out)⟩
 ·
  rw [if_neg c3] at H
  have c3b0 : ((tA1.length : Int) == 0) = false := beq_eq_false_iff_ne.mpr c3
  have c3b1 : ((tA1.length : Int) != 0) = true := bne_iff_ne.mpr c3
  have c3b2 : ¬ (tA1 = []) := fun h_ => c3 (by rw [h_]; rfl)
  replace H := Option.bind_eq_some_iff.mp H
  obtain ⟨⟨tA8, tB7, tB8⟩, AC9, H⟩ := H
  replace H : ((spec_l00Src_nat.f k s0_0 tB7 tB8).bind fun btA7 => ((spec_l02Make.f k tA8 btA7.1 tA1).bind fun btA5 => (some (btA5.1, btA5.2.1, btA5.2.2, btA7.2.1, btA7.2.2)))) = some (r1, r2, r3, r4, r5) := H
  have A21 := Aside0.mk AC9
  clear AC9
  replace H := Option.bind_eq_some_iff.mp H
  obtain ⟨⟨tA7, tC3, tC4⟩, AD0, H⟩ := H
  replace H : ((spec_l02Make.f k tA8 tA7 tA1).bind fun btA5 => (some (btA5.1, btA5.2.1, btA5.2.2, tC3, tC4))) = some (r1, r2, r3, r4, r5) := H
  have A22 := Aside0.mk AD0
  clear AD0
  replace H := Option.bind_eq_some_iff.mp H
  obtain ⟨⟨tA5, tC5, tC6⟩, AD1, H⟩ := H
  replace H : (some (tA5, tC5, tC6, tC3, tC4)) = some (r1, r2, r3, r4, r5) := H
  have A23 := Aside0.mk AD1
  clear AD1
  simp only [Option.some.injEq, Prod.mk.injEq] at H
  obtain ⟨rfl, rfl, rfl, rfl, rfl⟩ := H
  go_enter Try.func89, Try.ntmps89
  go_wp2_with (first | ((with_reducible refine gate_dst (N := 2) rfl ?_); refine bx_ (N := 2) (cs := #[.bool false, .slice none 0 0, .slice none 0 0]) (t := 24) ?_; intro gbA0 hg w24 hbox hb; replace HB := Aside0.mk (below_step (by repeat (first | (with_reducible first | exact HB.out | apply below_alloc | apply pw_below_drewN | apply below_drew1 | refine below_set ?_ (IsS82.ge HI0.out)) | exact HB.out)) hb); have BKA0 := Aside0.mk (hbox); have GWA0 := Aside0.mk ((by rw [hg]; exact (keep_size (w := w) (g := g) (row := none) (by repeat (first | (with_reducible first | exact HK.out | apply KeepBut.set_ | apply keep_drewN | apply keep_drew | apply keep_alloc) | exact HK.out))) : w.heap.size ≤ gbA0)); have GEA0 := Aside0.mk ((Nat.le_trans HW0.out (by rw [hg]; exact (keep_size (w := w) (g := g) (row := none) (by repeat (first | (with_reducible first | exact HK.out | apply KeepBut.set_ | apply keep_drewN | apply keep_drew | apply keep_alloc) | exact HK.out))) : w.heap.size ≤ gbA0) : w0.heap.size ≤ gbA0)); replace HK := Aside0.mk (KeepBut.trans (by repeat (first | (with_reducible first | exact HK.out | apply KeepBut.set_ | apply keep_drewN | apply keep_drew | apply keep_alloc) | exact HK.out)) (KeepBut.of_below hb g none) (.inl rfl)); have NB0_490 := Aside0.mk ((by rw [hg]; exact Nat.ne_of_lt (IsS82.lt (show IsS82 w0 _ g s0_0 s0_1 s0_2 from by repeat (first | (with_reducible first | exact HI0.out | apply IsS82.alloc | apply IsS82.drewN | apply IsS82.drew | apply IsS82.set_1 | apply IsS82.set_2) | exact HI0.out))) : g ≠ gbA0)); have NBA0_0 := Aside0.mk ((by rw [hg]; exact Nat.ne_of_gt (IsS82.lt (show IsS82 w0 _ g s0_0 s0_1 s0_2 from by repeat (first | (with_reducible first | exact HI0.out | apply IsS82.alloc | apply IsS82.drewN | apply IsS82.drew | apply IsS82.set_1 | apply IsS82.set_2) | exact HI0.out))) : gbA0 ≠ g)); replace HI0 := Aside0.mk (IsS82.below (by repeat (first | (with_reducible first | exact HI0.out | apply IsS82.alloc | apply IsS82.drewN | apply IsS82.drew | apply IsS82.set_1 | apply IsS82.set_2) | exact HI0.out)) hb); clear hb hbox hg) | ((with_reducible refine gate_callee (f := 113) rfl ?_); refine gL_ (some 5) Try.func113 #[.pointer (some ⟨g, 0, none⟩)] ?_; (with_reducible refine (spec_l00Src_nat.calls k g s0_0 s0_1 s0_2 tA1 tB0 tB1 w0 _ ?side1 ?side2 A2.out).mono ?_); (case side1 => repeat (first | (with_reducible first | exact HI0.out | apply IsS82.alloc | apply IsS82.drewN | apply IsS82.drew | apply IsS82.set_1 | apply IsS82.set_2 | refine IsS82.far ?_ NB0_490.out _) | exact HI0.out)); (case side2 => repeat (first | (with_reducible first | exact HB.out | apply below_alloc | apply pw_below_drewN | apply below_drew1 | refine below_set ?_ (IsS82.ge HI0.out) | refine below_set ?_ GEA0.out) | exact HB.out)); rintro e w25 ⟨vD4, rfl, ho0, hi, hb, hk⟩; refine ⟨_, rfl, ?_⟩; replace BKA0 := Aside0.mk (KeepBut.blk hk (g' := gbA0) (o := .cells #[.bool false, .slice none 0 0, .slice none 0 0] 24 (0, 0)) (crb BKA0) NBA0_0.out (by simp)); have HOA3 := Aside0.mk (Kd.R_lower ho0 (keep_size (w := w) (g := g) (row := none) (by repeat (first | (with_reducible first | exact HK.out | apply KeepBut.set_ | apply keep_drewN | apply keep_drew | apply keep_alloc | refine keep_far ?_ GWA0.out _) | exact HK.out)))); replace HK := Aside0.mk (KeepBut.trans (by repeat (first | (with_reducible first | exact HK.out | apply KeepBut.set_ | apply keep_drewN | apply keep_drew | apply keep_alloc | refine keep_far ?_ GWA0.out _) | exact HK.out)) hk (.inl rfl)); replace HB := Aside0.mk (hb); replace HI0 := Aside0.mk (hi); (try clear hb); (try clear hb2); (try clear hk); (try clear hi); (try clear ho0); obtain ⟨Ao26, co26, eo26⟩ := Kd.R_slice HOA3.out; subst eo26) | ((with_reducible refine gate_callee (f := 114) rfl ?_); refine gL_ (some 11) Try.func114 #[.pointer (some ⟨g, 0, none⟩), .int .i64 2] ?_; (with_reducible refine (spec_l00Src_chance.calls g s0_0 tB0 tB1 2 tA8 tB7 tB8 w0 _ ?side1 ?side2 A21.out).mono ?_); (case side1 => repeat (first | (with_reducible first | exact HI0.out | apply IsS82.alloc | apply IsS82.drewN | apply IsS82.drew | apply IsS82.set_1 | apply IsS82.set_2 | refine IsS82.far ?_ NB0_490.out _) | exact HI0.out)); (case side2 => repeat (first | (with_reducible first | exact HB.out | apply below_alloc | apply pw_below_drewN | apply below_drew1 | refine below_set ?_ (IsS82.ge HI0.out) | refine below_set ?_ GEA0.out) | exact HB.out)); rintro e w27 ⟨rfl, hi, hb, hk⟩; refine ⟨_, rfl, ?_⟩; replace BKA0 := Aside0.mk (KeepBut.blk hk (g' := gbA0) (o := .cells #[.bool false, .slice none 0 0, .slice none 0 0] 24 (0, 0)) (crb BKA0) NBA0_0.out (by simp)); replace HOA3 := Aside0.mk (Kd.R_mono (Kd.R_keep (IsS82.apart (show IsS82 w0 _ g s0_0 tB0 tB1 from by repeat (first | (with_reducible first | exact HI0.out | apply IsS82.alloc | apply IsS82.drewN | apply IsS82.drew | apply IsS82.set_1 | apply IsS82.set_2 | refine IsS82.far ?_ NB0_490.out _) | exact HI0.out)) (crR HOA3) (by decide)) hk (fun _ h => h.2)) (fun _ h => h.1)); replace HK := Aside0.mk (KeepBut.trans (by repeat (first | (with_reducible first | exact HK.out | apply KeepBut.set_ | apply keep_drewN | apply keep_drew | apply keep_alloc | refine keep_far ?_ GWA0.out _) | exact HK.out)) hk (.inl rfl)); replace HB := Aside0.mk (hb); replace HI0 := Aside0.mk (hi); (try clear hb); (try clear hb2); (try clear hk); (try clear hi)) | ((with_reducible refine gate_callee (f := 113) rfl ?_); refine gL_ (some 13) Try.func113 #[.pointer (some ⟨g, 0, none⟩)] ?_; (with_reducible refine (spec_l00Src_nat.calls k g s0_0 tB7 tB8 tA7 tC3 tC4 w0 _ ?side1 ?side2 A22.out).mono ?_); (case side1 => repeat (first | (with_reducible first | exact HI0.out | apply IsS82.alloc | apply IsS82.drewN | apply IsS82.drew | apply IsS82.set_1 | apply IsS82.set_2 | refine IsS82.far ?_ NB0_490.out _) | exact HI0.out)); (case side2 => repeat (first | (with_reducible first | exact HB.out | apply below_alloc | apply pw_below_drewN | apply below_drew1 | refine below_set ?_ (IsS82.ge HI0.out) | refine below_set ?_ GEA0.out) | exact HB.out)); rintro e w28 ⟨vD9, rfl, ho0, hi, hb, hk⟩; refine ⟨_, rfl, ?_⟩; replace BKA0 := Aside0.mk (KeepBut.blk hk (g' := gbA0) (o := .cells #[.bool false, .slice none 0 0, .slice none 0 0] 24 (0, 0)) (crb BKA0) NBA0_0.out (by simp)); have HOB4 := Aside0.mk (Kd.R_lower (nwR ho0 HOA3) (keep_size (w := w) (g := g) (row := none) (by repeat (first | (with_reducible first | exact HK.out | apply KeepBut.set_ | apply keep_drewN | apply keep_drew | apply keep_alloc | refine keep_far ?_ GWA0.out _) | exact HK.out)))); replace HOA3 := Aside0.mk (Kd.R_mono (Kd.R_told (Kd.R_oldK (IsS82.apart (show IsS82 w0 _ g s0_0 tB7 tB8 from by repeat (first | (with_reducible first | exact HI0.out | apply IsS82.alloc | apply IsS82.drewN | apply IsS82.drew | apply IsS82.set_1 | apply IsS82.set_2 | refine IsS82.far ?_ NB0_490.out _) | exact HI0.out)) (crR HOA3) (by decide)) hk) (Kd.R_base ho0)) (fun _ h_ => h_.1)); replace HK := Aside0.mk (KeepBut.trans (by repeat (first | (with_reducible first | exact HK.out | apply KeepBut.set_ | apply keep_drewN | apply keep_drew | apply keep_alloc | refine keep_far ?_ GWA0.out _) | exact HK.out)) hk (.inl rfl)); replace HB := Aside0.mk (hb); replace HI0 := Aside0.mk (hi); (try clear hb); (try clear hb2); (try clear hk); (try clear hi); (try clear ho0); obtain ⟨Ao29, co29, eo29⟩ := Kd.R_slice HOB4.out; subst eo29) | ((with_reducible refine gate_callee (f := 47) rfl ?_); refine gL_ (some 15) Try.func47 #[.bool tA8, .slice Ao29 tA7.length co29, .slice Ao26 tA1.length co26] ?_; (with_reducible refine (spec_l02Make.calls k tA8 _ _ tA7 _ _ tA1 tA5 tC5 tC6 _ ?side1 ?side2 ?side3 ?side4 A23.out).mono ?_); (case side1 => exact crC (Kd.R_reads' HOB4.out).2.2); (case side2 => exact (Kd.R_reads' HOB4.out).2.1); (case side3 => exact crC (Kd.R_reads' HOA3.out).2.2); (case side4 => exact (Kd.R_reads' HOA3.out).2.1); rintro e w30 ⟨vE0, vE1, rfl, ho0, ho1, hb⟩; refine ⟨_, rfl, ?_⟩; have HOD2 := Aside0.mk (Kd.R_lower (nwR (nwR ho0 HOA3) HOB4) (keep_size (w := w) (g := g) (row := none) (by repeat (first | (with_reducible first | exact HK.out | apply KeepBut.set_ | apply keep_drewN | apply keep_drew | apply keep_alloc | refine keep_far ?_ GWA0.out _) | exact HK.out)))); have HOD3 := Aside0.mk (Kd.R_lower (nwR (nwR ho1 HOA3) HOB4) (keep_size (w := w) (g := g) (row := none) (by repeat (first | (with_reducible first | exact HK.out | apply KeepBut.set_ | apply keep_drewN | apply keep_drew | apply keep_alloc | refine keep_far ?_ GWA0.out _) | exact HK.out)))); replace HOA3 := tldR HOA3 hb (Kd.R_base ho0) (Kd.R_base ho1); replace HOB4 := tldR HOB4 hb (Kd.R_base ho0) (Kd.R_base ho1); replace BKA0 := bkb BKA0 hb; replace HK := Aside0.mk (KeepBut.trans (by repeat (first | (with_reducible first | exact HK.out | apply KeepBut.set_ | apply keep_drewN | apply keep_drew | apply keep_alloc | refine keep_far ?_ GWA0.out _) | exact HK.out)) (KeepBut.of_below hb g none) (.inl rfl)); replace HB := Aside0.mk (below_step (by repeat (first | (with_reducible first | exact HB.out | apply below_alloc | apply pw_below_drewN | apply below_drew1 | refine below_set ?_ (IsS82.ge HI0.out) | refine below_set ?_ GEA0.out) | exact HB.out)) hb); replace HI0 := Aside0.mk (IsS82.below (by repeat (first | (with_reducible first | exact HI0.out | apply IsS82.alloc | apply IsS82.drewN | apply IsS82.drew | apply IsS82.set_1 | apply IsS82.set_2 | refine IsS82.far ?_ NB0_490.out _) | exact HI0.out)) hb); (try clear hb); (try clear hb2); (try clear hk); (try clear hi); (try clear ho0); (try clear ho1); have hnb31 := NBA0_0.out; have hnc31 := NB0_490.out; obtain ⟨hcz32_0, hcz32_1, hcz32_2, hfz32_0, hfz32_1, hfz32_2⟩ := bc3 BKA0; obtain ⟨Ao33, co33, eo33⟩ := Kd.R_slice HOD2.out; subst eo33; obtain ⟨Ao34, co34, eo34⟩ := Kd.R_slice HOD3.out; subst eo34))
  refine bodyPost_ret (results_cell_row rfl _ _ gbA0 24 #[.bool tA5, .slice Ao33 tC5.length co33, .slice Ao34 tC6.length co34] (0, 0) _ rfl (bp3 BKA0 _ _ _) Try.underlying24 rfl (by kernel_rfl)) rfl ?_
  exact ⟨_, _, er_, (crN HOD2 BKA0 fun _ hk => hk.1.1.1), (crN HOD3 BKA0 fun _ hk => hk.1.1.1), by repeat (first | (with_reducible first | exact HI0.out | apply IsS82.alloc | apply IsS82.drewN | apply IsS82.drew | apply IsS82.set_1 | apply IsS82.set_2 | refine IsS82.far ?_ NB0_490.out _) | exact HI0.out), by repeat (first | (with_reducible first | exact HB.out | apply below_alloc | apply pw_below_drewN | apply below_drew1 | refine below_set ?_ (IsS82.ge HI0.out) | refine below_set ?_ GEA0.out) | exact HB.out), by repeat (first | (with_reducible first | exact HK.out | apply KeepBut.set_ | apply keep_drewN | apply keep_drew | apply keep_alloc | refine keep_far ?_ GWA0.out _) | exact HK.out)⟩

def spec_WideRat.f (k : Nat) (l0 : List Int) : Option (Bool × List Int × List Int) := (spec_l00Source.f l0).bind fun btA2 => ((spec_l00Src_wideRat.f k btA2.1 btA2.2.1 btA2.2.2).bind fun btA1 => (some (btA1.1, btA1.2.1, btA1.2.2.1)))
set_option maxHeartbeats 8000000 in
set_option maxRecDepth 100000 in
theorem spec_WideRat.calls (k : Nat) (A0 : Option Addr) (c0 : Nat) (l0 : List Int) (r1 : Bool) (r2 : List Int) (r3 : List Int) (w : World) (hr0 : Kd.C (Kd.int .u8) w A0 l0.length l0) (hc0 : l0.length ≤ c0) (h : spec_WideRat.f k l0 = some (r1, r2, r3)) :
  Calls Try.prog 40 #[.slice A0 l0.length c0] w fun e w' => ∃ v1_ v2_ : Value, e = .returned (.agg #[.bool r1, v1_, v2_]) ∧ Kd.R (Kd.int .i64) 3 w' w.heap.size (fun k_ => nO k_ v2_) v1_ r2 ∧ Kd.R (Kd.int .i64) 3 w' w.heap.size (fun k_ => nO k_ v1_) v2_ r3 ∧ Below w.heap.size w w' := by
 have hu24 := Try.underlying24
 have HR0 := Aside0.mk hr0
 have HC0 := Aside0.mk hc0
 clear hr0 hc0
 have HB := Aside0.mk (Below.refl w.heap.size w)
 have H : ((spec_l00Source.f l0).bind fun btA2 => ((spec_l00Src_wideRat.f k btA2.1 btA2.2.1 btA2.2.2).bind fun btA1 => (some (btA1.1, btA1.2.1, btA1.2.2.1)))) = some (r1, r2, r3) := h
 clear h
 replace H := Option.bind_eq_some_iff.mp H
 obtain ⟨⟨tA2, tA4, tA5⟩, A20, H⟩ := H
 replace H : ((spec_l00Src_wideRat.f k tA2 tA4 tA5).bind fun btA1 => (some (btA1.1, btA1.2.1, btA1.2.2.1))) = some (r1, r2, r3) := H
 have A2 := Aside0.mk A20
 clear A20
 replace H := Option.bind_eq_some_iff.mp H
 obtain ⟨⟨tA1, tA6, tA7, tB0, tB1⟩, A30, H⟩ := H
 replace H : (some (tA1, tA6, tA7)) = some (r1, r2, r3) := H
 have A3 := Aside0.mk A30
 clear A30
 simp only [Option.some.injEq, Prod.mk.injEq] at H
 obtain ⟨rfl, rfl, rfl⟩ := H
 go_enter Try.func40, Try.ntmps40
 go_wp2_with (first | ((with_reducible refine gate_dst (N := 2) rfl ?_); refine bx_ (N := 2) (cs := #[.bool false, .slice none 0 0, .slice none 0 0]) (t := 24) ?_; intro gbA0 hg w4 hbox hb; have BKA0 := Aside0.mk (hbox); have GWA0 := geh hg HB; have GEA0 := geh hg HB; replace HB := bst HB hb; clear hb hbox hg) | ((with_reducible refine gate_callee (f := 88) rfl ?_); refine gL_ (some 4) Try.func88 #[.slice A0 l0.length c0] ?_; (with_reducible refine (spec_l00Source.calls _ _ l0 tA2 tA4 tA5 w _ ?side1 ?side2 ?side3 A2.out).mono ?_); (case side1 => repeat (first | (with_reducible first | exact HB.out | apply below_alloc | apply pw_below_drewN | apply below_drew1 | refine below_set ?_ GEA0.out) | exact HB.out)); (case side2 => exact HR0.out); (case side3 => exact HC0.out); rintro e w5 ⟨g533, rfl, hi, hb, hb2⟩; refine ⟨_, rfl, ?_⟩; replace HB := Aside0.mk (hb); have HI533 := Aside0.mk (hi); have NBA3_A0 := Aside0.mk (IsS82.ne_blk hi (blk_below (g := gbA0) (o := .cells #[.bool false, .slice none 0 0, .slice none 0 0] 24 (0, 0)) (crb BKA0) hb2) (by decide)); have NBA0_A3 := Aside0.mk (Ne.symm (IsS82.ne_blk hi (blk_below (g := gbA0) (o := .cells #[.bool false, .slice none 0 0, .slice none 0 0] 24 (0, 0)) (crb BKA0) hb2) (by decide))); replace BKA0 := Aside0.mk (blk_below (g := gbA0) (o := .cells #[.bool false, .slice none 0 0, .slice none 0 0] 24 (0, 0)) (crb BKA0) hb2); (try clear hb); (try clear hb2); (try clear hk); (try clear hi)) | ((with_reducible refine gate_callee (f := 89) rfl ?_); refine gL_ (some 5) Try.func89 #[.pointer (some ⟨g533, 0, none⟩)] ?_; (with_reducible refine (spec_l00Src_wideRat.calls k g533 tA2 tA4 tA5 tA1 tA6 tA7 tB0 tB1 w _ ?side1 ?side2 A3.out).mono ?_); (case side1 => repeat (first | (with_reducible first | exact HI533.out | apply IsS82.alloc | apply IsS82.drewN | apply IsS82.drew | apply IsS82.set_1 | apply IsS82.set_2 | refine IsS82.far ?_ NBA3_A0.out _) | exact HI533.out)); (case side2 => repeat (first | (with_reducible first | exact HB.out | apply below_alloc | apply pw_below_drewN | apply below_drew1 | refine below_set ?_ (IsS82.ge HI533.out) | refine below_set ?_ GEA0.out) | exact HB.out)); rintro e w6 ⟨vB2, vB3, rfl, ho0, ho1, hi, hb, hk⟩; refine ⟨_, rfl, ?_⟩; replace BKA0 := Aside0.mk (KeepBut.blk hk (g' := gbA0) (o := .cells #[.bool false, .slice none 0 0, .slice none 0 0] 24 (0, 0)) (crb BKA0) NBA0_A3.out (by simp)); have HOA8 := Aside0.mk (Kd.R_lower ho0 (below_size (by repeat (first | (with_reducible first | exact HB.out | apply below_alloc | apply pw_below_drewN | apply below_drew1 | refine below_set ?_ (IsS82.ge HI533.out) | refine below_set ?_ GEA0.out) | exact HB.out)))); have HOA9 := Aside0.mk (Kd.R_lower ho1 (below_size (by repeat (first | (with_reducible first | exact HB.out | apply below_alloc | apply pw_below_drewN | apply below_drew1 | refine below_set ?_ (IsS82.ge HI533.out) | refine below_set ?_ GEA0.out) | exact HB.out)))); replace HB := Aside0.mk (hb); replace HI533 := Aside0.mk (hi); (try clear hb); (try clear hb2); (try clear hk); (try clear hi); (try clear ho0); (try clear ho1); have hnb7 := NBA0_A3.out; have hnc7 := NBA3_A0.out; obtain ⟨hcz8_0, hcz8_1, hcz8_2, hfz8_0, hfz8_1, hfz8_2⟩ := bc3 BKA0; obtain ⟨Ao9, co9, eo9⟩ := Kd.R_slice HOA8.out; subst eo9; obtain ⟨Ao10, co10, eo10⟩ := Kd.R_slice HOA9.out; subst eo10))
 refine bodyPost_ret (results_cell_row rfl _ _ gbA0 24 #[.bool tA1, .slice Ao9 tA6.length co9, .slice Ao10 tA7.length co10] (0, 0) _ rfl (bp3 BKA0 _ _ _) Try.underlying24 rfl (by kernel_rfl)) rfl ?_
 exact ⟨_, _, er_, (crN HOA8 BKA0 fun _ hk => hk.1), (crN HOA9 BKA0 fun _ hk => hk.1), by repeat (first | (with_reducible first | exact HB.out | apply below_alloc | apply pw_below_drewN | apply below_drew1 | refine below_set ?_ (IsS82.ge HI533.out) | refine below_set ?_ GEA0.out) | exact HB.out)⟩

def laws_at.f (l0 : List Int) (a1 : Int) (a2 : Int) : Option (Int) := if a2 ≤ 1 then (some 0) else (if (l0.length : Int) = 0 then (if a2 = 0 then (none) else (some (Int.tmod (wrap64 (a1 * 7)) a2))) else (if 0 ≤ (Int.tmod a1 (l0.length : Int)) then (if (Int.tmod a1 (l0.length : Int)) < (l0.length : Int) then (if 0 ≤ (Int.tmod (wrap64 (a1 + 1)) (l0.length : Int)) then (if (Int.tmod (wrap64 (a1 + 1)) (l0.length : Int)) < (l0.length : Int) then (if a2 = 0 then (none) else (some (Int.tmod (wrap64 ((wrap64 ((wrap64 ((wrap64 (rd l0 (Int.tmod a1 (l0.length : Int)))) * 31)) + (wrap64 (rd l0 (Int.tmod (wrap64 (a1 + 1)) (l0.length : Int)))))) + (wrap64 (Int.tdiv a1 (l0.length : Int))))) a2))) else (none)) else (none)) else (none)) else (none)))
set_option maxHeartbeats 8000000 in
set_option maxRecDepth 100000 in
theorem laws_at.calls (A0 : Option Addr) (c0 : Nat) (l0 : List Int) (a1 : Int) (a2 : Int) (r : Int) (w : World) (hr0 : Kd.C (Kd.int .u8) w A0 l0.length l0) (hc0 : l0.length ≤ c0) (h : laws_at.f l0 a1 a2 = some r) :
  Calls Try.prog 43 #[.slice A0 l0.length c0, .int .i64 a1, .int .i64 a2] w fun e w' => e = .returned (.int .i64 r) ∧ Drawn0 w w' := by
 have HR0 := Aside0.mk hr0
 have HC0 := Aside0.mk hc0
 clear hr0 hc0
 have H : (if a2 ≤ 1 then (some 0) else (if (l0.length : Int) = 0 then (if a2 = 0 then (none) else (some (Int.tmod (wrap64 (a1 * 7)) a2))) else (if 0 ≤ (Int.tmod a1 (l0.length : Int)) then (if (Int.tmod a1 (l0.length : Int)) < (l0.length : Int) then (if 0 ≤ (Int.tmod (wrap64 (a1 + 1)) (l0.length : Int)) then (if (Int.tmod (wrap64 (a1 + 1)) (l0.length : Int)) < (l0.length : Int) then (if a2 = 0 then (none) else (some (Int.tmod (wrap64 ((wrap64 ((wrap64 ((wrap64 (rd l0 (Int.tmod a1 (l0.length : Int)))) * 31)) + (wrap64 (rd l0 (Int.tmod (wrap64 (a1 + 1)) (l0.length : Int)))))) + (wrap64 (Int.tdiv a1 (l0.length : Int))))) a2))) else (none)) else (none)) else (none)) else (none)))) = some r := h
 clear h
 by_cases c4 : a2 ≤ 1
 ·
  rw [if_pos c4] at H
  have c4b0 : decide (a2 ≤ 1) = true := decide_eq_true c4
  clear c4
  obtain rfl := Option.some.inj H
  go_enter Try.func43, Try.ntmps43
  go_wp2
  repeat (go_quiet (fail); try go_wp2)
  go_ret
  exact ⟨by first | rfl | (simp; done) | (simp [*]; done), by repeat (first | exact Drawn0.refl _ | apply Drawn0.step)⟩
 ·
  rw [if_neg c4] at H
  have c4b0 : decide (a2 ≤ 1) = false := decide_eq_false c4
  clear c4
  by_cases c5 : (l0.length : Int) = 0
  ·
   rw [if_pos c5] at H
   have c5b0 : ((l0.length : Int) == 0) = true := beq_iff_eq.mpr c5
   have c5b1 : ((l0.length : Int) != 0) = false := bne_eq_false_iff_eq.mpr c5
   clear c5
   by_cases c6 : a2 = 0
   ·
    rw [if_pos c6] at H
    exact absurd H (by simp)
   ·
    rw [if_neg c6] at H
    have c6b0 : (a2 == 0) = false := beq_eq_false_iff_ne.mpr c6
    have c6b1 : (a2 != 0) = true := bne_iff_ne.mpr c6
    obtain rfl := Option.some.inj H
    go_enter Try.func43, Try.ntmps43
    go_wp2
    repeat (go_quiet (fail); try go_wp2)
    go_ret
    exact ⟨by first | rfl | (simp; done) | (simp [*]; done), by repeat (first | exact Drawn0.refl _ | apply Drawn0.step)⟩
  ·
   rw [if_neg c5] at H
   have c5b0 : ((l0.length : Int) == 0) = false := beq_eq_false_iff_ne.mpr c5
   have c5b1 : ((l0.length : Int) != 0) = true := bne_iff_ne.mpr c5
   have c5b2 : ¬ (l0 = []) := fun h_ => c5 (by rw [h_]; rfl)
   obtain ⟨ji7, hji7⟩ : ∃ j_ : Int, (Int.tmod a1 (l0.length : Int)) = j_ := ⟨_, rfl⟩
   replace H : (if 0 ≤ (ji7) then (if (ji7) < (l0.length : Int) then (if 0 ≤ (Int.tmod (wrap64 (a1 + 1)) (l0.length : Int)) then (if (Int.tmod (wrap64 (a1 + 1)) (l0.length : Int)) < (l0.length : Int) then (if a2 = 0 then (none) else (some (Int.tmod (wrap64 ((wrap64 ((wrap64 ((wrap64 (rd l0 (ji7))) * 31)) + (wrap64 (rd l0 (Int.tmod (wrap64 (a1 + 1)) (l0.length : Int)))))) + (wrap64 (Int.tdiv a1 (l0.length : Int))))) a2))) else (none)) else (none)) else (none)) else (none)) = some r := by first | (rw [hji7] at H; exact H) | (simp only [hji7] at H ⊢; exact H)
   by_cases c8 : 0 ≤ (ji7)
   ·
    rw [if_pos c8] at H
    have c8b0 : decide (0 ≤ (ji7)) = true := decide_eq_true c8
    clear c8
    by_cases c9 : (ji7) < (l0.length : Int)
    ·
     rw [if_pos c9] at H
     have c9b0 : decide ((ji7) < (l0.length : Int)) = true := decide_eq_true c9
     clear c9
     obtain ⟨ji10, hji10⟩ : ∃ j_ : Int, (Int.tmod (wrap64 (a1 + 1)) (l0.length : Int)) = j_ := ⟨_, rfl⟩
     replace H : (if 0 ≤ (ji10) then (if (ji10) < (l0.length : Int) then (if a2 = 0 then (none) else (some (Int.tmod (wrap64 ((wrap64 ((wrap64 ((wrap64 (rd l0 (ji7))) * 31)) + (wrap64 (rd l0 (ji10))))) + (wrap64 (Int.tdiv a1 (l0.length : Int))))) a2))) else (none)) else (none)) = some r := by first | (rw [hji10] at H; exact H) | (simp only [hji10] at H ⊢; exact H)
     by_cases c11 : 0 ≤ (ji10)
     ·
      rw [if_pos c11] at H
      have c11b0 : decide (0 ≤ (ji10)) = true := decide_eq_true c11
      clear c11
      by_cases c12 : (ji10) < (l0.length : Int)
      ·
       rw [if_pos c12] at H
       have c12b0 : decide ((ji10) < (l0.length : Int)) = true := decide_eq_true c12
       clear c12
       by_cases c13 : a2 = 0
       ·
        rw [if_pos c13] at H
        exact absurd H (by simp)
       ·
        rw [if_neg c13] at H
        have c13b0 : (a2 == 0) = false := beq_eq_false_iff_ne.mpr c13
        have c13b1 : (a2 != 0) = true := bne_iff_ne.mpr c13
        obtain rfl := Option.some.inj H
        have pA0 : 0 ≤ ((ji7) : Int) := of_decide_eq_true (by first | (with_reducible assumption) | assumption)
        have qA0 : (ji7) < (l0.length : Int) := of_decide_eq_true (by first | (with_reducible assumption) | assumption)
        obtain ⟨adA0, eA0, hxA0_0⟩ := Kd.at_int HR0.out (ji7) pA0 qA0
        cases eA0
        replace pA0 := eq_true pA0
        replace qA0 := eq_true qA0
        have pA1 : 0 ≤ ((ji10) : Int) := of_decide_eq_true (by first | (with_reducible assumption) | assumption)
        have qA1 : (ji10) < (l0.length : Int) := of_decide_eq_true (by first | (with_reducible assumption) | assumption)
        obtain ⟨adA1, eA1, hxA1_0⟩ := Kd.at_int HR0.out (ji10) pA1 qA1
        obtain rfl : adA0 = adA1 := (by injection eA1)
        replace pA1 := eq_true pA1
        replace qA1 := eq_true qA1
        go_enter Try.func43, Try.ntmps43
        go_wp2
        repeat (go_quiet (fail); try go_wp2)
        go_ret
        exact ⟨by first | rfl | (simp; done) | (simp only [← hji7, ← hji10] <;> (first | rfl | simp)) | (simp [*]; done), by repeat (first | exact Drawn0.refl _ | apply Drawn0.step)⟩
      ·
       rw [if_neg c12] at H
       exact absurd H (by simp)
     ·
      rw [if_neg c11] at H
      exact absurd H (by simp)
    ·
     rw [if_neg c9] at H
     exact absurd H (by simp)
   ·
    rw [if_neg c8] at H
    exact absurd H (by simp)

def laws_sameRat.f (k : Nat) (a0_0 : Bool) (l0_1 : List Int) (l0_2 : List Int) (a1_0 : Bool) (l1_1 : List Int) (l1_2 : List Int) : Option (Bool) := if (a0_0 == a1_0) = true then ((laws_sameInts.f k l0_1 l1_1).bind fun tA3 => (if tA3 = true then ((laws_sameInts.f k l0_2 l1_2).bind fun tA2 => (some tA2)) else (some false))) else (some false)
set_option maxHeartbeats 8000000 in
set_option maxRecDepth 100000 in
theorem laws_sameRat.calls (k : Nat) (a0_0 : Bool) (A0_1 : Option Addr) (c0_1 : Nat) (l0_1 : List Int) (A0_2 : Option Addr) (c0_2 : Nat) (l0_2 : List Int) (a1_0 : Bool) (A1_1 : Option Addr) (c1_1 : Nat) (l1_1 : List Int) (A1_2 : Option Addr) (c1_2 : Nat) (l1_2 : List Int) (r : Bool) (w : World) (hr0_1 : Kd.C (Kd.int .i64) w A0_1 l0_1.length l0_1) (hc0_1 : l0_1.length ≤ c0_1) (hr0_2 : Kd.C (Kd.int .i64) w A0_2 l0_2.length l0_2) (hc0_2 : l0_2.length ≤ c0_2) (hr1_1 : Kd.C (Kd.int .i64) w A1_1 l1_1.length l1_1) (hc1_1 : l1_1.length ≤ c1_1) (hr1_2 : Kd.C (Kd.int .i64) w A1_2 l1_2.length l1_2) (hc1_2 : l1_2.length ≤ c1_2) (h : laws_sameRat.f k a0_0 l0_1 l0_2 a1_0 l1_1 l1_2 = some r) :
  Calls Try.prog 42 #[.agg #[.bool a0_0, .slice A0_1 l0_1.length c0_1, .slice A0_2 l0_2.length c0_2], .agg #[.bool a1_0, .slice A1_1 l1_1.length c1_1, .slice A1_2 l1_2.length c1_2]] w fun e w' => e = .returned (.bool r) ∧ Below w.heap.size w w' := by
 have hu24 := Try.underlying24
 have HR0_1 := Aside0.mk hr0_1
 have HC0_1 := Aside0.mk hc0_1
 clear hr0_1 hc0_1
 have HR0_2 := Aside0.mk hr0_2
 have HC0_2 := Aside0.mk hc0_2
 clear hr0_2 hc0_2
 have HR1_1 := Aside0.mk hr1_1
 have HC1_1 := Aside0.mk hc1_1
 clear hr1_1 hc1_1
 have HR1_2 := Aside0.mk hr1_2
 have HC1_2 := Aside0.mk hc1_2
 clear hr1_2 hc1_2
 have HB := Aside0.mk (Below.refl w.heap.size w)
 have H : (if (a0_0 == a1_0) = true then ((laws_sameInts.f k l0_1 l1_1).bind fun tA3 => (if tA3 = true then ((laws_sameInts.f k l0_2 l1_2).bind fun tA2 => (some tA2)) else (some false))) else (some false)) = some r := h
 clear h
 by_cases c3 : (a0_0 == a1_0) = true
 ·
  rw [if_pos c3] at H
  have c3b0 : (a0_0 == a1_0) = true := c3
  (try (have c3b1 : decide (a0_0 = a1_0) = true := by simpa using c3))
  (try (have c3b2 : (a0_0 == a1_0) = true := by simpa using c3))
  clear c3
  replace H := Option.bind_eq_some_iff.mp H
  obtain ⟨tA3, A40, H⟩ := H
  replace H : (if tA3 = true then ((laws_sameInts.f k l0_2 l1_2).bind fun tA2 => (some tA2)) else (some false)) = some r := H
  have A4 := Aside0.mk A40
  clear A40
  by_cases c5 : tA3 = true
  ·
   subst c5
   rw [if_pos rfl] at H
   replace H := Option.bind_eq_some_iff.mp H
   obtain ⟨tA2, A60, H⟩ := H
   replace H : (some tA2) = some r := H
   have A6 := Aside0.mk A60
   clear A60
   obtain rfl := Option.some.inj H
   go_enter Try.func42, Try.ntmps42
   go_wp2_with (first | ((with_reducible refine gate_dst (N := 2) rfl ?_); refine bx_ (N := 2) (cs := #[.bool a0_0, .slice A0_1 l0_1.length c0_1, .slice A0_2 l0_2.length c0_2]) (t := 24) ?_; intro gbA0 hg w7 hbox hb; have BKA0 := Aside0.mk (hbox); have GWA0 := geh hg HB; have GEA0 := geh hg HB; replace HB := bst HB hb; clear hb hbox hg) | ((with_reducible refine gate_dst (N := 3) rfl ?_); refine bx_ (N := 3) (cs := #[.bool a1_0, .slice A1_1 l1_1.length c1_1, .slice A1_2 l1_2.length c1_2]) (t := 24) ?_; intro gbA1 hg w8 hbox hb; have BKA1 := Aside0.mk (hbox); have GWA1 := geh hg HB; have GEA1 := geh hg HB; replace HB := bst HB hb; have NBA0_A1 := nlt hg BKA0; have NBA1_A0 := ngt hg BKA0; replace BKA0 := bkb BKA0 hb; clear hb hbox hg; have hnb9 := NBA0_A1.out; have hnc9 := NBA1_A0.out; obtain ⟨hcz10_0, hcz10_1, hcz10_2, hfz10_0, hfz10_1, hfz10_2⟩ := bc3 BKA0; obtain ⟨hcz11_0, hcz11_1, hcz11_2, hfz11_0, hfz11_1, hfz11_2⟩ := bc3 BKA1) | (go_at_call 44; (with_reducible refine (laws_sameInts.calls k _ _ l0_1 _ _ l1_1 true _ ?side1 ?side2 ?side3 ?side4 A4.out).mono ?_); (case side1 => exact crC (Kd.C_below HR0_1.out HB.out)); (case side2 => exact HC0_1.out); (case side3 => exact crC (Kd.C_below HR1_1.out HB.out)); (case side4 => exact HC1_1.out); rintro e w' ⟨rfl, ⟨nd, rfl⟩⟩) | (go_at_call 44; (with_reducible refine (laws_sameInts.calls k _ _ l0_2 _ _ l1_2 tA2 _ ?side1 ?side2 ?side3 ?side4 A6.out).mono ?_); (case side1 => exact crC (Kd.C_below HR0_2.out (blw HB))); (case side2 => exact HC0_2.out); (case side3 => exact crC (Kd.C_below HR1_2.out (blw HB))); (case side4 => exact HC1_2.out); rintro e w' ⟨rfl, ⟨nd, rfl⟩⟩))
   go_ret
   exact ⟨er_, blw HB⟩
  ·
   replace c5 := Bool.eq_false_iff.mpr c5
   subst c5
   rw [if_neg (show ¬ (false = true) by decide)] at H
   obtain rfl := Option.some.inj H
   go_enter Try.func42, Try.ntmps42
   go_wp2_with (first | ((with_reducible refine gate_dst (N := 2) rfl ?_); refine bx_ (N := 2) (cs := #[.bool a0_0, .slice A0_1 l0_1.length c0_1, .slice A0_2 l0_2.length c0_2]) (t := 24) ?_; intro gbA0 hg w12 hbox hb; have BKA0 := Aside0.mk (hbox); have GWA0 := geh hg HB; have GEA0 := geh hg HB; replace HB := bst HB hb; clear hb hbox hg) | ((with_reducible refine gate_dst (N := 3) rfl ?_); refine bx_ (N := 3) (cs := #[.bool a1_0, .slice A1_1 l1_1.length c1_1, .slice A1_2 l1_2.length c1_2]) (t := 24) ?_; intro gbA1 hg w13 hbox hb; have BKA1 := Aside0.mk (hbox); have GWA1 := geh hg HB; have GEA1 := geh hg HB; replace HB := bst HB hb; have NBA0_A1 := nlt hg BKA0; have NBA1_A0 := ngt hg BKA0; replace BKA0 := bkb BKA0 hb; clear hb hbox hg; have hnb14 := NBA0_A1.out; have hnc14 := NBA1_A0.out; obtain ⟨hcz15_0, hcz15_1, hcz15_2, hfz15_0, hfz15_1, hfz15_2⟩ := bc3 BKA0; obtain ⟨hcz16_0, hcz16_1, hcz16_2, hfz16_0, hfz16_1, hfz16_2⟩ := bc3 BKA1) | (go_at_call 44; (with_reducible refine (laws_sameInts.calls k _ _ l0_1 _ _ l1_1 false _ ?side1 ?side2 ?side3 ?side4 A4.out).mono ?_); (case side1 => exact crC (Kd.C_below HR0_1.out HB.out)); (case side2 => exact HC0_1.out); (case side3 => exact crC (Kd.C_below HR1_1.out HB.out)); (case side4 => exact HC1_1.out); rintro e w' ⟨rfl, ⟨nd, rfl⟩⟩))
   go_ret
   exact ⟨er_, blw HB⟩
 ·
  rw [if_neg c3] at H
  have c3b0 : (a0_0 == a1_0) = false := by simpa using c3
  (try (have c3b1 : decide (a0_0 = a1_0) = false := by simpa using c3))
  (try (have c3b2 : (a0_0 == a1_0) = false := by simpa using c3))
  (try (have c3b3 : ¬ (a0_0 = a1_0) := by simpa using c3))
  clear c3
  obtain rfl := Option.some.inj H
  go_enter Try.func42, Try.ntmps42
  go_wp2_with (first | ((with_reducible refine gate_dst (N := 2) rfl ?_); refine bx_ (N := 2) (cs := #[.bool a0_0, .slice A0_1 l0_1.length c0_1, .slice A0_2 l0_2.length c0_2]) (t := 24) ?_; intro gbA0 hg w17 hbox hb; have BKA0 := Aside0.mk (hbox); have GWA0 := geh hg HB; have GEA0 := geh hg HB; replace HB := bst HB hb; clear hb hbox hg) | ((with_reducible refine gate_dst (N := 3) rfl ?_); refine bx_ (N := 3) (cs := #[.bool a1_0, .slice A1_1 l1_1.length c1_1, .slice A1_2 l1_2.length c1_2]) (t := 24) ?_; intro gbA1 hg w18 hbox hb; have BKA1 := Aside0.mk (hbox); have GWA1 := geh hg HB; have GEA1 := geh hg HB; replace HB := bst HB hb; have NBA0_A1 := nlt hg BKA0; have NBA1_A0 := ngt hg BKA0; replace BKA0 := bkb BKA0 hb; clear hb hbox hg; have hnb19 := NBA0_A1.out; have hnc19 := NBA1_A0.out; obtain ⟨hcz20_0, hcz20_1, hcz20_2, hfz20_0, hfz20_1, hfz20_2⟩ := bc3 BKA0; obtain ⟨hcz21_0, hcz21_1, hcz21_2, hfz21_0, hfz21_1, hfz21_2⟩ := bc3 BKA1))
  go_ret
  exact ⟨er_, blw HB⟩

end Go.Proofs.Ytacdaijalkkogaa.Q
