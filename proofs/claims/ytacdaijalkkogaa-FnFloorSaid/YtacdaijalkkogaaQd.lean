-- several texts of this claim in one
import Derived.Test.YtacdaijalkkogaaQa
import Derived.Test.YtacdaijalkkogaaWords
import Derived.Test.YtacdaijalkkogaaQxdiv
import Derived.Test.YtacdaijalkkogaaQc
import Derived.Test.YtacdaijalkkogaaQb
import Derived.Test.YtacdaijalkkogaaQxrin
namespace Go.Proofs.Ytacdaijalkkogaa.Q
open Go.RowKit Go.Proofs.YtacdaijalkkogaaW.PrintWords Go.Proofs.YtacdaijalkkogaaW.PrintLast Go.Proofs.YtacdaijalkkogaaW.PrintMore
attribute [local go_sem] max2_int min2_int max_two min_two max_three min_three max_four min_four   -- for this text's walks alone
set_option linter.unusedVariables false
set_option linter.unusedSimpArgs false
def spec_l02Floor.j0 : Nat → List Int → Bool → Bool → List Int → List Int → Option (Bool × List Int × List Int)
 | 0, _, _, _, _, _ => none
 | k + 1, x3, x19, x819000, x819001, x819002 => if x19 = true then ((spec_l01Add.f k x3 (([1] : List Int))).bind fun tA7 => ((spec_l02Make.f k x819000 tA7 (([1] : List Int))).bind fun btA2 => (some (btA2.1, btA2.2.1, btA2.2.2)))) else ((spec_l02Make.f k x819000 x3 (([1] : List Int))).bind fun btA5 => (some (btA5.1, btA5.2.1, btA5.2.2)))
def spec_l02Floor.f (k : Nat) (a0_0 : Bool) (l0_1 : List Int) (l0_2 : List Int) : Option (Bool × List Int × List Int) := (spec_l01Div.f k l0_1 l0_2).bind fun btA3 => (if a0_0 = true then (spec_l02Floor.j0 k btA3.1 (decide ((btA3.2.length : Int) > 0)) a0_0 l0_1 l0_2) else (spec_l02Floor.j0 k btA3.1 false a0_0 l0_1 l0_2))
set_option maxHeartbeats 8000000 in
set_option maxRecDepth 100000 in
theorem spec_l02Floor.calls (k : Nat) (a0_0 : Bool) (A0_1 : Option Addr) (c0_1 : Nat) (l0_1 : List Int) (A0_2 : Option Addr) (c0_2 : Nat) (l0_2 : List Int) (r1 : Bool) (r2 : List Int) (r3 : List Int) (w : World) (hr0_1 : Kd.C (Kd.int .i64) w A0_1 l0_1.length l0_1) (hc0_1 : l0_1.length ≤ c0_1) (hr0_2 : Kd.C (Kd.int .i64) w A0_2 l0_2.length l0_2) (hc0_2 : l0_2.length ≤ c0_2) (h : spec_l02Floor.f k a0_0 l0_1 l0_2 = some (r1, r2, r3)) :
  Calls Try.prog 74 #[.agg #[.bool a0_0, .slice A0_1 l0_1.length c0_1, .slice A0_2 l0_2.length c0_2]] w fun e w' => ∃ v1_ v2_ : Value, e = .returned (.agg #[.bool r1, v1_, v2_]) ∧ Kd.R (Kd.int .i64) 3 w' w.heap.size (fun k_ => nO k_ v2_) v1_ r2 ∧ Kd.R (Kd.int .i64) 3 w' w.heap.size (fun k_ => nO k_ v1_) v2_ r3 ∧ Below w.heap.size w w' := by
 have hu24 := Try.underlying24
 have HR0_1 := Aside0.mk hr0_1
 have HC0_1 := Aside0.mk hc0_1
 clear hr0_1 hc0_1
 have HR0_2 := Aside0.mk hr0_2
 have HC0_2 := Aside0.mk hc0_2
 clear hr0_2 hc0_2
 have HB := Aside0.mk (Below.refl w.heap.size w)
 have H : ((spec_l01Div.f k l0_1 l0_2).bind fun btA3 => (if a0_0 = true then (spec_l02Floor.j0 k btA3.1 (decide ((btA3.2.length : Int) > 0)) a0_0 l0_1 l0_2) else (spec_l02Floor.j0 k btA3.1 false a0_0 l0_1 l0_2))) = some (r1, r2, r3) := h
 clear h
 replace H := Option.bind_eq_some_iff.mp H
 obtain ⟨⟨tA3, tB3⟩, A20, H⟩ := H
 replace H : (if a0_0 = true then (spec_l02Floor.j0 k tA3 (decide ((tB3.length : Int) > 0)) a0_0 l0_1 l0_2) else (spec_l02Floor.j0 k tA3 false a0_0 l0_1 l0_2)) = some (r1, r2, r3) := H
 have A2 := Aside0.mk A20
 clear A20
 have HC3 := Aside0.mk H
 clear H
 go_enter Try.func74, Try.ntmps74
 go_upto_region 2 with (first | ((with_reducible refine gate_dst (N := 1) rfl ?_); (try (refine gate_guard (by rfl) ?_; dsimp only)); refine bx_ (N := 1) (cs := #[.bool a0_0, .slice A0_1 l0_1.length c0_1, .slice A0_2 l0_2.length c0_2]) (t := 24) ?_; intro gbA1 hg w4 hbox hb; have BKA1 := Aside0.mk (hbox); have GWA1 := geh hg HB; have GEA1 := geh hg HB; replace HB := bst HB hb; clear hb hbox hg) | ((with_reducible refine gate_dst (N := 2) rfl ?_); (try (refine gate_guard (by rfl) ?_; dsimp only)); refine bx_ (N := 2) (cs := #[.bool false, .slice none 0 0, .slice none 0 0]) (t := 24) ?_; intro gbA0 hg w5 hbox hb; have BKA0 := Aside0.mk (hbox); have GWA0 := geh hg HB; have GEA0 := geh hg HB; replace HB := bst HB hb; have NBA1_A0 := nlt hg BKA1; have NBA0_A1 := ngt hg BKA1; replace BKA1 := bkb BKA1 hb; clear hb hbox hg; have hnb6 := NBA1_A0.out; have hnc6 := NBA0_A1.out; obtain ⟨hcz7_0, hcz7_1, hcz7_2, hfz7_0, hfz7_1, hfz7_2⟩ := bc3 BKA1) | ((with_reducible refine gate_callee (f := 92) rfl ?_); refine gL_ (some 10) Try.func92 #[.slice A0_1 l0_1.length c0_1, .slice A0_2 l0_2.length c0_2] ?_; (with_reducible refine (spec_l01Div.calls k _ _ l0_1 _ _ l0_2 tA3 tB3 _ ?side1 ?side2 ?side3 ?side4 A2.out).mono ?_); (case side1 => exact crC (Kd.C_below HR0_1.out HB.out)); (case side2 => exact HC0_1.out); (case side3 => exact crC (Kd.C_below HR0_2.out HB.out)); (case side4 => exact HC0_2.out); rintro e w8 ⟨vC6, vC8, rfl, ho0, ho1, hb⟩; refine ⟨_, rfl, ?_⟩; have HOB8 := lwR ho0 HB; have HOC7 := lwR ho1 HB; replace BKA1 := bkb BKA1 hb; replace BKA0 := bkb BKA0 hb; replace HB := bst HB hb; (try clear hb); (try clear hb2); (try clear hk); (try clear hi); (try clear ho0); (try clear ho1)))
 (try simp only [Act.put, List.setIfInBounds_toArray, List.set_cons_zero, List.set_cons_succ])
 go_cut [19] (fun v19 wc => ∃ (kq : Nat) (x19_2 : Bool), v19 = .bool x19_2 ∧ Aside0 (spec_l02Floor.j0 kq tA3 x19_2 a0_0 l0_1 l0_2 = some (r1, r2, r3)) ∧ Aside0 (kq ≤ k) ∧ Aside0 (Kd.R (Kd.int .i64) 3 wc w.heap.size (fun _ => True) vC6 tA3) ∧ Aside0 (wc.heap[gbA1]? = some (.cells #[.bool a0_0, (.slice A0_1 l0_1.length c0_1), (.slice A0_2 l0_2.length c0_2)] 24 (0, 0))) ∧ Aside0 (wc.heap[gbA0]? = some (.cells #[.bool false, (.slice none 0 0), (.slice none 0 0)] 24 (0, 0))) ∧ Aside0 (Below w.heap.size w wc))
 case first =>
  have H := HC3.out
  clear HC3
  by_cases c9 : a0_0 = true
  ·
   subst c9
   rw [if_pos rfl] at H
   have H' := Aside0.mk H
   clear H
   have hnb10 := NBA1_A0.out
   have hnc10 := NBA0_A1.out
   obtain ⟨hcz11_0, hcz11_1, hcz11_2, hfz11_0, hfz11_1, hfz11_2⟩ := bc3 BKA1
   obtain ⟨Ao12, co12, eo12⟩ := Kd.R_slice HOC7.out
   subst eo12
   go_wp2
   go_meet
   case rel => exact ⟨_, (decide ((tB3.length : Int) > 0)), rs_, H', ⟨by first | omega | exact Nat.le_refl _⟩, ⟨crM HOB8 fun _ hk => trivial⟩, ⟨crb BKA1⟩, ⟨crb BKA0⟩, ⟨blw HB⟩⟩
  ·
   replace c9 := Bool.eq_false_iff.mpr c9
   subst c9
   rw [if_neg (show ¬ (false = true) by decide)] at H
   have H' := Aside0.mk H
   clear H
   have hnb13 := NBA1_A0.out
   have hnc13 := NBA0_A1.out
   obtain ⟨hcz14_0, hcz14_1, hcz14_2, hfz14_0, hfz14_1, hfz14_2⟩ := bc3 BKA1
   go_wp2
   go_meet
   case rel => exact ⟨_, (false), rs_, H', ⟨by first | omega | exact Nat.le_refl _⟩, ⟨crM HOB8 fun _ hk => trivial⟩, ⟨crb BKA1⟩, ⟨crb BKA0⟩, ⟨blw HB⟩⟩
 case rest =>
  clear HC3
  try clear c1
  try clear p2
  try clear c6
  try clear c7
  try clear c9
  try clear c10
  try clear c13
  try clear hcz11_0
  try clear hcz11_1
  try clear hcz11_2
  try clear hcz14_0
  try clear hcz14_1
  try clear hcz14_2
  try clear hcz7_0
  try clear hcz7_1
  try clear hcz7_2
  try clear hfz11_0
  try clear hfz11_1
  try clear hfz11_2
  try clear hfz14_0
  try clear hfz14_1
  try clear hfz14_2
  try clear hfz7_0
  try clear hfz7_1
  try clear hfz7_2
  obtain ⟨kq, x19_2, rfl, HA, HJ2, HO_3, BKA1, BKA0, HB⟩ := hcut
  cases kq with
  | zero => exact absurd HA.out (by simp [spec_l02Floor.j0])
  | succ kj2 =>
   have H := HA.out
   clear HA
   simp only [spec_l02Floor.j0] at H
   by_cases c15 : x19_2 = true
   ·
    subst c15
    rw [if_pos rfl] at H
    obtain ⟨yB0, hy826⟩ : ∃ y_ : List Int, y_ = (([1] : List Int)) := ⟨_, rfl⟩
    replace H : ((spec_l01Add.f kj2 tA3 yB0).bind fun tA7 => ((spec_l02Make.f kj2 a0_0 tA7 (([1] : List Int))).bind fun btA2 => (some (btA2.1, btA2.2.1, btA2.2.2)))) = some (r1, r2, r3) := by subst hy826; first | with_reducible exact H | with_reducible exact (Option.bind_some _ _).symm.trans H | exact H
    have NyB0 := Aside0.mk hy826
    clear hy826
    replace H := Option.bind_eq_some_iff.mp H
    obtain ⟨tA7, AB9, H⟩ := H
    replace H : ((spec_l02Make.f kj2 a0_0 tA7 (([1] : List Int))).bind fun btA2 => (some (btA2.1, btA2.2.1, btA2.2.2))) = some (r1, r2, r3) := H
    have A16 := Aside0.mk AB9
    clear AB9
    obtain ⟨yB1, hy832⟩ : ∃ y_ : List Int, y_ = (([1] : List Int)) := ⟨_, rfl⟩
    replace H : ((spec_l02Make.f kj2 a0_0 tA7 yB1).bind fun btA2 => (some (btA2.1, btA2.2.1, btA2.2.2))) = some (r1, r2, r3) := by subst hy832; first | with_reducible exact H | with_reducible exact (Option.bind_some _ _).symm.trans H | exact H
    have NyB1 := Aside0.mk hy832
    clear hy832
    replace H := Option.bind_eq_some_iff.mp H
    obtain ⟨⟨tA2, tB4, tB5⟩, AC0, H⟩ := H
    replace H : (some (tA2, tB4, tB5)) = some (r1, r2, r3) := H
    have A17 := Aside0.mk AC0
    clear AC0
    simp only [Option.some.injEq, Prod.mk.injEq] at H
    obtain ⟨rfl, rfl, rfl⟩ := H
    go_wp2_with (first | ((with_reducible refine gate_dst (N := 21) rfl ?_); (try (refine gate_guard (by rfl) ?_; dsimp only)); refine Kd.R_lit (Kd.int .i64) _ 3 ?hg (N := 21) ?hd (xs := ([1] : List Int)) (inner := [.int .i64 1]) (ok := fun _ => True) (okp := fun _ => True) ?hr ?hp (fun _ hk => hk) trivial (Below.refl _ _) (Nat.le_refl _) (by simp) ?_; (case hd => rfl); (case hg => rfl); (case hr => first | (go_simp; done) | (go_simp; rfl)); (case hp => exact (Reps.one (show Kd.M (Kd.int .i64) _ _ _ 1 [.int .i64 1] from rfl) (Reps.none _ _))); intro vC9 w18 ho19 hb hg_ hnew_; clear hg_ hnew_; (first | rw [← NyB0.out] at ho19 | (simp only [Int.reduceToNat] at ho19; rw [← NyB0.out] at ho19)); have HOA4 := lwR (nwR ho19 HO_3) HB; replace HO_3 := eldR HO_3 (Kd.R_base ho19) hb; replace BKA1 := bkb BKA1 hb; replace BKA0 := bkb BKA0 hb; replace HB := bst HB hb; clear hb ho19; obtain ⟨Ao20, co20, eo20⟩ := Kd.R_slice HO_3.out; subst eo20; obtain ⟨Ao21, co21, eo21⟩ := Kd.R_slice HOA4.out; subst eo21) | ((with_reducible refine gate_callee (f := 107) rfl ?_); refine gL_ (some 22) Try.func107 #[.slice Ao20 tA3.length co20, .slice Ao21 yB0.length co21] ?_; (with_reducible refine (spec_l01Add.calls kj2 _ _ tA3 _ _ yB0 tA7 _ ?side1 ?side2 ?side3 ?side4 A16.out).mono ?_); (case side1 => exact crC (Kd.R_reads' HO_3.out).2.2); (case side2 => exact (Kd.R_reads' HO_3.out).2.1); (case side3 => exact crC (Kd.R_reads' HOA4.out).2.2); (case side4 => exact (Kd.R_reads' HOA4.out).2.1); rintro e w22 ⟨vD0, rfl, ho0, hb⟩; refine ⟨_, rfl, ?_⟩; have HOA6 := lwR (nwR (nwR ho0 HO_3) HOA4) HB; replace HO_3 := eldR HO_3 (Kd.R_base ho0) hb; replace HOA4 := eldR HOA4 (Kd.R_base ho0) hb; replace BKA1 := bkb BKA1 hb; replace BKA0 := bkb BKA0 hb; replace HB := bst HB hb; (try clear hb); (try clear hb2); (try clear hk); (try clear hi); (try clear ho0); have hnb23 := NBA1_A0.out; have hnc23 := NBA0_A1.out; obtain ⟨hcz24_0, hcz24_1, hcz24_2, hfz24_0, hfz24_1, hfz24_2⟩ := bc3 BKA1) | ((with_reducible refine gate_dst (N := 26) rfl ?_); (try (refine gate_guard (by rfl) ?_; dsimp only)); refine Kd.R_lit (Kd.int .i64) _ 3 ?hg (N := 26) ?hd (xs := ([1] : List Int)) (inner := [.int .i64 1]) (ok := fun _ => True) (okp := fun _ => True) ?hr ?hp (fun _ hk => hk) trivial (Below.refl _ _) (Nat.le_refl _) (by simp) ?_; (case hd => rfl); (case hg => rfl); (case hr => first | (go_simp; done) | (go_simp; rfl)); (case hp => exact (Reps.one (show Kd.M (Kd.int .i64) _ _ _ 1 [.int .i64 1] from rfl) (Reps.none _ _))); intro vD1 w25 ho26 hb hg_ hnew_; clear hg_ hnew_; (first | rw [← NyB1.out] at ho26 | (simp only [Int.reduceToNat] at ho26; rw [← NyB1.out] at ho26)); have HOA8 := lwR (nwR (nwR (nwR ho26 HO_3) HOA4) HOA6) HB; replace HO_3 := eldR HO_3 (Kd.R_base ho26) hb; replace HOA4 := eldR HOA4 (Kd.R_base ho26) hb; replace HOA6 := eldR HOA6 (Kd.R_base ho26) hb; replace BKA1 := bkb BKA1 hb; replace BKA0 := bkb BKA0 hb; replace HB := bst HB hb; clear hb ho26; obtain ⟨Ao27, co27, eo27⟩ := Kd.R_slice HOA6.out; subst eo27; obtain ⟨Ao28, co28, eo28⟩ := Kd.R_slice HOA8.out; subst eo28) | ((with_reducible refine gate_callee (f := 47) rfl ?_); refine gL_ (some 27) Try.func47 #[.bool a0_0, .slice Ao27 tA7.length co27, .slice Ao28 yB1.length co28] ?_; (with_reducible refine (spec_l02Make.calls kj2 a0_0 _ _ tA7 _ _ yB1 tA2 tB4 tB5 _ ?side1 ?side2 ?side3 ?side4 A17.out).mono ?_); (case side1 => exact crC (Kd.R_reads' HOA6.out).2.2); (case side2 => exact (Kd.R_reads' HOA6.out).2.1); (case side3 => exact crC (Kd.R_reads' HOA8.out).2.2); (case side4 => exact (Kd.R_reads' HOA8.out).2.1); rintro e w29 ⟨vD2, vD3, rfl, ho0, ho1, hb⟩; refine ⟨_, rfl, ?_⟩; have HOC1 := lwR (nwR (nwR (nwR (nwR ho0 HO_3) HOA4) HOA6) HOA8) HB; have HOC2 := lwR (nwR (nwR (nwR (nwR ho1 HO_3) HOA4) HOA6) HOA8) HB; replace HO_3 := tldR HO_3 hb (Kd.R_base ho0) (Kd.R_base ho1); replace HOA4 := tldR HOA4 hb (Kd.R_base ho0) (Kd.R_base ho1); replace HOA6 := tldR HOA6 hb (Kd.R_base ho0) (Kd.R_base ho1); replace HOA8 := tldR HOA8 hb (Kd.R_base ho0) (Kd.R_base ho1); replace BKA1 := bkb BKA1 hb; replace BKA0 := bkb BKA0 hb; replace HB := bst HB hb; (try clear hb); (try clear hb2); (try clear hk); (try clear hi); (try clear ho0); (try clear ho1); obtain ⟨hcz30_0, hcz30_1, hcz30_2, hfz30_0, hfz30_1, hfz30_2⟩ := bc3 BKA0; obtain ⟨Ao31, co31, eo31⟩ := Kd.R_slice HOC1.out; subst eo31; obtain ⟨Ao32, co32, eo32⟩ := Kd.R_slice HOC2.out; subst eo32))
    refine bodyPost_ret (results_cell_row rfl _ _ gbA0 24 #[.bool tA2, .slice Ao31 tB4.length co31, .slice Ao32 tB5.length co32] (0, 0) _ rfl (bp3 BKA0 _ _ _) Try.underlying24 rfl (by kernel_rfl)) rfl ?_
    exact ⟨_, _, er_, (crN HOC1 BKA0 fun _ hk => hk.1.1.1.1.1), (crN HOC2 BKA0 fun _ hk => hk.1.1.1.1.1), blw HB⟩
   ·
    replace c15 := Bool.eq_false_iff.mpr c15
    subst c15
    rw [if_neg (show ¬ (false = true) by decide)] at H
    obtain ⟨yB2, hy842⟩ : ∃ y_ : List Int, y_ = (([1] : List Int)) := ⟨_, rfl⟩
    replace H : ((spec_l02Make.f kj2 a0_0 tA3 yB2).bind fun btA5 => (some (btA5.1, btA5.2.1, btA5.2.2))) = some (r1, r2, r3) := by subst hy842; first | with_reducible exact H | with_reducible exact (Option.bind_some _ _).symm.trans H | exact H
    have NyB2 := Aside0.mk hy842
    clear hy842
    replace H := Option.bind_eq_some_iff.mp H
    obtain ⟨⟨tA5, tB6, tB7⟩, AC3, H⟩ := H
    replace H : (some (tA5, tB6, tB7)) = some (r1, r2, r3) := H
    have A33 := Aside0.mk AC3
    clear AC3
    simp only [Option.some.injEq, Prod.mk.injEq] at H
    obtain ⟨rfl, rfl, rfl⟩ := H
    have hnb34 := NBA1_A0.out
    have hnc34 := NBA0_A1.out
    obtain ⟨hcz35_0, hcz35_1, hcz35_2, hfz35_0, hfz35_1, hfz35_2⟩ := bc3 BKA1
    go_wp2_with (first | ((with_reducible refine gate_dst (N := 26) rfl ?_); (try (refine gate_guard (by rfl) ?_; dsimp only)); refine Kd.R_lit (Kd.int .i64) _ 3 ?hg (N := 26) ?hd (xs := ([1] : List Int)) (inner := [.int .i64 1]) (ok := fun _ => True) (okp := fun _ => True) ?hr ?hp (fun _ hk => hk) trivial (Below.refl _ _) (Nat.le_refl _) (by simp) ?_; (case hd => rfl); (case hg => rfl); (case hr => first | (go_simp; done) | (go_simp; rfl)); (case hp => exact (Reps.one (show Kd.M (Kd.int .i64) _ _ _ 1 [.int .i64 1] from rfl) (Reps.none _ _))); intro vD4 w36 ho37 hb hg_ hnew_; clear hg_ hnew_; (first | rw [← NyB2.out] at ho37 | (simp only [Int.reduceToNat] at ho37; rw [← NyB2.out] at ho37)); have HOA9 := lwR (nwR ho37 HO_3) HB; replace HO_3 := eldR HO_3 (Kd.R_base ho37) hb; replace BKA1 := bkb BKA1 hb; replace BKA0 := bkb BKA0 hb; replace HB := bst HB hb; clear hb ho37; obtain ⟨Ao38, co38, eo38⟩ := Kd.R_slice HO_3.out; subst eo38; obtain ⟨Ao39, co39, eo39⟩ := Kd.R_slice HOA9.out; subst eo39) | ((with_reducible refine gate_callee (f := 47) rfl ?_); refine gL_ (some 27) Try.func47 #[.bool a0_0, .slice Ao38 tA3.length co38, .slice Ao39 yB2.length co39] ?_; (with_reducible refine (spec_l02Make.calls kj2 a0_0 _ _ tA3 _ _ yB2 tA5 tB6 tB7 _ ?side1 ?side2 ?side3 ?side4 A33.out).mono ?_); (case side1 => exact crC (Kd.R_reads' HO_3.out).2.2); (case side2 => exact (Kd.R_reads' HO_3.out).2.1); (case side3 => exact crC (Kd.R_reads' HOA9.out).2.2); (case side4 => exact (Kd.R_reads' HOA9.out).2.1); rintro e w40 ⟨vD5, vD6, rfl, ho0, ho1, hb⟩; refine ⟨_, rfl, ?_⟩; have HOC4 := lwR (nwR (nwR ho0 HO_3) HOA9) HB; have HOC5 := lwR (nwR (nwR ho1 HO_3) HOA9) HB; replace HO_3 := tldR HO_3 hb (Kd.R_base ho0) (Kd.R_base ho1); replace HOA9 := tldR HOA9 hb (Kd.R_base ho0) (Kd.R_base ho1); replace BKA1 := bkb BKA1 hb; replace BKA0 := bkb BKA0 hb; replace HB := bst HB hb; (try clear hb); (try clear hb2); (try clear hk); (try clear hi); (try clear ho0); (try clear ho1); obtain ⟨hcz41_0, hcz41_1, hcz41_2, hfz41_0, hfz41_1, hfz41_2⟩ := bc3 BKA0; obtain ⟨Ao42, co42, eo42⟩ := Kd.R_slice HOC4.out; subst eo42; obtain ⟨Ao43, co43, eo43⟩ := Kd.R_slice HOC5.out; subst eo43))
    refine bodyPost_ret (results_cell_row rfl _ _ gbA0 24 #[.bool tA5, .slice Ao42 tB6.length co42, .slice Ao43 tB7.length co43] (0, 0) _ rfl (bp3 BKA0 _ _ _) Try.underlying24 rfl (by kernel_rfl)) rfl ?_
    exact ⟨_, _, er_, (crN HOC4 BKA0 fun _ hk => hk.1.1.1), (crN HOC5 BKA0 fun _ hk => hk.1.1.1), blw HB⟩

def impl_ofTwo85.f (k : Nat) (a0_0 : Bool) (l0_1 : List Int) (l0_2 : List Int) (a1_0 : Bool) (l1_1 : List Int) (l1_2 : List Int) : Option (Bool × List Int × List Int × Int) := (impl_ratsCode.f k (([(⟨a0_0, l0_1, l0_2⟩ : S24), (⟨a1_0, l1_1, l1_2⟩ : S24)] : List (S24)))).bind fun tA9 => (if tA9 = 0 then ((impl_Rat_plus.f k a0_0 l0_1 l0_2 a1_0 l1_1 l1_2).bind fun btA8 => ((impl_fullRat.f btA8.1 btA8.2.1 btA8.2.2).bind fun btA6 => (some (btA6.1, btA6.2.1, btA6.2.2.1, btA6.2.2.2)))) else (some (false, ([] : List Int), ([] : List Int), tA9)))
set_option maxHeartbeats 8000000 in
set_option maxRecDepth 100000 in
theorem impl_ofTwo85.calls (k : Nat) (a0_0 : Bool) (P0_1_ : Nat → Prop) (A0_1 : Option Addr) (c0_1 : Nat) (l0_1 : List Int) (P0_2_ : Nat → Prop) (A0_2 : Option Addr) (c0_2 : Nat) (l0_2 : List Int) (a1_0 : Bool) (P1_1_ : Nat → Prop) (A1_1 : Option Addr) (c1_1 : Nat) (l1_1 : List Int) (P1_2_ : Nat → Prop) (A1_2 : Option Addr) (c1_2 : Nat) (l1_2 : List Int) (r1 : Bool) (r2 : List Int) (r3 : List Int) (r4 : Int) (w : World) (hs0_1 : Kd.V (Kd.int .i64) 3 w w.heap.size (fun k_ => P0_1_ k_) (.slice A0_1 l0_1.length c0_1) l0_1) (hs0_2 : Kd.V (Kd.int .i64) 3 w w.heap.size (fun k_ => P0_2_ k_) (.slice A0_2 l0_2.length c0_2) l0_2) (hs1_1 : Kd.V (Kd.int .i64) 3 w w.heap.size (fun k_ => P1_1_ k_) (.slice A1_1 l1_1.length c1_1) l1_1) (hs1_2 : Kd.V (Kd.int .i64) 3 w w.heap.size (fun k_ => P1_2_ k_) (.slice A1_2 l1_2.length c1_2) l1_2) (h : impl_ofTwo85.f k a0_0 l0_1 l0_2 a1_0 l1_1 l1_2 = some (r1, r2, r3, r4)) :
  Calls Try.prog 72 #[.agg #[.bool a0_0, .slice A0_1 l0_1.length c0_1, .slice A0_2 l0_2.length c0_2], .agg #[.bool a1_0, .slice A1_1 l1_1.length c1_1, .slice A1_2 l1_2.length c1_2], .func (.func 85) #[] #[]] w fun e w' => ∃ v1_ v2_ : Value, e = .returned (.tuple #[.agg #[.bool r1, v1_, v2_], .int .i64 r4]) ∧ Kd.R (Kd.int .i64) 3 w' w.heap.size (fun k_ => (w.heap.size ≤ k_) ∧ nO k_ v2_) v1_ r2 ∧ Kd.R (Kd.int .i64) 3 w' w.heap.size (fun k_ => (w.heap.size ≤ k_) ∧ nO k_ v1_) v2_ r3 ∧ Below w.heap.size w w' := by
 have hu24 := Try.underlying24
 have HO0_1 := Aside0.mk (show Kd.V (Kd.int .i64) 3 w w.heap.size (fun k_ => ((P0_1_ k_ ∨ P0_2_ k_ ∨ P1_1_ k_ ∨ P1_2_ k_) ∨ w.heap.size ≤ k_)) (.slice A0_1 l0_1.length c0_1) l0_1 from Kd.V_mono hs0_1 (fun k_ hk => .inl (.inl hk)))
 have HO0_2 := Aside0.mk (show Kd.V (Kd.int .i64) 3 w w.heap.size (fun k_ => ((P0_1_ k_ ∨ P0_2_ k_ ∨ P1_1_ k_ ∨ P1_2_ k_) ∨ w.heap.size ≤ k_)) (.slice A0_2 l0_2.length c0_2) l0_2 from Kd.V_mono hs0_2 (fun k_ hk => .inl (.inr (.inl hk))))
 have HO1_1 := Aside0.mk (show Kd.V (Kd.int .i64) 3 w w.heap.size (fun k_ => ((P0_1_ k_ ∨ P0_2_ k_ ∨ P1_1_ k_ ∨ P1_2_ k_) ∨ w.heap.size ≤ k_)) (.slice A1_1 l1_1.length c1_1) l1_1 from Kd.V_mono hs1_1 (fun k_ hk => .inl (.inr (.inr (.inl hk)))))
 have HO1_2 := Aside0.mk (show Kd.V (Kd.int .i64) 3 w w.heap.size (fun k_ => ((P0_1_ k_ ∨ P0_2_ k_ ∨ P1_1_ k_ ∨ P1_2_ k_) ∨ w.heap.size ≤ k_)) (.slice A1_2 l1_2.length c1_2) l1_2 from Kd.V_mono hs1_2 (fun k_ hk => .inl (.inr (.inr (.inr hk)))))
 have HB := Aside0.mk (Below.refl w.heap.size w)
 have H : ((impl_ratsCode.f k (([(⟨a0_0, l0_1, l0_2⟩ : S24), (⟨a1_0, l1_1, l1_2⟩ : S24)] : List (S24)))).bind fun tA9 => (if tA9 = 0 then ((impl_Rat_plus.f k a0_0 l0_1 l0_2 a1_0 l1_1 l1_2).bind fun btA8 => ((impl_fullRat.f btA8.1 btA8.2.1 btA8.2.2).bind fun btA6 => (some (btA6.1, btA6.2.1, btA6.2.2.1, btA6.2.2.2)))) else (some (false, ([] : List Int), ([] : List Int), tA9)))) = some (r1, r2, r3, r4) := h
 clear h
 obtain ⟨yB1, hy964⟩ : ∃ y_ : List (S24), y_ = (([(⟨a0_0, l0_1, l0_2⟩ : S24), (⟨a1_0, l1_1, l1_2⟩ : S24)] : List (S24))) := ⟨_, rfl⟩
 replace H : ((impl_ratsCode.f k yB1).bind fun tA9 => (if tA9 = 0 then ((impl_Rat_plus.f k a0_0 l0_1 l0_2 a1_0 l1_1 l1_2).bind fun btA8 => ((impl_fullRat.f btA8.1 btA8.2.1 btA8.2.2).bind fun btA6 => (some (btA6.1, btA6.2.1, btA6.2.2.1, btA6.2.2.2)))) else (some (false, ([] : List Int), ([] : List Int), tA9)))) = some (r1, r2, r3, r4) := by subst hy964; first | with_reducible exact H | with_reducible exact (Option.bind_some _ _).symm.trans H | exact H
 have NyB1 := Aside0.mk hy964
 clear hy964
 replace H := Option.bind_eq_some_iff.mp H
 obtain ⟨tA9, A30, H⟩ := H
 replace H : (if tA9 = 0 then ((impl_Rat_plus.f k a0_0 l0_1 l0_2 a1_0 l1_1 l1_2).bind fun btA8 => ((impl_fullRat.f btA8.1 btA8.2.1 btA8.2.2).bind fun btA6 => (some (btA6.1, btA6.2.1, btA6.2.2.1, btA6.2.2.2)))) else (some (false, ([] : List Int), ([] : List Int), tA9))) = some (r1, r2, r3, r4) := H
 have A3 := Aside0.mk A30
 clear A30
 by_cases c4 : tA9 = 0
 ·
  rw [if_pos c4] at H
  have c4b0 : (tA9 == 0) = true := beq_iff_eq.mpr c4
  have c4b1 : (tA9 != 0) = false := bne_eq_false_iff_eq.mpr c4
  clear c4
  replace H := Option.bind_eq_some_iff.mp H
  obtain ⟨⟨tA8, tB6, tB7⟩, A50, H⟩ := H
  replace H : ((impl_fullRat.f tA8 tB6 tB7).bind fun btA6 => (some (btA6.1, btA6.2.1, btA6.2.2.1, btA6.2.2.2))) = some (r1, r2, r3, r4) := H
  have A5 := Aside0.mk A50
  clear A50
  replace H := Option.bind_eq_some_iff.mp H
  obtain ⟨⟨tA6, tC3, tC4, tC7⟩, A60, H⟩ := H
  replace H : (some (tA6, tC3, tC4, tC7)) = some (r1, r2, r3, r4) := H
  have A6 := Aside0.mk A60
  clear A60
  simp only [Option.some.injEq, Prod.mk.injEq] at H
  obtain ⟨rfl, rfl, rfl, rfl⟩ := H
  go_enter Try.func72, Try.ntmps72
  go_wp2_with (first | ((with_reducible refine gate_dst (N := 3) rfl ?_); refine bx_ (N := 3) (cs := #[.bool a0_0, .slice A0_1 l0_1.length c0_1, .slice A0_2 l0_2.length c0_2]) (t := 24) ?_; intro gbA0 hg w7 hbox hb; replace HO0_1 := elbV HO0_1 hg hb; replace HO0_2 := elbV HO0_2 hg hb; replace HO1_1 := elbV HO1_1 hg hb; replace HO1_2 := elbV HO1_2 hg hb; have BKA0 := Aside0.mk (hbox); have GWA0 := geh hg HB; have GEA0 := geh hg HB; replace HB := bst HB hb; clear hb hbox hg) | ((with_reducible refine gate_dst (N := 4) rfl ?_); refine bx_ (N := 4) (cs := #[.bool a1_0, .slice A1_1 l1_1.length c1_1, .slice A1_2 l1_2.length c1_2]) (t := 24) ?_; intro gbA1 hg w8 hbox hb; replace HO0_1 := elbV HO0_1 hg hb; replace HO0_2 := elbV HO0_2 hg hb; replace HO1_1 := elbV HO1_1 hg hb; replace HO1_2 := elbV HO1_2 hg hb; have BKA1 := Aside0.mk (hbox); have GWA1 := geh hg HB; have GEA1 := geh hg HB; replace HB := bst HB hb; have NBA0_A1 := nlt hg BKA0; have NBA1_A0 := ngt hg BKA0; replace BKA0 := bkb BKA0 hb; clear hb hbox hg) | ((with_reducible refine gate_dst (N := 6) rfl ?_); refine bx_ (N := 6) (cs := #[.bool false, .slice none 0 0, .slice none 0 0]) (t := 24) ?_; intro gbA2 hg w9 hbox hb; replace HO0_1 := elbV HO0_1 hg hb; replace HO0_2 := elbV HO0_2 hg hb; replace HO1_1 := elbV HO1_1 hg hb; replace HO1_2 := elbV HO1_2 hg hb; have BKA2 := Aside0.mk (hbox); have GWA2 := geh hg HB; have GEA2 := geh hg HB; replace HB := bst HB hb; have NBA0_A2 := nlt hg BKA0; have NBA2_A0 := ngt hg BKA0; replace BKA0 := bkb BKA0 hb; have NBA1_A2 := nlt hg BKA1; have NBA2_A1 := ngt hg BKA1; replace BKA1 := bkb BKA1 hb; clear hb hbox hg; have hnb10 := NBA0_A1.out; have hnc10 := NBA1_A0.out; have hnb11 := NBA0_A2.out; have hnc11 := NBA2_A0.out; obtain ⟨hcz12_0, hcz12_1, hcz12_2, hfz12_0, hfz12_1, hfz12_2⟩ := bc3 BKA0; have hnb13 := NBA1_A2.out; have hnc13 := NBA2_A1.out; obtain ⟨hcz14_0, hcz14_1, hcz14_2, hfz14_0, hfz14_1, hfz14_2⟩ := bc3 BKA1) | ((with_reducible refine gate_dst (N := 11) rfl ?_); refine Kd.N_lit k24 _ 24 ?hg (N' := 11) ?hd (xs := ([(⟨a0_0, l0_1, l0_2⟩ : S24), (⟨a1_0, l1_1, l1_2⟩ : S24)] : List (S24))) (inner := [.bool a0_0, .slice A0_1 l0_1.length c0_1, .slice A0_2 l0_2.length c0_2, .bool a1_0, .slice A1_1 l1_1.length c1_1, .slice A1_2 l1_2.length c1_2]) (ok := (fun k_ => ((P0_1_ k_ ∨ P0_2_ k_ ∨ P1_1_ k_ ∨ P1_2_ k_) ∨ w.heap.size ≤ k_) ∧ k_ ≠ gbA0 ∧ k_ ≠ gbA1 ∧ k_ ≠ gbA2)) (okp := (fun k_ => ((P0_1_ k_ ∨ P0_2_ k_ ∨ P1_1_ k_ ∨ P1_2_ k_) ∨ w.heap.size ≤ k_) ∧ k_ ≠ gbA0 ∧ k_ ≠ gbA1 ∧ k_ ≠ gbA2)) ?hr ?hp (fun _ hk => hk) ((show ∀ k_, w9.heap.size ≤ k_ → (fun k_ => ((P0_1_ k_ ∨ P0_2_ k_ ∨ P1_1_ k_ ∨ P1_2_ k_) ∨ w.heap.size ≤ k_) ∧ k_ ≠ gbA0 ∧ k_ ≠ gbA1 ∧ k_ ≠ gbA2) k_ from fun k_ hk => ⟨(.inr (Nat.le_trans (bsz HB) hk)), Kd.freshB (g := gbA0) (o := .cells #[.bool a0_0, .slice A0_1 l0_1.length c0_1, .slice A0_2 l0_2.length c0_2] 24 (0, 0)) (crb BKA0) k_ hk, Kd.freshB (g := gbA1) (o := .cells #[.bool a1_0, .slice A1_1 l1_1.length c1_1, .slice A1_2 l1_2.length c1_2] 24 (0, 0)) (crb BKA1) k_ hk, Kd.freshB (g := gbA2) (o := .cells #[.bool false, .slice none 0 0, .slice none 0 0] 24 (0, 0)) (crb BKA2) k_ hk⟩) _ (Nat.le_refl _)) (Below.refl _ _) (Nat.le_refl _) (by simp) ?_; (case hd => rfl); (case hg => rfl); (case hr => first | (go_simp; done) | (go_simp; rfl)); (case hp => exact (Reps.c3 (show Kd.FK k24 _ _ (⟨a0_0, l0_1, l0_2⟩ : S24) [.bool a0_0, .slice A0_1 l0_1.length c0_1, .slice A0_2 l0_2.length c0_2] from (k24_mkF _ _ (⟨a0_0, l0_1, l0_2⟩ : S24) (Kd.V_reads' (Kd.V_mono (ok' := (fun k_ => ((P0_1_ k_ ∨ P0_2_ k_ ∨ P1_1_ k_ ∨ P1_2_ k_) ∨ w.heap.size ≤ k_) ∧ k_ ≠ gbA0 ∧ k_ ≠ gbA1 ∧ k_ ≠ gbA2)) (HO0_1.out) (fun k_ hk => ⟨hk.1.1.1, ⟨hk.1.1.2, ⟨hk.1.2, hk.2⟩⟩⟩))).2.1 (Kd.V_F (Kd.V_mono (ok' := (fun k_ => ((P0_1_ k_ ∨ P0_2_ k_ ∨ P1_1_ k_ ∨ P1_2_ k_) ∨ w.heap.size ≤ k_) ∧ k_ ≠ gbA0 ∧ k_ ≠ gbA1 ∧ k_ ≠ gbA2)) (HO0_1.out) (fun k_ hk => ⟨hk.1.1.1, ⟨hk.1.1.2, ⟨hk.1.2, hk.2⟩⟩⟩))) (Kd.V_reads' (Kd.V_mono (ok' := (fun k_ => ((P0_1_ k_ ∨ P0_2_ k_ ∨ P1_1_ k_ ∨ P1_2_ k_) ∨ w.heap.size ≤ k_) ∧ k_ ≠ gbA0 ∧ k_ ≠ gbA1 ∧ k_ ≠ gbA2)) (HO0_2.out) (fun k_ hk => ⟨hk.1.1.1, ⟨hk.1.1.2, ⟨hk.1.2, hk.2⟩⟩⟩))).2.1 (Kd.V_F (Kd.V_mono (ok' := (fun k_ => ((P0_1_ k_ ∨ P0_2_ k_ ∨ P1_1_ k_ ∨ P1_2_ k_) ∨ w.heap.size ≤ k_) ∧ k_ ≠ gbA0 ∧ k_ ≠ gbA1 ∧ k_ ≠ gbA2)) (HO0_2.out) (fun k_ hk => ⟨hk.1.1.1, ⟨hk.1.1.2, ⟨hk.1.2, hk.2⟩⟩⟩))))) (Reps.c3 (show Kd.FK k24 _ _ (⟨a1_0, l1_1, l1_2⟩ : S24) [.bool a1_0, .slice A1_1 l1_1.length c1_1, .slice A1_2 l1_2.length c1_2] from (k24_mkF _ _ (⟨a1_0, l1_1, l1_2⟩ : S24) (Kd.V_reads' (Kd.V_mono (ok' := (fun k_ => ((P0_1_ k_ ∨ P0_2_ k_ ∨ P1_1_ k_ ∨ P1_2_ k_) ∨ w.heap.size ≤ k_) ∧ k_ ≠ gbA0 ∧ k_ ≠ gbA1 ∧ k_ ≠ gbA2)) (HO1_1.out) (fun k_ hk => ⟨hk.1.1.1, ⟨hk.1.1.2, ⟨hk.1.2, hk.2⟩⟩⟩))).2.1 (Kd.V_F (Kd.V_mono (ok' := (fun k_ => ((P0_1_ k_ ∨ P0_2_ k_ ∨ P1_1_ k_ ∨ P1_2_ k_) ∨ w.heap.size ≤ k_) ∧ k_ ≠ gbA0 ∧ k_ ≠ gbA1 ∧ k_ ≠ gbA2)) (HO1_1.out) (fun k_ hk => ⟨hk.1.1.1, ⟨hk.1.1.2, ⟨hk.1.2, hk.2⟩⟩⟩))) (Kd.V_reads' (Kd.V_mono (ok' := (fun k_ => ((P0_1_ k_ ∨ P0_2_ k_ ∨ P1_1_ k_ ∨ P1_2_ k_) ∨ w.heap.size ≤ k_) ∧ k_ ≠ gbA0 ∧ k_ ≠ gbA1 ∧ k_ ≠ gbA2)) (HO1_2.out) (fun k_ hk => ⟨hk.1.1.1, ⟨hk.1.1.2, ⟨hk.1.2, hk.2⟩⟩⟩))).2.1 (Kd.V_F (Kd.V_mono (ok' := (fun k_ => ((P0_1_ k_ ∨ P0_2_ k_ ∨ P1_1_ k_ ∨ P1_2_ k_) ∨ w.heap.size ≤ k_) ∧ k_ ≠ gbA0 ∧ k_ ≠ gbA1 ∧ k_ ≠ gbA2)) (HO1_2.out) (fun k_ hk => ⟨hk.1.1.1, ⟨hk.1.1.2, ⟨hk.1.2, hk.2⟩⟩⟩))))) (Reps.none _ _)))); intro vD0 w15 ho16 hb hg_ hnew_; clear hg_ hnew_; (first | rw [← NyB1.out] at ho16 | (simp only [Int.reduceToNat] at ho16; rw [← NyB1.out] at ho16)); replace HO0_1 := eldV HO0_1 (Kd.N_base ho16) hb; replace HO0_2 := eldV HO0_2 (Kd.N_base ho16) hb; replace HO1_1 := eldV HO1_1 (Kd.N_base ho16) hb; replace HO1_2 := eldV HO1_2 (Kd.N_base ho16) hb; have HOB0 := Aside0.mk (Kd.N_lower ho16 (bsz HB)); replace BKA0 := bkb BKA0 hb; replace BKA1 := bkb BKA1 hb; replace BKA2 := bkb BKA2 hb; replace HB := bst HB hb; clear hb ho16; obtain ⟨Ao17, co17, eo17⟩ := Kd.N_slice HOB0.out; subst eo17) | ((with_reducible refine gate_callee (f := 65) rfl ?_); refine gL_ (some 12) Try.func65 #[.slice Ao17 yB1.length co17] ?_; (with_reducible refine (impl_ratsCode.calls k _ _ yB1 tA9 _ ?side1 ?side2 A3.out).mono ?_); (case side1 => exact crC (Kd.N_reads' HOB0.out).2.2); (case side2 => exact (Kd.N_reads' HOB0.out).2.1); rintro e w18 ⟨rfl, hb⟩; refine ⟨_, rfl, ?_⟩; replace HO0_1 := rblV HO0_1 hb; replace HO0_2 := rblV HO0_2 hb; replace HO1_1 := rblV HO1_1 hb; replace HO1_2 := rblV HO1_2 hb; replace HOB0 := Aside0.mk (Kd.N_below (by (with_reducible repeat (first | apply Kd.N_alloc | apply Kd.N_drewN | apply Kd.N_drew)); exact HOB0.out) hb); replace BKA0 := bkb BKA0 hb; replace BKA1 := bkb BKA1 hb; replace BKA2 := bkb BKA2 hb; replace HB := bst HB hb; (try clear hb); (try clear hb2); (try clear hk); (try clear hi); obtain ⟨hcz19_0, hcz19_1, hcz19_2, hfz19_0, hfz19_1, hfz19_2⟩ := bc3 BKA0; obtain ⟨hcz20_0, hcz20_1, hcz20_2, hfz20_0, hfz20_1, hfz20_2⟩ := bc3 BKA1) | (refine goesD_ (some 20) rfl rfl Try.func85 (by kernel_rfl) rfl #[.agg #[.bool a0_0, .slice A0_1 l0_1.length c0_1, .slice A0_2 l0_2.length c0_2], .agg #[.bool a1_0, .slice A1_1 l1_1.length c1_1, .slice A1_2 l1_2.length c1_2]] rfl rfl (by (try simp only [List.map_toArray, List.map_cons, List.map_nil]); first | done | rfl | (simp only [List.length_drop, List.length_take]; rfl)) ?_; (with_reducible refine (impl_Rat_plus.calls k a0_0 _ _ l0_1 _ _ l0_2 a1_0 _ _ l1_1 _ _ l1_2 tA8 tB6 tB7 _ ?side1 ?side2 ?side3 ?side4 ?side5 ?side6 ?side7 ?side8 A5.out).mono ?_); (case side1 => exact crC (Kd.V_reads' HO0_1.out).2.2); (case side2 => exact (Kd.V_reads' HO0_1.out).2.1); (case side3 => exact crC (Kd.V_reads' HO0_2.out).2.2); (case side4 => exact (Kd.V_reads' HO0_2.out).2.1); (case side5 => exact crC (Kd.V_reads' HO1_1.out).2.2); (case side6 => exact (Kd.V_reads' HO1_1.out).2.1); (case side7 => exact crC (Kd.V_reads' HO1_2.out).2.2); (case side8 => exact (Kd.V_reads' HO1_2.out).2.1); rintro e w21 ⟨vD1, vD2, rfl, ho0, ho1, hb⟩; refine ⟨_, rfl, ?_⟩; replace HO0_1 := tldV HO0_1 hb (Kd.R_base ho0) (Kd.R_base ho1); replace HO0_2 := tldV HO0_2 hb (Kd.R_base ho0) (Kd.R_base ho1); replace HO1_1 := tldV HO1_1 hb (Kd.R_base ho0) (Kd.R_base ho1); replace HO1_2 := tldV HO1_2 hb (Kd.R_base ho0) (Kd.R_base ho1); replace HOB0 := Aside0.mk (Kd.N_mono (Kd.N_told (Kd.N_told (Kd.N_old (by (with_reducible repeat (first | apply Kd.N_alloc | apply Kd.N_drewN | apply Kd.N_drew)); exact HOB0.out) hb) (Kd.R_base ho0)) (Kd.R_base ho1)) (fun _ h_ => h_.1)); have HOB2 := lwR (Kd.R_newM (M := fun k_ => (w.heap.size ≤ k_)) ho0 (bsz HB) (fun k_ h_ => h_)) HB; have HOB3 := lwR (Kd.R_newM (M := fun k_ => (w.heap.size ≤ k_)) ho1 (bsz HB) (fun k_ h_ => h_)) HB; replace BKA0 := bkb BKA0 hb; replace BKA1 := bkb BKA1 hb; replace BKA2 := bkb BKA2 hb; replace HB := bst HB hb; (try clear hb); (try clear hb2); (try clear hk); (try clear hi); (try clear ho0); (try clear ho1); obtain ⟨Ao22, co22, eo22⟩ := Kd.R_slice HOB2.out; subst eo22; obtain ⟨Ao23, co23, eo23⟩ := Kd.R_slice HOB3.out; subst eo23) | ((with_reducible refine gate_callee (f := 77) rfl ?_); refine gL_ (some 21) Try.func77 #[.agg #[.bool tA8, .slice Ao22 tB6.length co22, .slice Ao23 tB7.length co23]] ?_; (with_reducible refine (impl_fullRat.calls tA8 (fun k_ => some k_ = (.slice Ao22 tB6.length co22 : Value).ownBlock) (.slice Ao22 tB6.length co22) tB6 (fun k_ => some k_ = (.slice Ao23 tB7.length co23 : Value).ownBlock) (.slice Ao23 tB7.length co23) tB7 tA6 tC3 tC4 tC7 w _ ?side1 ?side2 ?side3 ?side4 ?side5 A6.out).mono ?_); (case side1 => repeat (first | (with_reducible first | exact HB.out | apply below_alloc | apply pw_below_drewN | apply below_drew1 | refine below_set ?_ GEA0.out | refine below_set ?_ GEA1.out | refine below_set ?_ GEA2.out) | exact HB.out)); (case side2 => exact Kd.R_tight rfl HOB2.out); (case side3 => exact fun k_ e_ => (HOB2.out.1 k_ e_.symm).2); (case side4 => exact Kd.R_tight rfl HOB3.out); (case side5 => exact fun k_ e_ => (HOB3.out.1 k_ e_.symm).2); rintro e w24 ⟨vB8, vB9, rfl, ho0, ho1, hb, hkp⟩; refine ⟨_, rfl, ?_⟩; replace HO0_1 := Aside0.mk (Kd.V_mono (ok' := fun k_ => ((P0_1_ k_ ∨ P0_2_ k_ ∨ P1_1_ k_ ∨ P1_2_ k_) ∨ w.heap.size ≤ k_) ∧ nO k_ (.slice Ao17 yB1.length co17) ∧ k_ ≠ gbA0 ∧ k_ ≠ gbA1 ∧ k_ ≠ gbA2 ∧ nO k_ vB8 ∧ nO k_ vB9) (Kd.V_keptB (HO0_1.out) hkp (fun k_ hk_ hs_ => Or.elim hs_ (fun e_ => (hk_.1.2) e_) (fun e_ => (hk_.2) e_))) (fun k_ hk_ => ⟨hk_.1.1.1.1.1.1.1, hk_.1.1.1.2, hk_.1.1.1.1.1.1.2, hk_.1.1.1.1.1.2, hk_.1.1.1.1.2, fun e_ => Or.elim (ho0.1 k_ e_.symm).1 (fun hs_ => hk_.2.1 hs_) (fun hn_ => Nat.not_le.2 hk_.2.2 hn_), fun e_ => Or.elim (ho1.1 k_ e_.symm).1 (fun hs_ => hk_.2.1 hs_) (fun hn_ => Nat.not_le.2 hk_.2.2 hn_)⟩)); replace HO0_2 := Aside0.mk (Kd.V_mono (ok' := fun k_ => ((P0_1_ k_ ∨ P0_2_ k_ ∨ P1_1_ k_ ∨ P1_2_ k_) ∨ w.heap.size ≤ k_) ∧ nO k_ (.slice Ao17 yB1.length co17) ∧ k_ ≠ gbA0 ∧ k_ ≠ gbA1 ∧ k_ ≠ gbA2 ∧ nO k_ vB8 ∧ nO k_ vB9) (Kd.V_keptB (HO0_2.out) hkp (fun k_ hk_ hs_ => Or.elim hs_ (fun e_ => (hk_.1.2) e_) (fun e_ => (hk_.2) e_))) (fun k_ hk_ => ⟨hk_.1.1.1.1.1.1.1, hk_.1.1.1.2, hk_.1.1.1.1.1.1.2, hk_.1.1.1.1.1.2, hk_.1.1.1.1.2, fun e_ => Or.elim (ho0.1 k_ e_.symm).1 (fun hs_ => hk_.2.1 hs_) (fun hn_ => Nat.not_le.2 hk_.2.2 hn_), fun e_ => Or.elim (ho1.1 k_ e_.symm).1 (fun hs_ => hk_.2.1 hs_) (fun hn_ => Nat.not_le.2 hk_.2.2 hn_)⟩)); replace HO1_1 := Aside0.mk (Kd.V_mono (ok' := fun k_ => ((P0_1_ k_ ∨ P0_2_ k_ ∨ P1_1_ k_ ∨ P1_2_ k_) ∨ w.heap.size ≤ k_) ∧ nO k_ (.slice Ao17 yB1.length co17) ∧ k_ ≠ gbA0 ∧ k_ ≠ gbA1 ∧ k_ ≠ gbA2 ∧ nO k_ vB8 ∧ nO k_ vB9) (Kd.V_keptB (HO1_1.out) hkp (fun k_ hk_ hs_ => Or.elim hs_ (fun e_ => (hk_.1.2) e_) (fun e_ => (hk_.2) e_))) (fun k_ hk_ => ⟨hk_.1.1.1.1.1.1.1, hk_.1.1.1.2, hk_.1.1.1.1.1.1.2, hk_.1.1.1.1.1.2, hk_.1.1.1.1.2, fun e_ => Or.elim (ho0.1 k_ e_.symm).1 (fun hs_ => hk_.2.1 hs_) (fun hn_ => Nat.not_le.2 hk_.2.2 hn_), fun e_ => Or.elim (ho1.1 k_ e_.symm).1 (fun hs_ => hk_.2.1 hs_) (fun hn_ => Nat.not_le.2 hk_.2.2 hn_)⟩)); replace HO1_2 := Aside0.mk (Kd.V_mono (ok' := fun k_ => ((P0_1_ k_ ∨ P0_2_ k_ ∨ P1_1_ k_ ∨ P1_2_ k_) ∨ w.heap.size ≤ k_) ∧ nO k_ (.slice Ao17 yB1.length co17) ∧ k_ ≠ gbA0 ∧ k_ ≠ gbA1 ∧ k_ ≠ gbA2 ∧ nO k_ vB8 ∧ nO k_ vB9) (Kd.V_keptB (HO1_2.out) hkp (fun k_ hk_ hs_ => Or.elim hs_ (fun e_ => (hk_.1.2) e_) (fun e_ => (hk_.2) e_))) (fun k_ hk_ => ⟨hk_.1.1.1.1.1.1.1, hk_.1.1.1.2, hk_.1.1.1.1.1.1.2, hk_.1.1.1.1.1.2, hk_.1.1.1.1.2, fun e_ => Or.elim (ho0.1 k_ e_.symm).1 (fun hs_ => hk_.2.1 hs_) (fun hn_ => Nat.not_le.2 hk_.2.2 hn_), fun e_ => Or.elim (ho1.1 k_ e_.symm).1 (fun hs_ => hk_.2.1 hs_) (fun hn_ => Nat.not_le.2 hk_.2.2 hn_)⟩)); replace BKA0 := Aside0.mk (blk_kept (crb BKA0) hkp (fun hs_ => Or.elim hs_ (fun e_ => (fun e_ => (Kd.R_ne HOB2.out BKA0.out (by decide)) e_) e_) (fun e_ => (fun e_ => (Kd.R_ne HOB3.out BKA0.out (by decide)) e_) e_))); replace BKA1 := Aside0.mk (blk_kept (crb BKA1) hkp (fun hs_ => Or.elim hs_ (fun e_ => (fun e_ => (Kd.R_ne HOB2.out BKA1.out (by decide)) e_) e_) (fun e_ => (fun e_ => (Kd.R_ne HOB3.out BKA1.out (by decide)) e_) e_))); replace BKA2 := Aside0.mk (blk_kept (crb BKA2) hkp (fun hs_ => Or.elim hs_ (fun e_ => (fun e_ => (Kd.R_ne HOB2.out BKA2.out (by decide)) e_) e_) (fun e_ => (fun e_ => (Kd.R_ne HOB3.out BKA2.out (by decide)) e_) e_))); replace HOB0 := Aside0.mk (Kd.N_mono (ok' := fun k_ => ((P0_1_ k_ ∨ P0_2_ k_ ∨ P1_1_ k_ ∨ P1_2_ k_) ∨ w.heap.size ≤ k_) ∧ k_ ≠ gbA0 ∧ k_ ≠ gbA1 ∧ k_ ≠ gbA2 ∧ nO k_ vB8 ∧ nO k_ vB9) (Kd.N_keptB (HOB0.out) hkp (fun k_ hk_ hs_ => Or.elim hs_ (fun e_ => (hk_.1.2) e_) (fun e_ => (hk_.2) e_))) (fun k_ hk_ => ⟨hk_.1.1.1.1, hk_.1.1.1.2.1, hk_.1.1.1.2.2.1, hk_.1.1.1.2.2.2, fun e_ => Or.elim (ho0.1 k_ e_.symm).1 (fun hs_ => hk_.2.1 hs_) (fun hn_ => Nat.not_le.2 hk_.2.2 hn_), fun e_ => Or.elim (ho1.1 k_ e_.symm).1 (fun hs_ => hk_.2.1 hs_) (fun hn_ => Nat.not_le.2 hk_.2.2 hn_)⟩)); have HOC8 := Aside0.mk (Kd.R_mono (ok' := fun k_ => (w.heap.size ≤ k_) ∧ nO k_ vB9) ho0 (fun k_ hk_ => ⟨Or.elim hk_.1 (fun hs_ => Or.elim hs_ (fun hs_ => (HOB2.out.1 k_ (hs_).symm).1) (fun hs_ => (HOB3.out.1 k_ (hs_).symm).1)) (fun hn_ => (Nat.le_trans (bsz HB) hn_)), hk_.2⟩)); have HOC9 := Aside0.mk (Kd.R_mono (ok' := fun k_ => (w.heap.size ≤ k_) ∧ nO k_ vB8) ho1 (fun k_ hk_ => ⟨Or.elim hk_.1 (fun hs_ => Or.elim hs_ (fun hs_ => (HOB2.out.1 k_ (hs_).symm).1) (fun hs_ => (HOB3.out.1 k_ (hs_).symm).1)) (fun hn_ => (Nat.le_trans (bsz HB) hn_)), hk_.2⟩)); replace HB := Aside0.mk (hb); clear HOB2 HOB3; (try clear hb); (try clear hkp); (try clear ho0); (try clear ho1); obtain ⟨hcz25_0, hcz25_1, hcz25_2, hfz25_0, hfz25_1, hfz25_2⟩ := bc3 BKA2; obtain ⟨Ao26, co26, eo26⟩ := Kd.R_slice HOC8.out; subst eo26; obtain ⟨Ao27, co27, eo27⟩ := Kd.R_slice HOC9.out; subst eo27))
  refine bodyPost_ret (results_ct rfl _ _ gbA2 24 #[.bool tA6, .slice Ao26 tC3.length co26, .slice Ao27 tC4.length co27] (0, 0) _ rfl (bp3 BKA2 _ _ _) Try.underlying24 rfl (by kernel_rfl)) rfl ?_
  exact ⟨_, _, er_, (crN HOC8 BKA2 fun _ hk => ⟨hk.1.1, hk.1.2⟩), (crN HOC9 BKA2 fun _ hk => ⟨hk.1.1, hk.1.2⟩), blw HB⟩
 ·
  rw [if_neg c4] at H
  have c4b0 : (tA9 == 0) = false := beq_eq_false_iff_ne.mpr c4
  have c4b1 : (tA9 != 0) = true := bne_iff_ne.mpr c4
  simp only [Option.some.injEq, Prod.mk.injEq] at H
  obtain ⟨rfl, rfl, rfl, rfl⟩ := H
  go_enter Try.func72, Try.ntmps72
  go_wp2_with (first | ((with_reducible refine gate_dst (N := 3) rfl ?_); refine bx_ (N := 3) (cs := #[.bool a0_0, .slice A0_1 l0_1.length c0_1, .slice A0_2 l0_2.length c0_2]) (t := 24) ?_; intro gbA0 hg w28 hbox hb; replace HO0_1 := elbV HO0_1 hg hb; replace HO0_2 := elbV HO0_2 hg hb; replace HO1_1 := elbV HO1_1 hg hb; replace HO1_2 := elbV HO1_2 hg hb; have BKA0 := Aside0.mk (hbox); have GWA0 := geh hg HB; have GEA0 := geh hg HB; replace HB := bst HB hb; clear hb hbox hg) | ((with_reducible refine gate_dst (N := 4) rfl ?_); refine bx_ (N := 4) (cs := #[.bool a1_0, .slice A1_1 l1_1.length c1_1, .slice A1_2 l1_2.length c1_2]) (t := 24) ?_; intro gbA1 hg w29 hbox hb; replace HO0_1 := elbV HO0_1 hg hb; replace HO0_2 := elbV HO0_2 hg hb; replace HO1_1 := elbV HO1_1 hg hb; replace HO1_2 := elbV HO1_2 hg hb; have BKA1 := Aside0.mk (hbox); have GWA1 := geh hg HB; have GEA1 := geh hg HB; replace HB := bst HB hb; have NBA0_A1 := nlt hg BKA0; have NBA1_A0 := ngt hg BKA0; replace BKA0 := bkb BKA0 hb; clear hb hbox hg) | ((with_reducible refine gate_dst (N := 6) rfl ?_); refine bx_ (N := 6) (cs := #[.bool false, .slice none 0 0, .slice none 0 0]) (t := 24) ?_; intro gbA2 hg w30 hbox hb; replace HO0_1 := elbV HO0_1 hg hb; replace HO0_2 := elbV HO0_2 hg hb; replace HO1_1 := elbV HO1_1 hg hb; replace HO1_2 := elbV HO1_2 hg hb; have BKA2 := Aside0.mk (hbox); have GWA2 := geh hg HB; have GEA2 := geh hg HB; replace HB := bst HB hb; have NBA0_A2 := nlt hg BKA0; have NBA2_A0 := ngt hg BKA0; replace BKA0 := bkb BKA0 hb; have NBA1_A2 := nlt hg BKA1; have NBA2_A1 := ngt hg BKA1; replace BKA1 := bkb BKA1 hb; clear hb hbox hg; have hnb31 := NBA0_A1.out; have hnc31 := NBA1_A0.out; have hnb32 := NBA0_A2.out; have hnc32 := NBA2_A0.out; obtain ⟨hcz33_0, hcz33_1, hcz33_2, hfz33_0, hfz33_1, hfz33_2⟩ := bc3 BKA0; have hnb34 := NBA1_A2.out; have hnc34 := NBA2_A1.out; obtain ⟨hcz35_0, hcz35_1, hcz35_2, hfz35_0, hfz35_1, hfz35_2⟩ := bc3 BKA1) | ((with_reducible refine gate_dst (N := 11) rfl ?_); refine Kd.N_lit k24 _ 24 ?hg (N' := 11) ?hd (xs := ([(⟨a0_0, l0_1, l0_2⟩ : S24), (⟨a1_0, l1_1, l1_2⟩ : S24)] : List (S24))) (inner := [.bool a0_0, .slice A0_1 l0_1.length c0_1, .slice A0_2 l0_2.length c0_2, .bool a1_0, .slice A1_1 l1_1.length c1_1, .slice A1_2 l1_2.length c1_2]) (ok := (fun k_ => ((P0_1_ k_ ∨ P0_2_ k_ ∨ P1_1_ k_ ∨ P1_2_ k_) ∨ w.heap.size ≤ k_) ∧ k_ ≠ gbA0 ∧ k_ ≠ gbA1 ∧ k_ ≠ gbA2)) (okp := (fun k_ => ((P0_1_ k_ ∨ P0_2_ k_ ∨ P1_1_ k_ ∨ P1_2_ k_) ∨ w.heap.size ≤ k_) ∧ k_ ≠ gbA0 ∧ k_ ≠ gbA1 ∧ k_ ≠ gbA2)) ?hr ?hp (fun _ hk => hk) ((show ∀ k_, w30.heap.size ≤ k_ → (fun k_ => ((P0_1_ k_ ∨ P0_2_ k_ ∨ P1_1_ k_ ∨ P1_2_ k_) ∨ w.heap.size ≤ k_) ∧ k_ ≠ gbA0 ∧ k_ ≠ gbA1 ∧ k_ ≠ gbA2) k_ from fun k_ hk => ⟨(.inr (Nat.le_trans (bsz HB) hk)), Kd.freshB (g := gbA0) (o := .cells #[.bool a0_0, .slice A0_1 l0_1.length c0_1, .slice A0_2 l0_2.length c0_2] 24 (0, 0)) (crb BKA0) k_ hk, Kd.freshB (g := gbA1) (o := .cells #[.bool a1_0, .slice A1_1 l1_1.length c1_1, .slice A1_2 l1_2.length c1_2] 24 (0, 0)) (crb BKA1) k_ hk, Kd.freshB (g := gbA2) (o := .cells #[.bool false, .slice none 0 0, .slice none 0 0] 24 (0, 0)) (crb BKA2) k_ hk⟩) _ (Nat.le_refl _)) (Below.refl _ _) (Nat.le_refl _) (by simp) ?_; (case hd => rfl); (case hg => rfl); (case hr => first | (go_simp; done) | (go_simp; rfl)); (case hp => exact (Reps.c3 (show Kd.FK k24 _ _ (⟨a0_0, l0_1, l0_2⟩ : S24) [.bool a0_0, .slice A0_1 l0_1.length c0_1, .slice A0_2 l0_2.length c0_2] from (k24_mkF _ _ (⟨a0_0, l0_1, l0_2⟩ : S24) (Kd.V_reads' (Kd.V_mono (ok' := (fun k_ => ((P0_1_ k_ ∨ P0_2_ k_ ∨ P1_1_ k_ ∨ P1_2_ k_) ∨ w.heap.size ≤ k_) ∧ k_ ≠ gbA0 ∧ k_ ≠ gbA1 ∧ k_ ≠ gbA2)) (HO0_1.out) (fun k_ hk => ⟨hk.1.1.1, ⟨hk.1.1.2, ⟨hk.1.2, hk.2⟩⟩⟩))).2.1 (Kd.V_F (Kd.V_mono (ok' := (fun k_ => ((P0_1_ k_ ∨ P0_2_ k_ ∨ P1_1_ k_ ∨ P1_2_ k_) ∨ w.heap.size ≤ k_) ∧ k_ ≠ gbA0 ∧ k_ ≠ gbA1 ∧ k_ ≠ gbA2)) (HO0_1.out) (fun k_ hk => ⟨hk.1.1.1, ⟨hk.1.1.2, ⟨hk.1.2, hk.2⟩⟩⟩))) (Kd.V_reads' (Kd.V_mono (ok' := (fun k_ => ((P0_1_ k_ ∨ P0_2_ k_ ∨ P1_1_ k_ ∨ P1_2_ k_) ∨ w.heap.size ≤ k_) ∧ k_ ≠ gbA0 ∧ k_ ≠ gbA1 ∧ k_ ≠ gbA2)) (HO0_2.out) (fun k_ hk => ⟨hk.1.1.1, ⟨hk.1.1.2, ⟨hk.1.2, hk.2⟩⟩⟩))).2.1 (Kd.V_F (Kd.V_mono (ok' := (fun k_ => ((P0_1_ k_ ∨ P0_2_ k_ ∨ P1_1_ k_ ∨ P1_2_ k_) ∨ w.heap.size ≤ k_) ∧ k_ ≠ gbA0 ∧ k_ ≠ gbA1 ∧ k_ ≠ gbA2)) (HO0_2.out) (fun k_ hk => ⟨hk.1.1.1, ⟨hk.1.1.2, ⟨hk.1.2, hk.2⟩⟩⟩))))) (Reps.c3 (show Kd.FK k24 _ _ (⟨a1_0, l1_1, l1_2⟩ : S24) [.bool a1_0, .slice A1_1 l1_1.length c1_1, .slice A1_2 l1_2.length c1_2] from (k24_mkF _ _ (⟨a1_0, l1_1, l1_2⟩ : S24) (Kd.V_reads' (Kd.V_mono (ok' := (fun k_ => ((P0_1_ k_ ∨ P0_2_ k_ ∨ P1_1_ k_ ∨ P1_2_ k_) ∨ w.heap.size ≤ k_) ∧ k_ ≠ gbA0 ∧ k_ ≠ gbA1 ∧ k_ ≠ gbA2)) (HO1_1.out) (fun k_ hk => ⟨hk.1.1.1, ⟨hk.1.1.2, ⟨hk.1.2, hk.2⟩⟩⟩))).2.1 (Kd.V_F (Kd.V_mono (ok' := (fun k_ => ((P0_1_ k_ ∨ P0_2_ k_ ∨ P1_1_ k_ ∨ P1_2_ k_) ∨ w.heap.size ≤ k_) ∧ k_ ≠ gbA0 ∧ k_ ≠ gbA1 ∧ k_ ≠ gbA2)) (HO1_1.out) (fun k_ hk => ⟨hk.1.1.1, ⟨hk.1.1.2, ⟨hk.1.2, hk.2⟩⟩⟩))) (Kd.V_reads' (Kd.V_mono (ok' := (fun k_ => ((P0_1_ k_ ∨ P0_2_ k_ ∨ P1_1_ k_ ∨ P1_2_ k_) ∨ w.heap.size ≤ k_) ∧ k_ ≠ gbA0 ∧ k_ ≠ gbA1 ∧ k_ ≠ gbA2)) (HO1_2.out) (fun k_ hk => ⟨hk.1.1.1, ⟨hk.1.1.2, ⟨hk.1.2, hk.2⟩⟩⟩))).2.1 (Kd.V_F (Kd.V_mono (ok' := (fun k_ => ((P0_1_ k_ ∨ P0_2_ k_ ∨ P1_1_ k_ ∨ P1_2_ k_) ∨ w.heap.size ≤ k_) ∧ k_ ≠ gbA0 ∧ k_ ≠ gbA1 ∧ k_ ≠ gbA2)) (HO1_2.out) (fun k_ hk => ⟨hk.1.1.1, ⟨hk.1.1.2, ⟨hk.1.2, hk.2⟩⟩⟩))))) (Reps.none _ _)))); intro vD0 w36 ho37 hb hg_ hnew_; clear hg_ hnew_; (first | rw [← NyB1.out] at ho37 | (simp only [Int.reduceToNat] at ho37; rw [← NyB1.out] at ho37)); replace HO0_1 := eldV HO0_1 (Kd.N_base ho37) hb; replace HO0_2 := eldV HO0_2 (Kd.N_base ho37) hb; replace HO1_1 := eldV HO1_1 (Kd.N_base ho37) hb; replace HO1_2 := eldV HO1_2 (Kd.N_base ho37) hb; have HOB0 := Aside0.mk (Kd.N_lower ho37 (bsz HB)); replace BKA0 := bkb BKA0 hb; replace BKA1 := bkb BKA1 hb; replace BKA2 := bkb BKA2 hb; replace HB := bst HB hb; clear hb ho37; obtain ⟨Ao38, co38, eo38⟩ := Kd.N_slice HOB0.out; subst eo38) | ((with_reducible refine gate_callee (f := 65) rfl ?_); refine gL_ (some 12) Try.func65 #[.slice Ao38 yB1.length co38] ?_; (with_reducible refine (impl_ratsCode.calls k _ _ yB1 tA9 _ ?side1 ?side2 A3.out).mono ?_); (case side1 => exact crC (Kd.N_reads' HOB0.out).2.2); (case side2 => exact (Kd.N_reads' HOB0.out).2.1); rintro e w39 ⟨rfl, hb⟩; refine ⟨_, rfl, ?_⟩; replace HO0_1 := rblV HO0_1 hb; replace HO0_2 := rblV HO0_2 hb; replace HO1_1 := rblV HO1_1 hb; replace HO1_2 := rblV HO1_2 hb; replace HOB0 := Aside0.mk (Kd.N_below (by (with_reducible repeat (first | apply Kd.N_alloc | apply Kd.N_drewN | apply Kd.N_drew)); exact HOB0.out) hb); replace BKA0 := bkb BKA0 hb; replace BKA1 := bkb BKA1 hb; replace BKA2 := bkb BKA2 hb; replace HB := bst HB hb; (try clear hb); (try clear hb2); (try clear hk); (try clear hi); obtain ⟨hcz40_0, hcz40_1, hcz40_2, hfz40_0, hfz40_1, hfz40_2⟩ := bc3 BKA2))
  refine bodyPost_ret (results_ct rfl _ _ gbA2 24 #[.bool false, .slice none 0 0, .slice none 0 0] (0, 0) _ rfl (bp3 BKA2 _ _ _) Try.underlying24 rfl (by kernel_rfl)) rfl ?_
  exact ⟨_, _, er_, by first | exact Kd.R_nil _ _ _ _ _ | exact Kd.N_nil _ _ _ _ _ | exact Kd.V_nil _ _ _ _ _ | exact Kd.Q_nil _ _ _ _ _ | exact Kd.S_nil _ _ _ _ _, by first | exact Kd.R_nil _ _ _ _ _ | exact Kd.N_nil _ _ _ _ _ | exact Kd.V_nil _ _ _ _ _ | exact Kd.Q_nil _ _ _ _ _ | exact Kd.S_nil _ _ _ _ _, blw HB⟩
def impl_AddRat.f (k : Nat) (a0_0 : Bool) (l0_1 : List Int) (l0_2 : List Int) (a1_0 : Bool) (l1_1 : List Int) (l1_2 : List Int) : Option (Bool × List Int × List Int × Int) := (impl_ofTwo85.f k a0_0 l0_1 l0_2 a1_0 l1_1 l1_2).bind fun btA7 => (some (btA7.1, btA7.2.1, btA7.2.2.1, btA7.2.2.2))
set_option maxHeartbeats 8000000 in
set_option maxRecDepth 100000 in
theorem impl_AddRat.calls (k : Nat) (a0_0 : Bool) (A0_1 : Option Addr) (c0_1 : Nat) (l0_1 : List Int) (A0_2 : Option Addr) (c0_2 : Nat) (l0_2 : List Int) (a1_0 : Bool) (A1_1 : Option Addr) (c1_1 : Nat) (l1_1 : List Int) (A1_2 : Option Addr) (c1_2 : Nat) (l1_2 : List Int) (r1 : Bool) (r2 : List Int) (r3 : List Int) (r4 : Int) (w : World) (hr0_1 : Kd.C (Kd.int .i64) w A0_1 l0_1.length l0_1) (hc0_1 : l0_1.length ≤ c0_1) (hr0_2 : Kd.C (Kd.int .i64) w A0_2 l0_2.length l0_2) (hc0_2 : l0_2.length ≤ c0_2) (hr1_1 : Kd.C (Kd.int .i64) w A1_1 l1_1.length l1_1) (hc1_1 : l1_1.length ≤ c1_1) (hr1_2 : Kd.C (Kd.int .i64) w A1_2 l1_2.length l1_2) (hc1_2 : l1_2.length ≤ c1_2) (h : impl_AddRat.f k a0_0 l0_1 l0_2 a1_0 l1_1 l1_2 = some (r1, r2, r3, r4)) :
  Calls Try.prog 37 #[.agg #[.bool a0_0, .slice A0_1 l0_1.length c0_1, .slice A0_2 l0_2.length c0_2], .agg #[.bool a1_0, .slice A1_1 l1_1.length c1_1, .slice A1_2 l1_2.length c1_2]] w fun e w' => ∃ v1_ v2_ : Value, e = .returned (.tuple #[.agg #[.bool r1, v1_, v2_], .int .i64 r4]) ∧ Kd.R (Kd.int .i64) 3 w' w.heap.size (fun k_ => nO k_ v2_) v1_ r2 ∧ Kd.R (Kd.int .i64) 3 w' w.heap.size (fun k_ => nO k_ v1_) v2_ r3 ∧ Below w.heap.size w w' := by
 have hu24 := Try.underlying24
 have HR0_1 := Aside0.mk hr0_1
 have HC0_1 := Aside0.mk hc0_1
 clear hr0_1 hc0_1
 have HR0_2 := Aside0.mk hr0_2
 have HC0_2 := Aside0.mk hc0_2
 clear hr0_2 hc0_2
 have HR1_1 := Aside0.mk hr1_1
 have HC1_1 := Aside0.mk hc1_1
 clear hr1_1 hc1_1
 have HR1_2 := Aside0.mk hr1_2
 have HC1_2 := Aside0.mk hc1_2
 clear hr1_2 hc1_2
 have HB := Aside0.mk (Below.refl w.heap.size w)
 have H : ((impl_ofTwo85.f k a0_0 l0_1 l0_2 a1_0 l1_1 l1_2).bind fun btA7 => (some (btA7.1, btA7.2.1, btA7.2.2.1, btA7.2.2.2))) = some (r1, r2, r3, r4) := h
 clear h
 replace H := Option.bind_eq_some_iff.mp H
 obtain ⟨⟨tA7, tB4, tB5, tC0⟩, A30, H⟩ := H
 replace H : (some (tA7, tB4, tB5, tC0)) = some (r1, r2, r3, r4) := H
 have A3 := Aside0.mk A30
 clear A30
 simp only [Option.some.injEq, Prod.mk.injEq] at H
 obtain ⟨rfl, rfl, rfl, rfl⟩ := H
 go_enter Try.func37, Try.ntmps37
 go_wp2_with (first | ((with_reducible refine gate_dst (N := 2) rfl ?_); refine bx_ (N := 2) (cs := #[.bool a0_0, .slice A0_1 l0_1.length c0_1, .slice A0_2 l0_2.length c0_2]) (t := 24) ?_; intro gbA3 hg w4 hbox hb; have BKA3 := Aside0.mk (hbox); have GWA3 := geh hg HB; have GEA3 := geh hg HB; replace HB := bst HB hb; clear hb hbox hg) | ((with_reducible refine gate_dst (N := 3) rfl ?_); refine bx_ (N := 3) (cs := #[.bool a1_0, .slice A1_1 l1_1.length c1_1, .slice A1_2 l1_2.length c1_2]) (t := 24) ?_; intro gbA4 hg w5 hbox hb; have BKA4 := Aside0.mk (hbox); have GWA4 := geh hg HB; have GEA4 := geh hg HB; replace HB := bst HB hb; have NBA3_A4 := nlt hg BKA3; have NBA4_A3 := ngt hg BKA3; replace BKA3 := bkb BKA3 hb; clear hb hbox hg) | ((with_reducible refine gate_dst (N := 4) rfl ?_); refine bx_ (N := 4) (cs := #[.bool false, .slice none 0 0, .slice none 0 0]) (t := 24) ?_; intro gbA5 hg w6 hbox hb; have BKA5 := Aside0.mk (hbox); have GWA5 := geh hg HB; have GEA5 := geh hg HB; replace HB := bst HB hb; have NBA3_A5 := nlt hg BKA3; have NBA5_A3 := ngt hg BKA3; replace BKA3 := bkb BKA3 hb; have NBA4_A5 := nlt hg BKA4; have NBA5_A4 := ngt hg BKA4; replace BKA4 := bkb BKA4 hb; clear hb hbox hg; have hnb7 := NBA3_A4.out; have hnc7 := NBA4_A3.out; have hnb8 := NBA3_A5.out; have hnc8 := NBA5_A3.out; obtain ⟨hcz9_0, hcz9_1, hcz9_2, hfz9_0, hfz9_1, hfz9_2⟩ := bc3 BKA3; have hnb10 := NBA4_A5.out; have hnc10 := NBA5_A4.out; obtain ⟨hcz11_0, hcz11_1, hcz11_2, hfz11_0, hfz11_1, hfz11_2⟩ := bc3 BKA4) | ((with_reducible refine gate_callee (f := 72) rfl ?_); refine gL_ (some 8) Try.func72 #[.agg #[.bool a0_0, .slice A0_1 l0_1.length c0_1, .slice A0_2 l0_2.length c0_2], .agg #[.bool a1_0, .slice A1_1 l1_1.length c1_1, .slice A1_2 l1_2.length c1_2], .func (.func 85) #[] #[]] ?_; (with_reducible refine (impl_ofTwo85.calls k a0_0 (fun k_ => k_ < w.heap.size) _ _ l0_1 (fun k_ => k_ < w.heap.size) _ _ l0_2 a1_0 (fun k_ => k_ < w.heap.size) _ _ l1_1 (fun k_ => k_ < w.heap.size) _ _ l1_2 tA7 tB4 tB5 tC0 _ ?side1 ?side2 ?side3 ?side4 A3.out).mono ?_); (case side1 => exact Kd.V_mk HC0_1.out (Kd.F_below (Kd.C_F (Kd.heap_int .i64) HR0_1.out) (blw HB))); (case side2 => exact Kd.V_mk HC0_2.out (Kd.F_below (Kd.C_F (Kd.heap_int .i64) HR0_2.out) (blw HB))); (case side3 => exact Kd.V_mk HC1_1.out (Kd.F_below (Kd.C_F (Kd.heap_int .i64) HR1_1.out) (blw HB))); (case side4 => exact Kd.V_mk HC1_2.out (Kd.F_below (Kd.C_F (Kd.heap_int .i64) HR1_2.out) (blw HB))); rintro e w12 ⟨vC5, vC6, rfl, ho0, ho1, hb⟩; refine ⟨_, rfl, ?_⟩; have HOC1 := lwR (Kd.R_mono (ok' := fun k_ => nO k_ vC6) ho0 (fun _ hk_ => hk_.2)) HB; have HOC2 := lwR (Kd.R_mono (ok' := fun k_ => nO k_ vC5) ho1 (fun _ hk_ => hk_.2)) HB; replace BKA3 := bkb BKA3 hb; replace BKA4 := bkb BKA4 hb; replace BKA5 := bkb BKA5 hb; replace HB := bst HB hb; (try clear hb); (try clear hb2); (try clear hk); (try clear hi); (try clear ho0); (try clear ho1); obtain ⟨hcz13_0, hcz13_1, hcz13_2, hfz13_0, hfz13_1, hfz13_2⟩ := bc3 BKA5; obtain ⟨Ao14, co14, eo14⟩ := Kd.R_slice HOC1.out; subst eo14; obtain ⟨Ao15, co15, eo15⟩ := Kd.R_slice HOC2.out; subst eo15))
 refine bodyPost_ret (results_ct rfl _ _ gbA5 24 #[.bool tA7, .slice Ao14 tB4.length co14, .slice Ao15 tB5.length co15] (0, 0) _ rfl (bp3 BKA5 _ _ _) Try.underlying24 rfl (by kernel_rfl)) rfl ?_
 exact ⟨_, _, er_, (crN HOC1 BKA5 fun _ hk => hk.1), (crN HOC2 BKA5 fun _ hk => hk.1), blw HB⟩

def impl_CmpRat.f (k : Nat) (a0_0 : Bool) (l0_1 : List Int) (l0_2 : List Int) (a1_0 : Bool) (l1_1 : List Int) (l1_2 : List Int) : Option (Int × Int) := (impl_ratsCode.f k (([(⟨a0_0, l0_1, l0_2⟩ : S24), (⟨a1_0, l1_1, l1_2⟩ : S24)] : List (S24)))).bind fun tA2 => (if tA2 = 0 then ((impl_Rat_cmp.f k a0_0 l0_1 l0_2 a1_0 l1_1 l1_2).bind fun tA3 => (some (mn (mx tA3 (-1)) 1, 0))) else (some (0, tA2)))
set_option maxHeartbeats 8000000 in
set_option maxRecDepth 100000 in
theorem impl_CmpRat.calls (k : Nat) (a0_0 : Bool) (P0_1_ : Nat → Prop) (A0_1 : Option Addr) (c0_1 : Nat) (l0_1 : List Int) (P0_2_ : Nat → Prop) (A0_2 : Option Addr) (c0_2 : Nat) (l0_2 : List Int) (a1_0 : Bool) (P1_1_ : Nat → Prop) (A1_1 : Option Addr) (c1_1 : Nat) (l1_1 : List Int) (P1_2_ : Nat → Prop) (A1_2 : Option Addr) (c1_2 : Nat) (l1_2 : List Int) (r1 : Int) (r2 : Int) (w : World) (hs0_1 : Kd.V (Kd.int .i64) 3 w w.heap.size (fun k_ => P0_1_ k_) (.slice A0_1 l0_1.length c0_1) l0_1) (hs0_2 : Kd.V (Kd.int .i64) 3 w w.heap.size (fun k_ => P0_2_ k_) (.slice A0_2 l0_2.length c0_2) l0_2) (hs1_1 : Kd.V (Kd.int .i64) 3 w w.heap.size (fun k_ => P1_1_ k_) (.slice A1_1 l1_1.length c1_1) l1_1) (hs1_2 : Kd.V (Kd.int .i64) 3 w w.heap.size (fun k_ => P1_2_ k_) (.slice A1_2 l1_2.length c1_2) l1_2) (h : impl_CmpRat.f k a0_0 l0_1 l0_2 a1_0 l1_1 l1_2 = some (r1, r2)) :
  Calls Try.prog 27 #[.agg #[.bool a0_0, .slice A0_1 l0_1.length c0_1, .slice A0_2 l0_2.length c0_2], .agg #[.bool a1_0, .slice A1_1 l1_1.length c1_1, .slice A1_2 l1_2.length c1_2]] w fun e w' => e = .returned (.tuple #[.int .i64 r1, .int .i64 r2]) ∧ Below w.heap.size w w' := by
 have hu24 := Try.underlying24
 have HO0_1 := Aside0.mk (show Kd.V (Kd.int .i64) 3 w w.heap.size (fun k_ => ((P0_1_ k_ ∨ P0_2_ k_ ∨ P1_1_ k_ ∨ P1_2_ k_) ∨ w.heap.size ≤ k_)) (.slice A0_1 l0_1.length c0_1) l0_1 from Kd.V_mono hs0_1 (fun k_ hk => .inl (.inl hk)))
 have HO0_2 := Aside0.mk (show Kd.V (Kd.int .i64) 3 w w.heap.size (fun k_ => ((P0_1_ k_ ∨ P0_2_ k_ ∨ P1_1_ k_ ∨ P1_2_ k_) ∨ w.heap.size ≤ k_)) (.slice A0_2 l0_2.length c0_2) l0_2 from Kd.V_mono hs0_2 (fun k_ hk => .inl (.inr (.inl hk))))
 have HO1_1 := Aside0.mk (show Kd.V (Kd.int .i64) 3 w w.heap.size (fun k_ => ((P0_1_ k_ ∨ P0_2_ k_ ∨ P1_1_ k_ ∨ P1_2_ k_) ∨ w.heap.size ≤ k_)) (.slice A1_1 l1_1.length c1_1) l1_1 from Kd.V_mono hs1_1 (fun k_ hk => .inl (.inr (.inr (.inl hk)))))
 have HO1_2 := Aside0.mk (show Kd.V (Kd.int .i64) 3 w w.heap.size (fun k_ => ((P0_1_ k_ ∨ P0_2_ k_ ∨ P1_1_ k_ ∨ P1_2_ k_) ∨ w.heap.size ≤ k_)) (.slice A1_2 l1_2.length c1_2) l1_2 from Kd.V_mono hs1_2 (fun k_ hk => .inl (.inr (.inr (.inr hk)))))
 have HB := Aside0.mk (Below.refl w.heap.size w)
 have H : ((impl_ratsCode.f k (([(⟨a0_0, l0_1, l0_2⟩ : S24), (⟨a1_0, l1_1, l1_2⟩ : S24)] : List (S24)))).bind fun tA2 => (if tA2 = 0 then ((impl_Rat_cmp.f k a0_0 l0_1 l0_2 a1_0 l1_1 l1_2).bind fun tA3 => (some (mn (mx tA3 (-1)) 1, 0))) else (some (0, tA2)))) = some (r1, r2) := h
 clear h
 obtain ⟨yA5, hy795⟩ : ∃ y_ : List (S24), y_ = (([(⟨a0_0, l0_1, l0_2⟩ : S24), (⟨a1_0, l1_1, l1_2⟩ : S24)] : List (S24))) := ⟨_, rfl⟩
 replace H : ((impl_ratsCode.f k yA5).bind fun tA2 => (if tA2 = 0 then ((impl_Rat_cmp.f k a0_0 l0_1 l0_2 a1_0 l1_1 l1_2).bind fun tA3 => (some (mn (mx tA3 (-1)) 1, 0))) else (some (0, tA2)))) = some (r1, r2) := by subst hy795; first | with_reducible exact H | with_reducible exact (Option.bind_some _ _).symm.trans H | exact H
 have NyA5 := Aside0.mk hy795
 clear hy795
 replace H := Option.bind_eq_some_iff.mp H
 obtain ⟨tA2, A30, H⟩ := H
 replace H : (if tA2 = 0 then ((impl_Rat_cmp.f k a0_0 l0_1 l0_2 a1_0 l1_1 l1_2).bind fun tA3 => (some (mn (mx tA3 (-1)) 1, 0))) else (some (0, tA2))) = some (r1, r2) := H
 have A3 := Aside0.mk A30
 clear A30
 by_cases c4 : tA2 = 0
 ·
  rw [if_pos c4] at H
  have c4b0 : (tA2 == 0) = true := beq_iff_eq.mpr c4
  have c4b1 : (tA2 != 0) = false := bne_eq_false_iff_eq.mpr c4
  clear c4
  replace H := Option.bind_eq_some_iff.mp H
  obtain ⟨tA3, A50, H⟩ := H
  replace H : (some (mn (mx tA3 (-1)) 1, 0)) = some (r1, r2) := H
  have A5 := Aside0.mk A50
  clear A50
  obtain ⟨ji6, hji6⟩ : ∃ j_ : Int, (mx tA3 (-1)) = j_ := ⟨_, rfl⟩
  replace H : (some (mn (ji6) 1, 0)) = some (r1, r2) := by first | (rw [hji6] at H; exact H) | (simp only [hji6] at H ⊢; exact H)
  (try rw [hji6] at A3)
  (try rw [hji6] at A5)
  have hji6_ : (if tA3 < (-1) then (-1) else tA3) = ji6 := hji6
  obtain ⟨ji7, hji7⟩ : ∃ j_ : Int, (mn (ji6) 1) = j_ := ⟨_, rfl⟩
  replace H : (some (ji7, 0)) = some (r1, r2) := by first | (rw [hji7] at H; exact H) | (simp only [hji7] at H ⊢; exact H)
  (try rw [hji7] at A3)
  (try rw [hji7] at A5)
  have hji7_ : (if 1 < (ji6) then 1 else (ji6)) = ji7 := hji7
  simp only [Option.some.injEq, Prod.mk.injEq] at H
  obtain ⟨rfl, rfl⟩ := H
  go_enter Try.func27, Try.ntmps27
  go_wp2_with (first | ((with_reducible refine gate_dst (N := 2) rfl ?_); refine bx_ (N := 2) (cs := #[.bool a0_0, .slice A0_1 l0_1.length c0_1, .slice A0_2 l0_2.length c0_2]) (t := 24) ?_; intro gbA0 hg w8 hbox hb; replace HO0_1 := elbV HO0_1 hg hb; replace HO0_2 := elbV HO0_2 hg hb; replace HO1_1 := elbV HO1_1 hg hb; replace HO1_2 := elbV HO1_2 hg hb; have BKA0 := Aside0.mk (hbox); have GWA0 := geh hg HB; have GEA0 := geh hg HB; replace HB := bst HB hb; clear hb hbox hg) | ((with_reducible refine gate_dst (N := 3) rfl ?_); refine bx_ (N := 3) (cs := #[.bool a1_0, .slice A1_1 l1_1.length c1_1, .slice A1_2 l1_2.length c1_2]) (t := 24) ?_; intro gbA1 hg w9 hbox hb; replace HO0_1 := elbV HO0_1 hg hb; replace HO0_2 := elbV HO0_2 hg hb; replace HO1_1 := elbV HO1_1 hg hb; replace HO1_2 := elbV HO1_2 hg hb; have BKA1 := Aside0.mk (hbox); have GWA1 := geh hg HB; have GEA1 := geh hg HB; replace HB := bst HB hb; have NBA0_A1 := nlt hg BKA0; have NBA1_A0 := ngt hg BKA0; replace BKA0 := bkb BKA0 hb; clear hb hbox hg; have hnb10 := NBA0_A1.out; have hnc10 := NBA1_A0.out; obtain ⟨hcz11_0, hcz11_1, hcz11_2, hfz11_0, hfz11_1, hfz11_2⟩ := bc3 BKA0; obtain ⟨hcz12_0, hcz12_1, hcz12_2, hfz12_0, hfz12_1, hfz12_2⟩ := bc3 BKA1) | ((with_reducible refine gate_dst (N := 9) rfl ?_); refine Kd.N_lit k24 _ 24 ?hg (N' := 9) ?hd (xs := ([(⟨a0_0, l0_1, l0_2⟩ : S24), (⟨a1_0, l1_1, l1_2⟩ : S24)] : List (S24))) (inner := [.bool a0_0, .slice A0_1 l0_1.length c0_1, .slice A0_2 l0_2.length c0_2, .bool a1_0, .slice A1_1 l1_1.length c1_1, .slice A1_2 l1_2.length c1_2]) (ok := (fun k_ => ((P0_1_ k_ ∨ P0_2_ k_ ∨ P1_1_ k_ ∨ P1_2_ k_) ∨ w.heap.size ≤ k_) ∧ k_ ≠ gbA0 ∧ k_ ≠ gbA1)) (okp := (fun k_ => ((P0_1_ k_ ∨ P0_2_ k_ ∨ P1_1_ k_ ∨ P1_2_ k_) ∨ w.heap.size ≤ k_) ∧ k_ ≠ gbA0 ∧ k_ ≠ gbA1)) ?hr ?hp (fun _ hk => hk) ((show ∀ k_, w9.heap.size ≤ k_ → (fun k_ => ((P0_1_ k_ ∨ P0_2_ k_ ∨ P1_1_ k_ ∨ P1_2_ k_) ∨ w.heap.size ≤ k_) ∧ k_ ≠ gbA0 ∧ k_ ≠ gbA1) k_ from fun k_ hk => ⟨(.inr (Nat.le_trans (bsz HB) hk)), Kd.freshB (g := gbA0) (o := .cells #[.bool a0_0, .slice A0_1 l0_1.length c0_1, .slice A0_2 l0_2.length c0_2] 24 (0, 0)) (crb BKA0) k_ hk, Kd.freshB (g := gbA1) (o := .cells #[.bool a1_0, .slice A1_1 l1_1.length c1_1, .slice A1_2 l1_2.length c1_2] 24 (0, 0)) (crb BKA1) k_ hk⟩) _ (Nat.le_refl _)) (Below.refl _ _) (Nat.le_refl _) (by simp) ?_; (case hd => rfl); (case hg => rfl); (case hr => first | (go_simp; done) | (go_simp; rfl)); (case hp => exact (Reps.c3 (show Kd.FK k24 _ _ (⟨a0_0, l0_1, l0_2⟩ : S24) [.bool a0_0, .slice A0_1 l0_1.length c0_1, .slice A0_2 l0_2.length c0_2] from (k24_mkF _ _ (⟨a0_0, l0_1, l0_2⟩ : S24) (Kd.V_reads' (Kd.V_mono (ok' := (fun k_ => ((P0_1_ k_ ∨ P0_2_ k_ ∨ P1_1_ k_ ∨ P1_2_ k_) ∨ w.heap.size ≤ k_) ∧ k_ ≠ gbA0 ∧ k_ ≠ gbA1)) (HO0_1.out) (fun k_ hk => ⟨hk.1.1, ⟨hk.1.2, hk.2⟩⟩))).2.1 (Kd.V_F (Kd.V_mono (ok' := (fun k_ => ((P0_1_ k_ ∨ P0_2_ k_ ∨ P1_1_ k_ ∨ P1_2_ k_) ∨ w.heap.size ≤ k_) ∧ k_ ≠ gbA0 ∧ k_ ≠ gbA1)) (HO0_1.out) (fun k_ hk => ⟨hk.1.1, ⟨hk.1.2, hk.2⟩⟩))) (Kd.V_reads' (Kd.V_mono (ok' := (fun k_ => ((P0_1_ k_ ∨ P0_2_ k_ ∨ P1_1_ k_ ∨ P1_2_ k_) ∨ w.heap.size ≤ k_) ∧ k_ ≠ gbA0 ∧ k_ ≠ gbA1)) (HO0_2.out) (fun k_ hk => ⟨hk.1.1, ⟨hk.1.2, hk.2⟩⟩))).2.1 (Kd.V_F (Kd.V_mono (ok' := (fun k_ => ((P0_1_ k_ ∨ P0_2_ k_ ∨ P1_1_ k_ ∨ P1_2_ k_) ∨ w.heap.size ≤ k_) ∧ k_ ≠ gbA0 ∧ k_ ≠ gbA1)) (HO0_2.out) (fun k_ hk => ⟨hk.1.1, ⟨hk.1.2, hk.2⟩⟩))))) (Reps.c3 (show Kd.FK k24 _ _ (⟨a1_0, l1_1, l1_2⟩ : S24) [.bool a1_0, .slice A1_1 l1_1.length c1_1, .slice A1_2 l1_2.length c1_2] from (k24_mkF _ _ (⟨a1_0, l1_1, l1_2⟩ : S24) (Kd.V_reads' (Kd.V_mono (ok' := (fun k_ => ((P0_1_ k_ ∨ P0_2_ k_ ∨ P1_1_ k_ ∨ P1_2_ k_) ∨ w.heap.size ≤ k_) ∧ k_ ≠ gbA0 ∧ k_ ≠ gbA1)) (HO1_1.out) (fun k_ hk => ⟨hk.1.1, ⟨hk.1.2, hk.2⟩⟩))).2.1 (Kd.V_F (Kd.V_mono (ok' := (fun k_ => ((P0_1_ k_ ∨ P0_2_ k_ ∨ P1_1_ k_ ∨ P1_2_ k_) ∨ w.heap.size ≤ k_) ∧ k_ ≠ gbA0 ∧ k_ ≠ gbA1)) (HO1_1.out) (fun k_ hk => ⟨hk.1.1, ⟨hk.1.2, hk.2⟩⟩))) (Kd.V_reads' (Kd.V_mono (ok' := (fun k_ => ((P0_1_ k_ ∨ P0_2_ k_ ∨ P1_1_ k_ ∨ P1_2_ k_) ∨ w.heap.size ≤ k_) ∧ k_ ≠ gbA0 ∧ k_ ≠ gbA1)) (HO1_2.out) (fun k_ hk => ⟨hk.1.1, ⟨hk.1.2, hk.2⟩⟩))).2.1 (Kd.V_F (Kd.V_mono (ok' := (fun k_ => ((P0_1_ k_ ∨ P0_2_ k_ ∨ P1_1_ k_ ∨ P1_2_ k_) ∨ w.heap.size ≤ k_) ∧ k_ ≠ gbA0 ∧ k_ ≠ gbA1)) (HO1_2.out) (fun k_ hk => ⟨hk.1.1, ⟨hk.1.2, hk.2⟩⟩))))) (Reps.none _ _)))); intro vA6 w13 ho14 hb hg_ hnew_; clear hg_ hnew_; (first | rw [← NyA5.out] at ho14 | (simp only [Int.reduceToNat] at ho14; rw [← NyA5.out] at ho14)); replace HO0_1 := eldV HO0_1 (Kd.N_base ho14) hb; replace HO0_2 := eldV HO0_2 (Kd.N_base ho14) hb; replace HO1_1 := eldV HO1_1 (Kd.N_base ho14) hb; replace HO1_2 := eldV HO1_2 (Kd.N_base ho14) hb; have HOA4 := Aside0.mk (Kd.N_lower ho14 (bsz HB)); replace BKA0 := bkb BKA0 hb; replace BKA1 := bkb BKA1 hb; replace HB := bst HB hb; clear hb ho14; obtain ⟨Ao15, co15, eo15⟩ := Kd.N_slice HOA4.out; subst eo15) | ((with_reducible refine gate_callee (f := 65) rfl ?_); refine gL_ (some 10) Try.func65 #[.slice Ao15 yA5.length co15] ?_; (with_reducible refine (impl_ratsCode.calls k _ _ yA5 tA2 _ ?side1 ?side2 A3.out).mono ?_); (case side1 => exact crC (Kd.N_reads' HOA4.out).2.2); (case side2 => exact (Kd.N_reads' HOA4.out).2.1); rintro e w16 ⟨rfl, hb⟩; refine ⟨_, rfl, ?_⟩; replace HO0_1 := rblV HO0_1 hb; replace HO0_2 := rblV HO0_2 hb; replace HO1_1 := rblV HO1_1 hb; replace HO1_2 := rblV HO1_2 hb; replace HOA4 := Aside0.mk (Kd.N_below (by (with_reducible repeat (first | apply Kd.N_alloc | apply Kd.N_drewN | apply Kd.N_drew)); exact HOA4.out) hb); replace BKA0 := bkb BKA0 hb; replace BKA1 := bkb BKA1 hb; replace HB := bst HB hb; (try clear hb); (try clear hb2); (try clear hk); (try clear hi); obtain ⟨hcz17_0, hcz17_1, hcz17_2, hfz17_0, hfz17_1, hfz17_2⟩ := bc3 BKA0; obtain ⟨hcz18_0, hcz18_1, hcz18_2, hfz18_0, hfz18_1, hfz18_2⟩ := bc3 BKA1) | ((with_reducible refine gate_callee (f := 69) rfl ?_); refine gL_ (some 16) Try.func69 #[.agg #[.bool a0_0, .slice A0_1 l0_1.length c0_1, .slice A0_2 l0_2.length c0_2], .agg #[.bool a1_0, .slice A1_1 l1_1.length c1_1, .slice A1_2 l1_2.length c1_2]] ?_; (with_reducible refine (impl_Rat_cmp.calls k a0_0 _ _ l0_1 _ _ l0_2 a1_0 _ _ l1_1 _ _ l1_2 tA3 _ ?side1 ?side2 ?side3 ?side4 ?side5 ?side6 ?side7 ?side8 A5.out).mono ?_); (case side1 => exact crC (Kd.V_reads' HO0_1.out).2.2); (case side2 => exact (Kd.V_reads' HO0_1.out).2.1); (case side3 => exact crC (Kd.V_reads' HO0_2.out).2.2); (case side4 => exact (Kd.V_reads' HO0_2.out).2.1); (case side5 => exact crC (Kd.V_reads' HO1_1.out).2.2); (case side6 => exact (Kd.V_reads' HO1_1.out).2.1); (case side7 => exact crC (Kd.V_reads' HO1_2.out).2.2); (case side8 => exact (Kd.V_reads' HO1_2.out).2.1); rintro e w19 ⟨rfl, hb⟩; refine ⟨_, rfl, ?_⟩; replace HO0_1 := rblV HO0_1 hb; replace HO0_2 := rblV HO0_2 hb; replace HO1_1 := rblV HO1_1 hb; replace HO1_2 := rblV HO1_2 hb; replace HOA4 := Aside0.mk (Kd.N_below (by (with_reducible repeat (first | apply Kd.N_alloc | apply Kd.N_drewN | apply Kd.N_drew)); exact HOA4.out) hb); replace BKA0 := bkb BKA0 hb; replace BKA1 := bkb BKA1 hb; replace HB := bst HB hb; (try clear hb); (try clear hb2); (try clear hk); (try clear hi)))
  go_ret2
  exact ⟨by first | rfl | (simp [errW_none, errW_some] <;> rfl) | (simp only [← hji6, ← hji7]; first | rfl | (simp [errW_none, errW_some] <;> rfl)) | (simp [*, errW_none, errW_some] <;> rfl), blw HB⟩
 ·
  rw [if_neg c4] at H
  have c4b0 : (tA2 == 0) = false := beq_eq_false_iff_ne.mpr c4
  have c4b1 : (tA2 != 0) = true := bne_iff_ne.mpr c4
  simp only [Option.some.injEq, Prod.mk.injEq] at H
  obtain ⟨rfl, rfl⟩ := H
  go_enter Try.func27, Try.ntmps27
  go_wp2_with (first | ((with_reducible refine gate_dst (N := 2) rfl ?_); refine bx_ (N := 2) (cs := #[.bool a0_0, .slice A0_1 l0_1.length c0_1, .slice A0_2 l0_2.length c0_2]) (t := 24) ?_; intro gbA0 hg w20 hbox hb; replace HO0_1 := elbV HO0_1 hg hb; replace HO0_2 := elbV HO0_2 hg hb; replace HO1_1 := elbV HO1_1 hg hb; replace HO1_2 := elbV HO1_2 hg hb; have BKA0 := Aside0.mk (hbox); have GWA0 := geh hg HB; have GEA0 := geh hg HB; replace HB := bst HB hb; clear hb hbox hg) | ((with_reducible refine gate_dst (N := 3) rfl ?_); refine bx_ (N := 3) (cs := #[.bool a1_0, .slice A1_1 l1_1.length c1_1, .slice A1_2 l1_2.length c1_2]) (t := 24) ?_; intro gbA1 hg w21 hbox hb; replace HO0_1 := elbV HO0_1 hg hb; replace HO0_2 := elbV HO0_2 hg hb; replace HO1_1 := elbV HO1_1 hg hb; replace HO1_2 := elbV HO1_2 hg hb; have BKA1 := Aside0.mk (hbox); have GWA1 := geh hg HB; have GEA1 := geh hg HB; replace HB := bst HB hb; have NBA0_A1 := nlt hg BKA0; have NBA1_A0 := ngt hg BKA0; replace BKA0 := bkb BKA0 hb; clear hb hbox hg; have hnb22 := NBA0_A1.out; have hnc22 := NBA1_A0.out; obtain ⟨hcz23_0, hcz23_1, hcz23_2, hfz23_0, hfz23_1, hfz23_2⟩ := bc3 BKA0; obtain ⟨hcz24_0, hcz24_1, hcz24_2, hfz24_0, hfz24_1, hfz24_2⟩ := bc3 BKA1) | ((with_reducible refine gate_dst (N := 9) rfl ?_); refine Kd.N_lit k24 _ 24 ?hg (N' := 9) ?hd (xs := ([(⟨a0_0, l0_1, l0_2⟩ : S24), (⟨a1_0, l1_1, l1_2⟩ : S24)] : List (S24))) (inner := [.bool a0_0, .slice A0_1 l0_1.length c0_1, .slice A0_2 l0_2.length c0_2, .bool a1_0, .slice A1_1 l1_1.length c1_1, .slice A1_2 l1_2.length c1_2]) (ok := (fun k_ => ((P0_1_ k_ ∨ P0_2_ k_ ∨ P1_1_ k_ ∨ P1_2_ k_) ∨ w.heap.size ≤ k_) ∧ k_ ≠ gbA0 ∧ k_ ≠ gbA1)) (okp := (fun k_ => ((P0_1_ k_ ∨ P0_2_ k_ ∨ P1_1_ k_ ∨ P1_2_ k_) ∨ w.heap.size ≤ k_) ∧ k_ ≠ gbA0 ∧ k_ ≠ gbA1)) ?hr ?hp (fun _ hk => hk) ((show ∀ k_, w21.heap.size ≤ k_ → (fun k_ => ((P0_1_ k_ ∨ P0_2_ k_ ∨ P1_1_ k_ ∨ P1_2_ k_) ∨ w.heap.size ≤ k_) ∧ k_ ≠ gbA0 ∧ k_ ≠ gbA1) k_ from fun k_ hk => ⟨(.inr (Nat.le_trans (bsz HB) hk)), Kd.freshB (g := gbA0) (o := .cells #[.bool a0_0, .slice A0_1 l0_1.length c0_1, .slice A0_2 l0_2.length c0_2] 24 (0, 0)) (crb BKA0) k_ hk, Kd.freshB (g := gbA1) (o := .cells #[.bool a1_0, .slice A1_1 l1_1.length c1_1, .slice A1_2 l1_2.length c1_2] 24 (0, 0)) (crb BKA1) k_ hk⟩) _ (Nat.le_refl _)) (Below.refl _ _) (Nat.le_refl _) (by simp) ?_; (case hd => rfl); (case hg => rfl); (case hr => first | (go_simp; done) | (go_simp; rfl)); (case hp => exact (Reps.c3 (show Kd.FK k24 _ _ (⟨a0_0, l0_1, l0_2⟩ : S24) [.bool a0_0, .slice A0_1 l0_1.length c0_1, .slice A0_2 l0_2.length c0_2] from (k24_mkF _ _ (⟨a0_0, l0_1, l0_2⟩ : S24) (Kd.V_reads' (Kd.V_mono (ok' := (fun k_ => ((P0_1_ k_ ∨ P0_2_ k_ ∨ P1_1_ k_ ∨ P1_2_ k_) ∨ w.heap.size ≤ k_) ∧ k_ ≠ gbA0 ∧ k_ ≠ gbA1)) (HO0_1.out) (fun k_ hk => ⟨hk.1.1, ⟨hk.1.2, hk.2⟩⟩))).2.1 (Kd.V_F (Kd.V_mono (ok' := (fun k_ => ((P0_1_ k_ ∨ P0_2_ k_ ∨ P1_1_ k_ ∨ P1_2_ k_) ∨ w.heap.size ≤ k_) ∧ k_ ≠ gbA0 ∧ k_ ≠ gbA1)) (HO0_1.out) (fun k_ hk => ⟨hk.1.1, ⟨hk.1.2, hk.2⟩⟩))) (Kd.V_reads' (Kd.V_mono (ok' := (fun k_ => ((P0_1_ k_ ∨ P0_2_ k_ ∨ P1_1_ k_ ∨ P1_2_ k_) ∨ w.heap.size ≤ k_) ∧ k_ ≠ gbA0 ∧ k_ ≠ gbA1)) (HO0_2.out) (fun k_ hk => ⟨hk.1.1, ⟨hk.1.2, hk.2⟩⟩))).2.1 (Kd.V_F (Kd.V_mono (ok' := (fun k_ => ((P0_1_ k_ ∨ P0_2_ k_ ∨ P1_1_ k_ ∨ P1_2_ k_) ∨ w.heap.size ≤ k_) ∧ k_ ≠ gbA0 ∧ k_ ≠ gbA1)) (HO0_2.out) (fun k_ hk => ⟨hk.1.1, ⟨hk.1.2, hk.2⟩⟩))))) (Reps.c3 (show Kd.FK k24 _ _ (⟨a1_0, l1_1, l1_2⟩ : S24) [.bool a1_0, .slice A1_1 l1_1.length c1_1, .slice A1_2 l1_2.length c1_2] from (k24_mkF _ _ (⟨a1_0, l1_1, l1_2⟩ : S24) (Kd.V_reads' (Kd.V_mono (ok' := (fun k_ => ((P0_1_ k_ ∨ P0_2_ k_ ∨ P1_1_ k_ ∨ P1_2_ k_) ∨ w.heap.size ≤ k_) ∧ k_ ≠ gbA0 ∧ k_ ≠ gbA1)) (HO1_1.out) (fun k_ hk => ⟨hk.1.1, ⟨hk.1.2, hk.2⟩⟩))).2.1 (Kd.V_F (Kd.V_mono (ok' := (fun k_ => ((P0_1_ k_ ∨ P0_2_ k_ ∨ P1_1_ k_ ∨ P1_2_ k_) ∨ w.heap.size ≤ k_) ∧ k_ ≠ gbA0 ∧ k_ ≠ gbA1)) (HO1_1.out) (fun k_ hk => ⟨hk.1.1, ⟨hk.1.2, hk.2⟩⟩))) (Kd.V_reads' (Kd.V_mono (ok' := (fun k_ => ((P0_1_ k_ ∨ P0_2_ k_ ∨ P1_1_ k_ ∨ P1_2_ k_) ∨ w.heap.size ≤ k_) ∧ k_ ≠ gbA0 ∧ k_ ≠ gbA1)) (HO1_2.out) (fun k_ hk => ⟨hk.1.1, ⟨hk.1.2, hk.2⟩⟩))).2.1 (Kd.V_F (Kd.V_mono (ok' := (fun k_ => ((P0_1_ k_ ∨ P0_2_ k_ ∨ P1_1_ k_ ∨ P1_2_ k_) ∨ w.heap.size ≤ k_) ∧ k_ ≠ gbA0 ∧ k_ ≠ gbA1)) (HO1_2.out) (fun k_ hk => ⟨hk.1.1, ⟨hk.1.2, hk.2⟩⟩))))) (Reps.none _ _)))); intro vA6 w25 ho26 hb hg_ hnew_; clear hg_ hnew_; (first | rw [← NyA5.out] at ho26 | (simp only [Int.reduceToNat] at ho26; rw [← NyA5.out] at ho26)); replace HO0_1 := eldV HO0_1 (Kd.N_base ho26) hb; replace HO0_2 := eldV HO0_2 (Kd.N_base ho26) hb; replace HO1_1 := eldV HO1_1 (Kd.N_base ho26) hb; replace HO1_2 := eldV HO1_2 (Kd.N_base ho26) hb; have HOA4 := Aside0.mk (Kd.N_lower ho26 (bsz HB)); replace BKA0 := bkb BKA0 hb; replace BKA1 := bkb BKA1 hb; replace HB := bst HB hb; clear hb ho26; obtain ⟨Ao27, co27, eo27⟩ := Kd.N_slice HOA4.out; subst eo27) | ((with_reducible refine gate_callee (f := 65) rfl ?_); refine gL_ (some 10) Try.func65 #[.slice Ao27 yA5.length co27] ?_; (with_reducible refine (impl_ratsCode.calls k _ _ yA5 tA2 _ ?side1 ?side2 A3.out).mono ?_); (case side1 => exact crC (Kd.N_reads' HOA4.out).2.2); (case side2 => exact (Kd.N_reads' HOA4.out).2.1); rintro e w28 ⟨rfl, hb⟩; refine ⟨_, rfl, ?_⟩; replace HO0_1 := rblV HO0_1 hb; replace HO0_2 := rblV HO0_2 hb; replace HO1_1 := rblV HO1_1 hb; replace HO1_2 := rblV HO1_2 hb; replace HOA4 := Aside0.mk (Kd.N_below (by (with_reducible repeat (first | apply Kd.N_alloc | apply Kd.N_drewN | apply Kd.N_drew)); exact HOA4.out) hb); replace BKA0 := bkb BKA0 hb; replace BKA1 := bkb BKA1 hb; replace HB := bst HB hb; (try clear hb); (try clear hb2); (try clear hk); (try clear hi)))
  go_ret2
  exact ⟨er_, blw HB⟩

def spec_MakeRat.j0 : Nat → Int → Int → Bool → Option (Bool × List Int × List Int × Int)
 | 0, _, _, _ => none
 | k + 1, x0, x1, x15 => if x15 = true then (some (false, ([] : List Int), ([] : List Int), 4)) else (if x1 = 0 then (some (false, ([] : List Int), ([] : List Int), 9)) else ((spec_l02Int.f k x0).bind fun btB2 => ((spec_l02Int.f k x1).bind fun btA9 => ((spec_l02Make.f k (btB2.1 != btA9.1) btB2.2.1 btA9.2.1).bind fun btA4 => (some (btA4.1, btA4.2.1, btA4.2.2, 0))))))
def spec_MakeRat.f (k : Nat) (a0 : Int) (a1 : Int) : Option (Bool × List Int × List Int × Int) := (spec_l01In.f a0 (-1000000000) 1000000000).bind fun tC1 => (if tC1 = true then ((spec_l01In.f a1 (-1000000000) 1000000000).bind fun tB3 => (spec_MakeRat.j0 k a0 a1 (!tB3))) else (spec_MakeRat.j0 k a0 a1 true))
set_option maxHeartbeats 8000000 in
set_option maxRecDepth 100000 in
theorem spec_MakeRat.calls (k : Nat) (a0 : Int) (a1 : Int) (r1 : Bool) (r2 : List Int) (r3 : List Int) (r4 : Int) (w : World) (h : spec_MakeRat.f k a0 a1 = some (r1, r2, r3, r4)) :
  Calls Try.prog 15 #[.int .i64 a0, .int .i64 a1] w fun e w' => ∃ v1_ v2_ : Value, e = .returned (.tuple #[.agg #[.bool r1, v1_, v2_], .int .i64 r4]) ∧ Kd.R (Kd.int .i64) 3 w' w.heap.size (fun k_ => nO k_ v2_) v1_ r2 ∧ Kd.R (Kd.int .i64) 3 w' w.heap.size (fun k_ => nO k_ v1_) v2_ r3 ∧ Below w.heap.size w w' := by
 have hu24 := Try.underlying24
 have HB := Aside0.mk (Below.refl w.heap.size w)
 have H : ((spec_l01In.f a0 (-1000000000) 1000000000).bind fun tC1 => (if tC1 = true then ((spec_l01In.f a1 (-1000000000) 1000000000).bind fun tB3 => (spec_MakeRat.j0 k a0 a1 (!tB3))) else (spec_MakeRat.j0 k a0 a1 true))) = some (r1, r2, r3, r4) := h
 clear h
 have HC3 := Aside0.mk H
 clear H
 go_enter Try.func15, Try.ntmps15
 go_upto_region 1 with (first | ((with_reducible refine gate_dst (N := 4) rfl ?_); refine bx_ (N := 4) (cs := #[.bool false, .slice none 0 0, .slice none 0 0]) (t := 24) ?_; intro gbA0 hg w4 hbox hb; have BKA0 := Aside0.mk (hbox); have GWA0 := geh hg HB; have GEA0 := geh hg HB; replace HB := bst HB hb; clear hb hbox hg))
 (try simp only [Act.put, List.setIfInBounds_toArray, List.set_cons_zero, List.set_cons_succ])
 go_cut [15] (fun v15 wc => ∃ (kq : Nat) (x15_2 : Bool), v15 = .bool x15_2 ∧ Aside0 (spec_MakeRat.j0 kq a0 a1 x15_2 = some (r1, r2, r3, r4)) ∧ Aside0 (kq ≤ k) ∧ Aside0 (wc.heap[gbA0]? = some (.cells #[.bool false, (.slice none 0 0), (.slice none 0 0)] 24 (0, 0))) ∧ Aside0 (Below w.heap.size w wc))
 case first =>
  have H := HC3.out
  clear HC3
  replace H := Option.bind_eq_some_iff.mp H
  obtain ⟨tC1, A50, H⟩ := H
  replace H : (if tC1 = true then ((spec_l01In.f a1 (-1000000000) 1000000000).bind fun tB3 => (spec_MakeRat.j0 k a0 a1 (!tB3))) else (spec_MakeRat.j0 k a0 a1 true)) = some (r1, r2, r3, r4) := H
  have A5 := Aside0.mk A50
  clear A50
  by_cases c6 : tC1 = true
  ·
   subst c6
   rw [if_pos rfl] at H
   replace H := Option.bind_eq_some_iff.mp H
   obtain ⟨tB3, A70, H⟩ := H
   replace H : (spec_MakeRat.j0 k a0 a1 (!tB3)) = some (r1, r2, r3, r4) := H
   have A7 := Aside0.mk A70
   clear A70
   have H' := Aside0.mk H
   clear H
   go_wp2_with (first | ((with_reducible refine gate_callee (f := 45) rfl ?_); refine gL_ (some 9) Try.func45 #[.int .i64 a0, .int .i64 (-1000000000), .int .i64 1000000000] ?_; (with_reducible refine (spec_l01In.calls a0 (-1000000000) 1000000000 true _ A5.out).mono ?_); rintro e w' ⟨rfl, ⟨nd, rfl⟩⟩; refine ⟨_, rfl, ?_⟩) | (go_at_call 45; (with_reducible refine (spec_l01In.calls a1 (-1000000000) 1000000000 tB3 _ A7.out).mono ?_); rintro e w' ⟨rfl, ⟨nd, rfl⟩⟩))
   go_meet
   case rel => exact ⟨_, (!tB3), rs_, H', ⟨by first | omega | exact Nat.le_refl _⟩, ⟨crb BKA0⟩, ⟨blw HB⟩⟩
  ·
   replace c6 := Bool.eq_false_iff.mpr c6
   subst c6
   rw [if_neg (show ¬ (false = true) by decide)] at H
   have H' := Aside0.mk H
   clear H
   go_wp2_with (first | ((with_reducible refine gate_callee (f := 45) rfl ?_); refine gL_ (some 9) Try.func45 #[.int .i64 a0, .int .i64 (-1000000000), .int .i64 1000000000] ?_; (with_reducible refine (spec_l01In.calls a0 (-1000000000) 1000000000 false _ A5.out).mono ?_); rintro e w' ⟨rfl, ⟨nd, rfl⟩⟩; refine ⟨_, rfl, ?_⟩))
   go_meet
   case rel => exact ⟨_, (true), rs_, H', ⟨by first | omega | exact Nat.le_refl _⟩, ⟨crb BKA0⟩, ⟨blw HB⟩⟩
 case rest =>
  clear HC3
  try clear c1
  try clear p2
  try clear c4
  try clear c6
  obtain ⟨kq, x15_2, rfl, HA, HJ2, BKA0, HB⟩ := hcut
  cases kq with
  | zero => exact absurd HA.out (by simp [spec_MakeRat.j0])
  | succ kj2 =>
   have H := HA.out
   clear HA
   simp only [spec_MakeRat.j0] at H
   by_cases c8 : x15_2 = true
   ·
    subst c8
    rw [if_pos rfl] at H
    simp only [Option.some.injEq, Prod.mk.injEq] at H
    obtain ⟨rfl, rfl, rfl, rfl⟩ := H
    obtain ⟨hcz9_0, hcz9_1, hcz9_2, hfz9_0, hfz9_1, hfz9_2⟩ := bc3 BKA0
    go_wp2
    refine bodyPost_ret (results_ct rfl _ _ gbA0 24 #[.bool false, .slice none 0 0, .slice none 0 0] (0, 0) _ rfl (bp3 BKA0 _ _ _) Try.underlying24 rfl (by kernel_rfl)) rfl ?_
    exact ⟨_, _, er_, by first | exact Kd.R_nil _ _ _ _ _ | exact Kd.N_nil _ _ _ _ _ | exact Kd.V_nil _ _ _ _ _ | exact Kd.Q_nil _ _ _ _ _ | exact Kd.S_nil _ _ _ _ _, by first | exact Kd.R_nil _ _ _ _ _ | exact Kd.N_nil _ _ _ _ _ | exact Kd.V_nil _ _ _ _ _ | exact Kd.Q_nil _ _ _ _ _ | exact Kd.S_nil _ _ _ _ _, blw HB⟩
   ·
    replace c8 := Bool.eq_false_iff.mpr c8
    subst c8
    rw [if_neg (show ¬ (false = true) by decide)] at H
    by_cases c10 : a1 = 0
    ·
     rw [if_pos c10] at H
     have c10b0 : (a1 == 0) = true := beq_iff_eq.mpr c10
     have c10b1 : (a1 != 0) = false := bne_eq_false_iff_eq.mpr c10
     clear c10
     simp only [Option.some.injEq, Prod.mk.injEq] at H
     obtain ⟨rfl, rfl, rfl, rfl⟩ := H
     obtain ⟨hcz11_0, hcz11_1, hcz11_2, hfz11_0, hfz11_1, hfz11_2⟩ := bc3 BKA0
     go_wp2
     refine bodyPost_ret (results_ct rfl _ _ gbA0 24 #[.bool false, .slice none 0 0, .slice none 0 0] (0, 0) _ rfl (bp3 BKA0 _ _ _) Try.underlying24 rfl (by kernel_rfl)) rfl ?_
     exact ⟨_, _, er_, by first | exact Kd.R_nil _ _ _ _ _ | exact Kd.N_nil _ _ _ _ _ | exact Kd.V_nil _ _ _ _ _ | exact Kd.Q_nil _ _ _ _ _ | exact Kd.S_nil _ _ _ _ _, by first | exact Kd.R_nil _ _ _ _ _ | exact Kd.N_nil _ _ _ _ _ | exact Kd.V_nil _ _ _ _ _ | exact Kd.Q_nil _ _ _ _ _ | exact Kd.S_nil _ _ _ _ _, blw HB⟩
    ·
     rw [if_neg c10] at H
     have c10b0 : (a1 == 0) = false := beq_eq_false_iff_ne.mpr c10
     have c10b1 : (a1 != 0) = true := bne_iff_ne.mpr c10
     replace H := Option.bind_eq_some_iff.mp H
     obtain ⟨⟨tB2, tB6, tC7⟩, AC2, H⟩ := H
     replace H : ((spec_l02Int.f kj2 a1).bind fun btA9 => ((spec_l02Make.f kj2 (tB2 != btA9.1) tB6 btA9.2.1).bind fun btA4 => (some (btA4.1, btA4.2.1, btA4.2.2, 0)))) = some (r1, r2, r3, r4) := H
     have A12 := Aside0.mk AC2
     clear AC2
     replace H := Option.bind_eq_some_iff.mp H
     obtain ⟨⟨tA9, tB7, tC8⟩, AC3, H⟩ := H
     replace H : ((spec_l02Make.f kj2 (tB2 != tA9) tB6 tB7).bind fun btA4 => (some (btA4.1, btA4.2.1, btA4.2.2, 0))) = some (r1, r2, r3, r4) := H
     have A13 := Aside0.mk AC3
     clear AC3
     replace H := Option.bind_eq_some_iff.mp H
     obtain ⟨⟨tA4, tD1, tD2⟩, AC4, H⟩ := H
     replace H : (some (tA4, tD1, tD2, 0)) = some (r1, r2, r3, r4) := H
     have A14 := Aside0.mk AC4
     clear AC4
     simp only [Option.some.injEq, Prod.mk.injEq] at H
     obtain ⟨rfl, rfl, rfl, rfl⟩ := H
     go_wp2_with (first | ((with_reducible refine gate_callee (f := 46) rfl ?_); refine gL_ (some 21) Try.func46 #[.int .i64 a0] ?_; (with_reducible refine (spec_l02Int.calls kj2 a0 tB2 tB6 tC7 _ A12.out).mono ?_); rintro e w15 ⟨vD9, vE0, rfl, ho0, ho1, hb⟩; refine ⟨_, rfl, ?_⟩; have HOA5 := lwR ho0 HB; have HOA7 := lwR ho1 HB; replace BKA0 := bkb BKA0 hb; replace HB := bst HB hb; (try clear hb); (try clear hb2); (try clear hk); (try clear hi); (try clear ho0); (try clear ho1)) | ((with_reducible refine gate_dst (N := 6) rfl ?_); refine bx_ (N := 6) (cs := #[.bool false, .slice none 0 0, .slice none 0 0]) (t := 24) ?_; intro gbA2 hg w16 hbox hb; replace HOA5 := rblR HOA5 hb; replace HOA7 := rblR HOA7 hb; have BKA2 := Aside0.mk (hbox); have GWA2 := geh hg HB; have GEA2 := geh hg HB; replace HB := bst HB hb; have NBA0_A2 := nlt hg BKA0; have NBA2_A0 := ngt hg BKA0; replace BKA0 := bkb BKA0 hb; clear hb hbox hg; have hnb17 := NBA2_A0.out; have hnc17 := NBA0_A2.out; obtain ⟨hcz18_0, hcz18_1, hcz18_2, hfz18_0, hfz18_1, hfz18_2⟩ := bc3 BKA2; obtain ⟨Ao19, co19, eo19⟩ := Kd.R_slice HOA5.out; subst eo19; obtain ⟨Ao20, co20, eo20⟩ := Kd.R_slice HOA7.out; subst eo20) | ((with_reducible refine gate_callee (f := 46) rfl ?_); refine gL_ (some 23) Try.func46 #[.int .i64 a1] ?_; (with_reducible refine (spec_l02Int.calls kj2 a1 tA9 tB7 tC8 _ A13.out).mono ?_); rintro e w21 ⟨vE1, vE2, rfl, ho0, ho1, hb⟩; refine ⟨_, rfl, ?_⟩; have HOB4 := lwR (nwF (nwF ho0 HOA5 BKA2) HOA7 BKA2) HB; have HOB8 := lwR (nwF (nwF ho1 HOA5 BKA2) HOA7 BKA2) HB; replace HOA5 := tldF HOA5 BKA2 hb (Kd.R_base ho0) (Kd.R_base ho1); replace HOA7 := tldF HOA7 BKA2 hb (Kd.R_base ho0) (Kd.R_base ho1); replace BKA0 := bkf BKA0 hb; replace BKA2 := bkp BKA2 (.bool tB2) (.slice Ao19 tB6.length co19) (.slice Ao20 tC7.length co20) hb; replace HB := bst HB hb; (try clear hb); (try clear hb2); (try clear hk); (try clear hi); (try clear ho0); (try clear ho1)) | ((with_reducible refine gate_dst (N := 7) rfl ?_); refine bx_ (N := 7) (cs := #[.bool false, .slice none 0 0, .slice none 0 0]) (t := 24) ?_; intro gbA1 hg w22 hbox hb; replace HOA5 := rblR HOA5 hb; replace HOA7 := rblR HOA7 hb; replace HOB4 := rblR HOB4 hb; replace HOB8 := rblR HOB8 hb; have BKA1 := Aside0.mk (hbox); have GWA1 := geh hg HB; have GEA1 := geh hg HB; replace HB := bst HB hb; have NBA0_A1 := nlt hg BKA0; have NBA1_A0 := ngt hg BKA0; replace BKA0 := bkb BKA0 hb; have NBA2_A1 := nlt hg BKA2; have NBA1_A2 := ngt hg BKA2; replace BKA2 := bkb BKA2 hb; clear hb hbox hg; have hnb23 := NBA1_A0.out; have hnc23 := NBA0_A1.out; have hnb24 := NBA1_A2.out; have hnc24 := NBA2_A1.out; obtain ⟨hcz25_0, hcz25_1, hcz25_2, hfz25_0, hfz25_1, hfz25_2⟩ := bc3 BKA1; obtain ⟨Ao26, co26, eo26⟩ := Kd.R_slice HOB4.out; subst eo26; obtain ⟨Ao27, co27, eo27⟩ := Kd.R_slice HOB8.out; subst eo27; obtain ⟨hcz28_0, hcz28_1, hcz28_2, hfz28_0, hfz28_1, hfz28_2⟩ := bc3 BKA2) | ((with_reducible refine gate_callee (f := 47) rfl ?_); refine gL_ (some 33) Try.func47 #[.bool (tB2 != tA9), .slice Ao19 tB6.length co19, .slice Ao26 tB7.length co26] ?_; (with_reducible refine (spec_l02Make.calls kj2 (tB2 != tA9) _ _ tB6 _ _ tB7 tA4 tD1 tD2 _ ?side1 ?side2 ?side3 ?side4 A14.out).mono ?_); (case side1 => refine (Kd.R_reads' (e := 3) (base := w.heap.size) (ok := fun k_ => ((nO k_ (.slice Ao20 tC7.length co20) ∧ nO k_ (.slice Ao26 tB7.length co26)) ∧ nO k_ (.slice Ao27 tC8.length co27))) (n := tB6.length) (c := co19) ?_).2.2; exact (crF HOA5 BKA1)); (case side2 => exact (Kd.R_reads' HOA5.out).2.1); (case side3 => refine (Kd.R_reads' (e := 3) (base := w.heap.size) (ok := fun k_ => ((nO k_ (.slice Ao27 tC8.length co27) ∧ nO k_ (.slice Ao19 tB6.length co19)) ∧ nO k_ (.slice Ao20 tC7.length co20))) (n := tB7.length) (c := co26) ?_).2.2; exact (crF HOB4 BKA1)); (case side4 => exact (Kd.R_reads' HOB4.out).2.1); rintro e w29 ⟨vE3, vE4, rfl, ho0, ho1, hb⟩; refine ⟨_, rfl, ?_⟩; have HOD5 := lwR (nwF (nwF (nwF (nwF ho0 HOA5 BKA1) HOA7 BKA1) HOB4 BKA1) HOB8 BKA1) HB; have HOD6 := lwR (nwF (nwF (nwF (nwF ho1 HOA5 BKA1) HOA7 BKA1) HOB4 BKA1) HOB8 BKA1) HB; replace HOA5 := tldF HOA5 BKA1 hb (Kd.R_base ho0) (Kd.R_base ho1); replace HOA7 := tldF HOA7 BKA1 hb (Kd.R_base ho0) (Kd.R_base ho1); replace HOB4 := tldF HOB4 BKA1 hb (Kd.R_base ho0) (Kd.R_base ho1); replace HOB8 := tldF HOB8 BKA1 hb (Kd.R_base ho0) (Kd.R_base ho1); replace BKA0 := bkf BKA0 hb; replace BKA2 := bkf BKA2 hb; replace BKA1 := bkp BKA1 (.bool tA9) (.slice Ao26 tB7.length co26) (.slice Ao27 tC8.length co27) hb; replace HB := bst HB hb; (try clear hb); (try clear hb2); (try clear hk); (try clear hi); (try clear ho0); (try clear ho1); obtain ⟨hcz30_0, hcz30_1, hcz30_2, hfz30_0, hfz30_1, hfz30_2⟩ := bc3 BKA0; obtain ⟨Ao31, co31, eo31⟩ := Kd.R_slice HOD5.out; subst eo31; obtain ⟨Ao32, co32, eo32⟩ := Kd.R_slice HOD6.out; subst eo32))
     refine bodyPost_ret (results_ct rfl _ _ gbA0 24 #[.bool tA4, .slice Ao31 tD1.length co31, .slice Ao32 tD2.length co32] (0, 0) _ rfl (bp3 BKA0 _ _ _) Try.underlying24 rfl (by kernel_rfl)) rfl ?_
     exact ⟨_, _, er_, (crN HOD5 BKA0 fun _ hk => hk.1.1.1.1.1), (crN HOD6 BKA0 fun _ hk => hk.1.1.1.1.1), blw HB⟩

def impl_MakeRat.j0 : Nat → Int → Int → Bool → Option (Bool × List Int × List Int × Int)
 | 0, _, _, _ => none
 | k + 1, x0, x1, x19 => if x19 = true then (some (false, ([] : List Int), ([] : List Int), 4)) else (if x1 = 0 then (some (false, ([] : List Int), ([] : List Int), 9)) else ((impl_whole.f k x0).bind fun btB5 => ((impl_whole.f k x1).bind fun btA8 => ((impl_Rat_over.f k btB5.1 btB5.2.1 btB5.2.2 btA8.1 btA8.2.1 btA8.2.2).bind fun btA6 => (some (btA6.1, btA6.2.1, btA6.2.2, 0))))))
def impl_MakeRat.f (k : Nat) (a0 : Int) (a1 : Int) : Option (Bool × List Int × List Int × Int) := if a0 < (-1000000000) then (impl_MakeRat.j0 k a0 a1 true) else (if a0 > 1000000000 then (impl_MakeRat.j0 k a0 a1 true) else (if a1 < (-1000000000) then (impl_MakeRat.j0 k a0 a1 true) else (impl_MakeRat.j0 k a0 a1 (decide (a1 > 1000000000)))))
set_option maxHeartbeats 8000000 in
set_option maxRecDepth 100000 in
theorem impl_MakeRat.calls (k : Nat) (a0 : Int) (a1 : Int) (r1 : Bool) (r2 : List Int) (r3 : List Int) (r4 : Int) (w : World) (h : impl_MakeRat.f k a0 a1 = some (r1, r2, r3, r4)) :
  Calls Try.prog 16 #[.int .i64 a0, .int .i64 a1] w fun e w' => ∃ v1_ v2_ : Value, e = .returned (.tuple #[.agg #[.bool r1, v1_, v2_], .int .i64 r4]) ∧ Kd.R (Kd.int .i64) 3 w' w.heap.size (fun k_ => nO k_ v2_) v1_ r2 ∧ Kd.R (Kd.int .i64) 3 w' w.heap.size (fun k_ => nO k_ v1_) v2_ r3 ∧ Below w.heap.size w w' := by
 have hu24 := Try.underlying24
 have HB := Aside0.mk (Below.refl w.heap.size w)
 have H : (if a0 < (-1000000000) then (impl_MakeRat.j0 k a0 a1 true) else (if a0 > 1000000000 then (impl_MakeRat.j0 k a0 a1 true) else (if a1 < (-1000000000) then (impl_MakeRat.j0 k a0 a1 true) else (impl_MakeRat.j0 k a0 a1 (decide (a1 > 1000000000)))))) = some (r1, r2, r3, r4) := h
 clear h
 have HC3 := Aside0.mk H
 clear H
 go_enter Try.func16, Try.ntmps16
 go_upto_region 1 with (first | ((with_reducible refine gate_dst (N := 4) rfl ?_); refine bx_ (N := 4) (cs := #[.bool false, .slice none 0 0, .slice none 0 0]) (t := 24) ?_; intro gbA3 hg w4 hbox hb; have BKA3 := Aside0.mk (hbox); have GWA3 := geh hg HB; have GEA3 := geh hg HB; replace HB := bst HB hb; clear hb hbox hg))
 (try simp only [Act.put, List.setIfInBounds_toArray, List.set_cons_zero, List.set_cons_succ])
 go_cut [19] (fun v19 wc => ∃ (kq : Nat) (x19_2 : Bool), v19 = .bool x19_2 ∧ Aside0 (impl_MakeRat.j0 kq a0 a1 x19_2 = some (r1, r2, r3, r4)) ∧ Aside0 (kq ≤ k) ∧ Aside0 (wc.heap[gbA3]? = some (.cells #[.bool false, (.slice none 0 0), (.slice none 0 0)] 24 (0, 0))) ∧ Aside0 (Below w.heap.size w wc))
 case first =>
  have H := HC3.out
  clear HC3
  by_cases c5 : a0 < (-1000000000)
  ·
   rw [if_pos c5] at H
   have c5b0 : decide (a0 < (-1000000000)) = true := decide_eq_true c5
   clear c5
   (first | rw [c5b0] | (simp only [i64_w, i32_w]; rw [c5b0]) | skip)
   have H' := Aside0.mk H
   clear H
   go_wp2
   go_meet
   case rel => exact ⟨_, (true), rs_, H', ⟨by first | omega | exact Nat.le_refl _⟩, ⟨crb BKA3⟩, ⟨blw HB⟩⟩
  ·
   rw [if_neg c5] at H
   have c5b0 : decide (a0 < (-1000000000)) = false := decide_eq_false c5
   clear c5
   (first | rw [c5b0] | (simp only [i64_w, i32_w]; rw [c5b0]) | skip)
   by_cases c6 : a0 > 1000000000
   ·
    rw [if_pos c6] at H
    have c6b0 : decide (1000000000 < a0) = true := decide_eq_true c6
    clear c6
    have H' := Aside0.mk H
    clear H
    go_wp2
    go_meet
    case rel => exact ⟨_, (true), rs_, H', ⟨by first | omega | exact Nat.le_refl _⟩, ⟨crb BKA3⟩, ⟨blw HB⟩⟩
   ·
    rw [if_neg c6] at H
    have c6b0 : decide (1000000000 < a0) = false := decide_eq_false c6
    clear c6
    by_cases c7 : a1 < (-1000000000)
    ·
     rw [if_pos c7] at H
     have c7b0 : decide (a1 < (-1000000000)) = true := decide_eq_true c7
     clear c7
     have H' := Aside0.mk H
     clear H
     go_wp2
     go_meet
     case rel => exact ⟨_, (true), rs_, H', ⟨by first | omega | exact Nat.le_refl _⟩, ⟨crb BKA3⟩, ⟨blw HB⟩⟩
    ·
     rw [if_neg c7] at H
     have c7b0 : decide (a1 < (-1000000000)) = false := decide_eq_false c7
     clear c7
     have H' := Aside0.mk H
     clear H
     go_wp2
     go_meet
     case rel => exact ⟨_, (decide (a1 > 1000000000)), rs_, H', ⟨by first | omega | exact Nat.le_refl _⟩, ⟨crb BKA3⟩, ⟨blw HB⟩⟩
 case rest =>
  clear HC3
  try clear c1
  try clear p2
  try clear c5
  try clear c5b0
  try clear c6
  try clear c6b0
  try clear c7
  try clear c7b0
  obtain ⟨kq, x19_2, rfl, HA, HJ2, BKA3, HB⟩ := hcut
  cases kq with
  | zero => exact absurd HA.out (by simp [impl_MakeRat.j0])
  | succ kj2 =>
   have H := HA.out
   clear HA
   simp only [impl_MakeRat.j0] at H
   by_cases c8 : x19_2 = true
   ·
    subst c8
    rw [if_pos rfl] at H
    simp only [Option.some.injEq, Prod.mk.injEq] at H
    obtain ⟨rfl, rfl, rfl, rfl⟩ := H
    obtain ⟨hcz9_0, hcz9_1, hcz9_2, hfz9_0, hfz9_1, hfz9_2⟩ := bc3 BKA3
    go_wp2
    refine bodyPost_ret (results_ct rfl _ _ gbA3 24 #[.bool false, .slice none 0 0, .slice none 0 0] (0, 0) _ rfl (bp3 BKA3 _ _ _) Try.underlying24 rfl (by kernel_rfl)) rfl ?_
    exact ⟨_, _, er_, by first | exact Kd.R_nil _ _ _ _ _ | exact Kd.N_nil _ _ _ _ _ | exact Kd.V_nil _ _ _ _ _ | exact Kd.Q_nil _ _ _ _ _ | exact Kd.S_nil _ _ _ _ _, by first | exact Kd.R_nil _ _ _ _ _ | exact Kd.N_nil _ _ _ _ _ | exact Kd.V_nil _ _ _ _ _ | exact Kd.Q_nil _ _ _ _ _ | exact Kd.S_nil _ _ _ _ _, blw HB⟩
   ·
    replace c8 := Bool.eq_false_iff.mpr c8
    subst c8
    rw [if_neg (show ¬ (false = true) by decide)] at H
    by_cases c10 : a1 = 0
    ·
     rw [if_pos c10] at H
     have c10b0 : (a1 == 0) = true := beq_iff_eq.mpr c10
     have c10b1 : (a1 != 0) = false := bne_eq_false_iff_eq.mpr c10
     clear c10
     simp only [Option.some.injEq, Prod.mk.injEq] at H
     obtain ⟨rfl, rfl, rfl, rfl⟩ := H
     obtain ⟨hcz11_0, hcz11_1, hcz11_2, hfz11_0, hfz11_1, hfz11_2⟩ := bc3 BKA3
     go_wp2
     refine bodyPost_ret (results_ct rfl _ _ gbA3 24 #[.bool false, .slice none 0 0, .slice none 0 0] (0, 0) _ rfl (bp3 BKA3 _ _ _) Try.underlying24 rfl (by kernel_rfl)) rfl ?_
     exact ⟨_, _, er_, by first | exact Kd.R_nil _ _ _ _ _ | exact Kd.N_nil _ _ _ _ _ | exact Kd.V_nil _ _ _ _ _ | exact Kd.Q_nil _ _ _ _ _ | exact Kd.S_nil _ _ _ _ _, by first | exact Kd.R_nil _ _ _ _ _ | exact Kd.N_nil _ _ _ _ _ | exact Kd.V_nil _ _ _ _ _ | exact Kd.Q_nil _ _ _ _ _ | exact Kd.S_nil _ _ _ _ _, blw HB⟩
    ·
     rw [if_neg c10] at H
     have c10b0 : (a1 == 0) = false := beq_eq_false_iff_ne.mpr c10
     have c10b1 : (a1 != 0) = true := bne_iff_ne.mpr c10
     replace H := Option.bind_eq_some_iff.mp H
     obtain ⟨⟨tB5, tC5, tC6⟩, AC2, H⟩ := H
     replace H : ((impl_whole.f kj2 a1).bind fun btA8 => ((impl_Rat_over.f kj2 tB5 tC5 tC6 btA8.1 btA8.2.1 btA8.2.2).bind fun btA6 => (some (btA6.1, btA6.2.1, btA6.2.2, 0)))) = some (r1, r2, r3, r4) := H
     have A12 := Aside0.mk AC2
     clear AC2
     replace H := Option.bind_eq_some_iff.mp H
     obtain ⟨⟨tA8, tC9, tD0⟩, AC3, H⟩ := H
     replace H : ((impl_Rat_over.f kj2 tB5 tC5 tC6 tA8 tC9 tD0).bind fun btA6 => (some (btA6.1, btA6.2.1, btA6.2.2, 0))) = some (r1, r2, r3, r4) := H
     have A13 := Aside0.mk AC3
     clear AC3
     replace H := Option.bind_eq_some_iff.mp H
     obtain ⟨⟨tA6, tD3, tD4⟩, AC4, H⟩ := H
     replace H : (some (tA6, tD3, tD4, 0)) = some (r1, r2, r3, r4) := H
     have A14 := Aside0.mk AC4
     clear AC4
     simp only [Option.some.injEq, Prod.mk.injEq] at H
     obtain ⟨rfl, rfl, rfl, rfl⟩ := H
     go_wp2_with (first | ((with_reducible refine gate_callee (f := 48) rfl ?_); refine gL_ (some 25) Try.func48 #[.int .i64 a0] ?_; (with_reducible refine (impl_whole.calls kj2 a0 tB5 tC5 tC6 _ A12.out).mono ?_); rintro e w15 ⟨vE5, vE6, rfl, ho0, ho1, hb⟩; refine ⟨_, rfl, ?_⟩; have HOB0 := lwR ho0 HB; have HOB1 := lwR ho1 HB; replace BKA3 := bkb BKA3 hb; replace HB := bst HB hb; (try clear hb); (try clear hb2); (try clear hk); (try clear hi); (try clear ho0); (try clear ho1)) | ((with_reducible refine gate_callee (f := 48) rfl ?_); refine gL_ (some 27) Try.func48 #[.int .i64 a1] ?_; (with_reducible refine (impl_whole.calls kj2 a1 tA8 tC9 tD0 _ A13.out).mono ?_); rintro e w16 ⟨vE7, vE8, rfl, ho0, ho1, hb⟩; refine ⟨_, rfl, ?_⟩; have HOB9 := lwR (nwR (nwR ho0 HOB0) HOB1) HB; have HOC0 := lwR (nwR (nwR ho1 HOB0) HOB1) HB; replace HOB0 := tldR HOB0 hb (Kd.R_base ho0) (Kd.R_base ho1); replace HOB1 := tldR HOB1 hb (Kd.R_base ho0) (Kd.R_base ho1); replace BKA3 := bkb BKA3 hb; replace HB := bst HB hb; (try clear hb); (try clear hb2); (try clear hk); (try clear hi); (try clear ho0); (try clear ho1); obtain ⟨Ao17, co17, eo17⟩ := Kd.R_slice HOB0.out; subst eo17; obtain ⟨Ao18, co18, eo18⟩ := Kd.R_slice HOB1.out; subst eo18; obtain ⟨Ao19, co19, eo19⟩ := Kd.R_slice HOB9.out; subst eo19; obtain ⟨Ao20, co20, eo20⟩ := Kd.R_slice HOC0.out; subst eo20) | ((with_reducible refine gate_callee (f := 49) rfl ?_); refine gL_ (some 28) Try.func49 #[.agg #[.bool tB5, .slice Ao17 tC5.length co17, .slice Ao18 tC6.length co18], .agg #[.bool tA8, .slice Ao19 tC9.length co19, .slice Ao20 tD0.length co20]] ?_; (with_reducible refine (impl_Rat_over.calls kj2 tB5 _ _ tC5 _ _ tC6 tA8 _ _ tC9 _ _ tD0 tA6 tD3 tD4 _ ?side1 ?side2 ?side3 ?side4 ?side5 ?side6 ?side7 ?side8 A14.out).mono ?_); (case side1 => exact crC (Kd.R_reads' HOB0.out).2.2); (case side2 => exact (Kd.R_reads' HOB0.out).2.1); (case side3 => exact crC (Kd.R_reads' HOB1.out).2.2); (case side4 => exact (Kd.R_reads' HOB1.out).2.1); (case side5 => exact crC (Kd.R_reads' HOB9.out).2.2); (case side6 => exact (Kd.R_reads' HOB9.out).2.1); (case side7 => exact crC (Kd.R_reads' HOC0.out).2.2); (case side8 => exact (Kd.R_reads' HOC0.out).2.1); rintro e w21 ⟨vE9, vF0, rfl, ho0, ho1, hb⟩; refine ⟨_, rfl, ?_⟩; have HOD7 := lwR (nwR (nwR (nwR (nwR ho0 HOB0) HOB1) HOB9) HOC0) HB; have HOD8 := lwR (nwR (nwR (nwR (nwR ho1 HOB0) HOB1) HOB9) HOC0) HB; replace HOB0 := tldR HOB0 hb (Kd.R_base ho0) (Kd.R_base ho1); replace HOB1 := tldR HOB1 hb (Kd.R_base ho0) (Kd.R_base ho1); replace HOB9 := tldR HOB9 hb (Kd.R_base ho0) (Kd.R_base ho1); replace HOC0 := tldR HOC0 hb (Kd.R_base ho0) (Kd.R_base ho1); replace BKA3 := bkb BKA3 hb; replace HB := bst HB hb; (try clear hb); (try clear hb2); (try clear hk); (try clear hi); (try clear ho0); (try clear ho1); obtain ⟨hcz22_0, hcz22_1, hcz22_2, hfz22_0, hfz22_1, hfz22_2⟩ := bc3 BKA3; obtain ⟨Ao23, co23, eo23⟩ := Kd.R_slice HOD7.out; subst eo23; obtain ⟨Ao24, co24, eo24⟩ := Kd.R_slice HOD8.out; subst eo24))
     refine bodyPost_ret (results_ct rfl _ _ gbA3 24 #[.bool tA6, .slice Ao23 tD3.length co23, .slice Ao24 tD4.length co24] (0, 0) _ rfl (bp3 BKA3 _ _ _) Try.underlying24 rfl (by kernel_rfl)) rfl ?_
     exact ⟨_, _, er_, (crN HOD7 BKA3 fun _ hk => hk.1.1.1.1.1), (crN HOD8 BKA3 fun _ hk => hk.1.1.1.1.1), blw HB⟩

def impl_ofTwo73.f (k : Nat) (a0_0 : Bool) (l0_1 : List Int) (l0_2 : List Int) (a1_0 : Bool) (l1_1 : List Int) (l1_2 : List Int) : Option (Bool × List Int × List Int × Int) := (impl_ratsCode.f k (([(⟨a0_0, l0_1, l0_2⟩ : S24), (⟨a1_0, l1_1, l1_2⟩ : S24)] : List (S24)))).bind fun tA6 => (if tA6 = 0 then ((impl_Rat_times.f k a0_0 l0_1 l0_2 a1_0 l1_1 l1_2).bind fun btA5 => ((impl_fullRat.f btA5.1 btA5.2.1 btA5.2.2).bind fun btA3 => (some (btA3.1, btA3.2.1, btA3.2.2.1, btA3.2.2.2)))) else (some (false, ([] : List Int), ([] : List Int), tA6)))
set_option maxHeartbeats 8000000 in
set_option maxRecDepth 100000 in
theorem impl_ofTwo73.calls (k : Nat) (a0_0 : Bool) (P0_1_ : Nat → Prop) (A0_1 : Option Addr) (c0_1 : Nat) (l0_1 : List Int) (P0_2_ : Nat → Prop) (A0_2 : Option Addr) (c0_2 : Nat) (l0_2 : List Int) (a1_0 : Bool) (P1_1_ : Nat → Prop) (A1_1 : Option Addr) (c1_1 : Nat) (l1_1 : List Int) (P1_2_ : Nat → Prop) (A1_2 : Option Addr) (c1_2 : Nat) (l1_2 : List Int) (r1 : Bool) (r2 : List Int) (r3 : List Int) (r4 : Int) (w : World) (hs0_1 : Kd.V (Kd.int .i64) 3 w w.heap.size (fun k_ => P0_1_ k_) (.slice A0_1 l0_1.length c0_1) l0_1) (hs0_2 : Kd.V (Kd.int .i64) 3 w w.heap.size (fun k_ => P0_2_ k_) (.slice A0_2 l0_2.length c0_2) l0_2) (hs1_1 : Kd.V (Kd.int .i64) 3 w w.heap.size (fun k_ => P1_1_ k_) (.slice A1_1 l1_1.length c1_1) l1_1) (hs1_2 : Kd.V (Kd.int .i64) 3 w w.heap.size (fun k_ => P1_2_ k_) (.slice A1_2 l1_2.length c1_2) l1_2) (h : impl_ofTwo73.f k a0_0 l0_1 l0_2 a1_0 l1_1 l1_2 = some (r1, r2, r3, r4)) :
  Calls Try.prog 72 #[.agg #[.bool a0_0, .slice A0_1 l0_1.length c0_1, .slice A0_2 l0_2.length c0_2], .agg #[.bool a1_0, .slice A1_1 l1_1.length c1_1, .slice A1_2 l1_2.length c1_2], .func (.func 73) #[] #[]] w fun e w' => ∃ v1_ v2_ : Value, e = .returned (.tuple #[.agg #[.bool r1, v1_, v2_], .int .i64 r4]) ∧ Kd.R (Kd.int .i64) 3 w' w.heap.size (fun k_ => (w.heap.size ≤ k_) ∧ nO k_ v2_) v1_ r2 ∧ Kd.R (Kd.int .i64) 3 w' w.heap.size (fun k_ => (w.heap.size ≤ k_) ∧ nO k_ v1_) v2_ r3 ∧ Below w.heap.size w w' := by
 have hu24 := Try.underlying24
 have HO0_1 := Aside0.mk (show Kd.V (Kd.int .i64) 3 w w.heap.size (fun k_ => ((P0_1_ k_ ∨ P0_2_ k_ ∨ P1_1_ k_ ∨ P1_2_ k_) ∨ w.heap.size ≤ k_)) (.slice A0_1 l0_1.length c0_1) l0_1 from Kd.V_mono hs0_1 (fun k_ hk => .inl (.inl hk)))
 have HO0_2 := Aside0.mk (show Kd.V (Kd.int .i64) 3 w w.heap.size (fun k_ => ((P0_1_ k_ ∨ P0_2_ k_ ∨ P1_1_ k_ ∨ P1_2_ k_) ∨ w.heap.size ≤ k_)) (.slice A0_2 l0_2.length c0_2) l0_2 from Kd.V_mono hs0_2 (fun k_ hk => .inl (.inr (.inl hk))))
 have HO1_1 := Aside0.mk (show Kd.V (Kd.int .i64) 3 w w.heap.size (fun k_ => ((P0_1_ k_ ∨ P0_2_ k_ ∨ P1_1_ k_ ∨ P1_2_ k_) ∨ w.heap.size ≤ k_)) (.slice A1_1 l1_1.length c1_1) l1_1 from Kd.V_mono hs1_1 (fun k_ hk => .inl (.inr (.inr (.inl hk)))))
 have HO1_2 := Aside0.mk (show Kd.V (Kd.int .i64) 3 w w.heap.size (fun k_ => ((P0_1_ k_ ∨ P0_2_ k_ ∨ P1_1_ k_ ∨ P1_2_ k_) ∨ w.heap.size ≤ k_)) (.slice A1_2 l1_2.length c1_2) l1_2 from Kd.V_mono hs1_2 (fun k_ hk => .inl (.inr (.inr (.inr hk)))))
 have HB := Aside0.mk (Below.refl w.heap.size w)
 have H : ((impl_ratsCode.f k (([(⟨a0_0, l0_1, l0_2⟩ : S24), (⟨a1_0, l1_1, l1_2⟩ : S24)] : List (S24)))).bind fun tA6 => (if tA6 = 0 then ((impl_Rat_times.f k a0_0 l0_1 l0_2 a1_0 l1_1 l1_2).bind fun btA5 => ((impl_fullRat.f btA5.1 btA5.2.1 btA5.2.2).bind fun btA3 => (some (btA3.1, btA3.2.1, btA3.2.2.1, btA3.2.2.2)))) else (some (false, ([] : List Int), ([] : List Int), tA6)))) = some (r1, r2, r3, r4) := h
 clear h
 obtain ⟨yB0, hy964⟩ : ∃ y_ : List (S24), y_ = (([(⟨a0_0, l0_1, l0_2⟩ : S24), (⟨a1_0, l1_1, l1_2⟩ : S24)] : List (S24))) := ⟨_, rfl⟩
 replace H : ((impl_ratsCode.f k yB0).bind fun tA6 => (if tA6 = 0 then ((impl_Rat_times.f k a0_0 l0_1 l0_2 a1_0 l1_1 l1_2).bind fun btA5 => ((impl_fullRat.f btA5.1 btA5.2.1 btA5.2.2).bind fun btA3 => (some (btA3.1, btA3.2.1, btA3.2.2.1, btA3.2.2.2)))) else (some (false, ([] : List Int), ([] : List Int), tA6)))) = some (r1, r2, r3, r4) := by subst hy964; first | with_reducible exact H | with_reducible exact (Option.bind_some _ _).symm.trans H | exact H
 have NyB0 := Aside0.mk hy964
 clear hy964
 replace H := Option.bind_eq_some_iff.mp H
 obtain ⟨tA6, A30, H⟩ := H
 replace H : (if tA6 = 0 then ((impl_Rat_times.f k a0_0 l0_1 l0_2 a1_0 l1_1 l1_2).bind fun btA5 => ((impl_fullRat.f btA5.1 btA5.2.1 btA5.2.2).bind fun btA3 => (some (btA3.1, btA3.2.1, btA3.2.2.1, btA3.2.2.2)))) else (some (false, ([] : List Int), ([] : List Int), tA6))) = some (r1, r2, r3, r4) := H
 have A3 := Aside0.mk A30
 clear A30
 by_cases c4 : tA6 = 0
 ·
  rw [if_pos c4] at H
  have c4b0 : (tA6 == 0) = true := beq_iff_eq.mpr c4
  have c4b1 : (tA6 != 0) = false := bne_eq_false_iff_eq.mpr c4
  clear c4
  replace H := Option.bind_eq_some_iff.mp H
  obtain ⟨⟨tA5, tB4, tB5⟩, A50, H⟩ := H
  replace H : ((impl_fullRat.f tA5 tB4 tB5).bind fun btA3 => (some (btA3.1, btA3.2.1, btA3.2.2.1, btA3.2.2.2))) = some (r1, r2, r3, r4) := H
  have A5 := Aside0.mk A50
  clear A50
  replace H := Option.bind_eq_some_iff.mp H
  obtain ⟨⟨tA3, tB8, tB9, tC2⟩, A60, H⟩ := H
  replace H : (some (tA3, tB8, tB9, tC2)) = some (r1, r2, r3, r4) := H
  have A6 := Aside0.mk A60
  clear A60
  simp only [Option.some.injEq, Prod.mk.injEq] at H
  obtain ⟨rfl, rfl, rfl, rfl⟩ := H
  go_enter Try.func72, Try.ntmps72
  go_wp2_with (first | ((with_reducible refine gate_dst (N := 3) rfl ?_); refine bx_ (N := 3) (cs := #[.bool a0_0, .slice A0_1 l0_1.length c0_1, .slice A0_2 l0_2.length c0_2]) (t := 24) ?_; intro gbA0 hg w7 hbox hb; replace HO0_1 := elbV HO0_1 hg hb; replace HO0_2 := elbV HO0_2 hg hb; replace HO1_1 := elbV HO1_1 hg hb; replace HO1_2 := elbV HO1_2 hg hb; have BKA0 := Aside0.mk (hbox); have GWA0 := geh hg HB; have GEA0 := geh hg HB; replace HB := bst HB hb; clear hb hbox hg) | ((with_reducible refine gate_dst (N := 4) rfl ?_); refine bx_ (N := 4) (cs := #[.bool a1_0, .slice A1_1 l1_1.length c1_1, .slice A1_2 l1_2.length c1_2]) (t := 24) ?_; intro gbA1 hg w8 hbox hb; replace HO0_1 := elbV HO0_1 hg hb; replace HO0_2 := elbV HO0_2 hg hb; replace HO1_1 := elbV HO1_1 hg hb; replace HO1_2 := elbV HO1_2 hg hb; have BKA1 := Aside0.mk (hbox); have GWA1 := geh hg HB; have GEA1 := geh hg HB; replace HB := bst HB hb; have NBA0_A1 := nlt hg BKA0; have NBA1_A0 := ngt hg BKA0; replace BKA0 := bkb BKA0 hb; clear hb hbox hg) | ((with_reducible refine gate_dst (N := 6) rfl ?_); refine bx_ (N := 6) (cs := #[.bool false, .slice none 0 0, .slice none 0 0]) (t := 24) ?_; intro gbA2 hg w9 hbox hb; replace HO0_1 := elbV HO0_1 hg hb; replace HO0_2 := elbV HO0_2 hg hb; replace HO1_1 := elbV HO1_1 hg hb; replace HO1_2 := elbV HO1_2 hg hb; have BKA2 := Aside0.mk (hbox); have GWA2 := geh hg HB; have GEA2 := geh hg HB; replace HB := bst HB hb; have NBA0_A2 := nlt hg BKA0; have NBA2_A0 := ngt hg BKA0; replace BKA0 := bkb BKA0 hb; have NBA1_A2 := nlt hg BKA1; have NBA2_A1 := ngt hg BKA1; replace BKA1 := bkb BKA1 hb; clear hb hbox hg; have hnb10 := NBA0_A1.out; have hnc10 := NBA1_A0.out; have hnb11 := NBA0_A2.out; have hnc11 := NBA2_A0.out; obtain ⟨hcz12_0, hcz12_1, hcz12_2, hfz12_0, hfz12_1, hfz12_2⟩ := bc3 BKA0; have hnb13 := NBA1_A2.out; have hnc13 := NBA2_A1.out; obtain ⟨hcz14_0, hcz14_1, hcz14_2, hfz14_0, hfz14_1, hfz14_2⟩ := bc3 BKA1) | ((with_reducible refine gate_dst (N := 11) rfl ?_); refine Kd.N_lit k24 _ 24 ?hg (N' := 11) ?hd (xs := ([(⟨a0_0, l0_1, l0_2⟩ : S24), (⟨a1_0, l1_1, l1_2⟩ : S24)] : List (S24))) (inner := [.bool a0_0, .slice A0_1 l0_1.length c0_1, .slice A0_2 l0_2.length c0_2, .bool a1_0, .slice A1_1 l1_1.length c1_1, .slice A1_2 l1_2.length c1_2]) (ok := (fun k_ => ((P0_1_ k_ ∨ P0_2_ k_ ∨ P1_1_ k_ ∨ P1_2_ k_) ∨ w.heap.size ≤ k_) ∧ k_ ≠ gbA0 ∧ k_ ≠ gbA1 ∧ k_ ≠ gbA2)) (okp := (fun k_ => ((P0_1_ k_ ∨ P0_2_ k_ ∨ P1_1_ k_ ∨ P1_2_ k_) ∨ w.heap.size ≤ k_) ∧ k_ ≠ gbA0 ∧ k_ ≠ gbA1 ∧ k_ ≠ gbA2)) ?hr ?hp (fun _ hk => hk) ((show ∀ k_, w9.heap.size ≤ k_ → (fun k_ => ((P0_1_ k_ ∨ P0_2_ k_ ∨ P1_1_ k_ ∨ P1_2_ k_) ∨ w.heap.size ≤ k_) ∧ k_ ≠ gbA0 ∧ k_ ≠ gbA1 ∧ k_ ≠ gbA2) k_ from fun k_ hk => ⟨(.inr (Nat.le_trans (bsz HB) hk)), Kd.freshB (g := gbA0) (o := .cells #[.bool a0_0, .slice A0_1 l0_1.length c0_1, .slice A0_2 l0_2.length c0_2] 24 (0, 0)) (crb BKA0) k_ hk, Kd.freshB (g := gbA1) (o := .cells #[.bool a1_0, .slice A1_1 l1_1.length c1_1, .slice A1_2 l1_2.length c1_2] 24 (0, 0)) (crb BKA1) k_ hk, Kd.freshB (g := gbA2) (o := .cells #[.bool false, .slice none 0 0, .slice none 0 0] 24 (0, 0)) (crb BKA2) k_ hk⟩) _ (Nat.le_refl _)) (Below.refl _ _) (Nat.le_refl _) (by simp) ?_; (case hd => rfl); (case hg => rfl); (case hr => first | (go_simp; done) | (go_simp; rfl)); (case hp => exact (Reps.c3 (show Kd.FK k24 _ _ (⟨a0_0, l0_1, l0_2⟩ : S24) [.bool a0_0, .slice A0_1 l0_1.length c0_1, .slice A0_2 l0_2.length c0_2] from (k24_mkF _ _ (⟨a0_0, l0_1, l0_2⟩ : S24) (Kd.V_reads' (Kd.V_mono (ok' := (fun k_ => ((P0_1_ k_ ∨ P0_2_ k_ ∨ P1_1_ k_ ∨ P1_2_ k_) ∨ w.heap.size ≤ k_) ∧ k_ ≠ gbA0 ∧ k_ ≠ gbA1 ∧ k_ ≠ gbA2)) (HO0_1.out) (fun k_ hk => ⟨hk.1.1.1, ⟨hk.1.1.2, ⟨hk.1.2, hk.2⟩⟩⟩))).2.1 (Kd.V_F (Kd.V_mono (ok' := (fun k_ => ((P0_1_ k_ ∨ P0_2_ k_ ∨ P1_1_ k_ ∨ P1_2_ k_) ∨ w.heap.size ≤ k_) ∧ k_ ≠ gbA0 ∧ k_ ≠ gbA1 ∧ k_ ≠ gbA2)) (HO0_1.out) (fun k_ hk => ⟨hk.1.1.1, ⟨hk.1.1.2, ⟨hk.1.2, hk.2⟩⟩⟩))) (Kd.V_reads' (Kd.V_mono (ok' := (fun k_ => ((P0_1_ k_ ∨ P0_2_ k_ ∨ P1_1_ k_ ∨ P1_2_ k_) ∨ w.heap.size ≤ k_) ∧ k_ ≠ gbA0 ∧ k_ ≠ gbA1 ∧ k_ ≠ gbA2)) (HO0_2.out) (fun k_ hk => ⟨hk.1.1.1, ⟨hk.1.1.2, ⟨hk.1.2, hk.2⟩⟩⟩))).2.1 (Kd.V_F (Kd.V_mono (ok' := (fun k_ => ((P0_1_ k_ ∨ P0_2_ k_ ∨ P1_1_ k_ ∨ P1_2_ k_) ∨ w.heap.size ≤ k_) ∧ k_ ≠ gbA0 ∧ k_ ≠ gbA1 ∧ k_ ≠ gbA2)) (HO0_2.out) (fun k_ hk => ⟨hk.1.1.1, ⟨hk.1.1.2, ⟨hk.1.2, hk.2⟩⟩⟩))))) (Reps.c3 (show Kd.FK k24 _ _ (⟨a1_0, l1_1, l1_2⟩ : S24) [.bool a1_0, .slice A1_1 l1_1.length c1_1, .slice A1_2 l1_2.length c1_2] from (k24_mkF _ _ (⟨a1_0, l1_1, l1_2⟩ : S24) (Kd.V_reads' (Kd.V_mono (ok' := (fun k_ => ((P0_1_ k_ ∨ P0_2_ k_ ∨ P1_1_ k_ ∨ P1_2_ k_) ∨ w.heap.size ≤ k_) ∧ k_ ≠ gbA0 ∧ k_ ≠ gbA1 ∧ k_ ≠ gbA2)) (HO1_1.out) (fun k_ hk => ⟨hk.1.1.1, ⟨hk.1.1.2, ⟨hk.1.2, hk.2⟩⟩⟩))).2.1 (Kd.V_F (Kd.V_mono (ok' := (fun k_ => ((P0_1_ k_ ∨ P0_2_ k_ ∨ P1_1_ k_ ∨ P1_2_ k_) ∨ w.heap.size ≤ k_) ∧ k_ ≠ gbA0 ∧ k_ ≠ gbA1 ∧ k_ ≠ gbA2)) (HO1_1.out) (fun k_ hk => ⟨hk.1.1.1, ⟨hk.1.1.2, ⟨hk.1.2, hk.2⟩⟩⟩))) (Kd.V_reads' (Kd.V_mono (ok' := (fun k_ => ((P0_1_ k_ ∨ P0_2_ k_ ∨ P1_1_ k_ ∨ P1_2_ k_) ∨ w.heap.size ≤ k_) ∧ k_ ≠ gbA0 ∧ k_ ≠ gbA1 ∧ k_ ≠ gbA2)) (HO1_2.out) (fun k_ hk => ⟨hk.1.1.1, ⟨hk.1.1.2, ⟨hk.1.2, hk.2⟩⟩⟩))).2.1 (Kd.V_F (Kd.V_mono (ok' := (fun k_ => ((P0_1_ k_ ∨ P0_2_ k_ ∨ P1_1_ k_ ∨ P1_2_ k_) ∨ w.heap.size ≤ k_) ∧ k_ ≠ gbA0 ∧ k_ ≠ gbA1 ∧ k_ ≠ gbA2)) (HO1_2.out) (fun k_ hk => ⟨hk.1.1.1, ⟨hk.1.1.2, ⟨hk.1.2, hk.2⟩⟩⟩))))) (Reps.none _ _)))); intro vC8 w15 ho16 hb hg_ hnew_; clear hg_ hnew_; (first | rw [← NyB0.out] at ho16 | (simp only [Int.reduceToNat] at ho16; rw [← NyB0.out] at ho16)); replace HO0_1 := eldV HO0_1 (Kd.N_base ho16) hb; replace HO0_2 := eldV HO0_2 (Kd.N_base ho16) hb; replace HO1_1 := eldV HO1_1 (Kd.N_base ho16) hb; replace HO1_2 := eldV HO1_2 (Kd.N_base ho16) hb; have HOA9 := Aside0.mk (Kd.N_lower ho16 (bsz HB)); replace BKA0 := bkb BKA0 hb; replace BKA1 := bkb BKA1 hb; replace BKA2 := bkb BKA2 hb; replace HB := bst HB hb; clear hb ho16; obtain ⟨Ao17, co17, eo17⟩ := Kd.N_slice HOA9.out; subst eo17) | ((with_reducible refine gate_callee (f := 65) rfl ?_); refine gL_ (some 12) Try.func65 #[.slice Ao17 yB0.length co17] ?_; (with_reducible refine (impl_ratsCode.calls k _ _ yB0 tA6 _ ?side1 ?side2 A3.out).mono ?_); (case side1 => exact crC (Kd.N_reads' HOA9.out).2.2); (case side2 => exact (Kd.N_reads' HOA9.out).2.1); rintro e w18 ⟨rfl, hb⟩; refine ⟨_, rfl, ?_⟩; replace HO0_1 := rblV HO0_1 hb; replace HO0_2 := rblV HO0_2 hb; replace HO1_1 := rblV HO1_1 hb; replace HO1_2 := rblV HO1_2 hb; replace HOA9 := Aside0.mk (Kd.N_below (by (with_reducible repeat (first | apply Kd.N_alloc | apply Kd.N_drewN | apply Kd.N_drew)); exact HOA9.out) hb); replace BKA0 := bkb BKA0 hb; replace BKA1 := bkb BKA1 hb; replace BKA2 := bkb BKA2 hb; replace HB := bst HB hb; (try clear hb); (try clear hb2); (try clear hk); (try clear hi); obtain ⟨hcz19_0, hcz19_1, hcz19_2, hfz19_0, hfz19_1, hfz19_2⟩ := bc3 BKA0; obtain ⟨hcz20_0, hcz20_1, hcz20_2, hfz20_0, hfz20_1, hfz20_2⟩ := bc3 BKA1) | (refine goesD_ (some 20) rfl rfl Try.func73 (by kernel_rfl) rfl #[.agg #[.bool a0_0, .slice A0_1 l0_1.length c0_1, .slice A0_2 l0_2.length c0_2], .agg #[.bool a1_0, .slice A1_1 l1_1.length c1_1, .slice A1_2 l1_2.length c1_2]] rfl rfl (by (try simp only [List.map_toArray, List.map_cons, List.map_nil]); first | done | rfl | (simp only [List.length_drop, List.length_take]; rfl)) ?_; (with_reducible refine (impl_Rat_times.calls k a0_0 _ _ l0_1 _ _ l0_2 a1_0 _ _ l1_1 _ _ l1_2 tA5 tB4 tB5 _ ?side1 ?side2 ?side3 ?side4 ?side5 ?side6 ?side7 ?side8 A5.out).mono ?_); (case side1 => exact crC (Kd.V_reads' HO0_1.out).2.2); (case side2 => exact (Kd.V_reads' HO0_1.out).2.1); (case side3 => exact crC (Kd.V_reads' HO0_2.out).2.2); (case side4 => exact (Kd.V_reads' HO0_2.out).2.1); (case side5 => exact crC (Kd.V_reads' HO1_1.out).2.2); (case side6 => exact (Kd.V_reads' HO1_1.out).2.1); (case side7 => exact crC (Kd.V_reads' HO1_2.out).2.2); (case side8 => exact (Kd.V_reads' HO1_2.out).2.1); rintro e w21 ⟨vD1, vD2, rfl, ho0, ho1, hb⟩; refine ⟨_, rfl, ?_⟩; replace HO0_1 := tldV HO0_1 hb (Kd.R_base ho0) (Kd.R_base ho1); replace HO0_2 := tldV HO0_2 hb (Kd.R_base ho0) (Kd.R_base ho1); replace HO1_1 := tldV HO1_1 hb (Kd.R_base ho0) (Kd.R_base ho1); replace HO1_2 := tldV HO1_2 hb (Kd.R_base ho0) (Kd.R_base ho1); replace HOA9 := Aside0.mk (Kd.N_mono (Kd.N_told (Kd.N_told (Kd.N_old (by (with_reducible repeat (first | apply Kd.N_alloc | apply Kd.N_drewN | apply Kd.N_drew)); exact HOA9.out) hb) (Kd.R_base ho0)) (Kd.R_base ho1)) (fun _ h_ => h_.1)); have HOB2 := lwR (Kd.R_newM (M := fun k_ => (w.heap.size ≤ k_)) ho0 (bsz HB) (fun k_ h_ => h_)) HB; have HOB3 := lwR (Kd.R_newM (M := fun k_ => (w.heap.size ≤ k_)) ho1 (bsz HB) (fun k_ h_ => h_)) HB; replace BKA0 := bkb BKA0 hb; replace BKA1 := bkb BKA1 hb; replace BKA2 := bkb BKA2 hb; replace HB := bst HB hb; (try clear hb); (try clear hb2); (try clear hk); (try clear hi); (try clear ho0); (try clear ho1); obtain ⟨Ao22, co22, eo22⟩ := Kd.R_slice HOB2.out; subst eo22; obtain ⟨Ao23, co23, eo23⟩ := Kd.R_slice HOB3.out; subst eo23) | ((with_reducible refine gate_callee (f := 77) rfl ?_); refine gL_ (some 21) Try.func77 #[.agg #[.bool tA5, .slice Ao22 tB4.length co22, .slice Ao23 tB5.length co23]] ?_; (with_reducible refine (impl_fullRat.calls tA5 (fun k_ => some k_ = (.slice Ao22 tB4.length co22 : Value).ownBlock) (.slice Ao22 tB4.length co22) tB4 (fun k_ => some k_ = (.slice Ao23 tB5.length co23 : Value).ownBlock) (.slice Ao23 tB5.length co23) tB5 tA3 tB8 tB9 tC2 w _ ?side1 ?side2 ?side3 ?side4 ?side5 A6.out).mono ?_); (case side1 => repeat (first | (with_reducible first | exact HB.out | apply below_alloc | apply pw_below_drewN | apply below_drew1 | refine below_set ?_ GEA0.out | refine below_set ?_ GEA1.out | refine below_set ?_ GEA2.out) | exact HB.out)); (case side2 => exact Kd.R_tight rfl HOB2.out); (case side3 => exact fun k_ e_ => (HOB2.out.1 k_ e_.symm).2); (case side4 => exact Kd.R_tight rfl HOB3.out); (case side5 => exact fun k_ e_ => (HOB3.out.1 k_ e_.symm).2); rintro e w24 ⟨vB6, vB7, rfl, ho0, ho1, hb, hkp⟩; refine ⟨_, rfl, ?_⟩; replace HO0_1 := Aside0.mk (Kd.V_mono (ok' := fun k_ => ((P0_1_ k_ ∨ P0_2_ k_ ∨ P1_1_ k_ ∨ P1_2_ k_) ∨ w.heap.size ≤ k_) ∧ nO k_ (.slice Ao17 yB0.length co17) ∧ k_ ≠ gbA0 ∧ k_ ≠ gbA1 ∧ k_ ≠ gbA2 ∧ nO k_ vB6 ∧ nO k_ vB7) (Kd.V_keptB (HO0_1.out) hkp (fun k_ hk_ hs_ => Or.elim hs_ (fun e_ => (hk_.1.2) e_) (fun e_ => (hk_.2) e_))) (fun k_ hk_ => ⟨hk_.1.1.1.1.1.1.1, hk_.1.1.1.2, hk_.1.1.1.1.1.1.2, hk_.1.1.1.1.1.2, hk_.1.1.1.1.2, fun e_ => Or.elim (ho0.1 k_ e_.symm).1 (fun hs_ => hk_.2.1 hs_) (fun hn_ => Nat.not_le.2 hk_.2.2 hn_), fun e_ => Or.elim (ho1.1 k_ e_.symm).1 (fun hs_ => hk_.2.1 hs_) (fun hn_ => Nat.not_le.2 hk_.2.2 hn_)⟩)); replace HO0_2 := Aside0.mk (Kd.V_mono (ok' := fun k_ => ((P0_1_ k_ ∨ P0_2_ k_ ∨ P1_1_ k_ ∨ P1_2_ k_) ∨ w.heap.size ≤ k_) ∧ nO k_ (.slice Ao17 yB0.length co17) ∧ k_ ≠ gbA0 ∧ k_ ≠ gbA1 ∧ k_ ≠ gbA2 ∧ nO k_ vB6 ∧ nO k_ vB7) (Kd.V_keptB (HO0_2.out) hkp (fun k_ hk_ hs_ => Or.elim hs_ (fun e_ => (hk_.1.2) e_) (fun e_ => (hk_.2) e_))) (fun k_ hk_ => ⟨hk_.1.1.1.1.1.1.1, hk_.1.1.1.2, hk_.1.1.1.1.1.1.2, hk_.1.1.1.1.1.2, hk_.1.1.1.1.2, fun e_ => Or.elim (ho0.1 k_ e_.symm).1 (fun hs_ => hk_.2.1 hs_) (fun hn_ => Nat.not_le.2 hk_.2.2 hn_), fun e_ => Or.elim (ho1.1 k_ e_.symm).1 (fun hs_ => hk_.2.1 hs_) (fun hn_ => Nat.not_le.2 hk_.2.2 hn_)⟩)); replace HO1_1 := Aside0.mk (Kd.V_mono (ok' := fun k_ => ((P0_1_ k_ ∨ P0_2_ k_ ∨ P1_1_ k_ ∨ P1_2_ k_) ∨ w.heap.size ≤ k_) ∧ nO k_ (.slice Ao17 yB0.length co17) ∧ k_ ≠ gbA0 ∧ k_ ≠ gbA1 ∧ k_ ≠ gbA2 ∧ nO k_ vB6 ∧ nO k_ vB7) (Kd.V_keptB (HO1_1.out) hkp (fun k_ hk_ hs_ => Or.elim hs_ (fun e_ => (hk_.1.2) e_) (fun e_ => (hk_.2) e_))) (fun k_ hk_ => ⟨hk_.1.1.1.1.1.1.1, hk_.1.1.1.2, hk_.1.1.1.1.1.1.2, hk_.1.1.1.1.1.2, hk_.1.1.1.1.2, fun e_ => Or.elim (ho0.1 k_ e_.symm).1 (fun hs_ => hk_.2.1 hs_) (fun hn_ => Nat.not_le.2 hk_.2.2 hn_), fun e_ => Or.elim (ho1.1 k_ e_.symm).1 (fun hs_ => hk_.2.1 hs_) (fun hn_ => Nat.not_le.2 hk_.2.2 hn_)⟩)); replace HO1_2 := Aside0.mk (Kd.V_mono (ok' := fun k_ => ((P0_1_ k_ ∨ P0_2_ k_ ∨ P1_1_ k_ ∨ P1_2_ k_) ∨ w.heap.size ≤ k_) ∧ nO k_ (.slice Ao17 yB0.length co17) ∧ k_ ≠ gbA0 ∧ k_ ≠ gbA1 ∧ k_ ≠ gbA2 ∧ nO k_ vB6 ∧ nO k_ vB7) (Kd.V_keptB (HO1_2.out) hkp (fun k_ hk_ hs_ => Or.elim hs_ (fun e_ => (hk_.1.2) e_) (fun e_ => (hk_.2) e_))) (fun k_ hk_ => ⟨hk_.1.1.1.1.1.1.1, hk_.1.1.1.2, hk_.1.1.1.1.1.1.2, hk_.1.1.1.1.1.2, hk_.1.1.1.1.2, fun e_ => Or.elim (ho0.1 k_ e_.symm).1 (fun hs_ => hk_.2.1 hs_) (fun hn_ => Nat.not_le.2 hk_.2.2 hn_), fun e_ => Or.elim (ho1.1 k_ e_.symm).1 (fun hs_ => hk_.2.1 hs_) (fun hn_ => Nat.not_le.2 hk_.2.2 hn_)⟩)); replace BKA0 := Aside0.mk (blk_kept (crb BKA0) hkp (fun hs_ => Or.elim hs_ (fun e_ => (fun e_ => (Kd.R_ne HOB2.out BKA0.out (by decide)) e_) e_) (fun e_ => (fun e_ => (Kd.R_ne HOB3.out BKA0.out (by decide)) e_) e_))); replace BKA1 := Aside0.mk (blk_kept (crb BKA1) hkp (fun hs_ => Or.elim hs_ (fun e_ => (fun e_ => (Kd.R_ne HOB2.out BKA1.out (by decide)) e_) e_) (fun e_ => (fun e_ => (Kd.R_ne HOB3.out BKA1.out (by decide)) e_) e_))); replace BKA2 := Aside0.mk (blk_kept (crb BKA2) hkp (fun hs_ => Or.elim hs_ (fun e_ => (fun e_ => (Kd.R_ne HOB2.out BKA2.out (by decide)) e_) e_) (fun e_ => (fun e_ => (Kd.R_ne HOB3.out BKA2.out (by decide)) e_) e_))); replace HOA9 := Aside0.mk (Kd.N_mono (ok' := fun k_ => ((P0_1_ k_ ∨ P0_2_ k_ ∨ P1_1_ k_ ∨ P1_2_ k_) ∨ w.heap.size ≤ k_) ∧ k_ ≠ gbA0 ∧ k_ ≠ gbA1 ∧ k_ ≠ gbA2 ∧ nO k_ vB6 ∧ nO k_ vB7) (Kd.N_keptB (HOA9.out) hkp (fun k_ hk_ hs_ => Or.elim hs_ (fun e_ => (hk_.1.2) e_) (fun e_ => (hk_.2) e_))) (fun k_ hk_ => ⟨hk_.1.1.1.1, hk_.1.1.1.2.1, hk_.1.1.1.2.2.1, hk_.1.1.1.2.2.2, fun e_ => Or.elim (ho0.1 k_ e_.symm).1 (fun hs_ => hk_.2.1 hs_) (fun hn_ => Nat.not_le.2 hk_.2.2 hn_), fun e_ => Or.elim (ho1.1 k_ e_.symm).1 (fun hs_ => hk_.2.1 hs_) (fun hn_ => Nat.not_le.2 hk_.2.2 hn_)⟩)); have HOC3 := Aside0.mk (Kd.R_mono (ok' := fun k_ => (w.heap.size ≤ k_) ∧ nO k_ vB7) ho0 (fun k_ hk_ => ⟨Or.elim hk_.1 (fun hs_ => Or.elim hs_ (fun hs_ => (HOB2.out.1 k_ (hs_).symm).1) (fun hs_ => (HOB3.out.1 k_ (hs_).symm).1)) (fun hn_ => (Nat.le_trans (bsz HB) hn_)), hk_.2⟩)); have HOC4 := Aside0.mk (Kd.R_mono (ok' := fun k_ => (w.heap.size ≤ k_) ∧ nO k_ vB6) ho1 (fun k_ hk_ => ⟨Or.elim hk_.1 (fun hs_ => Or.elim hs_ (fun hs_ => (HOB2.out.1 k_ (hs_).symm).1) (fun hs_ => (HOB3.out.1 k_ (hs_).symm).1)) (fun hn_ => (Nat.le_trans (bsz HB) hn_)), hk_.2⟩)); replace HB := Aside0.mk (hb); clear HOB2 HOB3; (try clear hb); (try clear hkp); (try clear ho0); (try clear ho1); obtain ⟨hcz25_0, hcz25_1, hcz25_2, hfz25_0, hfz25_1, hfz25_2⟩ := bc3 BKA2; obtain ⟨Ao26, co26, eo26⟩ := Kd.R_slice HOC3.out; subst eo26; obtain ⟨Ao27, co27, eo27⟩ := Kd.R_slice HOC4.out; subst eo27))
  refine bodyPost_ret (results_ct rfl _ _ gbA2 24 #[.bool tA3, .slice Ao26 tB8.length co26, .slice Ao27 tB9.length co27] (0, 0) _ rfl (bp3 BKA2 _ _ _) Try.underlying24 rfl (by kernel_rfl)) rfl ?_
  exact ⟨_, _, er_, (crN HOC3 BKA2 fun _ hk => ⟨hk.1.1, hk.1.2⟩), (crN HOC4 BKA2 fun _ hk => ⟨hk.1.1, hk.1.2⟩), blw HB⟩
 ·
  rw [if_neg c4] at H
  have c4b0 : (tA6 == 0) = false := beq_eq_false_iff_ne.mpr c4
  have c4b1 : (tA6 != 0) = true := bne_iff_ne.mpr c4
  simp only [Option.some.injEq, Prod.mk.injEq] at H
  obtain ⟨rfl, rfl, rfl, rfl⟩ := H
  go_enter Try.func72, Try.ntmps72
  go_wp2_with (first | ((with_reducible refine gate_dst (N := 3) rfl ?_); refine bx_ (N := 3) (cs := #[.bool a0_0, .slice A0_1 l0_1.length c0_1, .slice A0_2 l0_2.length c0_2]) (t := 24) ?_; intro gbA0 hg w28 hbox hb; replace HO0_1 := elbV HO0_1 hg hb; replace HO0_2 := elbV HO0_2 hg hb; replace HO1_1 := elbV HO1_1 hg hb; replace HO1_2 := elbV HO1_2 hg hb; have BKA0 := Aside0.mk (hbox); have GWA0 := geh hg HB; have GEA0 := geh hg HB; replace HB := bst HB hb; clear hb hbox hg) | ((with_reducible refine gate_dst (N := 4) rfl ?_); refine bx_ (N := 4) (cs := #[.bool a1_0, .slice A1_1 l1_1.length c1_1, .slice A1_2 l1_2.length c1_2]) (t := 24) ?_; intro gbA1 hg w29 hbox hb; replace HO0_1 := elbV HO0_1 hg hb; replace HO0_2 := elbV HO0_2 hg hb; replace HO1_1 := elbV HO1_1 hg hb; replace HO1_2 := elbV HO1_2 hg hb; have BKA1 := Aside0.mk (hbox); have GWA1 := geh hg HB; have GEA1 := geh hg HB; replace HB := bst HB hb; have NBA0_A1 := nlt hg BKA0; have NBA1_A0 := ngt hg BKA0; replace BKA0 := bkb BKA0 hb; clear hb hbox hg) | ((with_reducible refine gate_dst (N := 6) rfl ?_); refine bx_ (N := 6) (cs := #[.bool false, .slice none 0 0, .slice none 0 0]) (t := 24) ?_; intro gbA2 hg w30 hbox hb; replace HO0_1 := elbV HO0_1 hg hb; replace HO0_2 := elbV HO0_2 hg hb; replace HO1_1 := elbV HO1_1 hg hb; replace HO1_2 := elbV HO1_2 hg hb; have BKA2 := Aside0.mk (hbox); have GWA2 := geh hg HB; have GEA2 := geh hg HB; replace HB := bst HB hb; have NBA0_A2 := nlt hg BKA0; have NBA2_A0 := ngt hg BKA0; replace BKA0 := bkb BKA0 hb; have NBA1_A2 := nlt hg BKA1; have NBA2_A1 := ngt hg BKA1; replace BKA1 := bkb BKA1 hb; clear hb hbox hg; have hnb31 := NBA0_A1.out; have hnc31 := NBA1_A0.out; have hnb32 := NBA0_A2.out; have hnc32 := NBA2_A0.out; obtain ⟨hcz33_0, hcz33_1, hcz33_2, hfz33_0, hfz33_1, hfz33_2⟩ := bc3 BKA0; have hnb34 := NBA1_A2.out; have hnc34 := NBA2_A1.out; obtain ⟨hcz35_0, hcz35_1, hcz35_2, hfz35_0, hfz35_1, hfz35_2⟩ := bc3 BKA1) | ((with_reducible refine gate_dst (N := 11) rfl ?_); refine Kd.N_lit k24 _ 24 ?hg (N' := 11) ?hd (xs := ([(⟨a0_0, l0_1, l0_2⟩ : S24), (⟨a1_0, l1_1, l1_2⟩ : S24)] : List (S24))) (inner := [.bool a0_0, .slice A0_1 l0_1.length c0_1, .slice A0_2 l0_2.length c0_2, .bool a1_0, .slice A1_1 l1_1.length c1_1, .slice A1_2 l1_2.length c1_2]) (ok := (fun k_ => ((P0_1_ k_ ∨ P0_2_ k_ ∨ P1_1_ k_ ∨ P1_2_ k_) ∨ w.heap.size ≤ k_) ∧ k_ ≠ gbA0 ∧ k_ ≠ gbA1 ∧ k_ ≠ gbA2)) (okp := (fun k_ => ((P0_1_ k_ ∨ P0_2_ k_ ∨ P1_1_ k_ ∨ P1_2_ k_) ∨ w.heap.size ≤ k_) ∧ k_ ≠ gbA0 ∧ k_ ≠ gbA1 ∧ k_ ≠ gbA2)) ?hr ?hp (fun _ hk => hk) ((show ∀ k_, w30.heap.size ≤ k_ → (fun k_ => ((P0_1_ k_ ∨ P0_2_ k_ ∨ P1_1_ k_ ∨ P1_2_ k_) ∨ w.heap.size ≤ k_) ∧ k_ ≠ gbA0 ∧ k_ ≠ gbA1 ∧ k_ ≠ gbA2) k_ from fun k_ hk => ⟨(.inr (Nat.le_trans (bsz HB) hk)), Kd.freshB (g := gbA0) (o := .cells #[.bool a0_0, .slice A0_1 l0_1.length c0_1, .slice A0_2 l0_2.length c0_2] 24 (0, 0)) (crb BKA0) k_ hk, Kd.freshB (g := gbA1) (o := .cells #[.bool a1_0, .slice A1_1 l1_1.length c1_1, .slice A1_2 l1_2.length c1_2] 24 (0, 0)) (crb BKA1) k_ hk, Kd.freshB (g := gbA2) (o := .cells #[.bool false, .slice none 0 0, .slice none 0 0] 24 (0, 0)) (crb BKA2) k_ hk⟩) _ (Nat.le_refl _)) (Below.refl _ _) (Nat.le_refl _) (by simp) ?_; (case hd => rfl); (case hg => rfl); (case hr => first | (go_simp; done) | (go_simp; rfl)); (case hp => exact (Reps.c3 (show Kd.FK k24 _ _ (⟨a0_0, l0_1, l0_2⟩ : S24) [.bool a0_0, .slice A0_1 l0_1.length c0_1, .slice A0_2 l0_2.length c0_2] from (k24_mkF _ _ (⟨a0_0, l0_1, l0_2⟩ : S24) (Kd.V_reads' (Kd.V_mono (ok' := (fun k_ => ((P0_1_ k_ ∨ P0_2_ k_ ∨ P1_1_ k_ ∨ P1_2_ k_) ∨ w.heap.size ≤ k_) ∧ k_ ≠ gbA0 ∧ k_ ≠ gbA1 ∧ k_ ≠ gbA2)) (HO0_1.out) (fun k_ hk => ⟨hk.1.1.1, ⟨hk.1.1.2, ⟨hk.1.2, hk.2⟩⟩⟩))).2.1 (Kd.V_F (Kd.V_mono (ok' := (fun k_ => ((P0_1_ k_ ∨ P0_2_ k_ ∨ P1_1_ k_ ∨ P1_2_ k_) ∨ w.heap.size ≤ k_) ∧ k_ ≠ gbA0 ∧ k_ ≠ gbA1 ∧ k_ ≠ gbA2)) (HO0_1.out) (fun k_ hk => ⟨hk.1.1.1, ⟨hk.1.1.2, ⟨hk.1.2, hk.2⟩⟩⟩))) (Kd.V_reads' (Kd.V_mono (ok' := (fun k_ => ((P0_1_ k_ ∨ P0_2_ k_ ∨ P1_1_ k_ ∨ P1_2_ k_) ∨ w.heap.size ≤ k_) ∧ k_ ≠ gbA0 ∧ k_ ≠ gbA1 ∧ k_ ≠ gbA2)) (HO0_2.out) (fun k_ hk => ⟨hk.1.1.1, ⟨hk.1.1.2, ⟨hk.1.2, hk.2⟩⟩⟩))).2.1 (Kd.V_F (Kd.V_mono (ok' := (fun k_ => ((P0_1_ k_ ∨ P0_2_ k_ ∨ P1_1_ k_ ∨ P1_2_ k_) ∨ w.heap.size ≤ k_) ∧ k_ ≠ gbA0 ∧ k_ ≠ gbA1 ∧ k_ ≠ gbA2)) (HO0_2.out) (fun k_ hk => ⟨hk.1.1.1, ⟨hk.1.1.2, ⟨hk.1.2, hk.2⟩⟩⟩))))) (Reps.c3 (show Kd.FK k24 _ _ (⟨a1_0, l1_1, l1_2⟩ : S24) [.bool a1_0, .slice A1_1 l1_1.length c1_1, .slice A1_2 l1_2.length c1_2] from (k24_mkF _ _ (⟨a1_0, l1_1, l1_2⟩ : S24) (Kd.V_reads' (Kd.V_mono (ok' := (fun k_ => ((P0_1_ k_ ∨ P0_2_ k_ ∨ P1_1_ k_ ∨ P1_2_ k_) ∨ w.heap.size ≤ k_) ∧ k_ ≠ gbA0 ∧ k_ ≠ gbA1 ∧ k_ ≠ gbA2)) (HO1_1.out) (fun k_ hk => ⟨hk.1.1.1, ⟨hk.1.1.2, ⟨hk.1.2, hk.2⟩⟩⟩))).2.1 (Kd.V_F (Kd.V_mono (ok' := (fun k_ => ((P0_1_ k_ ∨ P0_2_ k_ ∨ P1_1_ k_ ∨ P1_2_ k_) ∨ w.heap.size ≤ k_) ∧ k_ ≠ gbA0 ∧ k_ ≠ gbA1 ∧ k_ ≠ gbA2)) (HO1_1.out) (fun k_ hk => ⟨hk.1.1.1, ⟨hk.1.1.2, ⟨hk.1.2, hk.2⟩⟩⟩))) (Kd.V_reads' (Kd.V_mono (ok' := (fun k_ => ((P0_1_ k_ ∨ P0_2_ k_ ∨ P1_1_ k_ ∨ P1_2_ k_) ∨ w.heap.size ≤ k_) ∧ k_ ≠ gbA0 ∧ k_ ≠ gbA1 ∧ k_ ≠ gbA2)) (HO1_2.out) (fun k_ hk => ⟨hk.1.1.1, ⟨hk.1.1.2, ⟨hk.1.2, hk.2⟩⟩⟩))).2.1 (Kd.V_F (Kd.V_mono (ok' := (fun k_ => ((P0_1_ k_ ∨ P0_2_ k_ ∨ P1_1_ k_ ∨ P1_2_ k_) ∨ w.heap.size ≤ k_) ∧ k_ ≠ gbA0 ∧ k_ ≠ gbA1 ∧ k_ ≠ gbA2)) (HO1_2.out) (fun k_ hk => ⟨hk.1.1.1, ⟨hk.1.1.2, ⟨hk.1.2, hk.2⟩⟩⟩))))) (Reps.none _ _)))); intro vC8 w36 ho37 hb hg_ hnew_; clear hg_ hnew_; (first | rw [← NyB0.out] at ho37 | (simp only [Int.reduceToNat] at ho37; rw [← NyB0.out] at ho37)); replace HO0_1 := eldV HO0_1 (Kd.N_base ho37) hb; replace HO0_2 := eldV HO0_2 (Kd.N_base ho37) hb; replace HO1_1 := eldV HO1_1 (Kd.N_base ho37) hb; replace HO1_2 := eldV HO1_2 (Kd.N_base ho37) hb; have HOA9 := Aside0.mk (Kd.N_lower ho37 (bsz HB)); replace BKA0 := bkb BKA0 hb; replace BKA1 := bkb BKA1 hb; replace BKA2 := bkb BKA2 hb; replace HB := bst HB hb; clear hb ho37; obtain ⟨Ao38, co38, eo38⟩ := Kd.N_slice HOA9.out; subst eo38) | ((with_reducible refine gate_callee (f := 65) rfl ?_); refine gL_ (some 12) Try.func65 #[.slice Ao38 yB0.length co38] ?_; (with_reducible refine (impl_ratsCode.calls k _ _ yB0 tA6 _ ?side1 ?side2 A3.out).mono ?_); (case side1 => exact crC (Kd.N_reads' HOA9.out).2.2); (case side2 => exact (Kd.N_reads' HOA9.out).2.1); rintro e w39 ⟨rfl, hb⟩; refine ⟨_, rfl, ?_⟩; replace HO0_1 := rblV HO0_1 hb; replace HO0_2 := rblV HO0_2 hb; replace HO1_1 := rblV HO1_1 hb; replace HO1_2 := rblV HO1_2 hb; replace HOA9 := Aside0.mk (Kd.N_below (by (with_reducible repeat (first | apply Kd.N_alloc | apply Kd.N_drewN | apply Kd.N_drew)); exact HOA9.out) hb); replace BKA0 := bkb BKA0 hb; replace BKA1 := bkb BKA1 hb; replace BKA2 := bkb BKA2 hb; replace HB := bst HB hb; (try clear hb); (try clear hb2); (try clear hk); (try clear hi); obtain ⟨hcz40_0, hcz40_1, hcz40_2, hfz40_0, hfz40_1, hfz40_2⟩ := bc3 BKA2))
  refine bodyPost_ret (results_ct rfl _ _ gbA2 24 #[.bool false, .slice none 0 0, .slice none 0 0] (0, 0) _ rfl (bp3 BKA2 _ _ _) Try.underlying24 rfl (by kernel_rfl)) rfl ?_
  exact ⟨_, _, er_, by first | exact Kd.R_nil _ _ _ _ _ | exact Kd.N_nil _ _ _ _ _ | exact Kd.V_nil _ _ _ _ _ | exact Kd.Q_nil _ _ _ _ _ | exact Kd.S_nil _ _ _ _ _, by first | exact Kd.R_nil _ _ _ _ _ | exact Kd.N_nil _ _ _ _ _ | exact Kd.V_nil _ _ _ _ _ | exact Kd.Q_nil _ _ _ _ _ | exact Kd.S_nil _ _ _ _ _, blw HB⟩
def impl_MulRat.f (k : Nat) (a0_0 : Bool) (l0_1 : List Int) (l0_2 : List Int) (a1_0 : Bool) (l1_1 : List Int) (l1_2 : List Int) : Option (Bool × List Int × List Int × Int) := (impl_ofTwo73.f k a0_0 l0_1 l0_2 a1_0 l1_1 l1_2).bind fun btB1 => (some (btB1.1, btB1.2.1, btB1.2.2.1, btB1.2.2.2))
set_option maxHeartbeats 8000000 in
set_option maxRecDepth 100000 in
theorem impl_MulRat.calls (k : Nat) (a0_0 : Bool) (A0_1 : Option Addr) (c0_1 : Nat) (l0_1 : List Int) (A0_2 : Option Addr) (c0_2 : Nat) (l0_2 : List Int) (a1_0 : Bool) (A1_1 : Option Addr) (c1_1 : Nat) (l1_1 : List Int) (A1_2 : Option Addr) (c1_2 : Nat) (l1_2 : List Int) (r1 : Bool) (r2 : List Int) (r3 : List Int) (r4 : Int) (w : World) (hr0_1 : Kd.C (Kd.int .i64) w A0_1 l0_1.length l0_1) (hc0_1 : l0_1.length ≤ c0_1) (hr0_2 : Kd.C (Kd.int .i64) w A0_2 l0_2.length l0_2) (hc0_2 : l0_2.length ≤ c0_2) (hr1_1 : Kd.C (Kd.int .i64) w A1_1 l1_1.length l1_1) (hc1_1 : l1_1.length ≤ c1_1) (hr1_2 : Kd.C (Kd.int .i64) w A1_2 l1_2.length l1_2) (hc1_2 : l1_2.length ≤ c1_2) (h : impl_MulRat.f k a0_0 l0_1 l0_2 a1_0 l1_1 l1_2 = some (r1, r2, r3, r4)) :
  Calls Try.prog 29 #[.agg #[.bool a0_0, .slice A0_1 l0_1.length c0_1, .slice A0_2 l0_2.length c0_2], .agg #[.bool a1_0, .slice A1_1 l1_1.length c1_1, .slice A1_2 l1_2.length c1_2]] w fun e w' => ∃ v1_ v2_ : Value, e = .returned (.tuple #[.agg #[.bool r1, v1_, v2_], .int .i64 r4]) ∧ Kd.R (Kd.int .i64) 3 w' w.heap.size (fun k_ => nO k_ v2_) v1_ r2 ∧ Kd.R (Kd.int .i64) 3 w' w.heap.size (fun k_ => nO k_ v1_) v2_ r3 ∧ Below w.heap.size w w' := by
 have hu24 := Try.underlying24
 have HR0_1 := Aside0.mk hr0_1
 have HC0_1 := Aside0.mk hc0_1
 clear hr0_1 hc0_1
 have HR0_2 := Aside0.mk hr0_2
 have HC0_2 := Aside0.mk hc0_2
 clear hr0_2 hc0_2
 have HR1_1 := Aside0.mk hr1_1
 have HC1_1 := Aside0.mk hc1_1
 clear hr1_1 hc1_1
 have HR1_2 := Aside0.mk hr1_2
 have HC1_2 := Aside0.mk hc1_2
 clear hr1_2 hc1_2
 have HB := Aside0.mk (Below.refl w.heap.size w)
 have H : ((impl_ofTwo73.f k a0_0 l0_1 l0_2 a1_0 l1_1 l1_2).bind fun btB1 => (some (btB1.1, btB1.2.1, btB1.2.2.1, btB1.2.2.2))) = some (r1, r2, r3, r4) := h
 clear h
 replace H := Option.bind_eq_some_iff.mp H
 obtain ⟨⟨tB1, tC0, tC1, tC5⟩, A30, H⟩ := H
 replace H : (some (tB1, tC0, tC1, tC5)) = some (r1, r2, r3, r4) := H
 have A3 := Aside0.mk A30
 clear A30
 simp only [Option.some.injEq, Prod.mk.injEq] at H
 obtain ⟨rfl, rfl, rfl, rfl⟩ := H
 go_enter Try.func29, Try.ntmps29
 go_wp2_with (first | ((with_reducible refine gate_dst (N := 2) rfl ?_); refine bx_ (N := 2) (cs := #[.bool a0_0, .slice A0_1 l0_1.length c0_1, .slice A0_2 l0_2.length c0_2]) (t := 24) ?_; intro gbA4 hg w4 hbox hb; have BKA4 := Aside0.mk (hbox); have GWA4 := geh hg HB; have GEA4 := geh hg HB; replace HB := bst HB hb; clear hb hbox hg) | ((with_reducible refine gate_dst (N := 3) rfl ?_); refine bx_ (N := 3) (cs := #[.bool a1_0, .slice A1_1 l1_1.length c1_1, .slice A1_2 l1_2.length c1_2]) (t := 24) ?_; intro gbA7 hg w5 hbox hb; have BKA7 := Aside0.mk (hbox); have GWA7 := geh hg HB; have GEA7 := geh hg HB; replace HB := bst HB hb; have NBA4_A7 := nlt hg BKA4; have NBA7_A4 := ngt hg BKA4; replace BKA4 := bkb BKA4 hb; clear hb hbox hg) | ((with_reducible refine gate_dst (N := 4) rfl ?_); refine bx_ (N := 4) (cs := #[.bool false, .slice none 0 0, .slice none 0 0]) (t := 24) ?_; intro gbA8 hg w6 hbox hb; have BKA8 := Aside0.mk (hbox); have GWA8 := geh hg HB; have GEA8 := geh hg HB; replace HB := bst HB hb; have NBA4_A8 := nlt hg BKA4; have NBA8_A4 := ngt hg BKA4; replace BKA4 := bkb BKA4 hb; have NBA7_A8 := nlt hg BKA7; have NBA8_A7 := ngt hg BKA7; replace BKA7 := bkb BKA7 hb; clear hb hbox hg; have hnb7 := NBA4_A7.out; have hnc7 := NBA7_A4.out; have hnb8 := NBA4_A8.out; have hnc8 := NBA8_A4.out; obtain ⟨hcz9_0, hcz9_1, hcz9_2, hfz9_0, hfz9_1, hfz9_2⟩ := bc3 BKA4; have hnb10 := NBA7_A8.out; have hnc10 := NBA8_A7.out; obtain ⟨hcz11_0, hcz11_1, hcz11_2, hfz11_0, hfz11_1, hfz11_2⟩ := bc3 BKA7) | ((with_reducible refine gate_callee (f := 72) rfl ?_); refine gL_ (some 8) Try.func72 #[.agg #[.bool a0_0, .slice A0_1 l0_1.length c0_1, .slice A0_2 l0_2.length c0_2], .agg #[.bool a1_0, .slice A1_1 l1_1.length c1_1, .slice A1_2 l1_2.length c1_2], .func (.func 73) #[] #[]] ?_; (with_reducible refine (impl_ofTwo73.calls k a0_0 (fun k_ => k_ < w.heap.size) _ _ l0_1 (fun k_ => k_ < w.heap.size) _ _ l0_2 a1_0 (fun k_ => k_ < w.heap.size) _ _ l1_1 (fun k_ => k_ < w.heap.size) _ _ l1_2 tB1 tC0 tC1 tC5 _ ?side1 ?side2 ?side3 ?side4 A3.out).mono ?_); (case side1 => exact Kd.V_mk HC0_1.out (Kd.F_below (Kd.C_F (Kd.heap_int .i64) HR0_1.out) (blw HB))); (case side2 => exact Kd.V_mk HC0_2.out (Kd.F_below (Kd.C_F (Kd.heap_int .i64) HR0_2.out) (blw HB))); (case side3 => exact Kd.V_mk HC1_1.out (Kd.F_below (Kd.C_F (Kd.heap_int .i64) HR1_1.out) (blw HB))); (case side4 => exact Kd.V_mk HC1_2.out (Kd.F_below (Kd.C_F (Kd.heap_int .i64) HR1_2.out) (blw HB))); rintro e w12 ⟨vC9, vD0, rfl, ho0, ho1, hb⟩; refine ⟨_, rfl, ?_⟩; have HOC6 := lwR (Kd.R_mono (ok' := fun k_ => nO k_ vD0) ho0 (fun _ hk_ => hk_.2)) HB; have HOC7 := lwR (Kd.R_mono (ok' := fun k_ => nO k_ vC9) ho1 (fun _ hk_ => hk_.2)) HB; replace BKA4 := bkb BKA4 hb; replace BKA7 := bkb BKA7 hb; replace BKA8 := bkb BKA8 hb; replace HB := bst HB hb; (try clear hb); (try clear hb2); (try clear hk); (try clear hi); (try clear ho0); (try clear ho1); obtain ⟨hcz13_0, hcz13_1, hcz13_2, hfz13_0, hfz13_1, hfz13_2⟩ := bc3 BKA8; obtain ⟨Ao14, co14, eo14⟩ := Kd.R_slice HOC6.out; subst eo14; obtain ⟨Ao15, co15, eo15⟩ := Kd.R_slice HOC7.out; subst eo15))
 refine bodyPost_ret (results_ct rfl _ _ gbA8 24 #[.bool tB1, .slice Ao14 tC0.length co14, .slice Ao15 tC1.length co15] (0, 0) _ rfl (bp3 BKA8 _ _ _) Try.underlying24 rfl (by kernel_rfl)) rfl ?_
 exact ⟨_, _, er_, (crN HOC6 BKA8 fun _ hk => hk.1), (crN HOC7 BKA8 fun _ hk => hk.1), blw HB⟩

def impl_PowRat.j0 : Nat → Int → Int → Bool → List Int → List Int → Option (Bool × List Int × List Int × Int)
 | 0, _, _, _, _, _ => none
 | k + 1, x1, x6, x972000, x972001, x972002 => if x6 = 0 then ((impl_Rat_pow.f k x972000 x972001 x972002 x1).bind fun btB0 => ((impl_fullRat.f btB0.1 btB0.2.1 btB0.2.2).bind fun btA8 => (some (btA8.1, btA8.2.1, btA8.2.2.1, btA8.2.2.2)))) else (some (false, ([] : List Int), ([] : List Int), x6))
def impl_PowRat.f (k : Nat) (a0_0 : Bool) (l0_1 : List Int) (l0_2 : List Int) (a1 : Int) : Option (Bool × List Int × List Int × Int) := (impl_ratsCode.f k (([(⟨a0_0, l0_1, l0_2⟩ : S24)] : List (S24)))).bind fun tA2 => (if 0 ≤ a1 then ((impl_unless.f (decide (a1 ≤ 8)) 4).bind fun tA3 => ((impl_first.f k (([tA2, tA3] : List Int))).bind fun tA4 => (impl_PowRat.j0 k a1 tA4 a0_0 l0_1 l0_2))) else ((impl_unless.f false 4).bind fun tA5 => ((impl_first.f k (([tA2, tA5] : List Int))).bind fun tA6 => (impl_PowRat.j0 k a1 tA6 a0_0 l0_1 l0_2))))
set_option maxHeartbeats 8000000 in
set_option maxRecDepth 100000 in
theorem impl_PowRat.calls (k : Nat) (a0_0 : Bool) (P0_1_ : Nat → Prop) (A0_1 : Option Addr) (c0_1 : Nat) (l0_1 : List Int) (P0_2_ : Nat → Prop) (A0_2 : Option Addr) (c0_2 : Nat) (l0_2 : List Int) (a1 : Int) (r1 : Bool) (r2 : List Int) (r3 : List Int) (r4 : Int) (w : World) (hs0_1 : Kd.V (Kd.int .i64) 3 w w.heap.size (fun k_ => P0_1_ k_) (.slice A0_1 l0_1.length c0_1) l0_1) (hs0_2 : Kd.V (Kd.int .i64) 3 w w.heap.size (fun k_ => P0_2_ k_) (.slice A0_2 l0_2.length c0_2) l0_2) (h : impl_PowRat.f k a0_0 l0_1 l0_2 a1 = some (r1, r2, r3, r4)) :
  Calls Try.prog 35 #[.agg #[.bool a0_0, .slice A0_1 l0_1.length c0_1, .slice A0_2 l0_2.length c0_2], .int .i64 a1] w fun e w' => ∃ v1_ v2_ : Value, e = .returned (.tuple #[.agg #[.bool r1, v1_, v2_], .int .i64 r4]) ∧ Kd.R (Kd.int .i64) 3 w' w.heap.size (fun k_ => (w.heap.size ≤ k_) ∧ nO k_ v2_) v1_ r2 ∧ Kd.R (Kd.int .i64) 3 w' w.heap.size (fun k_ => (w.heap.size ≤ k_) ∧ nO k_ v1_) v2_ r3 ∧ Below w.heap.size w w' := by
 have hu24 := Try.underlying24
 have HO0_1 := Aside0.mk (show Kd.V (Kd.int .i64) 3 w w.heap.size (fun k_ => ((P0_1_ k_ ∨ P0_2_ k_) ∨ w.heap.size ≤ k_)) (.slice A0_1 l0_1.length c0_1) l0_1 from Kd.V_mono hs0_1 (fun k_ hk => .inl (.inl hk)))
 have HO0_2 := Aside0.mk (show Kd.V (Kd.int .i64) 3 w w.heap.size (fun k_ => ((P0_1_ k_ ∨ P0_2_ k_) ∨ w.heap.size ≤ k_)) (.slice A0_2 l0_2.length c0_2) l0_2 from Kd.V_mono hs0_2 (fun k_ hk => .inl (.inr hk)))
 have HB := Aside0.mk (Below.refl w.heap.size w)
 have H : ((impl_ratsCode.f k (([(⟨a0_0, l0_1, l0_2⟩ : S24)] : List (S24)))).bind fun tA2 => (if 0 ≤ a1 then ((impl_unless.f (decide (a1 ≤ 8)) 4).bind fun tA3 => ((impl_first.f k (([tA2, tA3] : List Int))).bind fun tA4 => (impl_PowRat.j0 k a1 tA4 a0_0 l0_1 l0_2))) else ((impl_unless.f false 4).bind fun tA5 => ((impl_first.f k (([tA2, tA5] : List Int))).bind fun tA6 => (impl_PowRat.j0 k a1 tA6 a0_0 l0_1 l0_2))))) = some (r1, r2, r3, r4) := h
 clear h
 have HC3 := Aside0.mk H
 clear H
 go_enter Try.func35, Try.ntmps35
 go_upto_region 1 with (first | ((with_reducible refine gate_dst (N := 2) rfl ?_); refine bx_ (N := 2) (cs := #[.bool a0_0, .slice A0_1 l0_1.length c0_1, .slice A0_2 l0_2.length c0_2]) (t := 24) ?_; intro gbA1 hg w4 hbox hb; replace HO0_1 := elbV HO0_1 hg hb; replace HO0_2 := elbV HO0_2 hg hb; have BKA1 := Aside0.mk (hbox); have GWA1 := geh hg HB; have GEA1 := geh hg HB; replace HB := bst HB hb; clear hb hbox hg) | ((with_reducible refine gate_dst (N := 4) rfl ?_); refine bx_ (N := 4) (cs := #[.bool false, .slice none 0 0, .slice none 0 0]) (t := 24) ?_; intro gbA0 hg w5 hbox hb; replace HO0_1 := elbV HO0_1 hg hb; replace HO0_2 := elbV HO0_2 hg hb; have BKA0 := Aside0.mk (hbox); have GWA0 := geh hg HB; have GEA0 := geh hg HB; replace HB := bst HB hb; have NBA1_A0 := nlt hg BKA1; have NBA0_A1 := ngt hg BKA1; replace BKA1 := bkb BKA1 hb; clear hb hbox hg))
 (try simp only [Act.put, List.setIfInBounds_toArray, List.set_cons_zero, List.set_cons_succ])
 go_cut [6] (fun v6 wc => ∃ (kq : Nat) (x6_2 : Int), v6 = .int .i64 x6_2 ∧ Aside0 (impl_PowRat.j0 kq a1 x6_2 a0_0 l0_1 l0_2 = some (r1, r2, r3, r4)) ∧ Aside0 (kq ≤ k) ∧ Aside0 (Kd.V (Kd.int .i64) 3 wc w.heap.size (fun k_ => ((P0_1_ k_ ∨ P0_2_ k_) ∨ w.heap.size ≤ k_) ∧ k_ ≠ gbA1 ∧ k_ ≠ gbA0) (.slice A0_1 l0_1.length c0_1) l0_1) ∧ Aside0 (Kd.V (Kd.int .i64) 3 wc w.heap.size (fun k_ => ((P0_1_ k_ ∨ P0_2_ k_) ∨ w.heap.size ≤ k_) ∧ k_ ≠ gbA1 ∧ k_ ≠ gbA0) (.slice A0_2 l0_2.length c0_2) l0_2) ∧ Aside0 (wc.heap[gbA1]? = some (.cells #[.bool a0_0, (.slice A0_1 l0_1.length c0_1), (.slice A0_2 l0_2.length c0_2)] 24 (0, 0))) ∧ Aside0 (wc.heap[gbA0]? = some (.cells #[.bool false, (.slice none 0 0), (.slice none 0 0)] 24 (0, 0))) ∧ Aside0 (Below w.heap.size w wc))
 case first =>
  have H := HC3.out
  clear HC3
  obtain ⟨yA9, hy973⟩ : ∃ y_ : List (S24), y_ = (([(⟨a0_0, l0_1, l0_2⟩ : S24)] : List (S24))) := ⟨_, rfl⟩
  replace H : ((impl_ratsCode.f k yA9).bind fun tA2 => (if 0 ≤ a1 then ((impl_unless.f (decide (a1 ≤ 8)) 4).bind fun tA3 => ((impl_first.f k (([tA2, tA3] : List Int))).bind fun tA4 => (impl_PowRat.j0 k a1 tA4 a0_0 l0_1 l0_2))) else ((impl_unless.f false 4).bind fun tA5 => ((impl_first.f k (([tA2, tA5] : List Int))).bind fun tA6 => (impl_PowRat.j0 k a1 tA6 a0_0 l0_1 l0_2))))) = some (r1, r2, r3, r4) := by subst hy973; first | with_reducible exact H | with_reducible exact (Option.bind_some _ _).symm.trans H | exact H
  have NyA9 := Aside0.mk hy973
  clear hy973
  replace H := Option.bind_eq_some_iff.mp H
  obtain ⟨tA2, A60, H⟩ := H
  replace H : (if 0 ≤ a1 then ((impl_unless.f (decide (a1 ≤ 8)) 4).bind fun tA3 => ((impl_first.f k (([tA2, tA3] : List Int))).bind fun tA4 => (impl_PowRat.j0 k a1 tA4 a0_0 l0_1 l0_2))) else ((impl_unless.f false 4).bind fun tA5 => ((impl_first.f k (([tA2, tA5] : List Int))).bind fun tA6 => (impl_PowRat.j0 k a1 tA6 a0_0 l0_1 l0_2)))) = some (r1, r2, r3, r4) := H
  have A6 := Aside0.mk A60
  clear A60
  by_cases c7 : 0 ≤ a1
  ·
   rw [if_pos c7] at H
   have c7b0 : decide (0 ≤ a1) = true := decide_eq_true c7
   clear c7
   (first | rw [c7b0] | (simp only [i64_w, i32_w]; rw [c7b0]) | skip)
   replace H := Option.bind_eq_some_iff.mp H
   obtain ⟨tA3, A80, H⟩ := H
   replace H : ((impl_first.f k (([tA2, tA3] : List Int))).bind fun tA4 => (impl_PowRat.j0 k a1 tA4 a0_0 l0_1 l0_2)) = some (r1, r2, r3, r4) := H
   have A8 := Aside0.mk A80
   clear A80
   obtain ⟨yB3, hy978⟩ : ∃ y_ : List Int, y_ = (([tA2, tA3] : List Int)) := ⟨_, rfl⟩
   replace H : ((impl_first.f k yB3).bind fun tA4 => (impl_PowRat.j0 k a1 tA4 a0_0 l0_1 l0_2)) = some (r1, r2, r3, r4) := by subst hy978; first | with_reducible exact H | with_reducible exact (Option.bind_some _ _).symm.trans H | exact H
   have NyB3 := Aside0.mk hy978
   clear hy978
   replace H := Option.bind_eq_some_iff.mp H
   obtain ⟨tA4, A90, H⟩ := H
   replace H : (impl_PowRat.j0 k a1 tA4 a0_0 l0_1 l0_2) = some (r1, r2, r3, r4) := H
   have A9 := Aside0.mk A90
   clear A90
   have H' := Aside0.mk H
   clear H
   have hnb10 := NBA1_A0.out
   have hnc10 := NBA0_A1.out
   obtain ⟨hcz11_0, hcz11_1, hcz11_2, hfz11_0, hfz11_1, hfz11_2⟩ := bc3 BKA1
   go_wp2_with (first | ((with_reducible refine gate_dst (N := 8) rfl ?_); refine Kd.N_lit k24 _ 24 ?hg (N' := 8) ?hd (xs := ([(⟨a0_0, l0_1, l0_2⟩ : S24)] : List (S24))) (inner := [.bool a0_0, .slice A0_1 l0_1.length c0_1, .slice A0_2 l0_2.length c0_2]) (ok := (fun k_ => ((P0_1_ k_ ∨ P0_2_ k_) ∨ w.heap.size ≤ k_) ∧ k_ ≠ gbA1 ∧ k_ ≠ gbA0)) (okp := (fun k_ => ((P0_1_ k_ ∨ P0_2_ k_) ∨ w.heap.size ≤ k_) ∧ k_ ≠ gbA1 ∧ k_ ≠ gbA0)) ?hr ?hp (fun _ hk => hk) ((show ∀ k_, w5.heap.size ≤ k_ → (fun k_ => ((P0_1_ k_ ∨ P0_2_ k_) ∨ w.heap.size ≤ k_) ∧ k_ ≠ gbA1 ∧ k_ ≠ gbA0) k_ from fun k_ hk => ⟨(.inr (Nat.le_trans (bsz HB) hk)), Kd.freshB (g := gbA1) (o := .cells #[.bool a0_0, .slice A0_1 l0_1.length c0_1, .slice A0_2 l0_2.length c0_2] 24 (0, 0)) (crb BKA1) k_ hk, Kd.freshB (g := gbA0) (o := .cells #[.bool false, .slice none 0 0, .slice none 0 0] 24 (0, 0)) (crb BKA0) k_ hk⟩) _ (Nat.le_refl _)) (Below.refl _ _) (Nat.le_refl _) (by simp) ?_; (case hd => rfl); (case hg => rfl); (case hr => first | (go_simp; done) | (go_simp; rfl)); (case hp => exact (Reps.c3 (show Kd.FK k24 _ _ (⟨a0_0, l0_1, l0_2⟩ : S24) [.bool a0_0, .slice A0_1 l0_1.length c0_1, .slice A0_2 l0_2.length c0_2] from (k24_mkF _ _ (⟨a0_0, l0_1, l0_2⟩ : S24) (Kd.V_reads' (Kd.V_mono (ok' := (fun k_ => ((P0_1_ k_ ∨ P0_2_ k_) ∨ w.heap.size ≤ k_) ∧ k_ ≠ gbA1 ∧ k_ ≠ gbA0)) (HO0_1.out) (fun k_ hk => ⟨hk.1.1, ⟨hk.1.2, hk.2⟩⟩))).2.1 (Kd.V_F (Kd.V_mono (ok' := (fun k_ => ((P0_1_ k_ ∨ P0_2_ k_) ∨ w.heap.size ≤ k_) ∧ k_ ≠ gbA1 ∧ k_ ≠ gbA0)) (HO0_1.out) (fun k_ hk => ⟨hk.1.1, ⟨hk.1.2, hk.2⟩⟩))) (Kd.V_reads' (Kd.V_mono (ok' := (fun k_ => ((P0_1_ k_ ∨ P0_2_ k_) ∨ w.heap.size ≤ k_) ∧ k_ ≠ gbA1 ∧ k_ ≠ gbA0)) (HO0_2.out) (fun k_ hk => ⟨hk.1.1, ⟨hk.1.2, hk.2⟩⟩))).2.1 (Kd.V_F (Kd.V_mono (ok' := (fun k_ => ((P0_1_ k_ ∨ P0_2_ k_) ∨ w.heap.size ≤ k_) ∧ k_ ≠ gbA1 ∧ k_ ≠ gbA0)) (HO0_2.out) (fun k_ hk => ⟨hk.1.1, ⟨hk.1.2, hk.2⟩⟩))))) (Reps.none _ _))); intro vD0 w12 ho13 hb hg_ hnew_; clear hg_ hnew_; (first | rw [← NyA9.out] at ho13 | (simp only [Int.reduceToNat] at ho13; rw [← NyA9.out] at ho13)); replace HO0_1 := eldV HO0_1 (Kd.N_base ho13) hb; replace HO0_2 := eldV HO0_2 (Kd.N_base ho13) hb; have HOA7 := Aside0.mk (Kd.N_lower ho13 (bsz HB)); replace BKA1 := bkb BKA1 hb; replace BKA0 := bkb BKA0 hb; replace HB := bst HB hb; clear hb ho13; obtain ⟨Ao14, co14, eo14⟩ := Kd.N_slice HOA7.out; subst eo14) | ((with_reducible refine gate_callee (f := 65) rfl ?_); refine gL_ (some 9) Try.func65 #[.slice Ao14 yA9.length co14] ?_; (with_reducible refine (impl_ratsCode.calls k _ _ yA9 tA2 _ ?side1 ?side2 A6.out).mono ?_); (case side1 => exact crC (Kd.N_reads' HOA7.out).2.2); (case side2 => exact (Kd.N_reads' HOA7.out).2.1); rintro e w15 ⟨rfl, hb⟩; refine ⟨_, rfl, ?_⟩; replace HO0_1 := rblV HO0_1 hb; replace HO0_2 := rblV HO0_2 hb; replace HOA7 := Aside0.mk (Kd.N_below (by (with_reducible repeat (first | apply Kd.N_alloc | apply Kd.N_drewN | apply Kd.N_drew)); exact HOA7.out) hb); replace BKA1 := bkb BKA1 hb; replace BKA0 := bkb BKA0 hb; replace HB := bst HB hb; (try clear hb); (try clear hb2); (try clear hk); (try clear hi)) | ((with_reducible refine gate_callee (f := 81) rfl ?_); refine gL_ (some 16) Try.func81 #[.bool (decide (a1 ≤ 8)), .int .i64 4] ?_; (with_reducible refine (impl_unless.calls (decide (a1 ≤ 8)) 4 tA3 _ A8.out).mono ?_); rintro e w' ⟨rfl, ⟨nd, rfl⟩⟩; refine ⟨_, rfl, ?_⟩) | ((with_reducible refine gate_dst (N := 17) rfl ?_); refine Kd.R_lit (Kd.int .i64) _ 3 ?hg (N := 17) ?hd (xs := ([tA2, tA3] : List Int)) (inner := [.int .i64 tA2, .int .i64 tA3]) (ok := fun _ => True) (okp := fun _ => True) ?hr ?hp (fun _ hk => hk) trivial (Below.refl _ _) (Nat.le_refl _) (by simp) ?_; (case hd => rfl); (case hg => rfl); (case hr => first | (go_simp; done) | (go_simp; rfl)); (case hp => exact (Reps.one (show Kd.M (Kd.int .i64) _ _ _ tA2 [.int .i64 tA2] from rfl) (Reps.one (show Kd.M (Kd.int .i64) _ _ _ tA3 [.int .i64 tA3] from rfl) (Reps.none _ _)))); intro vD1 w16 ho17 hb hg_ hnew_; clear hg_ hnew_; (first | rw [← NyB3.out] at ho17 | (simp only [Int.reduceToNat] at ho17; rw [← NyB3.out] at ho17)); replace HO0_1 := eldV HO0_1 (Kd.R_base ho17) hb; replace HO0_2 := eldV HO0_2 (Kd.R_base ho17) hb; replace HOA7 := Aside0.mk (Kd.N_elder' (by (with_reducible repeat (first | apply Kd.N_alloc | apply Kd.N_drewN | apply Kd.N_drew)); exact HOA7.out) (Kd.R_base ho17) hb); have HOB9 := lwR (Kd.R_newM (M := fun k_ => (w.heap.size ≤ k_)) ho17 (bsz HB) (fun k_ h_ => h_)) HB; replace BKA1 := bkb BKA1 hb; replace BKA0 := bkb BKA0 hb; replace HB := bst HB hb; clear hb ho17; obtain ⟨Ao18, co18, eo18⟩ := Kd.R_slice HOB9.out; subst eo18) | ((with_reducible refine gate_callee (f := 80) rfl ?_); refine gL_ (some 18) Try.func80 #[.slice Ao18 yB3.length co18] ?_; (with_reducible refine (impl_first.calls k _ _ yB3 tA4 _ ?side1 ?side2 A9.out).mono ?_); (case side1 => exact crC (Kd.R_reads' HOB9.out).2.2); (case side2 => exact (Kd.R_reads' HOB9.out).2.1); rintro e w' ⟨rfl, ⟨nd, rfl⟩⟩; refine ⟨_, rfl, ?_⟩))
   go_meet
   case rel => exact ⟨_, (tA4), rs_, H', ⟨by first | omega | exact Nat.le_refl _⟩, ⟨by (with_reducible repeat (first | apply Kd.V_alloc | apply Kd.V_drewN | apply Kd.V_drew)); exact Kd.V_mono HO0_1.out (fun _ hk => ⟨hk.1.1.1.1, ⟨hk.1.1.1.2, hk.1.1.2⟩⟩)⟩, ⟨by (with_reducible repeat (first | apply Kd.V_alloc | apply Kd.V_drewN | apply Kd.V_drew)); exact Kd.V_mono HO0_2.out (fun _ hk => ⟨hk.1.1.1.1, ⟨hk.1.1.1.2, hk.1.1.2⟩⟩)⟩, ⟨crb BKA1⟩, ⟨crb BKA0⟩, ⟨blw HB⟩⟩
  ·
   rw [if_neg c7] at H
   have c7b0 : decide (0 ≤ a1) = false := decide_eq_false c7
   clear c7
   (first | rw [c7b0] | (simp only [i64_w, i32_w]; rw [c7b0]) | skip)
   replace H := Option.bind_eq_some_iff.mp H
   obtain ⟨tA5, AC5, H⟩ := H
   replace H : ((impl_first.f k (([tA2, tA5] : List Int))).bind fun tA6 => (impl_PowRat.j0 k a1 tA6 a0_0 l0_1 l0_2)) = some (r1, r2, r3, r4) := H
   have A19 := Aside0.mk AC5
   clear AC5
   obtain ⟨yB4, hy983⟩ : ∃ y_ : List Int, y_ = (([tA2, tA5] : List Int)) := ⟨_, rfl⟩
   replace H : ((impl_first.f k yB4).bind fun tA6 => (impl_PowRat.j0 k a1 tA6 a0_0 l0_1 l0_2)) = some (r1, r2, r3, r4) := by subst hy983; first | with_reducible exact H | with_reducible exact (Option.bind_some _ _).symm.trans H | exact H
   have NyB4 := Aside0.mk hy983
   clear hy983
   replace H := Option.bind_eq_some_iff.mp H
   obtain ⟨tA6, AC6, H⟩ := H
   replace H : (impl_PowRat.j0 k a1 tA6 a0_0 l0_1 l0_2) = some (r1, r2, r3, r4) := H
   have A20 := Aside0.mk AC6
   clear AC6
   have H' := Aside0.mk H
   clear H
   have hnb21 := NBA1_A0.out
   have hnc21 := NBA0_A1.out
   obtain ⟨hcz22_0, hcz22_1, hcz22_2, hfz22_0, hfz22_1, hfz22_2⟩ := bc3 BKA1
   go_wp2_with (first | ((with_reducible refine gate_dst (N := 8) rfl ?_); refine Kd.N_lit k24 _ 24 ?hg (N' := 8) ?hd (xs := ([(⟨a0_0, l0_1, l0_2⟩ : S24)] : List (S24))) (inner := [.bool a0_0, .slice A0_1 l0_1.length c0_1, .slice A0_2 l0_2.length c0_2]) (ok := (fun k_ => ((P0_1_ k_ ∨ P0_2_ k_) ∨ w.heap.size ≤ k_) ∧ k_ ≠ gbA1 ∧ k_ ≠ gbA0)) (okp := (fun k_ => ((P0_1_ k_ ∨ P0_2_ k_) ∨ w.heap.size ≤ k_) ∧ k_ ≠ gbA1 ∧ k_ ≠ gbA0)) ?hr ?hp (fun _ hk => hk) ((show ∀ k_, w5.heap.size ≤ k_ → (fun k_ => ((P0_1_ k_ ∨ P0_2_ k_) ∨ w.heap.size ≤ k_) ∧ k_ ≠ gbA1 ∧ k_ ≠ gbA0) k_ from fun k_ hk => ⟨(.inr (Nat.le_trans (bsz HB) hk)), Kd.freshB (g := gbA1) (o := .cells #[.bool a0_0, .slice A0_1 l0_1.length c0_1, .slice A0_2 l0_2.length c0_2] 24 (0, 0)) (crb BKA1) k_ hk, Kd.freshB (g := gbA0) (o := .cells #[.bool false, .slice none 0 0, .slice none 0 0] 24 (0, 0)) (crb BKA0) k_ hk⟩) _ (Nat.le_refl _)) (Below.refl _ _) (Nat.le_refl _) (by simp) ?_; (case hd => rfl); (case hg => rfl); (case hr => first | (go_simp; done) | (go_simp; rfl)); (case hp => exact (Reps.c3 (show Kd.FK k24 _ _ (⟨a0_0, l0_1, l0_2⟩ : S24) [.bool a0_0, .slice A0_1 l0_1.length c0_1, .slice A0_2 l0_2.length c0_2] from (k24_mkF _ _ (⟨a0_0, l0_1, l0_2⟩ : S24) (Kd.V_reads' (Kd.V_mono (ok' := (fun k_ => ((P0_1_ k_ ∨ P0_2_ k_) ∨ w.heap.size ≤ k_) ∧ k_ ≠ gbA1 ∧ k_ ≠ gbA0)) (HO0_1.out) (fun k_ hk => ⟨hk.1.1, ⟨hk.1.2, hk.2⟩⟩))).2.1 (Kd.V_F (Kd.V_mono (ok' := (fun k_ => ((P0_1_ k_ ∨ P0_2_ k_) ∨ w.heap.size ≤ k_) ∧ k_ ≠ gbA1 ∧ k_ ≠ gbA0)) (HO0_1.out) (fun k_ hk => ⟨hk.1.1, ⟨hk.1.2, hk.2⟩⟩))) (Kd.V_reads' (Kd.V_mono (ok' := (fun k_ => ((P0_1_ k_ ∨ P0_2_ k_) ∨ w.heap.size ≤ k_) ∧ k_ ≠ gbA1 ∧ k_ ≠ gbA0)) (HO0_2.out) (fun k_ hk => ⟨hk.1.1, ⟨hk.1.2, hk.2⟩⟩))).2.1 (Kd.V_F (Kd.V_mono (ok' := (fun k_ => ((P0_1_ k_ ∨ P0_2_ k_) ∨ w.heap.size ≤ k_) ∧ k_ ≠ gbA1 ∧ k_ ≠ gbA0)) (HO0_2.out) (fun k_ hk => ⟨hk.1.1, ⟨hk.1.2, hk.2⟩⟩))))) (Reps.none _ _))); intro vD0 w23 ho24 hb hg_ hnew_; clear hg_ hnew_; (first | rw [← NyA9.out] at ho24 | (simp only [Int.reduceToNat] at ho24; rw [← NyA9.out] at ho24)); replace HO0_1 := eldV HO0_1 (Kd.N_base ho24) hb; replace HO0_2 := eldV HO0_2 (Kd.N_base ho24) hb; have HOA7 := Aside0.mk (Kd.N_lower ho24 (bsz HB)); replace BKA1 := bkb BKA1 hb; replace BKA0 := bkb BKA0 hb; replace HB := bst HB hb; clear hb ho24; obtain ⟨Ao25, co25, eo25⟩ := Kd.N_slice HOA7.out; subst eo25) | ((with_reducible refine gate_callee (f := 65) rfl ?_); refine gL_ (some 9) Try.func65 #[.slice Ao25 yA9.length co25] ?_; (with_reducible refine (impl_ratsCode.calls k _ _ yA9 tA2 _ ?side1 ?side2 A6.out).mono ?_); (case side1 => exact crC (Kd.N_reads' HOA7.out).2.2); (case side2 => exact (Kd.N_reads' HOA7.out).2.1); rintro e w26 ⟨rfl, hb⟩; refine ⟨_, rfl, ?_⟩; replace HO0_1 := rblV HO0_1 hb; replace HO0_2 := rblV HO0_2 hb; replace HOA7 := Aside0.mk (Kd.N_below (by (with_reducible repeat (first | apply Kd.N_alloc | apply Kd.N_drewN | apply Kd.N_drew)); exact HOA7.out) hb); replace BKA1 := bkb BKA1 hb; replace BKA0 := bkb BKA0 hb; replace HB := bst HB hb; (try clear hb); (try clear hb2); (try clear hk); (try clear hi)) | ((with_reducible refine gate_callee (f := 81) rfl ?_); refine gL_ (some 16) Try.func81 #[.bool false, .int .i64 4] ?_; (with_reducible refine (impl_unless.calls false 4 tA5 _ A19.out).mono ?_); rintro e w' ⟨rfl, ⟨nd, rfl⟩⟩; refine ⟨_, rfl, ?_⟩) | ((with_reducible refine gate_dst (N := 17) rfl ?_); refine Kd.R_lit (Kd.int .i64) _ 3 ?hg (N := 17) ?hd (xs := ([tA2, tA5] : List Int)) (inner := [.int .i64 tA2, .int .i64 tA5]) (ok := fun _ => True) (okp := fun _ => True) ?hr ?hp (fun _ hk => hk) trivial (Below.refl _ _) (Nat.le_refl _) (by simp) ?_; (case hd => rfl); (case hg => rfl); (case hr => first | (go_simp; done) | (go_simp; rfl)); (case hp => exact (Reps.one (show Kd.M (Kd.int .i64) _ _ _ tA2 [.int .i64 tA2] from rfl) (Reps.one (show Kd.M (Kd.int .i64) _ _ _ tA5 [.int .i64 tA5] from rfl) (Reps.none _ _)))); intro vD2 w27 ho28 hb hg_ hnew_; clear hg_ hnew_; (first | rw [← NyB4.out] at ho28 | (simp only [Int.reduceToNat] at ho28; rw [← NyB4.out] at ho28)); replace HO0_1 := eldV HO0_1 (Kd.R_base ho28) hb; replace HO0_2 := eldV HO0_2 (Kd.R_base ho28) hb; replace HOA7 := Aside0.mk (Kd.N_elder' (by (with_reducible repeat (first | apply Kd.N_alloc | apply Kd.N_drewN | apply Kd.N_drew)); exact HOA7.out) (Kd.R_base ho28) hb); have HOC0 := lwR (Kd.R_newM (M := fun k_ => (w.heap.size ≤ k_)) ho28 (bsz HB) (fun k_ h_ => h_)) HB; replace BKA1 := bkb BKA1 hb; replace BKA0 := bkb BKA0 hb; replace HB := bst HB hb; clear hb ho28; obtain ⟨Ao29, co29, eo29⟩ := Kd.R_slice HOC0.out; subst eo29) | ((with_reducible refine gate_callee (f := 80) rfl ?_); refine gL_ (some 18) Try.func80 #[.slice Ao29 yB4.length co29] ?_; (with_reducible refine (impl_first.calls k _ _ yB4 tA6 _ ?side1 ?side2 A20.out).mono ?_); (case side1 => exact crC (Kd.R_reads' HOC0.out).2.2); (case side2 => exact (Kd.R_reads' HOC0.out).2.1); rintro e w' ⟨rfl, ⟨nd, rfl⟩⟩; refine ⟨_, rfl, ?_⟩))
   go_meet
   case rel => exact ⟨_, (tA6), rs_, H', ⟨by first | omega | exact Nat.le_refl _⟩, ⟨by (with_reducible repeat (first | apply Kd.V_alloc | apply Kd.V_drewN | apply Kd.V_drew)); exact Kd.V_mono HO0_1.out (fun _ hk => ⟨hk.1.1.1.1, ⟨hk.1.1.1.2, hk.1.1.2⟩⟩)⟩, ⟨by (with_reducible repeat (first | apply Kd.V_alloc | apply Kd.V_drewN | apply Kd.V_drew)); exact Kd.V_mono HO0_2.out (fun _ hk => ⟨hk.1.1.1.1, ⟨hk.1.1.1.2, hk.1.1.2⟩⟩)⟩, ⟨crb BKA1⟩, ⟨crb BKA0⟩, ⟨blw HB⟩⟩
 case rest =>
  clear HC3
  try clear c1
  try clear c2
  try clear p2
  try clear c3
  try clear c6
  try clear c7
  try clear c7b0
  try clear c8
  try clear c10
  try clear c21
  try clear hcz11_0
  try clear hcz11_1
  try clear hcz11_2
  try clear hcz22_0
  try clear hcz22_1
  try clear hcz22_2
  try clear hfz11_0
  try clear hfz11_1
  try clear hfz11_2
  try clear hfz22_0
  try clear hfz22_1
  try clear hfz22_2
  obtain ⟨kq, x6_2, rfl, HA, HJ2, HO_972001, HO_972002, BKA1, BKA0, HB⟩ := hcut
  cases kq with
  | zero => exact absurd HA.out (by simp [impl_PowRat.j0])
  | succ kj2 =>
   have H := HA.out
   clear HA
   simp only [impl_PowRat.j0] at H
   by_cases c30 : x6_2 = 0
   ·
    rw [if_pos c30] at H
    have c30b0 : (x6_2 == 0) = true := beq_iff_eq.mpr c30
    have c30b1 : (x6_2 != 0) = false := bne_eq_false_iff_eq.mpr c30
    clear c30
    replace H := Option.bind_eq_some_iff.mp H
    obtain ⟨⟨tB0, tB5, tB6⟩, AC7, H⟩ := H
    replace H : ((impl_fullRat.f tB0 tB5 tB6).bind fun btA8 => (some (btA8.1, btA8.2.1, btA8.2.2.1, btA8.2.2.2))) = some (r1, r2, r3, r4) := H
    have A31 := Aside0.mk AC7
    clear AC7
    replace H := Option.bind_eq_some_iff.mp H
    obtain ⟨⟨tA8, tC1, tC2, tB7⟩, AC8, H⟩ := H
    replace H : (some (tA8, tC1, tC2, tB7)) = some (r1, r2, r3, r4) := H
    have A32 := Aside0.mk AC8
    clear AC8
    simp only [Option.some.injEq, Prod.mk.injEq] at H
    obtain ⟨rfl, rfl, rfl, rfl⟩ := H
    have hnb33 := NBA1_A0.out
    have hnc33 := NBA0_A1.out
    obtain ⟨hcz34_0, hcz34_1, hcz34_2, hfz34_0, hfz34_1, hfz34_2⟩ := bc3 BKA1
    go_wp2_with (first | ((with_reducible refine gate_callee (f := 83) rfl ?_); refine gL_ (some 25) Try.func83 #[.agg #[.bool a0_0, .slice A0_1 l0_1.length c0_1, .slice A0_2 l0_2.length c0_2], .int .i64 a1] ?_; (with_reducible refine (impl_Rat_pow.calls kj2 a0_0 _ _ l0_1 _ _ l0_2 a1 tB0 tB5 tB6 _ ?side1 ?side2 ?side3 ?side4 A31.out).mono ?_); (case side1 => exact crC (Kd.V_reads' HO_972001.out).2.2); (case side2 => exact (Kd.V_reads' HO_972001.out).2.1); (case side3 => exact crC (Kd.V_reads' HO_972002.out).2.2); (case side4 => exact (Kd.V_reads' HO_972002.out).2.1); rintro e w35 ⟨vD3, vD4, rfl, ho0, ho1, hb⟩; refine ⟨_, rfl, ?_⟩; replace HO_972001 := tldV HO_972001 hb (Kd.R_base ho0) (Kd.R_base ho1); replace HO_972002 := tldV HO_972002 hb (Kd.R_base ho0) (Kd.R_base ho1); have HOB1 := lwR (Kd.R_newM (M := fun k_ => (w.heap.size ≤ k_)) ho0 (bsz HB) (fun k_ h_ => h_)) HB; have HOB2 := lwR (Kd.R_newM (M := fun k_ => (w.heap.size ≤ k_)) ho1 (bsz HB) (fun k_ h_ => h_)) HB; replace BKA1 := bkb BKA1 hb; replace BKA0 := bkb BKA0 hb; replace HB := bst HB hb; (try clear hb); (try clear hb2); (try clear hk); (try clear hi); (try clear ho0); (try clear ho1); obtain ⟨Ao36, co36, eo36⟩ := Kd.R_slice HOB1.out; subst eo36; obtain ⟨Ao37, co37, eo37⟩ := Kd.R_slice HOB2.out; subst eo37) | ((with_reducible refine gate_callee (f := 77) rfl ?_); refine gL_ (some 26) Try.func77 #[.agg #[.bool tB0, .slice Ao36 tB5.length co36, .slice Ao37 tB6.length co37]] ?_; (with_reducible refine (impl_fullRat.calls tB0 (fun k_ => some k_ = (.slice Ao36 tB5.length co36 : Value).ownBlock) (.slice Ao36 tB5.length co36) tB5 (fun k_ => some k_ = (.slice Ao37 tB6.length co37 : Value).ownBlock) (.slice Ao37 tB6.length co37) tB6 tA8 tC1 tC2 tB7 w _ ?side1 ?side2 ?side3 ?side4 ?side5 A32.out).mono ?_); (case side1 => repeat (first | (with_reducible first | exact HB.out | apply below_alloc | apply pw_below_drewN | apply below_drew1 | refine below_set ?_ GEA1.out | refine below_set ?_ GEA0.out) | exact HB.out)); (case side2 => exact Kd.R_tight rfl HOB1.out); (case side3 => exact fun k_ e_ => (HOB1.out.1 k_ e_.symm).2); (case side4 => exact Kd.R_tight rfl HOB2.out); (case side5 => exact fun k_ e_ => (HOB2.out.1 k_ e_.symm).2); rintro e w38 ⟨vC3, vC4, rfl, ho0, ho1, hb, hkp⟩; refine ⟨_, rfl, ?_⟩; replace HO_972001 := Aside0.mk (Kd.V_mono (ok' := fun k_ => ((P0_1_ k_ ∨ P0_2_ k_) ∨ w.heap.size ≤ k_) ∧ k_ ≠ gbA1 ∧ k_ ≠ gbA0 ∧ nO k_ vC3 ∧ nO k_ vC4) (Kd.V_keptB (HO_972001.out) hkp (fun k_ hk_ hs_ => Or.elim hs_ (fun e_ => (hk_.1.2) e_) (fun e_ => (hk_.2) e_))) (fun k_ hk_ => ⟨hk_.1.1.1.1, hk_.1.1.1.2.1, hk_.1.1.1.2.2, fun e_ => Or.elim (ho0.1 k_ e_.symm).1 (fun hs_ => hk_.2.1 hs_) (fun hn_ => Nat.not_le.2 hk_.2.2 hn_), fun e_ => Or.elim (ho1.1 k_ e_.symm).1 (fun hs_ => hk_.2.1 hs_) (fun hn_ => Nat.not_le.2 hk_.2.2 hn_)⟩)); replace HO_972002 := Aside0.mk (Kd.V_mono (ok' := fun k_ => ((P0_1_ k_ ∨ P0_2_ k_) ∨ w.heap.size ≤ k_) ∧ k_ ≠ gbA1 ∧ k_ ≠ gbA0 ∧ nO k_ vC3 ∧ nO k_ vC4) (Kd.V_keptB (HO_972002.out) hkp (fun k_ hk_ hs_ => Or.elim hs_ (fun e_ => (hk_.1.2) e_) (fun e_ => (hk_.2) e_))) (fun k_ hk_ => ⟨hk_.1.1.1.1, hk_.1.1.1.2.1, hk_.1.1.1.2.2, fun e_ => Or.elim (ho0.1 k_ e_.symm).1 (fun hs_ => hk_.2.1 hs_) (fun hn_ => Nat.not_le.2 hk_.2.2 hn_), fun e_ => Or.elim (ho1.1 k_ e_.symm).1 (fun hs_ => hk_.2.1 hs_) (fun hn_ => Nat.not_le.2 hk_.2.2 hn_)⟩)); replace BKA1 := Aside0.mk (blk_kept (crb BKA1) hkp (fun hs_ => Or.elim hs_ (fun e_ => (fun e_ => (Kd.R_ne HOB1.out BKA1.out (by decide)) e_) e_) (fun e_ => (fun e_ => (Kd.R_ne HOB2.out BKA1.out (by decide)) e_) e_))); replace BKA0 := Aside0.mk (blk_kept (crb BKA0) hkp (fun hs_ => Or.elim hs_ (fun e_ => (fun e_ => (Kd.R_ne HOB1.out BKA0.out (by decide)) e_) e_) (fun e_ => (fun e_ => (Kd.R_ne HOB2.out BKA0.out (by decide)) e_) e_))); have HOC9 := Aside0.mk (Kd.R_mono (ok' := fun k_ => (w.heap.size ≤ k_) ∧ nO k_ vC4) ho0 (fun k_ hk_ => ⟨Or.elim hk_.1 (fun hs_ => Or.elim hs_ (fun hs_ => (HOB1.out.1 k_ (hs_).symm).1) (fun hs_ => (HOB2.out.1 k_ (hs_).symm).1)) (fun hn_ => (Nat.le_trans (bsz HB) hn_)), hk_.2⟩)); have HOB8 := Aside0.mk (Kd.R_mono (ok' := fun k_ => (w.heap.size ≤ k_) ∧ nO k_ vC3) ho1 (fun k_ hk_ => ⟨Or.elim hk_.1 (fun hs_ => Or.elim hs_ (fun hs_ => (HOB1.out.1 k_ (hs_).symm).1) (fun hs_ => (HOB2.out.1 k_ (hs_).symm).1)) (fun hn_ => (Nat.le_trans (bsz HB) hn_)), hk_.2⟩)); replace HB := Aside0.mk (hb); clear HOB1 HOB2; (try clear hb); (try clear hkp); (try clear ho0); (try clear ho1); obtain ⟨hcz39_0, hcz39_1, hcz39_2, hfz39_0, hfz39_1, hfz39_2⟩ := bc3 BKA0; obtain ⟨Ao40, co40, eo40⟩ := Kd.R_slice HOC9.out; subst eo40; obtain ⟨Ao41, co41, eo41⟩ := Kd.R_slice HOB8.out; subst eo41))
    refine bodyPost_ret (results_ct rfl _ _ gbA0 24 #[.bool tA8, .slice Ao40 tC1.length co40, .slice Ao41 tC2.length co41] (0, 0) _ rfl (bp3 BKA0 _ _ _) Try.underlying24 rfl (by kernel_rfl)) rfl ?_
    exact ⟨_, _, er_, (crN HOC9 BKA0 fun _ hk => ⟨hk.1.1, hk.1.2⟩), (crN HOB8 BKA0 fun _ hk => ⟨hk.1.1, hk.1.2⟩), blw HB⟩
   ·
    rw [if_neg c30] at H
    have c30b0 : (x6_2 == 0) = false := beq_eq_false_iff_ne.mpr c30
    have c30b1 : (x6_2 != 0) = true := bne_iff_ne.mpr c30
    simp only [Option.some.injEq, Prod.mk.injEq] at H
    obtain ⟨rfl, rfl, rfl, rfl⟩ := H
    have hnb42 := NBA0_A1.out
    have hnc42 := NBA1_A0.out
    obtain ⟨hcz43_0, hcz43_1, hcz43_2, hfz43_0, hfz43_1, hfz43_2⟩ := bc3 BKA0
    go_wp2
    refine bodyPost_ret (results_ct rfl _ _ gbA0 24 #[.bool false, .slice none 0 0, .slice none 0 0] (0, 0) _ rfl (bp3 BKA0 _ _ _) Try.underlying24 rfl (by kernel_rfl)) rfl ?_
    exact ⟨_, _, er_, by first | exact Kd.R_nil _ _ _ _ _ | exact Kd.N_nil _ _ _ _ _ | exact Kd.V_nil _ _ _ _ _ | exact Kd.Q_nil _ _ _ _ _ | exact Kd.S_nil _ _ _ _ _, by first | exact Kd.R_nil _ _ _ _ _ | exact Kd.N_nil _ _ _ _ _ | exact Kd.V_nil _ _ _ _ _ | exact Kd.Q_nil _ _ _ _ _ | exact Kd.S_nil _ _ _ _ _, blw HB⟩

end Go.Proofs.Ytacdaijalkkogaa.Q
