-- written by a program of this claim's session (myprint.py) out of the translation; Lean checks it.
import Derived.Test.YtbphhccpkngfoaaGreatDoorQx0
import Derived.Test.YtbphhccpkngfoaaGreatDoorWords
import Derived.Test.YtbphhccpkngfoaaGreatDoorQsm
import Derived.Test.YtbphhccpkngfoaaGreatDoorQxl05Node
import Derived.Test.YtbphhccpkngfoaaGreatDoorQxl05First
import Derived.Test.YtbphhccpkngfoaaGreatDoorQxshape
namespace Go.Proofs.YtbphhccpkngfoaaGreatDoor.Q
open Go.RowKit Go.Proofs.YtbphhccpkngfoaaGreatDoorW.PrintWords Go.Proofs.YtbphhccpkngfoaaGreatDoorW.PrintLast Go.Proofs.YtbphhccpkngfoaaGreatDoorW.PrintMore
attribute [local go_sem] max2_int min2_int max_two min_two max_three min_three max_four min_four   -- for this text's walks alone
set_option linter.unusedVariables false
set_option linter.unusedSimpArgs false

mutual
def spec_ExprOK.l0 : Nat → List Int → Int → List (S49) → Option (Bool)
 | 0, _, _, _ => none
 | k + 1, x3, x4, x173000 => if x4 < (x173000.length : Int) then (if 0 ≤ x4 then ((spec_l05Node.f ((rd_T49 x173000 x4).f0) ((rd_T49 x173000 x4).f1) ((rd_T49 x173000 x4).f2) ((rd_T49 x173000 x4).f3) x4).bind fun tB9 => (if tB9 = true then ((spec_l05Two.f ((rd_T49 x173000 x4).f0)).bind fun tB2 => (if tB2 = true then (if ((rd_T49 x173000 x4).f2) = (wrap64 (x4 - 1)) then ((spec_l05First.f k x173000 ((rd_T49 x173000 x4).f2)).bind fun tA9 => (if tA9 = (wrap64 (((rd_T49 x173000 x4).f1) + 1)) then (if 0 ≤ ((rd_T49 x173000 x4).f1) then (if ((rd_T49 x173000 x4).f1) < (x3.length : Int) then (if 0 ≤ ((rd_T49 x173000 x4).f2) then (if ((rd_T49 x173000 x4).f2) < (x3.length : Int) then (spec_ExprOK.j1 k x3 x4 (wrap64 (1 + (mx (rd x3 ((rd_T49 x173000 x4).f1)) (rd x3 ((rd_T49 x173000 x4).f2))))) x173000 ((rd_T49 x173000 x4).f0) ((rd_T49 x173000 x4).f1) ((rd_T49 x173000 x4).f2) ((rd_T49 x173000 x4).f3)) else (none)) else (none)) else (none)) else (none)) else (some false))) else (some false)) else (spec_ExprOK.j1 k x3 x4 1 x173000 ((rd_T49 x173000 x4).f0) ((rd_T49 x173000 x4).f1) ((rd_T49 x173000 x4).f2) ((rd_T49 x173000 x4).f3)))) else (some false))) else (none)) else ((spec_l05First.f k x173000 (wrap64 ((x173000.length : Int) - 1))).bind fun tC0 => (some (tC0 == 0)))
def spec_ExprOK.j1 : Nat → List Int → Int → Int → List (S49) → Int → Int → Int → Int → Option (Bool)
 | 0, _, _, _, _, _, _, _, _ => none
 | k + 1, x3, x4, x6, x173000, x180000, x180001, x180002, x180003 => (spec_l05One.f x180000).bind fun tC1 => (if tC1 = true then (if 0 ≤ x180001 then (if x180001 < (x3.length : Int) then (if (wrap64 (1 + (rd x3 x180001))) > 12 then (some false) else (if x3.length < 17592186044416 then (spec_ExprOK.l0 k (x3 ++ [wrap64 (1 + (rd x3 x180001))]) (wrap64 (x4 + 1)) x173000) else (none))) else (none)) else (none)) else (if x6 > 12 then (some false) else (if x3.length < 17592186044416 then (spec_ExprOK.l0 k (x3 ++ [x6]) (wrap64 (x4 + 1)) x173000) else (none))))
end
def spec_ExprOK.f (k : Nat) (l0_0 : List (S49)) : Option (Bool) := (spec_l01In.f (l0_0.length : Int) 1 60).bind fun tB4 => (if tB4 = true then (spec_ExprOK.l0 k (([] : List Int)) 0 l0_0) else (some false))
def spec_ExprOK.T12 : Bool × List (List Nat × List Nat) := (true, [([], []), ([0], [0]), ([], []), ([2], [2]), ([1, 3], [1, 3]), ([4], [4]), ([5], [5]), ([5], [5]), ([7, 5], [5, 7]), ([6, 8, 5, 5], [5, 6, 8]), ([5], [5]), ([10, 5], [5, 10]), ([11, 5], [5, 11]), ([9, 12, 5], [5, 9, 12]), ([5, 13], [5, 13])])
def spec_ExprOK.B12 : List Nat := [0, 1, 0, 4, 15, 31, 63, 63, 191, 511, 63, 1087, 3135, 8191, 16383]
theorem spec_ExprOK.tab12 : rtab .any (opsOf Tryz.f18 12) = spec_ExprOK.T12 := by kernel_rfl
theorem spec_ExprOK.bits12 : waitsOk spec_ExprOK.T12.2 spec_ExprOK.B12 = true := by kernel_rfl
def spec_ExprOK.T14 : Bool × List (List Nat × List Nat) := (true, [([], []), ([], []), ([1], [1]), ([0, 2], [0, 2]), ([3], [3]), ([], []), ([], []), ([6], [6]), ([5, 7], [5, 7]), ([8], [8]), ([4, 9], [4, 9]), ([10], [10]), ([11, 0, 1, 2, 3, 4, 5, 6, 7, 8, 9, 10, 11], [11])])
def spec_ExprOK.B14 : List Nat := [0, 0, 2, 7, 15, 0, 0, 64, 224, 480, 1023, 2047, 4095]
theorem spec_ExprOK.tab14 : rtab .any (opsOf Tryz.f18 14) = spec_ExprOK.T14 := by kernel_rfl
theorem spec_ExprOK.bits14 : waitsOk spec_ExprOK.T14.2 spec_ExprOK.B14 = true := by kernel_rfl
set_option maxHeartbeats 8000000 in
set_option maxRecDepth 100000 in
theorem spec_ExprOK.calls (k : Nat) (A0_0 : Option Addr) (c0_0 : Nat) (l0_0 : List (S49)) (r : Bool) (w : World) (hr0_0 : Kd.C k49 w A0_0 l0_0.length l0_0) (hc0_0 : l0_0.length ≤ c0_0) (h : spec_ExprOK.f k l0_0 = some r) :
  Calls Tryz.prog 18 #[.agg #[.slice A0_0 l0_0.length c0_0]] w fun e w' => e = .returned (.bool r) ∧ Below w.heap.size w w' := by
 have hu24 := Tryz.underlying24
 have hu49 := Tryz.underlying49
 have HR0_0 := Aside0.mk hr0_0
 have HC0_0 := Aside0.mk hc0_0
 clear hr0_0 hc0_0
 have HB := Aside0.mk (Below.refl w.heap.size w)
 have H : ((spec_l01In.f (l0_0.length : Int) 1 60).bind fun tB4 => (if tB4 = true then (spec_ExprOK.l0 k (([] : List Int)) 0 l0_0) else (some false))) = some r := h
 clear h
 replace H := Option.bind_eq_some_iff.mp H
 obtain ⟨tB4, A20, H⟩ := H
 replace H : (if tB4 = true then (spec_ExprOK.l0 k (([] : List Int)) 0 l0_0) else (some false)) = some r := H
 have A2 := Aside0.mk A20
 clear A20
 by_cases c3 : tB4 = true
 ·
  subst c3
  rw [if_pos rfl] at H
  obtain ⟨yB7, hy174⟩ : ∃ y_ : List Int, y_ = (([] : List Int)) := ⟨_, rfl⟩
  replace H : (spec_ExprOK.l0 k yB7 0 l0_0) = some r := by subst hy174; first | with_reducible exact H | with_reducible exact (Option.bind_some _ _).symm.trans H | exact H
  have NyB7 := Aside0.mk hy174
  clear hy174
  have H' := Aside0.mk H
  clear H
  go_enter Tryz.func18, Tryz.ntmps18
  go_wp2_with (first | ((with_reducible refine gate_dst (N := 1) rfl ?_); refine bx_ (N := 1) (cs := #[.slice A0_0 l0_0.length c0_0]) (t := 24) ?_; intro gbA1 hg w4 hbox hb; have BKA1 := Aside0.mk (hbox); have GWA1 := geh hg HB; have GEA1 := geh hg HB; replace HB := bst HB hb; clear hb hbox hg; have hcz5_0 := bce BKA1 0 (.slice A0_0 l0_0.length c0_0); have hfz5_0 := blk_frozen BKA1.out 0) | ((with_reducible refine gate_callee (f := 30) rfl ?_); refine gL_ (some 10) Tryz.func30 #[.int .i64 (l0_0.length : Int), .int .i64 1, .int .i64 60] ?_; (with_reducible refine (spec_l01In.calls (l0_0.length : Int) 1 60 true _ A2.out).mono ?_); rintro e w' ⟨rfl, ⟨nd, rfl⟩⟩; refine ⟨_, rfl, ?_⟩) | ((with_reducible refine gate_dst (N := 12) rfl ?_); refine Kd.R_lit (Kd.int .i64) _ 3 ?hg (N := 12) ?hd (xs := ([] : List Int)) (inner := []) (ok := fun _ => True) (okp := fun _ => True) ?hr ?hp (fun _ hk => hk) trivial (Below.refl _ _) (Nat.le_refl _) (by simp) ?_; (case hd => rfl); (case hg => rfl); (case hr => first | (go_simp; done) | (go_simp; rfl)); (case hp => exact (Reps.none _ _)); intro vD4 w6 ho7 hb hg_ hnew_; clear hg_ hnew_; (first | rw [← NyB7.out] at ho7 | (simp only [Int.reduceToNat] at ho7; rw [← NyB7.out] at ho7)); have HOD1 := lwR ho7 HB; replace BKA1 := bkb BKA1 hb; replace HB := bst HB hb; clear hb ho7))
  go_loopg [3, 4] k (fun kq v3 v4 w' => ∃ (x3_1 : List Int) (x4_1 : Int), v4 = .int .i64 x4_1 ∧ Aside0 (spec_ExprOK.l0 kq x3_1 x4_1 l0_0 = some r) ∧ Aside0 (kq ≤ k) ∧ Aside0 (Kd.R (Kd.int .i64) 3 w' w.heap.size (fun _ => True) v3 x3_1) ∧ Aside0 (w'.heap[gbA1]? = some (.cells #[(.slice A0_0 l0_0.length c0_0)] 24 (0, 0))) ∧ Aside0 (Below w.heap.size w w'))
  case atStart => exact ⟨(yB7), (0), rs_, H', ⟨Nat.le_refl _⟩, ⟨crR HOD1⟩, ⟨crb BKA1⟩, ⟨blw HB⟩⟩
  case round =>
   clear H'
   try clear c1
   try clear p2
   try clear c3
   try clear hcz5_0
   try clear hfz5_0
   obtain ⟨x3_1, x4_1, rfl, HA, HK1, HO_3, BKA1, HB⟩ := hrel
   cases gk with
   | zero => exact absurd HA.out (by simp [spec_ExprOK.l0])
   | succ k1 =>
    have H := HA.out
    clear HA
    simp only [spec_ExprOK.l0] at H
    by_cases c8 : x4_1 < (l0_0.length : Int)
    ·
     rw [if_pos c8] at H
     have c8b0 : decide (x4_1 < (l0_0.length : Int)) = true := decide_eq_true c8
     clear c8
     by_cases c9 : 0 ≤ x4_1
     ·
      rw [if_pos c9] at H
      have c9b0 : decide (0 ≤ x4_1) = true := decide_eq_true c9
      clear c9
      replace H := Option.bind_eq_some_iff.mp H
      obtain ⟨tB9, AB8, H⟩ := H
      replace H : (if tB9 = true then ((spec_l05Two.f ((rd_T49 l0_0 x4_1).f0)).bind fun tB2 => (if tB2 = true then (if ((rd_T49 l0_0 x4_1).f2) = (wrap64 (x4_1 - 1)) then ((spec_l05First.f k1 l0_0 ((rd_T49 l0_0 x4_1).f2)).bind fun tA9 => (if tA9 = (wrap64 (((rd_T49 l0_0 x4_1).f1) + 1)) then (if 0 ≤ ((rd_T49 l0_0 x4_1).f1) then (if ((rd_T49 l0_0 x4_1).f1) < (x3_1.length : Int) then (if 0 ≤ ((rd_T49 l0_0 x4_1).f2) then (if ((rd_T49 l0_0 x4_1).f2) < (x3_1.length : Int) then (spec_ExprOK.j1 k1 x3_1 x4_1 (wrap64 (1 + (mx (rd x3_1 ((rd_T49 l0_0 x4_1).f1)) (rd x3_1 ((rd_T49 l0_0 x4_1).f2))))) l0_0 ((rd_T49 l0_0 x4_1).f0) ((rd_T49 l0_0 x4_1).f1) ((rd_T49 l0_0 x4_1).f2) ((rd_T49 l0_0 x4_1).f3)) else (none)) else (none)) else (none)) else (none)) else (some false))) else (some false)) else (spec_ExprOK.j1 k1 x3_1 x4_1 1 l0_0 ((rd_T49 l0_0 x4_1).f0) ((rd_T49 l0_0 x4_1).f1) ((rd_T49 l0_0 x4_1).f2) ((rd_T49 l0_0 x4_1).f3)))) else (some false)) = some r := H
      have A10 := Aside0.mk AB8
      clear AB8
      by_cases c11 : tB9 = true
      ·
       subst c11
       rw [if_pos rfl] at H
       replace H := Option.bind_eq_some_iff.mp H
       obtain ⟨tB2, AC4, H⟩ := H
       replace H : (if tB2 = true then (if ((rd_T49 l0_0 x4_1).f2) = (wrap64 (x4_1 - 1)) then ((spec_l05First.f k1 l0_0 ((rd_T49 l0_0 x4_1).f2)).bind fun tA9 => (if tA9 = (wrap64 (((rd_T49 l0_0 x4_1).f1) + 1)) then (if 0 ≤ ((rd_T49 l0_0 x4_1).f1) then (if ((rd_T49 l0_0 x4_1).f1) < (x3_1.length : Int) then (if 0 ≤ ((rd_T49 l0_0 x4_1).f2) then (if ((rd_T49 l0_0 x4_1).f2) < (x3_1.length : Int) then (spec_ExprOK.j1 k1 x3_1 x4_1 (wrap64 (1 + (mx (rd x3_1 ((rd_T49 l0_0 x4_1).f1)) (rd x3_1 ((rd_T49 l0_0 x4_1).f2))))) l0_0 ((rd_T49 l0_0 x4_1).f0) ((rd_T49 l0_0 x4_1).f1) ((rd_T49 l0_0 x4_1).f2) ((rd_T49 l0_0 x4_1).f3)) else (none)) else (none)) else (none)) else (none)) else (some false))) else (some false)) else (spec_ExprOK.j1 k1 x3_1 x4_1 1 l0_0 ((rd_T49 l0_0 x4_1).f0) ((rd_T49 l0_0 x4_1).f1) ((rd_T49 l0_0 x4_1).f2) ((rd_T49 l0_0 x4_1).f3))) = some r := H
       have A12 := Aside0.mk AC4
       clear AC4
       have HC13 := Aside0.mk H
       clear H
       have hcz14_0 := bce BKA1 0 (.slice A0_0 l0_0.length c0_0)
       have hfz14_0 := blk_frozen BKA1.out 0
       have pA2 : 0 ≤ (x4_1 : Int) := of_decide_eq_true (by first | (with_reducible assumption) | assumption)
       have qA2 : x4_1 < (l0_0.length : Int) := of_decide_eq_true (by first | (with_reducible assumption) | assumption)
       obtain ⟨adA2, eA2, hxA2_0, hxA2_1, hxA2_2, hxA2_3⟩ := at_T49 HR0_0.out x4_1 pA2 qA2
       cases eA2
       replace hxA2_0 := (HB.out.cell (World.block_lt_of_cell? w _ hxA2_0)).trans hxA2_0
       replace hxA2_1 := (HB.out.cell (World.block_lt_of_cell? w _ hxA2_1)).trans hxA2_1
       replace hxA2_2 := (HB.out.cell (World.block_lt_of_cell? w _ hxA2_2)).trans hxA2_2
       replace hxA2_3 := (HB.out.cell (World.block_lt_of_cell? w _ hxA2_3)).trans hxA2_3
       replace pA2 := eq_true pA2
       replace qA2 := eq_true qA2
       go_upto_if 31 with (first | ((with_reducible refine gate_dst (N := 5) rfl ?_); refine bx_ (N := 5) (cs := #[.int .i64 0, .int .i64 0, .int .i64 0, .int .i64 0]) (t := 49) ?_; intro gbA0 hg w15 hbox hb; replace HO_3 := rblR HO_3 hb; have BKA0 := Aside0.mk (hbox); have GWA0 := geh hg HB; have GEA0 := geh hg HB; replace HB := bst HB hb; have NBA1_A0 := nlt hg BKA1; have NBA0_A1 := ngt hg BKA1; replace BKA1 := bkb BKA1 hb; clear hb hbox hg; have hnb16 := NBA0_A1.out; have hnc16 := NBA1_A0.out; have hcz17_0 := bce BKA0 0 (.int .i64 0); have hcz17_1 := bce BKA0 1 (.int .i64 0); have hcz17_2 := bce BKA0 2 (.int .i64 0); have hcz17_3 := bce BKA0 3 (.int .i64 0); have hfz17_0 := blk_frozen BKA0.out 0; have hfz17_1 := blk_frozen BKA0.out 1; have hfz17_2 := blk_frozen BKA0.out 2; have hfz17_3 := blk_frozen BKA0.out 3) | ((with_reducible refine gate_callee (f := 31) rfl ?_); refine gL_ (some 27) Tryz.func31 #[.agg #[.int .i64 ((rd_T49 l0_0 x4_1).f0), .int .i64 ((rd_T49 l0_0 x4_1).f1), .int .i64 ((rd_T49 l0_0 x4_1).f2), .int .i64 ((rd_T49 l0_0 x4_1).f3)], .int .i64 x4_1] ?_; (with_reducible refine (spec_l05Node.calls ((rd_T49 l0_0 x4_1).f0) ((rd_T49 l0_0 x4_1).f1) ((rd_T49 l0_0 x4_1).f2) ((rd_T49 l0_0 x4_1).f3) x4_1 true _ A10.out).mono ?_); rintro e w18 ⟨rfl, hb⟩; refine ⟨_, rfl, ?_⟩; replace HO_3 := rblF HO_3 BKA0 hb; replace BKA1 := bkf BKA1 hb; replace BKA0 := Aside0.mk (blk_below (g := gbA0) (o := .cells #[.int .i64 ((rd_T49 l0_0 x4_1).f0), .int .i64 ((rd_T49 l0_0 x4_1).f1), .int .i64 ((rd_T49 l0_0 x4_1).f2), .int .i64 ((rd_T49 l0_0 x4_1).f3)] 49 (0, 0)) (by (with_reducible repeat (first | refine blk_drewN ?_ _ | refine blk_drew ?_ | refine blk_alloc ?_ _)); refine blk_put (cs := #[.int .i64 ((rd_T49 l0_0 x4_1).f0), .int .i64 ((rd_T49 l0_0 x4_1).f1), .int .i64 ((rd_T49 l0_0 x4_1).f2), .int .i64 0]) ?_ 3 _ rfl; (with_reducible repeat (first | refine blk_drewN ?_ _ | refine blk_drew ?_ | refine blk_alloc ?_ _)); refine blk_put (cs := #[.int .i64 ((rd_T49 l0_0 x4_1).f0), .int .i64 ((rd_T49 l0_0 x4_1).f1), .int .i64 0, .int .i64 0]) ?_ 2 _ rfl; (with_reducible repeat (first | refine blk_drewN ?_ _ | refine blk_drew ?_ | refine blk_alloc ?_ _)); refine blk_put (cs := #[.int .i64 ((rd_T49 l0_0 x4_1).f0), .int .i64 0, .int .i64 0, .int .i64 0]) ?_ 1 _ rfl; (with_reducible repeat (first | refine blk_drewN ?_ _ | refine blk_drew ?_ | refine blk_alloc ?_ _)); refine blk_put (cs := #[.int .i64 0, .int .i64 0, .int .i64 0, .int .i64 0]) ?_ 0 _ rfl; (with_reducible repeat (first | refine blk_drewN ?_ _ | refine blk_drew ?_ | refine blk_alloc ?_ _)); exact BKA0.out) hb); replace HB := bst HB hb; (try clear hb); (try clear hb2); (try clear hk); (try clear hi); have hcz19_0 : w18.cell? ⟨gbA0, 0, none⟩ = some (.int .i64 ((rd_T49 l0_0 x4_1).f0)) := bce BKA0 0 _; have hcz19_1 : w18.cell? ⟨gbA0, 1, none⟩ = some (.int .i64 ((rd_T49 l0_0 x4_1).f1)) := bce BKA0 1 _; have hcz19_2 : w18.cell? ⟨gbA0, 2, none⟩ = some (.int .i64 ((rd_T49 l0_0 x4_1).f2)) := bce BKA0 2 _; have hcz19_3 : w18.cell? ⟨gbA0, 3, none⟩ = some (.int .i64 ((rd_T49 l0_0 x4_1).f3)) := bce BKA0 3 _; have hfz19_0 := blk_frozen BKA0.out 0; have hfz19_1 := blk_frozen BKA0.out 1; have hfz19_2 := blk_frozen BKA0.out 2; have hfz19_3 := blk_frozen BKA0.out 3) | ((with_reducible refine gate_callee (f := 32) rfl ?_); refine gL_ (some 31) Tryz.func32 #[.int .i64 ((rd_T49 l0_0 x4_1).f0)] ?_; (with_reducible refine (spec_l05Two.calls ((rd_T49 l0_0 x4_1).f0) tB2 _ A12.out).mono ?_); rintro e w' ⟨rfl, ⟨nd, rfl⟩⟩; refine ⟨_, rfl, ?_⟩))
       (try simp only [Act.put, List.setIfInBounds_toArray, List.set_cons_zero, List.set_cons_succ])
       go_cut [6] (fun v6 wc => ∃ (kq : Nat) (x6_12 : Int), v6 = .int .i64 x6_12 ∧ Aside0 (spec_ExprOK.j1 kq x3_1 x4_1 x6_12 l0_0 ((rd_T49 l0_0 x4_1).f0) ((rd_T49 l0_0 x4_1).f1) ((rd_T49 l0_0 x4_1).f2) ((rd_T49 l0_0 x4_1).f3) = some r) ∧ Aside0 (kq ≤ k1) ∧ Aside0 (Kd.R (Kd.int .i64) 3 wc w.heap.size (fun _ => True) u3 x3_1) ∧ Aside0 (wc.heap[gbA1]? = some (.cells #[(.slice (some adA2) l0_0.length c0_0)] 24 (0, 0))) ∧ Aside0 (wc.heap[gbA0]? = some (.cells #[.int .i64 ((rd_T49 l0_0 x4_1).f0), .int .i64 ((rd_T49 l0_0 x4_1).f1), .int .i64 ((rd_T49 l0_0 x4_1).f2), .int .i64 ((rd_T49 l0_0 x4_1).f3)] 49 (0, 0))) ∧ Aside0 (Below w.heap.size w wc))
       case first =>
        have H := HC13.out
        clear HC13
        by_cases c20 : tB2 = true
        ·
         subst c20
         rw [if_pos rfl] at H
         by_cases c21 : ((rd_T49 l0_0 x4_1).f2) = (wrap64 (x4_1 - 1))
         ·
          rw [if_pos c21] at H
          have c21b0 : (((rd_T49 l0_0 x4_1).f2) == (wrap64 (x4_1 - 1))) = true := beq_iff_eq.mpr c21
          have c21b1 : (((rd_T49 l0_0 x4_1).f2) != (wrap64 (x4_1 - 1))) = false := bne_eq_false_iff_eq.mpr c21
          clear c21
          (first | rw [c21b0] | (simp only [i64_w, i32_w]; rw [c21b0]) | skip)
          replace H := Option.bind_eq_some_iff.mp H
          obtain ⟨tA9, AC5, H⟩ := H
          replace H : (if tA9 = (wrap64 (((rd_T49 l0_0 x4_1).f1) + 1)) then (if 0 ≤ ((rd_T49 l0_0 x4_1).f1) then (if ((rd_T49 l0_0 x4_1).f1) < (x3_1.length : Int) then (if 0 ≤ ((rd_T49 l0_0 x4_1).f2) then (if ((rd_T49 l0_0 x4_1).f2) < (x3_1.length : Int) then (spec_ExprOK.j1 k1 x3_1 x4_1 (wrap64 (1 + (mx (rd x3_1 ((rd_T49 l0_0 x4_1).f1)) (rd x3_1 ((rd_T49 l0_0 x4_1).f2))))) l0_0 ((rd_T49 l0_0 x4_1).f0) ((rd_T49 l0_0 x4_1).f1) ((rd_T49 l0_0 x4_1).f2) ((rd_T49 l0_0 x4_1).f3)) else (none)) else (none)) else (none)) else (none)) else (some false)) = some r := H
          have A22 := Aside0.mk AC5
          clear AC5
          by_cases c23 : tA9 = (wrap64 (((rd_T49 l0_0 x4_1).f1) + 1))
          ·
           rw [if_pos c23] at H
           have c23b0 : (tA9 == (wrap64 (((rd_T49 l0_0 x4_1).f1) + 1))) = true := beq_iff_eq.mpr c23
           have c23b1 : (tA9 != (wrap64 (((rd_T49 l0_0 x4_1).f1) + 1))) = false := bne_eq_false_iff_eq.mpr c23
           clear c23
           by_cases c24 : 0 ≤ ((rd_T49 l0_0 x4_1).f1)
           ·
            rw [if_pos c24] at H
            have c24b0 : decide (0 ≤ ((rd_T49 l0_0 x4_1).f1)) = true := decide_eq_true c24
            clear c24
            by_cases c25 : ((rd_T49 l0_0 x4_1).f1) < (x3_1.length : Int)
            ·
             rw [if_pos c25] at H
             have c25b0 : decide (((rd_T49 l0_0 x4_1).f1) < (x3_1.length : Int)) = true := decide_eq_true c25
             clear c25
             by_cases c26 : 0 ≤ ((rd_T49 l0_0 x4_1).f2)
             ·
              rw [if_pos c26] at H
              have c26b0 : decide (0 ≤ ((rd_T49 l0_0 x4_1).f2)) = true := decide_eq_true c26
              clear c26
              by_cases c27 : ((rd_T49 l0_0 x4_1).f2) < (x3_1.length : Int)
              ·
               rw [if_pos c27] at H
               have c27b0 : decide (((rd_T49 l0_0 x4_1).f2) < (x3_1.length : Int)) = true := decide_eq_true c27
               clear c27
               obtain ⟨ji28, hji28⟩ : ∃ j_ : Int, (mx (rd x3_1 ((rd_T49 l0_0 x4_1).f1)) (rd x3_1 ((rd_T49 l0_0 x4_1).f2))) = j_ := ⟨_, rfl⟩
               replace H : (spec_ExprOK.j1 k1 x3_1 x4_1 (wrap64 (1 + (ji28))) l0_0 ((rd_T49 l0_0 x4_1).f0) ((rd_T49 l0_0 x4_1).f1) ((rd_T49 l0_0 x4_1).f2) ((rd_T49 l0_0 x4_1).f3)) = some r := by first | (rw [hji28] at H; exact H) | (simp only [hji28] at H ⊢; exact H)
               (try rw [hji28] at A22)
               have hji28_ : (if (rd x3_1 ((rd_T49 l0_0 x4_1).f1)) < (rd x3_1 ((rd_T49 l0_0 x4_1).f2)) then (rd x3_1 ((rd_T49 l0_0 x4_1).f2)) else (rd x3_1 ((rd_T49 l0_0 x4_1).f1))) = ji28 := hji28
               have H' := Aside0.mk H
               clear H
               try go_wp2
               (try (rw [show World.drewN w18 nd = World.drewN w18 nd from rfl]; replace HO_3 := Aside0.mk (Kd.R_drewN HO_3.out nd); replace BKA1 := Aside0.mk (blk_drewN BKA1.out nd); replace BKA0 := Aside0.mk (blk_drewN BKA0.out nd); replace HB := Aside0.mk (pw_below_drewN HB.out nd); generalize World.drewN w18 nd = w18 at HO_3 BKA1 BKA0 HB ⊢))
               replace HO_3 := Aside0.mk (Kd.R_drew HO_3.out)
               replace BKA1 := Aside0.mk (blk_drew BKA1.out)
               replace BKA0 := Aside0.mk (blk_drew BKA0.out)
               replace HB := Aside0.mk (below_drew1 HB.out)
               refine start_ (n := 15) (S := fun w' => w'.cell? ⟨gbA0, 0, none⟩ = some (.int .i64 ((rd_T49 l0_0 x4_1).f0)) ∧ w'.cell? ⟨gbA0, 1, none⟩ = some (.int .i64 ((rd_T49 l0_0 x4_1).f1)) ∧ w'.cell? ⟨gbA0, 2, none⟩ = some (.int .i64 ((rd_T49 l0_0 x4_1).f2)) ∧ w'.cell? ⟨gbA0, 3, none⟩ = some (.int .i64 ((rd_T49 l0_0 x4_1).f3)) ∧ w'.cell? ⟨gbA1, 0, none⟩ = some (.slice (some adA2) l0_0.length c0_0)) (ds := []) (bm 15 0) (by kernel_rfl) rfl rfl ⟨bce BKA0 0 _, bce BKA0 1 _, bce BKA0 2 _, bce BKA0 3 _, bce BKA1 0 _⟩ (fun hHeld => ?_); refine with_tabW spec_ExprOK.tab12 spec_ExprOK.bits12 (fun HT_ HW_ => ?_)
               generalize w18.drew = w29 at HO_3 BKA1 BKA0 HB hHeld ⊢
               refine pu_ 0 (some 32) (bm 15 1) HT_.out ?_
               refine pu_ 2 (some 34) (bm 15 5) HT_.out ?_
               refine pu_ 3 (some 35) (bm 15 13) HT_.out ?_
               refine tk_ 1 (some 33) (bm 15 15) HT_.out HW_.out hHeld ?_
               refine pu_ 4 (some 36) (bm 15 31) HT_.out ?_
               refine pu_ 5 (some 37) (bm 15 63) HT_.out ?_
               refine pu_ 7 (some 39) (bm 15 191) HT_.out ?_
               refine pu_ 10 (some 42) (bm 15 1215) HT_.out ?_
               refine tk_ 6 (some 38) (bm 15 1279) HT_.out HW_.out hHeld ?_
               refine tk_ 8 (some 40) (bm 15 1535) HT_.out HW_.out hHeld ?_
               refine tk_ 11 (some 43) (bm 15 3583) HT_.out HW_.out hHeld ?_
               refine pu_ 12 (some 44) (bm 15 7679) HT_.out ?_
               refine one_ (i := 9) (N := some 41) (bm 15 8191) rfl rfl (one_of HT_.out (by kernel_rfl)) (by decide) (fun K hK => ?_)
               refine g_ Tryz.func33 #[.agg #[.slice (some adA2) l0_0.length c0_0], .int .i64 ((rd_T49 l0_0 x4_1).f2)] ?_
               with_reducible refine (spec_l05First.calls k1 _ _ l0_0 ((rd_T49 l0_0 x4_1).f2) tA9 _ ?side1 ?side2 A22.out).mono ?_
               (case side1 => exact crC (Kd.C_below HR0_0.out HB.out))
               (case side2 => exact HC0_0.out)
               rintro e w30 ⟨rfl, hb⟩
               refine ⟨_, rfl, ?_⟩
               replace HO_3 := rblR HO_3 hb
               replace BKA1 := bkb BKA1 hb
               replace BKA0 := bkb BKA0 hb
               replace HB := bst HB hb
               (try clear hb)
               (try clear hb2)
               (try clear hk)
               (try clear hi)
               refine hK.out _ _ ⟨bce BKA0 0 _, bce BKA0 1 _, bce BKA0 2 _, bce BKA0 3 _, bce BKA1 0 _⟩ (fun hHeld => ?_)
               clear hK K
               refine nm_ 41 ?_
               refine pu_ 13 (some 45) (bm 15 16383) HT_.out ?_
               refine pu_ 14 (some 46) (bm 15 32767) HT_.out ?_
               refine done_ (done_of HT_.out (by kernel_rfl)) ?_
               try go_wp2
               (try (rw [show World.drewN w30 nd = World.drewN w30 nd from rfl]; replace HO_3 := Aside0.mk (Kd.R_drewN HO_3.out nd); replace BKA1 := Aside0.mk (blk_drewN BKA1.out nd); replace BKA0 := Aside0.mk (blk_drewN BKA0.out nd); replace HB := Aside0.mk (pw_below_drewN HB.out nd); generalize World.drewN w30 nd = w30 at HO_3 BKA1 BKA0 HB ⊢))
               replace HO_3 := Aside0.mk (Kd.R_drew HO_3.out)
               replace BKA1 := Aside0.mk (blk_drew BKA1.out)
               replace BKA0 := Aside0.mk (blk_drew BKA0.out)
               replace HB := Aside0.mk (below_drew1 HB.out)
               obtain ⟨Ao32, co32, eo32⟩ := Kd.R_slice HO_3.out
               (first | subst eo32 | (injection eo32 with f1_ f2_ f3_; have f4_ := f1_.symm; have f5_ := f3_.symm; clear f1_ f2_ f3_; subst f4_; subst f5_))
               have pA7 : 0 ≤ (((rd_T49 l0_0 x4_1).f1) : Int) := of_decide_eq_true (by first | (with_reducible assumption) | assumption)
               have qA7 : ((rd_T49 l0_0 x4_1).f1) < (x3_1.length : Int) := of_decide_eq_true (by first | (with_reducible assumption) | assumption)
               obtain ⟨adA7, eA7, hxA7_0⟩ := Kd.at_int (Kd.R_reads' HO_3.out).2.2 ((rd_T49 l0_0 x4_1).f1) pA7 qA7
               cases eA7
               replace pA7 := eq_true pA7
               replace qA7 := eq_true qA7
               have pA8 : 0 ≤ (((rd_T49 l0_0 x4_1).f2) : Int) := of_decide_eq_true (by first | (with_reducible assumption) | assumption)
               have qA8 : ((rd_T49 l0_0 x4_1).f2) < (x3_1.length : Int) := of_decide_eq_true (by first | (with_reducible assumption) | assumption)
               obtain ⟨adA8, eA8, hxA8_0⟩ := Kd.at_int (Kd.R_reads' HO_3.out).2.2 ((rd_T49 l0_0 x4_1).f2) pA8 qA8
               obtain rfl : adA7 = adA8 := (by injection eA8)
               replace pA8 := eq_true pA8
               replace qA8 := eq_true qA8
               refine start_ (n := 13) (S := fun w' => w'.cell? ⟨gbA0, 0, none⟩ = some (.int .i64 ((rd_T49 l0_0 x4_1).f0)) ∧ w'.cell? ⟨gbA0, 1, none⟩ = some (.int .i64 ((rd_T49 l0_0 x4_1).f1)) ∧ w'.cell? ⟨gbA0, 2, none⟩ = some (.int .i64 ((rd_T49 l0_0 x4_1).f2)) ∧ w'.cell? ⟨gbA0, 3, none⟩ = some (.int .i64 ((rd_T49 l0_0 x4_1).f3)) ∧ w'.cell? (adA7.add (((rd_T49 l0_0 x4_1).f1)).toNat) = some (.int .i64 (rd x3_1 ((rd_T49 l0_0 x4_1).f1))) ∧ w'.cell? (adA7.add (((rd_T49 l0_0 x4_1).f2)).toNat) = some (.int .i64 (rd x3_1 ((rd_T49 l0_0 x4_1).f2)))) (ds := []) (bm 13 0) (by kernel_rfl) rfl rfl ⟨bce BKA0 0 _, bce BKA0 1 _, bce BKA0 2 _, bce BKA0 3 _, hxA7_0, hxA8_0⟩ (fun hHeld => ?_); refine with_tabW spec_ExprOK.tab14 spec_ExprOK.bits14 (fun HT_ HW_ => ?_)
               generalize w30.drew = w31 at HO_3 BKA1 BKA0 HB hxA7_0 hxA8_0 hHeld ⊢
               refine pu_ 0 (some 47) (bm 13 1) HT_.out ?_
               refine pu_ 1 (some 48) (bm 13 3) HT_.out ?_
               refine pu_ 5 (some 52) (bm 13 35) HT_.out ?_
               refine pu_ 6 (some 53) (bm 13 99) HT_.out ?_
               refine tk_ 2 (some 49) (bm 13 103) HT_.out HW_.out hHeld ?_
               refine pu_ 3 (some 50) (bm 13 111) HT_.out ?_
               refine tk_ 4 (some 51) (bm 13 127) HT_.out HW_.out hHeld ?_
               refine tk_ 7 (some 54) (bm 13 255) HT_.out HW_.out hHeld ?_
               refine pu_ 8 (some 55) (bm 13 511) HT_.out ?_
               refine tk_ 9 (some 56) (bm 13 1023) HT_.out HW_.out hHeld ?_
               refine pu_ 10 (some 57) (bm 13 2047) HT_.out ?_
               refine pu_ 11 (some 58) (bm 13 4095) HT_.out ?_
               refine pu_ 12 (some 6) (bm 13 8191) HT_.out ?_
               refine done_ (done_of HT_.out (by kernel_rfl)) ?_
               try go_wp2
               go_meet
               case rel => exact ⟨_, (wrap64 (1 + (ji28))), (by first | rfl | (simp; done) | (simp only [← hji28] <;> (first | rfl | simp)) | (simp [*]; done)), H', ⟨by have := HK1.out; first | omega | exact Nat.le_refl _⟩, ⟨crR HO_3⟩, ⟨crb BKA1⟩, ⟨crb BKA0⟩, ⟨blw HB⟩⟩
              ·
               rw [if_neg c27] at H
               exact absurd H (by simp)
             ·
              rw [if_neg c26] at H
              exact absurd H (by simp)
            ·
             rw [if_neg c25] at H
             exact absurd H (by simp)
           ·
            rw [if_neg c24] at H
            exact absurd H (by simp)
          ·
           rw [if_neg c23] at H
           have c23b0 : (tA9 == (wrap64 (((rd_T49 l0_0 x4_1).f1) + 1))) = false := beq_eq_false_iff_ne.mpr c23
           have c23b1 : (tA9 != (wrap64 (((rd_T49 l0_0 x4_1).f1) + 1))) = true := bne_iff_ne.mpr c23
           obtain rfl := Option.some.inj H
           try go_wp2
           (try (rw [show World.drewN w18 nd = World.drewN w18 nd from rfl]; replace HO_3 := Aside0.mk (Kd.R_drewN HO_3.out nd); replace BKA1 := Aside0.mk (blk_drewN BKA1.out nd); replace BKA0 := Aside0.mk (blk_drewN BKA0.out nd); replace HB := Aside0.mk (pw_below_drewN HB.out nd); generalize World.drewN w18 nd = w18 at HO_3 BKA1 BKA0 HB ⊢))
           replace HO_3 := Aside0.mk (Kd.R_drew HO_3.out)
           replace BKA1 := Aside0.mk (blk_drew BKA1.out)
           replace BKA0 := Aside0.mk (blk_drew BKA0.out)
           replace HB := Aside0.mk (below_drew1 HB.out)
           refine start_ (n := 15) (S := fun w' => w'.cell? ⟨gbA0, 0, none⟩ = some (.int .i64 ((rd_T49 l0_0 x4_1).f0)) ∧ w'.cell? ⟨gbA0, 1, none⟩ = some (.int .i64 ((rd_T49 l0_0 x4_1).f1)) ∧ w'.cell? ⟨gbA0, 2, none⟩ = some (.int .i64 ((rd_T49 l0_0 x4_1).f2)) ∧ w'.cell? ⟨gbA0, 3, none⟩ = some (.int .i64 ((rd_T49 l0_0 x4_1).f3)) ∧ w'.cell? ⟨gbA1, 0, none⟩ = some (.slice (some adA2) l0_0.length c0_0)) (ds := []) (bm 15 0) (by kernel_rfl) rfl rfl ⟨bce BKA0 0 _, bce BKA0 1 _, bce BKA0 2 _, bce BKA0 3 _, bce BKA1 0 _⟩ (fun hHeld => ?_); refine with_tabW spec_ExprOK.tab12 spec_ExprOK.bits12 (fun HT_ HW_ => ?_)
           generalize w18.drew = w33 at HO_3 BKA1 BKA0 HB hHeld ⊢
           refine pu_ 0 (some 32) (bm 15 1) HT_.out ?_
           refine pu_ 2 (some 34) (bm 15 5) HT_.out ?_
           refine pu_ 3 (some 35) (bm 15 13) HT_.out ?_
           refine tk_ 1 (some 33) (bm 15 15) HT_.out HW_.out hHeld ?_
           refine pu_ 4 (some 36) (bm 15 31) HT_.out ?_
           refine pu_ 5 (some 37) (bm 15 63) HT_.out ?_
           refine pu_ 7 (some 39) (bm 15 191) HT_.out ?_
           refine pu_ 10 (some 42) (bm 15 1215) HT_.out ?_
           refine tk_ 6 (some 38) (bm 15 1279) HT_.out HW_.out hHeld ?_
           refine tk_ 8 (some 40) (bm 15 1535) HT_.out HW_.out hHeld ?_
           refine tk_ 11 (some 43) (bm 15 3583) HT_.out HW_.out hHeld ?_
           refine pu_ 12 (some 44) (bm 15 7679) HT_.out ?_
           refine one_ (i := 9) (N := some 41) (bm 15 8191) rfl rfl (one_of HT_.out (by kernel_rfl)) (by decide) (fun K hK => ?_)
           refine g_ Tryz.func33 #[.agg #[.slice (some adA2) l0_0.length c0_0], .int .i64 ((rd_T49 l0_0 x4_1).f2)] ?_
           with_reducible refine (spec_l05First.calls k1 _ _ l0_0 ((rd_T49 l0_0 x4_1).f2) tA9 _ ?side1 ?side2 A22.out).mono ?_
           (case side1 => exact crC (Kd.C_below HR0_0.out HB.out))
           (case side2 => exact HC0_0.out)
           rintro e w34 ⟨rfl, hb⟩
           refine ⟨_, rfl, ?_⟩
           replace HO_3 := rblR HO_3 hb
           replace BKA1 := bkb BKA1 hb
           replace BKA0 := bkb BKA0 hb
           replace HB := bst HB hb
           (try clear hb)
           (try clear hb2)
           (try clear hk)
           (try clear hi)
           refine hK.out _ _ ⟨bce BKA0 0 _, bce BKA0 1 _, bce BKA0 2 _, bce BKA0 3 _, bce BKA1 0 _⟩ (fun hHeld => ?_)
           clear hK K
           refine nm_ 41 ?_
           refine pu_ 13 (some 45) (bm 15 16383) HT_.out ?_
           refine pu_ 14 (some 46) (bm 15 32767) HT_.out ?_
           refine done_ (done_of HT_.out (by kernel_rfl)) ?_
           try go_wp2
           go_ret
           exact ⟨er_, blw HB⟩
         ·
          rw [if_neg c21] at H
          have c21b0 : (((rd_T49 l0_0 x4_1).f2) == (wrap64 (x4_1 - 1))) = false := beq_eq_false_iff_ne.mpr c21
          have c21b1 : (((rd_T49 l0_0 x4_1).f2) != (wrap64 (x4_1 - 1))) = true := bne_iff_ne.mpr c21
          (first | rw [c21b0] | (simp only [i64_w, i32_w]; rw [c21b0]) | skip)
          obtain rfl := Option.some.inj H
          try go_wp2
          (try (rw [show World.drewN w18 nd = World.drewN w18 nd from rfl]; replace HO_3 := Aside0.mk (Kd.R_drewN HO_3.out nd); replace BKA1 := Aside0.mk (blk_drewN BKA1.out nd); replace BKA0 := Aside0.mk (blk_drewN BKA0.out nd); replace HB := Aside0.mk (pw_below_drewN HB.out nd); generalize World.drewN w18 nd = w18 at HO_3 BKA1 BKA0 HB ⊢))
          replace HO_3 := Aside0.mk (Kd.R_drew HO_3.out)
          replace BKA1 := Aside0.mk (blk_drew BKA1.out)
          replace BKA0 := Aside0.mk (blk_drew BKA0.out)
          replace HB := Aside0.mk (below_drew1 HB.out)
          refine start_ (n := 15) (S := fun w' => w'.cell? ⟨gbA0, 0, none⟩ = some (.int .i64 ((rd_T49 l0_0 x4_1).f0)) ∧ w'.cell? ⟨gbA0, 1, none⟩ = some (.int .i64 ((rd_T49 l0_0 x4_1).f1)) ∧ w'.cell? ⟨gbA0, 2, none⟩ = some (.int .i64 ((rd_T49 l0_0 x4_1).f2)) ∧ w'.cell? ⟨gbA0, 3, none⟩ = some (.int .i64 ((rd_T49 l0_0 x4_1).f3))) (ds := []) (bm 15 0) (by kernel_rfl) rfl rfl ⟨bce BKA0 0 _, bce BKA0 1 _, bce BKA0 2 _, bce BKA0 3 _⟩ (fun hHeld => ?_); refine with_tabW spec_ExprOK.tab12 spec_ExprOK.bits12 (fun HT_ HW_ => ?_)
          generalize w18.drew = w35 at HO_3 BKA1 BKA0 HB hHeld ⊢
          refine pu_ 0 (some 32) (bm 15 1) HT_.out ?_
          refine pu_ 2 (some 34) (bm 15 5) HT_.out ?_
          refine pu_ 3 (some 35) (bm 15 13) HT_.out ?_
          refine tk_ 1 (some 33) (bm 15 15) HT_.out HW_.out hHeld ?_
          refine pu_ 4 (some 36) (bm 15 31) HT_.out ?_
          refine pu_ 5 (some 37) (bm 15 63) HT_.out ?_
          refine pure_ (i := 6) (N := some 38) (v := undef) (a' := ?_) (bm 15 127) rfl rfl (any_of HT_.out (by kernel_rfl)) (fun _ _ _ h => h) (Or.inr ⟨by rfl, rfl⟩) ?_ ?_
          rotate_left
          ·
           simp only [Act.put, List.setIfInBounds_toArray, List.set_cons_zero, List.set_cons_succ, i64_w, i32_w]
           rfl
          refine pure_ (i := 7) (N := some 39) (v := undef) (a' := ?_) (bm 15 255) rfl rfl (any_of HT_.out (by kernel_rfl)) (fun _ _ _ h => h) (Or.inr ⟨by rfl, rfl⟩) ?_ ?_
          rotate_left
          ·
           simp only [Act.put, List.setIfInBounds_toArray, List.set_cons_zero, List.set_cons_succ, i64_w, i32_w]
           rfl
          refine pure_ (i := 8) (N := some 40) (v := undef) (a' := ?_) (bm 15 511) rfl rfl (any_of HT_.out (by kernel_rfl)) (fun _ _ _ h => h) (Or.inr ⟨by rfl, rfl⟩) ?_ ?_
          rotate_left
          ·
           simp only [Act.put, List.setIfInBounds_toArray, List.set_cons_zero, List.set_cons_succ, i64_w, i32_w]
           rfl
          refine pure_ (i := 9) (N := some 41) (v := undef) (a' := ?_) (bm 15 1023) rfl rfl (any_of HT_.out (by kernel_rfl)) (fun _ _ _ h => h) (Or.inr ⟨by rfl, rfl⟩) ?_ ?_
          rotate_left
          ·
           simp only [Act.put, List.setIfInBounds_toArray, List.set_cons_zero, List.set_cons_succ, i64_w, i32_w]
           rfl
          refine pure_ (i := 10) (N := some 42) (v := undef) (a' := ?_) (bm 15 2047) rfl rfl (any_of HT_.out (by kernel_rfl)) (fun _ _ _ h => h) (Or.inr ⟨by rfl, rfl⟩) ?_ ?_
          rotate_left
          ·
           simp only [Act.put, List.setIfInBounds_toArray, List.set_cons_zero, List.set_cons_succ, i64_w, i32_w]
           rfl
          refine pure_ (i := 11) (N := some 43) (v := undef) (a' := ?_) (bm 15 4095) rfl rfl (any_of HT_.out (by kernel_rfl)) (fun _ _ _ h => h) (Or.inr ⟨by rfl, rfl⟩) ?_ ?_
          rotate_left
          ·
           simp only [Act.put, List.setIfInBounds_toArray, List.set_cons_zero, List.set_cons_succ, i64_w, i32_w]
           rfl
          refine pure_ (i := 12) (N := some 44) (v := undef) (a' := ?_) (bm 15 8191) rfl rfl (any_of HT_.out (by kernel_rfl)) (fun _ _ _ h => h) (Or.inr ⟨by rfl, rfl⟩) ?_ ?_
          rotate_left
          ·
           simp only [Act.put, List.setIfInBounds_toArray, List.set_cons_zero, List.set_cons_succ, i64_w, i32_w]
           rfl
          refine pure_ (i := 13) (N := some 45) (v := undef) (a' := ?_) (bm 15 16383) rfl rfl (any_of HT_.out (by kernel_rfl)) (fun _ _ _ h => h) (Or.inr ⟨by rfl, rfl⟩) ?_ ?_
          rotate_left
          ·
           simp only [Act.put, List.setIfInBounds_toArray, List.set_cons_zero, List.set_cons_succ, i64_w, i32_w]
           rfl
          refine pu_ 14 (some 46) (bm 15 32767) HT_.out ?_
          refine done_ (done_of HT_.out (by kernel_rfl)) ?_
          try go_wp2
          go_ret
          exact ⟨er_, blw HB⟩
        ·
         replace c20 := Bool.eq_false_iff.mpr c20
         subst c20
         rw [if_neg (show ¬ (false = true) by decide)] at H
         have H' := Aside0.mk H
         clear H
         go_wp2
         go_meet
         case rel => exact ⟨_, (1), rs_, H', ⟨by have := HK1.out; first | omega | exact Nat.le_refl _⟩, ⟨crR HO_3⟩, ⟨crb BKA1⟩, ⟨crb BKA0⟩, ⟨blw HB⟩⟩
       case rest =>
        clear HC13
        try clear p1
        try clear q1
        try clear hx1
        try clear c2
        try clear p2
        try clear c3
        try clear p6
        try clear p18
        try clear q18
        try clear hx18
        try clear c20
        try clear c21
        try clear c21b0
        try clear c21b1
        try clear c23
        try clear c23b0
        try clear c23b1
        try clear c24
        try clear c25
        try clear c26
        try clear c27
        try clear c33
        try clear hxA7_0
        try clear hxA8_0
        try clear pA7
        try clear pA8
        try clear qA7
        try clear qA8
        obtain ⟨kq, x6_12, rfl, HA, HJ12, HO_3, BKA1, BKA0, HB⟩ := hcut
        cases kq with
        | zero => exact absurd HA.out (by simp [spec_ExprOK.j1])
        | succ kj12 =>
         have H := HA.out
         clear HA
         simp only [spec_ExprOK.j1] at H
         replace H := Option.bind_eq_some_iff.mp H
         obtain ⟨tC1, AC6, H⟩ := H
         replace H : (if tC1 = true then (if 0 ≤ ((rd_T49 l0_0 x4_1).f1) then (if ((rd_T49 l0_0 x4_1).f1) < (x3_1.length : Int) then (if (wrap64 (1 + (rd x3_1 ((rd_T49 l0_0 x4_1).f1)))) > 12 then (some false) else (if x3_1.length < 17592186044416 then (spec_ExprOK.l0 kj12 (x3_1 ++ [wrap64 (1 + (rd x3_1 ((rd_T49 l0_0 x4_1).f1)))]) (wrap64 (x4_1 + 1)) l0_0) else (none))) else (none)) else (none)) else (if x6_12 > 12 then (some false) else (if x3_1.length < 17592186044416 then (spec_ExprOK.l0 kj12 (x3_1 ++ [x6_12]) (wrap64 (x4_1 + 1)) l0_0) else (none)))) = some r := H
         have A36 := Aside0.mk AC6
         clear AC6
         by_cases c37 : tC1 = true
         ·
          subst c37
          rw [if_pos rfl] at H
          by_cases c38 : 0 ≤ ((rd_T49 l0_0 x4_1).f1)
          ·
           rw [if_pos c38] at H
           have c38b0 : decide (0 ≤ ((rd_T49 l0_0 x4_1).f1)) = true := decide_eq_true c38
           clear c38
           by_cases c39 : ((rd_T49 l0_0 x4_1).f1) < (x3_1.length : Int)
           ·
            rw [if_pos c39] at H
            have c39b0 : decide (((rd_T49 l0_0 x4_1).f1) < (x3_1.length : Int)) = true := decide_eq_true c39
            clear c39
            by_cases c40 : (wrap64 (1 + (rd x3_1 ((rd_T49 l0_0 x4_1).f1)))) > 12
            ·
             rw [if_pos c40] at H
             have c40b0 : decide (12 < (wrap64 (1 + (rd x3_1 ((rd_T49 l0_0 x4_1).f1))))) = true := decide_eq_true c40
             clear c40
             obtain rfl := Option.some.inj H
             have hnb41 := NBA0_A1.out
             have hnc41 := NBA1_A0.out
             have hcz42_0 : wc.cell? ⟨gbA0, 0, none⟩ = some (.int .i64 ((rd_T49 l0_0 x4_1).f0)) := bce BKA0 0 _
             have hcz42_1 : wc.cell? ⟨gbA0, 1, none⟩ = some (.int .i64 ((rd_T49 l0_0 x4_1).f1)) := bce BKA0 1 _
             have hcz42_2 : wc.cell? ⟨gbA0, 2, none⟩ = some (.int .i64 ((rd_T49 l0_0 x4_1).f2)) := bce BKA0 2 _
             have hcz42_3 : wc.cell? ⟨gbA0, 3, none⟩ = some (.int .i64 ((rd_T49 l0_0 x4_1).f3)) := bce BKA0 3 _
             have hfz42_0 := blk_frozen BKA0.out 0
             have hfz42_1 := blk_frozen BKA0.out 1
             have hfz42_2 := blk_frozen BKA0.out 2
             have hfz42_3 := blk_frozen BKA0.out 3
             go_wp2_with (first | ((with_reducible refine gate_callee (f := 34) rfl ?_); refine gL_ (some 61) Tryz.func34 #[.int .i64 ((rd_T49 l0_0 x4_1).f0)] ?_; (with_reducible refine (spec_l05One.calls ((rd_T49 l0_0 x4_1).f0) true _ A36.out).mono ?_); rintro e w' ⟨rfl, ⟨nd, rfl⟩⟩; refine ⟨_, rfl, ?_⟩; obtain ⟨Ao43, co43, eo43⟩ := Kd.R_slice HO_3.out; subst eo43; have pA5 : 0 ≤ (((rd_T49 l0_0 x4_1).f1) : Int) := of_decide_eq_true (by first | (with_reducible assumption) | assumption); have qA5 : ((rd_T49 l0_0 x4_1).f1) < (x3_1.length : Int) := of_decide_eq_true (by first | (with_reducible assumption) | assumption); obtain ⟨adA5, eA5, hxA5_0⟩ := Kd.at_int (Kd.R_reads' HO_3.out).2.2 ((rd_T49 l0_0 x4_1).f1) pA5 qA5; cases eA5; replace pA5 := eq_true pA5; replace qA5 := eq_true qA5))
             go_ret
             exact ⟨er_, blw HB⟩
            ·
             rw [if_neg c40] at H
             have c40b0 : decide (12 < (wrap64 (1 + (rd x3_1 ((rd_T49 l0_0 x4_1).f1))))) = false := decide_eq_false c40
             clear c40
             by_cases c44 : x3_1.length < 17592186044416
             ·
              rw [if_pos c44] at H
              have LMc44 := Aside0.mk c44
              clear c44
              obtain ⟨yC2, hy187⟩ : ∃ y_ : List Int, y_ = (x3_1 ++ [wrap64 (1 + (rd x3_1 ((rd_T49 l0_0 x4_1).f1)))]) := ⟨_, rfl⟩
              replace H : (spec_ExprOK.l0 kj12 yC2 (wrap64 (x4_1 + 1)) l0_0) = some r := by subst hy187; first | with_reducible exact H | with_reducible exact (Option.bind_some _ _).symm.trans H | exact H
              have NyC2 := Aside0.mk hy187
              clear hy187
              have H' := Aside0.mk H
              clear H
              have hnb45 := NBA0_A1.out
              have hnc45 := NBA1_A0.out
              have hcz46_0 : wc.cell? ⟨gbA0, 0, none⟩ = some (.int .i64 ((rd_T49 l0_0 x4_1).f0)) := bce BKA0 0 _
              have hcz46_1 : wc.cell? ⟨gbA0, 1, none⟩ = some (.int .i64 ((rd_T49 l0_0 x4_1).f1)) := bce BKA0 1 _
              have hcz46_2 : wc.cell? ⟨gbA0, 2, none⟩ = some (.int .i64 ((rd_T49 l0_0 x4_1).f2)) := bce BKA0 2 _
              have hcz46_3 : wc.cell? ⟨gbA0, 3, none⟩ = some (.int .i64 ((rd_T49 l0_0 x4_1).f3)) := bce BKA0 3 _
              have hfz46_0 := blk_frozen BKA0.out 0
              have hfz46_1 := blk_frozen BKA0.out 1
              have hfz46_2 := blk_frozen BKA0.out 2
              have hfz46_3 := blk_frozen BKA0.out 3
              go_wp2_with (first | ((with_reducible refine gate_callee (f := 34) rfl ?_); refine gL_ (some 61) Tryz.func34 #[.int .i64 ((rd_T49 l0_0 x4_1).f0)] ?_; (with_reducible refine (spec_l05One.calls ((rd_T49 l0_0 x4_1).f0) true _ A36.out).mono ?_); rintro e w' ⟨rfl, ⟨nd, rfl⟩⟩; refine ⟨_, rfl, ?_⟩; obtain ⟨Ao47, co47, eo47⟩ := Kd.R_slice HO_3.out; subst eo47; have pA5 : 0 ≤ (((rd_T49 l0_0 x4_1).f1) : Int) := of_decide_eq_true (by first | (with_reducible assumption) | assumption); have qA5 : ((rd_T49 l0_0 x4_1).f1) < (x3_1.length : Int) := of_decide_eq_true (by first | (with_reducible assumption) | assumption); obtain ⟨adA5, eA5, hxA5_0⟩ := Kd.at_int (Kd.R_reads' HO_3.out).2.2 ((rd_T49 l0_0 x4_1).f1) pA5 qA5; cases eA5; replace pA5 := eq_true pA5; replace qA5 := eq_true qA5) | ((with_reducible refine gate_builtin (b := .append) (xs := #[.tmp 70, .tmp 72]) rfl ?_); at_builtin; refine Kd.R_append (Kd.int .i64) (w0 := w) w.heap.size rfl (.tmp 70) (.tmp 72) 42 3 (.int .i64 0) 8 rfl Tryz.underlying42 info3 rfl (by decide) (by omega) (.slice (some adA5) x3_1.length co47) x3_1 (wrap64 (1 + (rd x3_1 ((rd_T49 l0_0 x4_1).f1)))) [.int .i64 (wrap64 (1 + (rd x3_1 ((rd_T49 l0_0 x4_1).f1))))] (fun _ => True) (fun _ => False) rfl rfl ?aP (fun _ hk => hk.elim) ?aF ?aO ?aB ?aS ?aL ?_; (case aP => exact rfl); (case aB => exact (blw HB)); (case aF => exact (fun _ _ => trivial)); (case aO => exact (crR HO_3)); (case aS => exact (bsz HB)); (case aL => have := LMc44.out; omega); intro vD5 w48 ho hb hg hat; rw [← NyC2.out] at ho; replace BKA1 := Aside0.mk (blk_grown (g := gbA1) (o := .cells #[.slice (some adA2) l0_0.length c0_0] 24 (0, 0)) (crb BKA1) hg (Kd.R_ne HO_3.out BKA1.out (by decide))); replace BKA0 := Aside0.mk (blk_grown (g := gbA0) (o := .cells #[.int .i64 ((rd_T49 l0_0 x4_1).f0), .int .i64 ((rd_T49 l0_0 x4_1).f1), .int .i64 ((rd_T49 l0_0 x4_1).f2), .int .i64 ((rd_T49 l0_0 x4_1).f3)] 49 (0, 0)) (crb BKA0) hg (Kd.R_ne HO_3.out BKA0.out (by decide))); replace HB := Aside0.mk (hb); have HOD2 := Aside0.mk (ho); clear HO_3; clear ho hb hg hat))
              go_roundg kj12
              case measure => have := HK1.out; have := HJ12.out; omega
              case rel => exact ⟨(yC2), (wrap64 (x4_1 + 1)), rs_, H', ⟨by have := HK1.out; have := HJ12.out; omega⟩, ⟨crR HOD2⟩, ⟨crb BKA1⟩, ⟨blw HB⟩⟩
             ·
              rw [if_neg c44] at H
              exact absurd H (by simp)
           ·
            rw [if_neg c39] at H
            exact absurd H (by simp)
          ·
           rw [if_neg c38] at H
           exact absurd H (by simp)
         ·
          replace c37 := Bool.eq_false_iff.mpr c37
          subst c37
          rw [if_neg (show ¬ (false = true) by decide)] at H
          by_cases c49 : x6_12 > 12
          ·
           rw [if_pos c49] at H
           have c49b0 : decide (12 < x6_12) = true := decide_eq_true c49
           clear c49
           obtain rfl := Option.some.inj H
           have hnb50 := NBA0_A1.out
           have hnc50 := NBA1_A0.out
           have hcz51_0 : wc.cell? ⟨gbA0, 0, none⟩ = some (.int .i64 ((rd_T49 l0_0 x4_1).f0)) := bce BKA0 0 _
           have hcz51_1 : wc.cell? ⟨gbA0, 1, none⟩ = some (.int .i64 ((rd_T49 l0_0 x4_1).f1)) := bce BKA0 1 _
           have hcz51_2 : wc.cell? ⟨gbA0, 2, none⟩ = some (.int .i64 ((rd_T49 l0_0 x4_1).f2)) := bce BKA0 2 _
           have hcz51_3 : wc.cell? ⟨gbA0, 3, none⟩ = some (.int .i64 ((rd_T49 l0_0 x4_1).f3)) := bce BKA0 3 _
           have hfz51_0 := blk_frozen BKA0.out 0
           have hfz51_1 := blk_frozen BKA0.out 1
           have hfz51_2 := blk_frozen BKA0.out 2
           have hfz51_3 := blk_frozen BKA0.out 3
           go_wp2_with (first | ((with_reducible refine gate_callee (f := 34) rfl ?_); refine gL_ (some 61) Tryz.func34 #[.int .i64 ((rd_T49 l0_0 x4_1).f0)] ?_; (with_reducible refine (spec_l05One.calls ((rd_T49 l0_0 x4_1).f0) false _ A36.out).mono ?_); rintro e w' ⟨rfl, ⟨nd, rfl⟩⟩; refine ⟨_, rfl, ?_⟩))
           go_ret
           exact ⟨er_, blw HB⟩
          ·
           rw [if_neg c49] at H
           have c49b0 : decide (12 < x6_12) = false := decide_eq_false c49
           clear c49
           by_cases c52 : x3_1.length < 17592186044416
           ·
            rw [if_pos c52] at H
            have LMc52 := Aside0.mk c52
            clear c52
            obtain ⟨yC3, hy190⟩ : ∃ y_ : List Int, y_ = (x3_1 ++ [x6_12]) := ⟨_, rfl⟩
            replace H : (spec_ExprOK.l0 kj12 yC3 (wrap64 (x4_1 + 1)) l0_0) = some r := by subst hy190; first | with_reducible exact H | with_reducible exact (Option.bind_some _ _).symm.trans H | exact H
            have NyC3 := Aside0.mk hy190
            clear hy190
            have H' := Aside0.mk H
            clear H
            have hnb53 := NBA0_A1.out
            have hnc53 := NBA1_A0.out
            have hcz54_0 : wc.cell? ⟨gbA0, 0, none⟩ = some (.int .i64 ((rd_T49 l0_0 x4_1).f0)) := bce BKA0 0 _
            have hcz54_1 : wc.cell? ⟨gbA0, 1, none⟩ = some (.int .i64 ((rd_T49 l0_0 x4_1).f1)) := bce BKA0 1 _
            have hcz54_2 : wc.cell? ⟨gbA0, 2, none⟩ = some (.int .i64 ((rd_T49 l0_0 x4_1).f2)) := bce BKA0 2 _
            have hcz54_3 : wc.cell? ⟨gbA0, 3, none⟩ = some (.int .i64 ((rd_T49 l0_0 x4_1).f3)) := bce BKA0 3 _
            have hfz54_0 := blk_frozen BKA0.out 0
            have hfz54_1 := blk_frozen BKA0.out 1
            have hfz54_2 := blk_frozen BKA0.out 2
            have hfz54_3 := blk_frozen BKA0.out 3
            go_wp2_with (first | ((with_reducible refine gate_callee (f := 34) rfl ?_); refine gL_ (some 61) Tryz.func34 #[.int .i64 ((rd_T49 l0_0 x4_1).f0)] ?_; (with_reducible refine (spec_l05One.calls ((rd_T49 l0_0 x4_1).f0) false _ A36.out).mono ?_); rintro e w' ⟨rfl, ⟨nd, rfl⟩⟩; refine ⟨_, rfl, ?_⟩) | ((with_reducible refine gate_builtin (b := .append) (xs := #[.tmp 70, .tmp 72]) rfl ?_); at_builtin; refine Kd.R_append (Kd.int .i64) (w0 := w) w.heap.size rfl (.tmp 70) (.tmp 72) 42 3 (.int .i64 0) 8 rfl Tryz.underlying42 info3 rfl (by decide) (by omega) u3 x3_1 x6_12 [.int .i64 x6_12] (fun _ => True) (fun _ => False) rfl rfl ?aP (fun _ hk => hk.elim) ?aF ?aO ?aB ?aS ?aL ?_; (case aP => exact rfl); (case aB => exact (blw HB)); (case aF => exact (fun _ _ => trivial)); (case aO => exact (crR HO_3)); (case aS => exact (bsz HB)); (case aL => have := LMc52.out; omega); intro vD6 w55 ho hb hg hat; rw [← NyC3.out] at ho; replace BKA1 := Aside0.mk (blk_grown (g := gbA1) (o := .cells #[.slice (some adA2) l0_0.length c0_0] 24 (0, 0)) (crb BKA1) hg (Kd.R_ne HO_3.out BKA1.out (by decide))); replace BKA0 := Aside0.mk (blk_grown (g := gbA0) (o := .cells #[.int .i64 ((rd_T49 l0_0 x4_1).f0), .int .i64 ((rd_T49 l0_0 x4_1).f1), .int .i64 ((rd_T49 l0_0 x4_1).f2), .int .i64 ((rd_T49 l0_0 x4_1).f3)] 49 (0, 0)) (crb BKA0) hg (Kd.R_ne HO_3.out BKA0.out (by decide))); replace HB := Aside0.mk (hb); have HOD3 := Aside0.mk (ho); clear HO_3; clear ho hb hg hat))
            go_roundg kj12
            case measure => have := HK1.out; have := HJ12.out; omega
            case rel => exact ⟨(yC3), (wrap64 (x4_1 + 1)), rs_, H', ⟨by have := HK1.out; have := HJ12.out; omega⟩, ⟨crR HOD3⟩, ⟨crb BKA1⟩, ⟨blw HB⟩⟩
           ·
            rw [if_neg c52] at H
            exact absurd H (by simp)
      ·
       replace c11 := Bool.eq_false_iff.mpr c11
       subst c11
       rw [if_neg (show ¬ (false = true) by decide)] at H
       obtain rfl := Option.some.inj H
       have hcz56_0 := bce BKA1 0 (.slice A0_0 l0_0.length c0_0)
       have hfz56_0 := blk_frozen BKA1.out 0
       have pA2 : 0 ≤ (x4_1 : Int) := of_decide_eq_true (by first | (with_reducible assumption) | assumption)
       have qA2 : x4_1 < (l0_0.length : Int) := of_decide_eq_true (by first | (with_reducible assumption) | assumption)
       obtain ⟨adA2, eA2, hxA2_0, hxA2_1, hxA2_2, hxA2_3⟩ := at_T49 HR0_0.out x4_1 pA2 qA2
       cases eA2
       replace hxA2_0 := (HB.out.cell (World.block_lt_of_cell? w _ hxA2_0)).trans hxA2_0
       replace hxA2_1 := (HB.out.cell (World.block_lt_of_cell? w _ hxA2_1)).trans hxA2_1
       replace hxA2_2 := (HB.out.cell (World.block_lt_of_cell? w _ hxA2_2)).trans hxA2_2
       replace hxA2_3 := (HB.out.cell (World.block_lt_of_cell? w _ hxA2_3)).trans hxA2_3
       replace pA2 := eq_true pA2
       replace qA2 := eq_true qA2
       go_wp2_with (first | ((with_reducible refine gate_dst (N := 5) rfl ?_); refine bx_ (N := 5) (cs := #[.int .i64 0, .int .i64 0, .int .i64 0, .int .i64 0]) (t := 49) ?_; intro gbA0 hg w57 hbox hb; replace HO_3 := rblR HO_3 hb; have BKA0 := Aside0.mk (hbox); have GWA0 := geh hg HB; have GEA0 := geh hg HB; replace HB := bst HB hb; have NBA1_A0 := nlt hg BKA1; have NBA0_A1 := ngt hg BKA1; replace BKA1 := bkb BKA1 hb; clear hb hbox hg; have hnb58 := NBA0_A1.out; have hnc58 := NBA1_A0.out; have hcz59_0 := bce BKA0 0 (.int .i64 0); have hcz59_1 := bce BKA0 1 (.int .i64 0); have hcz59_2 := bce BKA0 2 (.int .i64 0); have hcz59_3 := bce BKA0 3 (.int .i64 0); have hfz59_0 := blk_frozen BKA0.out 0; have hfz59_1 := blk_frozen BKA0.out 1; have hfz59_2 := blk_frozen BKA0.out 2; have hfz59_3 := blk_frozen BKA0.out 3) | ((with_reducible refine gate_callee (f := 31) rfl ?_); refine gL_ (some 27) Tryz.func31 #[.agg #[.int .i64 ((rd_T49 l0_0 x4_1).f0), .int .i64 ((rd_T49 l0_0 x4_1).f1), .int .i64 ((rd_T49 l0_0 x4_1).f2), .int .i64 ((rd_T49 l0_0 x4_1).f3)], .int .i64 x4_1] ?_; (with_reducible refine (spec_l05Node.calls ((rd_T49 l0_0 x4_1).f0) ((rd_T49 l0_0 x4_1).f1) ((rd_T49 l0_0 x4_1).f2) ((rd_T49 l0_0 x4_1).f3) x4_1 false _ A10.out).mono ?_); rintro e w60 ⟨rfl, hb⟩; refine ⟨_, rfl, ?_⟩; replace HO_3 := rblF HO_3 BKA0 hb; replace BKA1 := bkf BKA1 hb; replace BKA0 := Aside0.mk (blk_below (g := gbA0) (o := .cells #[.int .i64 ((rd_T49 l0_0 x4_1).f0), .int .i64 ((rd_T49 l0_0 x4_1).f1), .int .i64 ((rd_T49 l0_0 x4_1).f2), .int .i64 ((rd_T49 l0_0 x4_1).f3)] 49 (0, 0)) (by (with_reducible repeat (first | refine blk_drewN ?_ _ | refine blk_drew ?_ | refine blk_alloc ?_ _)); refine blk_put (cs := #[.int .i64 ((rd_T49 l0_0 x4_1).f0), .int .i64 ((rd_T49 l0_0 x4_1).f1), .int .i64 ((rd_T49 l0_0 x4_1).f2), .int .i64 0]) ?_ 3 _ rfl; (with_reducible repeat (first | refine blk_drewN ?_ _ | refine blk_drew ?_ | refine blk_alloc ?_ _)); refine blk_put (cs := #[.int .i64 ((rd_T49 l0_0 x4_1).f0), .int .i64 ((rd_T49 l0_0 x4_1).f1), .int .i64 0, .int .i64 0]) ?_ 2 _ rfl; (with_reducible repeat (first | refine blk_drewN ?_ _ | refine blk_drew ?_ | refine blk_alloc ?_ _)); refine blk_put (cs := #[.int .i64 ((rd_T49 l0_0 x4_1).f0), .int .i64 0, .int .i64 0, .int .i64 0]) ?_ 1 _ rfl; (with_reducible repeat (first | refine blk_drewN ?_ _ | refine blk_drew ?_ | refine blk_alloc ?_ _)); refine blk_put (cs := #[.int .i64 0, .int .i64 0, .int .i64 0, .int .i64 0]) ?_ 0 _ rfl; (with_reducible repeat (first | refine blk_drewN ?_ _ | refine blk_drew ?_ | refine blk_alloc ?_ _)); exact BKA0.out) hb); replace HB := bst HB hb; (try clear hb); (try clear hb2); (try clear hk); (try clear hi)))
       go_ret
       exact ⟨er_, blw HB⟩
     ·
      rw [if_neg c9] at H
      exact absurd H (by simp)
    ·
     rw [if_neg c8] at H
     have c8b0 : decide (x4_1 < (l0_0.length : Int)) = false := decide_eq_false c8
     clear c8
     replace H := Option.bind_eq_some_iff.mp H
     obtain ⟨tC0, AC7, H⟩ := H
     replace H : (some (tC0 == 0)) = some r := H
     have A61 := Aside0.mk AC7
     clear AC7
     obtain rfl := Option.some.inj H
     have hcz62_0 := bce BKA1 0 (.slice A0_0 l0_0.length c0_0)
     have hfz62_0 := blk_frozen BKA1.out 0
     go_wp2_with (first | ((with_reducible refine gate_callee (f := 33) rfl ?_); refine gL_ (some 79) Tryz.func33 #[.agg #[.slice A0_0 l0_0.length c0_0], .int .i64 (wrap64 ((l0_0.length : Int) - 1))] ?_; (with_reducible refine (spec_l05First.calls k1 _ _ l0_0 (wrap64 ((l0_0.length : Int) - 1)) tC0 _ ?side1 ?side2 A61.out).mono ?_); (case side1 => exact crC (Kd.C_below HR0_0.out HB.out)); (case side2 => exact HC0_0.out); rintro e w63 ⟨rfl, hb⟩; refine ⟨_, rfl, ?_⟩; replace HO_3 := rblR HO_3 hb; replace BKA1 := bkb BKA1 hb; replace HB := bst HB hb; (try clear hb); (try clear hb2); (try clear hk); (try clear hi)))
     go_ret
     exact ⟨er_, blw HB⟩
 ·
  replace c3 := Bool.eq_false_iff.mpr c3
  subst c3
  rw [if_neg (show ¬ (false = true) by decide)] at H
  obtain rfl := Option.some.inj H
  go_enter Tryz.func18, Tryz.ntmps18
  go_wp2_with (first | ((with_reducible refine gate_dst (N := 1) rfl ?_); refine bx_ (N := 1) (cs := #[.slice A0_0 l0_0.length c0_0]) (t := 24) ?_; intro gbA1 hg w64 hbox hb; have BKA1 := Aside0.mk (hbox); have GWA1 := geh hg HB; have GEA1 := geh hg HB; replace HB := bst HB hb; clear hb hbox hg; have hcz65_0 := bce BKA1 0 (.slice A0_0 l0_0.length c0_0); have hfz65_0 := blk_frozen BKA1.out 0) | ((with_reducible refine gate_callee (f := 30) rfl ?_); refine gL_ (some 10) Tryz.func30 #[.int .i64 (l0_0.length : Int), .int .i64 1, .int .i64 60] ?_; (with_reducible refine (spec_l01In.calls (l0_0.length : Int) 1 60 false _ A2.out).mono ?_); rintro e w' ⟨rfl, ⟨nd, rfl⟩⟩; refine ⟨_, rfl, ?_⟩))
  go_ret
  exact ⟨er_, blw HB⟩

def impl_ExprOK.f (k : Nat) (l0_0 : List (S49)) : Option (Bool) := (impl_between.f (l0_0.length : Int) 1 60).bind fun tB5 => (if tB5 = true then ((impl_shape.f k l0_0).bind fun btA3 => (if btA3.2.2 = true then (if 0 ≤ (wrap64 ((l0_0.length : Int) - 1)) then (if (wrap64 ((l0_0.length : Int) - 1)) < (btA3.1.length : Int) then (if (rd btA3.1 (wrap64 ((l0_0.length : Int) - 1))) = 0 then ((slices_Max_int_int.f k btA3.2.1).bind fun tB0 => (some (decide (tB0 ≤ 12)))) else (some false)) else (none)) else (none)) else (some false))) else (some false))
set_option maxHeartbeats 8000000 in
set_option maxRecDepth 100000 in
theorem impl_ExprOK.calls (k : Nat) (A0_0 : Option Addr) (c0_0 : Nat) (l0_0 : List (S49)) (r : Bool) (w : World) (hr0_0 : Kd.C k49 w A0_0 l0_0.length l0_0) (hc0_0 : l0_0.length ≤ c0_0) (h : impl_ExprOK.f k l0_0 = some r) :
  Calls Tryz.prog 23 #[.agg #[.slice A0_0 l0_0.length c0_0]] w fun e w' => e = .returned (.bool r) ∧ Below w.heap.size w w' := by
 have hu24 := Tryz.underlying24
 have HR0_0 := Aside0.mk hr0_0
 have HC0_0 := Aside0.mk hc0_0
 clear hr0_0 hc0_0
 have HB := Aside0.mk (Below.refl w.heap.size w)
 have H : ((impl_between.f (l0_0.length : Int) 1 60).bind fun tB5 => (if tB5 = true then ((impl_shape.f k l0_0).bind fun btA3 => (if btA3.2.2 = true then (if 0 ≤ (wrap64 ((l0_0.length : Int) - 1)) then (if (wrap64 ((l0_0.length : Int) - 1)) < (btA3.1.length : Int) then (if (rd btA3.1 (wrap64 ((l0_0.length : Int) - 1))) = 0 then ((slices_Max_int_int.f k btA3.2.1).bind fun tB0 => (some (decide (tB0 ≤ 12)))) else (some false)) else (none)) else (none)) else (some false))) else (some false))) = some r := h
 clear h
 replace H := Option.bind_eq_some_iff.mp H
 obtain ⟨tB5, A20, H⟩ := H
 replace H : (if tB5 = true then ((impl_shape.f k l0_0).bind fun btA3 => (if btA3.2.2 = true then (if 0 ≤ (wrap64 ((l0_0.length : Int) - 1)) then (if (wrap64 ((l0_0.length : Int) - 1)) < (btA3.1.length : Int) then (if (rd btA3.1 (wrap64 ((l0_0.length : Int) - 1))) = 0 then ((slices_Max_int_int.f k btA3.2.1).bind fun tB0 => (some (decide (tB0 ≤ 12)))) else (some false)) else (none)) else (none)) else (some false))) else (some false)) = some r := H
 have A2 := Aside0.mk A20
 clear A20
 by_cases c3 : tB5 = true
 ·
  subst c3
  rw [if_pos rfl] at H
  replace H := Option.bind_eq_some_iff.mp H
  obtain ⟨⟨tA3, tB6, tC8⟩, A40, H⟩ := H
  replace H : (if tC8 = true then (if 0 ≤ (wrap64 ((l0_0.length : Int) - 1)) then (if (wrap64 ((l0_0.length : Int) - 1)) < (tA3.length : Int) then (if (rd tA3 (wrap64 ((l0_0.length : Int) - 1))) = 0 then ((slices_Max_int_int.f k tB6).bind fun tB0 => (some (decide (tB0 ≤ 12)))) else (some false)) else (none)) else (none)) else (some false)) = some r := H
  have A4 := Aside0.mk A40
  clear A40
  by_cases c5 : tC8 = true
  ·
   subst c5
   rw [if_pos rfl] at H
   obtain ⟨ji6, hji6⟩ : ∃ j_ : Int, (wrap64 ((l0_0.length : Int) - 1)) = j_ := ⟨_, rfl⟩
   replace H : (if 0 ≤ (ji6) then (if (ji6) < (tA3.length : Int) then (if (rd tA3 (ji6)) = 0 then ((slices_Max_int_int.f k tB6).bind fun tB0 => (some (decide (tB0 ≤ 12)))) else (some false)) else (none)) else (none)) = some r := by first | (rw [hji6] at H; exact H) | (simp only [hji6] at H ⊢; exact H)
   (try rw [hji6] at A2)
   (try rw [hji6] at A4)
   have hji6w : (IntKind.i64.wrap ((l0_0.length : Int) - 1)) = ji6 := (i64_w _).trans hji6
   by_cases c7 : 0 ≤ (ji6)
   ·
    rw [if_pos c7] at H
    have c7b0 : decide (0 ≤ (ji6)) = true := decide_eq_true c7
    clear c7
    by_cases c8 : (ji6) < (tA3.length : Int)
    ·
     rw [if_pos c8] at H
     have c8b0 : decide ((ji6) < (tA3.length : Int)) = true := decide_eq_true c8
     clear c8
     by_cases c9 : (rd tA3 (ji6)) = 0
     ·
      rw [if_pos c9] at H
      have c9b0 : ((rd tA3 (ji6)) == 0) = true := beq_iff_eq.mpr c9
      have c9b1 : ((rd tA3 (ji6)) != 0) = false := bne_eq_false_iff_eq.mpr c9
      clear c9
      replace H := Option.bind_eq_some_iff.mp H
      obtain ⟨tB0, AB8, H⟩ := H
      replace H : (some (decide (tB0 ≤ 12))) = some r := H
      have A10 := Aside0.mk AB8
      clear AB8
      obtain rfl := Option.some.inj H
      go_enter Tryz.func23, Tryz.ntmps23
      go_wp2_with (first | ((with_reducible refine gate_dst (N := 1) rfl ?_); refine bx_ (N := 1) (cs := #[.slice A0_0 l0_0.length c0_0]) (t := 24) ?_; intro gbA4 hg w11 hbox hb; have BKA4 := Aside0.mk (hbox); have GWA4 := geh hg HB; have GEA4 := geh hg HB; replace HB := bst HB hb; clear hb hbox hg; have hcz12_0 := bce BKA4 0 (.slice A0_0 l0_0.length c0_0); have hfz12_0 := blk_frozen BKA4.out 0) | ((with_reducible refine gate_callee (f := 41) rfl ?_); refine gL_ (some 11) Tryz.func41 #[.int .i64 (l0_0.length : Int), .int .i64 1, .int .i64 60] ?_; (with_reducible refine (impl_between.calls (l0_0.length : Int) 1 60 true _ A2.out).mono ?_); rintro e w' ⟨rfl, ⟨nd, rfl⟩⟩; refine ⟨_, rfl, ?_⟩) | ((with_reducible refine gate_callee (f := 42) rfl ?_); refine gL_ (some 16) Tryz.func42 #[.slice A0_0 l0_0.length c0_0] ?_; (with_reducible refine (impl_shape.calls k _ _ l0_0 tA3 tB6 true _ ?side1 ?side2 A4.out).mono ?_); (case side1 => exact crC (Kd.C_below HR0_0.out (blw HB))); (case side2 => exact HC0_0.out); rintro e w13 ⟨vC9, vD0, rfl, ho0, ho1, hb⟩; refine ⟨_, rfl, ?_⟩; have HOB1 := lwR ho0 HB; have HOB3 := lwR ho1 HB; replace BKA4 := bkb BKA4 hb; replace HB := bst HB hb; (try clear hb); (try clear hb2); (try clear hk); (try clear hi); (try clear ho0); (try clear ho1); obtain ⟨Ao14, co14, eo14⟩ := Kd.R_slice HOB1.out; subst eo14; have pA6 : 0 ≤ ((ji6) : Int) := of_decide_eq_true (by first | (with_reducible assumption) | assumption); have qA6 : (ji6) < (tA3.length : Int) := of_decide_eq_true (by first | (with_reducible assumption) | assumption); obtain ⟨adA6, eA6, hxA6_0⟩ := Kd.at_int (Kd.R_reads' HOB1.out).2.2 (ji6) pA6 qA6; cases eA6; replace pA6 := eq_true pA6; replace qA6 := eq_true qA6; obtain ⟨Ao15, co15, eo15⟩ := Kd.R_slice HOB3.out; subst eo15) | (go_at_call 43; (with_reducible refine (slices_Max_int_int.calls k _ _ tB6 tB0 _ ?side1 ?side2 A10.out).mono ?_); (case side1 => exact crC (Kd.R_reads' HOB3.out).2.2); (case side2 => exact (Kd.R_reads' HOB3.out).2.1); rintro e w16 ⟨rfl, hb⟩; replace HOB1 := rblR HOB1 hb; replace HOB3 := rblR HOB3 hb; replace BKA4 := bkb BKA4 hb; replace HB := bst HB hb; (try clear hb); (try clear hb2); (try clear hk); (try clear hi)))
      go_ret
      exact ⟨by first | rfl | (simp [errW_none, errW_some] <;> rfl) | (simp only [← hji6]; first | rfl | (simp [errW_none, errW_some] <;> rfl)) | (simp [*, errW_none, errW_some] <;> rfl), blw HB⟩
     ·
      rw [if_neg c9] at H
      have c9b0 : ((rd tA3 (ji6)) == 0) = false := beq_eq_false_iff_ne.mpr c9
      have c9b1 : ((rd tA3 (ji6)) != 0) = true := bne_iff_ne.mpr c9
      obtain rfl := Option.some.inj H
      go_enter Tryz.func23, Tryz.ntmps23
      go_wp2_with (first | ((with_reducible refine gate_dst (N := 1) rfl ?_); refine bx_ (N := 1) (cs := #[.slice A0_0 l0_0.length c0_0]) (t := 24) ?_; intro gbA4 hg w17 hbox hb; have BKA4 := Aside0.mk (hbox); have GWA4 := geh hg HB; have GEA4 := geh hg HB; replace HB := bst HB hb; clear hb hbox hg; have hcz18_0 := bce BKA4 0 (.slice A0_0 l0_0.length c0_0); have hfz18_0 := blk_frozen BKA4.out 0) | ((with_reducible refine gate_callee (f := 41) rfl ?_); refine gL_ (some 11) Tryz.func41 #[.int .i64 (l0_0.length : Int), .int .i64 1, .int .i64 60] ?_; (with_reducible refine (impl_between.calls (l0_0.length : Int) 1 60 true _ A2.out).mono ?_); rintro e w' ⟨rfl, ⟨nd, rfl⟩⟩; refine ⟨_, rfl, ?_⟩) | ((with_reducible refine gate_callee (f := 42) rfl ?_); refine gL_ (some 16) Tryz.func42 #[.slice A0_0 l0_0.length c0_0] ?_; (with_reducible refine (impl_shape.calls k _ _ l0_0 tA3 tB6 true _ ?side1 ?side2 A4.out).mono ?_); (case side1 => exact crC (Kd.C_below HR0_0.out (blw HB))); (case side2 => exact HC0_0.out); rintro e w19 ⟨vC9, vD0, rfl, ho0, ho1, hb⟩; refine ⟨_, rfl, ?_⟩; have HOB1 := lwR ho0 HB; have HOB3 := lwR ho1 HB; replace BKA4 := bkb BKA4 hb; replace HB := bst HB hb; (try clear hb); (try clear hb2); (try clear hk); (try clear hi); (try clear ho0); (try clear ho1); obtain ⟨Ao20, co20, eo20⟩ := Kd.R_slice HOB1.out; subst eo20; have pA6 : 0 ≤ ((ji6) : Int) := of_decide_eq_true (by first | (with_reducible assumption) | assumption); have qA6 : (ji6) < (tA3.length : Int) := of_decide_eq_true (by first | (with_reducible assumption) | assumption); obtain ⟨adA6, eA6, hxA6_0⟩ := Kd.at_int (Kd.R_reads' HOB1.out).2.2 (ji6) pA6 qA6; cases eA6; replace pA6 := eq_true pA6; replace qA6 := eq_true qA6))
      go_ret
      exact ⟨by first | rfl | (simp [errW_none, errW_some] <;> rfl) | (simp only [← hji6]; first | rfl | (simp [errW_none, errW_some] <;> rfl)) | (simp [*, errW_none, errW_some] <;> rfl), blw HB⟩
    ·
     rw [if_neg c8] at H
     exact absurd H (by simp)
   ·
    rw [if_neg c7] at H
    exact absurd H (by simp)
  ·
   replace c5 := Bool.eq_false_iff.mpr c5
   subst c5
   rw [if_neg (show ¬ (false = true) by decide)] at H
   obtain rfl := Option.some.inj H
   go_enter Tryz.func23, Tryz.ntmps23
   go_wp2_with (first | ((with_reducible refine gate_dst (N := 1) rfl ?_); refine bx_ (N := 1) (cs := #[.slice A0_0 l0_0.length c0_0]) (t := 24) ?_; intro gbA4 hg w21 hbox hb; have BKA4 := Aside0.mk (hbox); have GWA4 := geh hg HB; have GEA4 := geh hg HB; replace HB := bst HB hb; clear hb hbox hg; have hcz22_0 := bce BKA4 0 (.slice A0_0 l0_0.length c0_0); have hfz22_0 := blk_frozen BKA4.out 0) | ((with_reducible refine gate_callee (f := 41) rfl ?_); refine gL_ (some 11) Tryz.func41 #[.int .i64 (l0_0.length : Int), .int .i64 1, .int .i64 60] ?_; (with_reducible refine (impl_between.calls (l0_0.length : Int) 1 60 true _ A2.out).mono ?_); rintro e w' ⟨rfl, ⟨nd, rfl⟩⟩; refine ⟨_, rfl, ?_⟩) | ((with_reducible refine gate_callee (f := 42) rfl ?_); refine gL_ (some 16) Tryz.func42 #[.slice A0_0 l0_0.length c0_0] ?_; (with_reducible refine (impl_shape.calls k _ _ l0_0 tA3 tB6 false _ ?side1 ?side2 A4.out).mono ?_); (case side1 => exact crC (Kd.C_below HR0_0.out (blw HB))); (case side2 => exact HC0_0.out); rintro e w23 ⟨vC9, vD0, rfl, ho0, ho1, hb⟩; refine ⟨_, rfl, ?_⟩; have HOB1 := lwR ho0 HB; have HOB3 := lwR ho1 HB; replace BKA4 := bkb BKA4 hb; replace HB := bst HB hb; (try clear hb); (try clear hb2); (try clear hk); (try clear hi); (try clear ho0); (try clear ho1)))
   go_ret
   exact ⟨er_, blw HB⟩
 ·
  replace c3 := Bool.eq_false_iff.mpr c3
  subst c3
  rw [if_neg (show ¬ (false = true) by decide)] at H
  obtain rfl := Option.some.inj H
  go_enter Tryz.func23, Tryz.ntmps23
  go_wp2_with (first | ((with_reducible refine gate_dst (N := 1) rfl ?_); refine bx_ (N := 1) (cs := #[.slice A0_0 l0_0.length c0_0]) (t := 24) ?_; intro gbA4 hg w24 hbox hb; have BKA4 := Aside0.mk (hbox); have GWA4 := geh hg HB; have GEA4 := geh hg HB; replace HB := bst HB hb; clear hb hbox hg; have hcz25_0 := bce BKA4 0 (.slice A0_0 l0_0.length c0_0); have hfz25_0 := blk_frozen BKA4.out 0) | ((with_reducible refine gate_callee (f := 41) rfl ?_); refine gL_ (some 11) Tryz.func41 #[.int .i64 (l0_0.length : Int), .int .i64 1, .int .i64 60] ?_; (with_reducible refine (impl_between.calls (l0_0.length : Int) 1 60 false _ A2.out).mono ?_); rintro e w' ⟨rfl, ⟨nd, rfl⟩⟩; refine ⟨_, rfl, ?_⟩))
  go_ret
  exact ⟨er_, blw HB⟩

end Go.Proofs.YtbphhccpkngfoaaGreatDoor.Q
