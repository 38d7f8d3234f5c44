-- written by a program of this claim's session (myprint.py) out of the translation; Lean checks it.
import Derived.Test.YtbphhccpkngfoaaGreatDoorQx0
import Derived.Test.YtbphhccpkngfoaaGreatDoorWords
import Derived.Test.YtbphhccpkngfoaaGreatDoorQsm
namespace Go.Proofs.YtbphhccpkngfoaaGreatDoor.Q
open Go.RowKit Go.Proofs.YtbphhccpkngfoaaGreatDoorW.PrintWords Go.Proofs.YtbphhccpkngfoaaGreatDoorW.PrintLast Go.Proofs.YtbphhccpkngfoaaGreatDoorW.PrintMore
attribute [local go_sem] max2_int min2_int max_two min_two max_three min_three max_four min_four   -- for this text's walks alone
set_option linter.unusedVariables false
set_option linter.unusedSimpArgs false

def spec_l05First.l0 : Nat → Int → List (S49) → Int → Int → Int → Int → Option (Int)
 | 0, _, _, _, _, _, _ => none
 | k + 1, x1, x166000, x168000, x168001, x168002, x168003 => (spec_l05Two.f x168000).bind fun tA6 => (if tA6 = true then (if 0 ≤ x168001 then (if x168001 < (x166000.length : Int) then (spec_l05First.l0 k x168001 x166000 ((rd_T49 x166000 x168001).f0) ((rd_T49 x166000 x168001).f1) ((rd_T49 x166000 x168001).f2) ((rd_T49 x166000 x168001).f3)) else (none)) else (none)) else ((spec_l05One.f x168000).bind fun tA5 => (if tA5 = true then (if 0 ≤ x168001 then (if x168001 < (x166000.length : Int) then (spec_l05First.l0 k x168001 x166000 ((rd_T49 x166000 x168001).f0) ((rd_T49 x166000 x168001).f1) ((rd_T49 x166000 x168001).f2) ((rd_T49 x166000 x168001).f3)) else (none)) else (none)) else (some x1))))
def spec_l05First.f (k : Nat) (l0_0 : List (S49)) (a1 : Int) : Option (Int) := if 0 ≤ a1 then (if a1 < (l0_0.length : Int) then (spec_l05First.l0 k a1 l0_0 ((rd_T49 l0_0 a1).f0) ((rd_T49 l0_0 a1).f1) ((rd_T49 l0_0 a1).f2) ((rd_T49 l0_0 a1).f3)) else (none)) else (none)
set_option maxHeartbeats 8000000 in
set_option maxRecDepth 100000 in
theorem spec_l05First.calls (k : Nat) (A0_0 : Option Addr) (c0_0 : Nat) (l0_0 : List (S49)) (a1 : Int) (r : Int) (w : World) (hr0_0 : Kd.C k49 w A0_0 l0_0.length l0_0) (hc0_0 : l0_0.length ≤ c0_0) (h : spec_l05First.f k l0_0 a1 = some r) :
  Calls Tryz.prog 33 #[.agg #[.slice A0_0 l0_0.length c0_0], .int .i64 a1] w fun e w' => e = .returned (.int .i64 r) ∧ Below w.heap.size w w' := by
 have hu24 := Tryz.underlying24
 have hu49 := Tryz.underlying49
 have HR0_0 := Aside0.mk hr0_0
 have HC0_0 := Aside0.mk hc0_0
 clear hr0_0 hc0_0
 have HB := Aside0.mk (Below.refl w.heap.size w)
 have H : (if 0 ≤ a1 then (if a1 < (l0_0.length : Int) then (spec_l05First.l0 k a1 l0_0 ((rd_T49 l0_0 a1).f0) ((rd_T49 l0_0 a1).f1) ((rd_T49 l0_0 a1).f2) ((rd_T49 l0_0 a1).f3)) else (none)) else (none)) = some r := h
 clear h
 by_cases c3 : 0 ≤ a1
 ·
  rw [if_pos c3] at H
  have c3b0 : decide (0 ≤ a1) = true := decide_eq_true c3
  clear c3
  by_cases c4 : a1 < (l0_0.length : Int)
  ·
   rw [if_pos c4] at H
   have c4b0 : decide (a1 < (l0_0.length : Int)) = true := decide_eq_true c4
   clear c4
   have H' := Aside0.mk H
   clear H
   go_enter Tryz.func33, Tryz.ntmps33
   go_wp2_with (first | ((with_reducible refine gate_dst (N := 2) rfl ?_); refine bx_ (N := 2) (cs := #[.slice A0_0 l0_0.length c0_0]) (t := 24) ?_; intro gbA1 hg w5 hbox hb; have BKA1 := Aside0.mk (hbox); have GWA1 := geh hg HB; have GEA1 := geh hg HB; replace HB := bst HB hb; clear hb hbox hg; have hcz6_0 := bce BKA1 0 (.slice A0_0 l0_0.length c0_0); have hfz6_0 := blk_frozen BKA1.out 0; have pA2 : 0 ≤ (a1 : Int) := of_decide_eq_true (by first | (with_reducible assumption) | assumption); have qA2 : a1 < (l0_0.length : Int) := of_decide_eq_true (by first | (with_reducible assumption) | assumption); obtain ⟨adA2, eA2, hxA2_0, hxA2_1, hxA2_2, hxA2_3⟩ := at_T49 HR0_0.out a1 pA2 qA2; cases eA2; replace hxA2_0 := (HB.out.cell (World.block_lt_of_cell? w _ hxA2_0)).trans hxA2_0; replace hxA2_1 := (HB.out.cell (World.block_lt_of_cell? w _ hxA2_1)).trans hxA2_1; replace hxA2_2 := (HB.out.cell (World.block_lt_of_cell? w _ hxA2_2)).trans hxA2_2; replace hxA2_3 := (HB.out.cell (World.block_lt_of_cell? w _ hxA2_3)).trans hxA2_3; replace pA2 := eq_true pA2; replace qA2 := eq_true qA2) | ((with_reducible refine gate_dst (N := 5) rfl ?_); refine bx_ (N := 5) (cs := #[.int .i64 0, .int .i64 0, .int .i64 0, .int .i64 0]) (t := 49) ?_; intro gbA0 hg w7 hbox hb; have BKA0 := Aside0.mk (hbox); have GWA0 := geh hg HB; have GEA0 := geh hg HB; replace HB := bst HB hb; have NBA1_A0 := nlt hg BKA1; have NBA0_A1 := ngt hg BKA1; replace BKA1 := bkb BKA1 hb; clear hb hbox hg; have hnb8 := NBA0_A1.out; have hnc8 := NBA1_A0.out; have hcz9_0 := bce BKA0 0 (.int .i64 0); have hcz9_1 := bce BKA0 1 (.int .i64 0); have hcz9_2 := bce BKA0 2 (.int .i64 0); have hcz9_3 := bce BKA0 3 (.int .i64 0); have hfz9_0 := blk_frozen BKA0.out 0; have hfz9_1 := blk_frozen BKA0.out 1; have hfz9_2 := blk_frozen BKA0.out 2; have hfz9_3 := blk_frozen BKA0.out 3))
   go_loopg [1] k (fun kq v1 w' => ∃ (x1_1 : Int) (x168000_1 : Int) (x168001_1 : Int) (x168002_1 : Int) (x168003_1 : Int), v1 = .int .i64 x1_1 ∧ Aside0 (spec_l05First.l0 kq x1_1 l0_0 x168000_1 x168001_1 x168002_1 x168003_1 = some r) ∧ Aside0 (kq ≤ k) ∧ Aside0 (w'.heap[gbA1]? = some (.cells #[(.slice (some adA2) l0_0.length c0_0)] 24 (0, 0))) ∧ Aside0 (w'.heap[gbA0]? = some (.cells #[.int .i64 x168000_1, .int .i64 x168001_1, .int .i64 x168002_1, .int .i64 x168003_1] 49 (0, 0))) ∧ Aside0 (Below w.heap.size w w'))
   case atStart => exact ⟨(a1), ((rd_T49 l0_0 a1).f0), ((rd_T49 l0_0 a1).f1), ((rd_T49 l0_0 a1).f2), ((rd_T49 l0_0 a1).f3), rs_, H', ⟨Nat.le_refl _⟩, ⟨by (with_reducible repeat (first | refine blk_drewN ?_ _ | refine blk_drew ?_ | refine blk_alloc ?_ _)); refine blk_far ?_ NBA1_A0.out _; (with_reducible repeat (first | refine blk_drewN ?_ _ | refine blk_drew ?_ | refine blk_alloc ?_ _)); refine blk_far ?_ NBA1_A0.out _; (with_reducible repeat (first | refine blk_drewN ?_ _ | refine blk_drew ?_ | refine blk_alloc ?_ _)); refine blk_far ?_ NBA1_A0.out _; (with_reducible repeat (first | refine blk_drewN ?_ _ | refine blk_drew ?_ | refine blk_alloc ?_ _)); refine blk_far ?_ NBA1_A0.out _; (with_reducible repeat (first | refine blk_drewN ?_ _ | refine blk_drew ?_ | refine blk_alloc ?_ _)); exact BKA1.out⟩, ⟨by (with_reducible repeat (first | refine blk_drewN ?_ _ | refine blk_drew ?_ | refine blk_alloc ?_ _)); refine blk_put (cs := #[.int .i64 ((rd_T49 l0_0 a1).f0), .int .i64 ((rd_T49 l0_0 a1).f1), .int .i64 ((rd_T49 l0_0 a1).f2), .int .i64 0]) ?_ 3 _ rfl; (with_reducible repeat (first | refine blk_drewN ?_ _ | refine blk_drew ?_ | refine blk_alloc ?_ _)); refine blk_put (cs := #[.int .i64 ((rd_T49 l0_0 a1).f0), .int .i64 ((rd_T49 l0_0 a1).f1), .int .i64 0, .int .i64 0]) ?_ 2 _ rfl; (with_reducible repeat (first | refine blk_drewN ?_ _ | refine blk_drew ?_ | refine blk_alloc ?_ _)); refine blk_put (cs := #[.int .i64 ((rd_T49 l0_0 a1).f0), .int .i64 0, .int .i64 0, .int .i64 0]) ?_ 1 _ rfl; (with_reducible repeat (first | refine blk_drewN ?_ _ | refine blk_drew ?_ | refine blk_alloc ?_ _)); refine blk_put (cs := #[.int .i64 0, .int .i64 0, .int .i64 0, .int .i64 0]) ?_ 0 _ rfl; (with_reducible repeat (first | refine blk_drewN ?_ _ | refine blk_drew ?_ | refine blk_alloc ?_ _)); exact BKA0.out⟩, ⟨blw HB⟩⟩
   case round =>
    clear H'
    try clear p1
    try clear q1
    try clear hx1
    try clear p2
    try clear c3
    try clear c3b0
    try clear c4
    try clear c4b0
    try clear c8
    try clear hcz6_0
    try clear hcz9_0
    try clear hcz9_1
    try clear hcz9_2
    try clear hcz9_3
    try clear hfz6_0
    try clear hfz9_0
    try clear hfz9_1
    try clear hfz9_2
    try clear hfz9_3
    try clear hxA2_0
    try clear hxA2_1
    try clear hxA2_2
    try clear hxA2_3
    try clear pA2
    try clear qA2
    obtain ⟨x1_1, x168000_1, x168001_1, x168002_1, x168003_1, rfl, HA, HK1, BKA1, BKA0, HB⟩ := hrel
    cases gk with
    | zero => exact absurd HA.out (by simp [spec_l05First.l0])
    | succ k1 =>
     have H := HA.out
     clear HA
     simp only [spec_l05First.l0] at H
     replace H := Option.bind_eq_some_iff.mp H
     obtain ⟨tA6, AA7, H⟩ := H
     replace H : (if tA6 = true then (if 0 ≤ x168001_1 then (if x168001_1 < (l0_0.length : Int) then (spec_l05First.l0 k1 x168001_1 l0_0 ((rd_T49 l0_0 x168001_1).f0) ((rd_T49 l0_0 x168001_1).f1) ((rd_T49 l0_0 x168001_1).f2) ((rd_T49 l0_0 x168001_1).f3)) else (none)) else (none)) else ((spec_l05One.f x168000_1).bind fun tA5 => (if tA5 = true then (if 0 ≤ x168001_1 then (if x168001_1 < (l0_0.length : Int) then (spec_l05First.l0 k1 x168001_1 l0_0 ((rd_T49 l0_0 x168001_1).f0) ((rd_T49 l0_0 x168001_1).f1) ((rd_T49 l0_0 x168001_1).f2) ((rd_T49 l0_0 x168001_1).f3)) else (none)) else (none)) else (some x1_1)))) = some r := H
     have A10 := Aside0.mk AA7
     clear AA7
     by_cases c11 : tA6 = true
     ·
      subst c11
      rw [if_pos rfl] at H
      by_cases c12 : 0 ≤ x168001_1
      ·
       rw [if_pos c12] at H
       have c12b0 : decide (0 ≤ x168001_1) = true := decide_eq_true c12
       clear c12
       by_cases c13 : x168001_1 < (l0_0.length : Int)
       ·
        rw [if_pos c13] at H
        have c13b0 : decide (x168001_1 < (l0_0.length : Int)) = true := decide_eq_true c13
        clear c13
        have H' := Aside0.mk H
        clear H
        have hnb14 := NBA0_A1.out
        have hnc14 := NBA1_A0.out
        have hcz15_0 := bce BKA0 0 (.int .i64 x168000_1)
        have hcz15_1 := bce BKA0 1 (.int .i64 x168001_1)
        have hcz15_2 := bce BKA0 2 (.int .i64 x168002_1)
        have hcz15_3 := bce BKA0 3 (.int .i64 x168003_1)
        have hfz15_0 := blk_frozen BKA0.out 0
        have hfz15_1 := blk_frozen BKA0.out 1
        have hfz15_2 := blk_frozen BKA0.out 2
        have hfz15_3 := blk_frozen BKA0.out 3
        go_wp2_with (first | ((with_reducible refine gate_callee (f := 32) rfl ?_); refine gL_ (some 13) Tryz.func32 #[.int .i64 x168000_1] ?_; (with_reducible refine (spec_l05Two.calls x168000_1 true _ A10.out).mono ?_); rintro e w' ⟨rfl, ⟨nd, rfl⟩⟩; refine ⟨_, rfl, ?_⟩; (try (rw [drewN_self wr]; generalize hq_ : World.drewN wr _ = wr; replace BKA1 : Aside0 (wr.heap[gbA1]? = some (.cells #[.slice (some adA2) l0_0.length c0_0] 24 (0, 0))) := ⟨by rw [← hq_]; exact (crb BKA1)⟩; replace BKA0 : Aside0 (wr.heap[gbA0]? = some (.cells #[.int .i64 x168000_1, .int .i64 x168001_1, .int .i64 x168002_1, .int .i64 x168003_1] 49 (0, 0))) := ⟨by rw [← hq_]; exact (crb BKA0)⟩; replace HB : Aside0 (Below w.heap.size w wr) := ⟨by rw [← hq_]; exact (blw HB)⟩; clear hq_; have hcygb165_0 : wr.cell? ⟨gbA1, 0, none⟩ = some (.slice (some adA2) l0_0.length c0_0) := bce BKA1 0 _; have hfygb165_0 := blk_frozen BKA1.out 0; have hcygb167_0 : wr.cell? ⟨gbA0, 0, none⟩ = some (.int .i64 x168000_1) := bce BKA0 0 _; have hfygb167_0 := blk_frozen BKA0.out 0; have hcygb167_1 : wr.cell? ⟨gbA0, 1, none⟩ = some (.int .i64 x168001_1) := bce BKA0 1 _; have hfygb167_1 := blk_frozen BKA0.out 1; have hcygb167_2 : wr.cell? ⟨gbA0, 2, none⟩ = some (.int .i64 x168002_1) := bce BKA0 2 _; have hfygb167_2 := blk_frozen BKA0.out 2; have hcygb167_3 : wr.cell? ⟨gbA0, 3, none⟩ = some (.int .i64 x168003_1) := bce BKA0 3 _; have hfygb167_3 := blk_frozen BKA0.out 3)); have hcz16_0 : wr.cell? ⟨gbA1, 0, none⟩ = some (.slice (some adA2) l0_0.length c0_0) := bce BKA1 0 _; have hfz16_0 := blk_frozen BKA1.out 0; have pA3 : 0 ≤ (x168001_1 : Int) := of_decide_eq_true (by first | (with_reducible assumption) | assumption); have qA3 : x168001_1 < (l0_0.length : Int) := of_decide_eq_true (by first | (with_reducible assumption) | assumption); obtain ⟨adA3, eA3, hxA3_0, hxA3_1, hxA3_2, hxA3_3⟩ := at_T49 HR0_0.out x168001_1 pA3 qA3; obtain rfl : adA2 = adA3 := (by injection eA3); replace hxA3_0 := (HB.out.cell (World.block_lt_of_cell? w _ hxA3_0)).trans hxA3_0; replace hxA3_1 := (HB.out.cell (World.block_lt_of_cell? w _ hxA3_1)).trans hxA3_1; replace hxA3_2 := (HB.out.cell (World.block_lt_of_cell? w _ hxA3_2)).trans hxA3_2; replace hxA3_3 := (HB.out.cell (World.block_lt_of_cell? w _ hxA3_3)).trans hxA3_3; replace pA3 := eq_true pA3; replace qA3 := eq_true qA3))
        go_roundg k1
        case measure => have := HK1.out; omega
        case rel => exact ⟨(x168001_1), ((rd_T49 l0_0 x168001_1).f0), ((rd_T49 l0_0 x168001_1).f1), ((rd_T49 l0_0 x168001_1).f2), ((rd_T49 l0_0 x168001_1).f3), rs_, H', ⟨by have := HK1.out; omega⟩, ⟨by (with_reducible repeat (first | refine blk_drewN ?_ _ | refine blk_drew ?_ | refine blk_alloc ?_ _)); refine blk_far ?_ NBA1_A0.out _; (with_reducible repeat (first | refine blk_drewN ?_ _ | refine blk_drew ?_ | refine blk_alloc ?_ _)); refine blk_far ?_ NBA1_A0.out _; (with_reducible repeat (first | refine blk_drewN ?_ _ | refine blk_drew ?_ | refine blk_alloc ?_ _)); refine blk_far ?_ NBA1_A0.out _; (with_reducible repeat (first | refine blk_drewN ?_ _ | refine blk_drew ?_ | refine blk_alloc ?_ _)); refine blk_far ?_ NBA1_A0.out _; (with_reducible repeat (first | refine blk_drewN ?_ _ | refine blk_drew ?_ | refine blk_alloc ?_ _)); exact BKA1.out⟩, ⟨by (with_reducible repeat (first | refine blk_drewN ?_ _ | refine blk_drew ?_ | refine blk_alloc ?_ _)); refine blk_put (cs := #[.int .i64 ((rd_T49 l0_0 x168001_1).f0), .int .i64 ((rd_T49 l0_0 x168001_1).f1), .int .i64 ((rd_T49 l0_0 x168001_1).f2), .int .i64 x168003_1]) ?_ 3 _ rfl; (with_reducible repeat (first | refine blk_drewN ?_ _ | refine blk_drew ?_ | refine blk_alloc ?_ _)); refine blk_put (cs := #[.int .i64 ((rd_T49 l0_0 x168001_1).f0), .int .i64 ((rd_T49 l0_0 x168001_1).f1), .int .i64 x168002_1, .int .i64 x168003_1]) ?_ 2 _ rfl; (with_reducible repeat (first | refine blk_drewN ?_ _ | refine blk_drew ?_ | refine blk_alloc ?_ _)); refine blk_put (cs := #[.int .i64 ((rd_T49 l0_0 x168001_1).f0), .int .i64 x168001_1, .int .i64 x168002_1, .int .i64 x168003_1]) ?_ 1 _ rfl; (with_reducible repeat (first | refine blk_drewN ?_ _ | refine blk_drew ?_ | refine blk_alloc ?_ _)); refine blk_put (cs := #[.int .i64 x168000_1, .int .i64 x168001_1, .int .i64 x168002_1, .int .i64 x168003_1]) ?_ 0 _ rfl; (with_reducible repeat (first | refine blk_drewN ?_ _ | refine blk_drew ?_ | refine blk_alloc ?_ _)); exact BKA0.out⟩, ⟨blw HB⟩⟩
       ·
        rw [if_neg c13] at H
        exact absurd H (by simp)
      ·
       rw [if_neg c12] at H
       exact absurd H (by simp)
     ·
      replace c11 := Bool.eq_false_iff.mpr c11
      subst c11
      rw [if_neg (show ¬ (false = true) by decide)] at H
      replace H := Option.bind_eq_some_iff.mp H
      obtain ⟨tA5, AA5, H⟩ := H
      replace H : (if tA5 = true then (if 0 ≤ x168001_1 then (if x168001_1 < (l0_0.length : Int) then (spec_l05First.l0 k1 x168001_1 l0_0 ((rd_T49 l0_0 x168001_1).f0) ((rd_T49 l0_0 x168001_1).f1) ((rd_T49 l0_0 x168001_1).f2) ((rd_T49 l0_0 x168001_1).f3)) else (none)) else (none)) else (some x1_1)) = some r := H
      have A17 := Aside0.mk AA5
      clear AA5
      by_cases c18 : tA5 = true
      ·
       subst c18
       rw [if_pos rfl] at H
       by_cases c19 : 0 ≤ x168001_1
       ·
        rw [if_pos c19] at H
        have c19b0 : decide (0 ≤ x168001_1) = true := decide_eq_true c19
        clear c19
        by_cases c20 : x168001_1 < (l0_0.length : Int)
        ·
         rw [if_pos c20] at H
         have c20b0 : decide (x168001_1 < (l0_0.length : Int)) = true := decide_eq_true c20
         clear c20
         have H' := Aside0.mk H
         clear H
         have hnb21 := NBA0_A1.out
         have hnc21 := NBA1_A0.out
         have hcz22_0 := bce BKA0 0 (.int .i64 x168000_1)
         have hcz22_1 := bce BKA0 1 (.int .i64 x168001_1)
         have hcz22_2 := bce BKA0 2 (.int .i64 x168002_1)
         have hcz22_3 := bce BKA0 3 (.int .i64 x168003_1)
         have hfz22_0 := blk_frozen BKA0.out 0
         have hfz22_1 := blk_frozen BKA0.out 1
         have hfz22_2 := blk_frozen BKA0.out 2
         have hfz22_3 := blk_frozen BKA0.out 3
         go_wp2_with (first | ((with_reducible refine gate_callee (f := 32) rfl ?_); refine gL_ (some 13) Tryz.func32 #[.int .i64 x168000_1] ?_; (with_reducible refine (spec_l05Two.calls x168000_1 false _ A10.out).mono ?_); rintro e w' ⟨rfl, ⟨nd, rfl⟩⟩; refine ⟨_, rfl, ?_⟩; (try (rw [drewN_self wr]; generalize hq_ : World.drewN wr _ = wr; replace BKA1 : Aside0 (wr.heap[gbA1]? = some (.cells #[.slice (some adA2) l0_0.length c0_0] 24 (0, 0))) := ⟨by rw [← hq_]; exact (crb BKA1)⟩; replace BKA0 : Aside0 (wr.heap[gbA0]? = some (.cells #[.int .i64 x168000_1, .int .i64 x168001_1, .int .i64 x168002_1, .int .i64 x168003_1] 49 (0, 0))) := ⟨by rw [← hq_]; exact (crb BKA0)⟩; replace HB : Aside0 (Below w.heap.size w wr) := ⟨by rw [← hq_]; exact (blw HB)⟩; clear hq_; have hcygb165_0 : wr.cell? ⟨gbA1, 0, none⟩ = some (.slice (some adA2) l0_0.length c0_0) := bce BKA1 0 _; have hfygb165_0 := blk_frozen BKA1.out 0; have hcygb167_0 : wr.cell? ⟨gbA0, 0, none⟩ = some (.int .i64 x168000_1) := bce BKA0 0 _; have hfygb167_0 := blk_frozen BKA0.out 0; have hcygb167_1 : wr.cell? ⟨gbA0, 1, none⟩ = some (.int .i64 x168001_1) := bce BKA0 1 _; have hfygb167_1 := blk_frozen BKA0.out 1; have hcygb167_2 : wr.cell? ⟨gbA0, 2, none⟩ = some (.int .i64 x168002_1) := bce BKA0 2 _; have hfygb167_2 := blk_frozen BKA0.out 2; have hcygb167_3 : wr.cell? ⟨gbA0, 3, none⟩ = some (.int .i64 x168003_1) := bce BKA0 3 _; have hfygb167_3 := blk_frozen BKA0.out 3))) | (go_at_call 34; (with_reducible refine (spec_l05One.calls x168000_1 true _ A17.out).mono ?_); rintro e w' ⟨rfl, ⟨nd, rfl⟩⟩; (try (rw [drewN_self wr]; generalize hq_ : World.drewN wr _ = wr; replace BKA1 : Aside0 (wr.heap[gbA1]? = some (.cells #[.slice (some adA2) l0_0.length c0_0] 24 (0, 0))) := ⟨by rw [← hq_]; exact (crb BKA1)⟩; replace BKA0 : Aside0 (wr.heap[gbA0]? = some (.cells #[.int .i64 x168000_1, .int .i64 x168001_1, .int .i64 x168002_1, .int .i64 x168003_1] 49 (0, 0))) := ⟨by rw [← hq_]; exact (crb BKA0)⟩; replace HB : Aside0 (Below w.heap.size w wr) := ⟨by rw [← hq_]; exact (blw HB)⟩; clear hq_; have hcygb165_0 : wr.cell? ⟨gbA1, 0, none⟩ = some (.slice (some adA2) l0_0.length c0_0) := bce BKA1 0 _; have hfygb165_0 := blk_frozen BKA1.out 0; have hcygb167_0 : wr.cell? ⟨gbA0, 0, none⟩ = some (.int .i64 x168000_1) := bce BKA0 0 _; have hfygb167_0 := blk_frozen BKA0.out 0; have hcygb167_1 : wr.cell? ⟨gbA0, 1, none⟩ = some (.int .i64 x168001_1) := bce BKA0 1 _; have hfygb167_1 := blk_frozen BKA0.out 1; have hcygb167_2 : wr.cell? ⟨gbA0, 2, none⟩ = some (.int .i64 x168002_1) := bce BKA0 2 _; have hfygb167_2 := blk_frozen BKA0.out 2; have hcygb167_3 : wr.cell? ⟨gbA0, 3, none⟩ = some (.int .i64 x168003_1) := bce BKA0 3 _; have hfygb167_3 := blk_frozen BKA0.out 3)); have hcz23_0 : wr.cell? ⟨gbA1, 0, none⟩ = some (.slice (some adA2) l0_0.length c0_0) := bce BKA1 0 _; have hfz23_0 := blk_frozen BKA1.out 0; have pA4 : 0 ≤ (x168001_1 : Int) := of_decide_eq_true (by first | (with_reducible assumption) | assumption); have qA4 : x168001_1 < (l0_0.length : Int) := of_decide_eq_true (by first | (with_reducible assumption) | assumption); obtain ⟨adA4, eA4, hxA4_0, hxA4_1, hxA4_2, hxA4_3⟩ := at_T49 HR0_0.out x168001_1 pA4 qA4; obtain rfl : adA2 = adA4 := (by injection eA4); replace hxA4_0 := (HB.out.cell (World.block_lt_of_cell? w _ hxA4_0)).trans hxA4_0; replace hxA4_1 := (HB.out.cell (World.block_lt_of_cell? w _ hxA4_1)).trans hxA4_1; replace hxA4_2 := (HB.out.cell (World.block_lt_of_cell? w _ hxA4_2)).trans hxA4_2; replace hxA4_3 := (HB.out.cell (World.block_lt_of_cell? w _ hxA4_3)).trans hxA4_3; replace pA4 := eq_true pA4; replace qA4 := eq_true qA4))
         go_roundg k1
         case measure => have := HK1.out; omega
         case rel => exact ⟨(x168001_1), ((rd_T49 l0_0 x168001_1).f0), ((rd_T49 l0_0 x168001_1).f1), ((rd_T49 l0_0 x168001_1).f2), ((rd_T49 l0_0 x168001_1).f3), rs_, H', ⟨by have := HK1.out; omega⟩, ⟨by (with_reducible repeat (first | refine blk_drewN ?_ _ | refine blk_drew ?_ | refine blk_alloc ?_ _)); refine blk_far ?_ NBA1_A0.out _; (with_reducible repeat (first | refine blk_drewN ?_ _ | refine blk_drew ?_ | refine blk_alloc ?_ _)); refine blk_far ?_ NBA1_A0.out _; (with_reducible repeat (first | refine blk_drewN ?_ _ | refine blk_drew ?_ | refine blk_alloc ?_ _)); refine blk_far ?_ NBA1_A0.out _; (with_reducible repeat (first | refine blk_drewN ?_ _ | refine blk_drew ?_ | refine blk_alloc ?_ _)); refine blk_far ?_ NBA1_A0.out _; (with_reducible repeat (first | refine blk_drewN ?_ _ | refine blk_drew ?_ | refine blk_alloc ?_ _)); exact BKA1.out⟩, ⟨by (with_reducible repeat (first | refine blk_drewN ?_ _ | refine blk_drew ?_ | refine blk_alloc ?_ _)); refine blk_put (cs := #[.int .i64 ((rd_T49 l0_0 x168001_1).f0), .int .i64 ((rd_T49 l0_0 x168001_1).f1), .int .i64 ((rd_T49 l0_0 x168001_1).f2), .int .i64 x168003_1]) ?_ 3 _ rfl; (with_reducible repeat (first | refine blk_drewN ?_ _ | refine blk_drew ?_ | refine blk_alloc ?_ _)); refine blk_put (cs := #[.int .i64 ((rd_T49 l0_0 x168001_1).f0), .int .i64 ((rd_T49 l0_0 x168001_1).f1), .int .i64 x168002_1, .int .i64 x168003_1]) ?_ 2 _ rfl; (with_reducible repeat (first | refine blk_drewN ?_ _ | refine blk_drew ?_ | refine blk_alloc ?_ _)); refine blk_put (cs := #[.int .i64 ((rd_T49 l0_0 x168001_1).f0), .int .i64 x168001_1, .int .i64 x168002_1, .int .i64 x168003_1]) ?_ 1 _ rfl; (with_reducible repeat (first | refine blk_drewN ?_ _ | refine blk_drew ?_ | refine blk_alloc ?_ _)); refine blk_put (cs := #[.int .i64 x168000_1, .int .i64 x168001_1, .int .i64 x168002_1, .int .i64 x168003_1]) ?_ 0 _ rfl; (with_reducible repeat (first | refine blk_drewN ?_ _ | refine blk_drew ?_ | refine blk_alloc ?_ _)); exact BKA0.out⟩, ⟨blw HB⟩⟩
        ·
         rw [if_neg c20] at H
         exact absurd H (by simp)
       ·
        rw [if_neg c19] at H
        exact absurd H (by simp)
      ·
       replace c18 := Bool.eq_false_iff.mpr c18
       subst c18
       rw [if_neg (show ¬ (false = true) by decide)] at H
       obtain rfl := Option.some.inj H
       have hnb24 := NBA0_A1.out
       have hnc24 := NBA1_A0.out
       have hcz25_0 := bce BKA0 0 (.int .i64 x168000_1)
       have hcz25_1 := bce BKA0 1 (.int .i64 x168001_1)
       have hcz25_2 := bce BKA0 2 (.int .i64 x168002_1)
       have hcz25_3 := bce BKA0 3 (.int .i64 x168003_1)
       have hfz25_0 := blk_frozen BKA0.out 0
       have hfz25_1 := blk_frozen BKA0.out 1
       have hfz25_2 := blk_frozen BKA0.out 2
       have hfz25_3 := blk_frozen BKA0.out 3
       go_wp2_with (first | ((with_reducible refine gate_callee (f := 32) rfl ?_); refine gL_ (some 13) Tryz.func32 #[.int .i64 x168000_1] ?_; (with_reducible refine (spec_l05Two.calls x168000_1 false _ A10.out).mono ?_); rintro e w' ⟨rfl, ⟨nd, rfl⟩⟩; refine ⟨_, rfl, ?_⟩) | (go_at_call 34; (with_reducible refine (spec_l05One.calls x168000_1 false _ A17.out).mono ?_); rintro e w' ⟨rfl, ⟨nd, rfl⟩⟩))
       go_ret
       exact ⟨er_, blw HB⟩
  ·
   rw [if_neg c4] at H
   exact absurd H (by simp)
 ·
  rw [if_neg c3] at H
  exact absurd H (by simp)

end Go.Proofs.YtbphhccpkngfoaaGreatDoor.Q
