-- written by a program of this claim's session (myprint.py) out of the translation; Lean checks it.
import Derived.Test.YtegbmillbbcmfaaQx0
import Derived.Test.YtegbmillbbcmfaaWords
import Derived.Test.YtegbmillbbcmfaaQxrim
import Derived.Test.YtegbmillbbcmfaaQxrmk
import Derived.Test.YtegbmillbbcmfaaQxrin
namespace Go.Proofs.Ytegbmillbbcmfaa.Q
open Go.RowKit Go.Proofs.YtegbmillbbcmfaaW.PrintWords Go.Proofs.YtegbmillbbcmfaaW.PrintLast Go.Proofs.YtegbmillbbcmfaaW.PrintMore
attribute [local go_sem] max2_int min2_int max_two min_two max_three min_three max_four min_four   -- for this text's walks alone
set_option linter.unusedVariables false
set_option linter.unusedSimpArgs false

def impl_dot.l0 : Nat → List (S32) → List (S32) → Int → Int → Bool → List Int → List Int → Option (Bool × List Int × List Int)
 | 0, _, _, _, _, _, _, _ => none
 | k + 1, x1, x9, x10, x11, x628000, x628001, x628002 => if x11 < x10 then (if 0 ≤ x11 then (if x11 < (x9.length : Int) then (if x11 < (x1.length : Int) then ((impl_Rat_times.f k ((rd_T32 x9 x11).f0) ((rd_T32 x9 x11).f1) ((rd_T32 x9 x11).f2) ((rd_T32 x1 x11).f0) ((rd_T32 x1 x11).f1) ((rd_T32 x1 x11).f2)).bind fun btA7 => ((impl_Rat_plus.f k x628000 x628001 x628002 btA7.1 btA7.2.1 btA7.2.2).bind fun btA5 => (impl_dot.l0 k x1 x9 x10 (wrap64 (x11 + 1)) btA5.1 btA5.2.1 btA5.2.2))) else (none)) else (none)) else (none)) else (some (x628000, x628001, x628002))
def impl_dot.f (k : Nat) (l0 : List (S32)) (l1 : List (S32)) : Option (Bool × List Int × List Int) := (impl_whole.f k 0).bind fun btA6 => (impl_dot.l0 k l1 l0 (l0.length : Int) 0 btA6.1 btA6.2.1 btA6.2.2)
def impl_dot.T5 : Bool × List (List Nat × List Nat) := (true, [([], []), ([], []), ([], []), ([], []), ([2, 3], [2, 3]), ([4], [4]), ([1, 5], [1, 5]), ([0, 6, 6], [0, 6]), ([7, 7, 0, 1, 2, 3, 4, 5, 6, 7], [7])])
def impl_dot.B5 : List Nat := [0, 0, 0, 0, 12, 28, 62, 127, 255]
theorem impl_dot.tab5 : rtab .any (opsOf Try.f34 5) = impl_dot.T5 := by kernel_rfl
theorem impl_dot.bits5 : waitsOk impl_dot.T5.2 impl_dot.B5 = true := by kernel_rfl
set_option maxHeartbeats 8000000 in
set_option maxRecDepth 100000 in
theorem impl_dot.calls (k : Nat) (A0 : Option Addr) (c0 : Nat) (l0 : List (S32)) (A1 : Option Addr) (c1 : Nat) (l1 : List (S32)) (r1 : Bool) (r2 : List Int) (r3 : List Int) (w : World) (hr0 : Kd.C k32 w A0 l0.length l0) (hc0 : l0.length ≤ c0) (hr1 : Kd.C k32 w A1 l1.length l1) (hc1 : l1.length ≤ c1) (h : impl_dot.f k l0 l1 = some (r1, r2, r3)) :
  Calls Try.prog 34 #[.slice A0 l0.length c0, .slice A1 l1.length c1] w fun e w' => ∃ v1_ v2_ : Value, e = .returned (.agg #[.bool r1, v1_, v2_]) ∧ Kd.R (Kd.int .i64) 3 w' w.heap.size (fun k_ => nO k_ v2_) v1_ r2 ∧ Kd.R (Kd.int .i64) 3 w' w.heap.size (fun k_ => nO k_ v1_) v2_ r3 ∧ Below w.heap.size w w' := by
 have hu32 := Try.underlying32
 have HR0 := Aside0.mk hr0
 have HC0 := Aside0.mk hc0
 clear hr0 hc0
 have HR1 := Aside0.mk hr1
 have HC1 := Aside0.mk hc1
 clear hr1 hc1
 have HB := Aside0.mk (Below.refl w.heap.size w)
 have H : ((impl_whole.f k 0).bind fun btA6 => (impl_dot.l0 k l1 l0 (l0.length : Int) 0 btA6.1 btA6.2.1 btA6.2.2)) = some (r1, r2, r3) := h
 clear h
 replace H := Option.bind_eq_some_iff.mp H
 obtain ⟨⟨tA6, tB0, tB2⟩, A30, H⟩ := H
 replace H : (impl_dot.l0 k l1 l0 (l0.length : Int) 0 tA6 tB0 tB2) = some (r1, r2, r3) := H
 have A3 := Aside0.mk A30
 clear A30
 have H' := Aside0.mk H
 clear H
 go_enter Try.func34, Try.ntmps34
 go_wp2_with (first | ((with_reducible refine gate_dst (N := 4) rfl ?_); refine bx_ (N := 4) (cs := #[.bool false, .slice none 0 0, .slice none 0 0]) (t := 32) ?_; intro gbA4 hg w4 hbox hb; have BKA4 := Aside0.mk (hbox); have GWA4 := geh hg HB; have GEA4 := geh hg HB; replace HB := bst HB hb; clear hb hbox hg) | ((with_reducible refine gate_callee (f := 58) rfl ?_); refine gL_ (some 8) Try.func58 #[.int .i64 0] ?_; (with_reducible refine (impl_whole.calls k 0 tA6 tB0 tB2 _ A3.out).mono ?_); rintro e w5 ⟨vC2, vC3, rfl, ho0, ho1, hb⟩; refine ⟨_, rfl, ?_⟩; have HOB3 := lwR ho0 HB; have HOB4 := lwR ho1 HB; replace BKA4 := bkb BKA4 hb; replace HB := bst HB hb; (try clear hb); (try clear hb2); (try clear hk); (try clear hi); (try clear ho0); (try clear ho1)) | ((with_reducible refine gate_dst (N := 5) rfl ?_); refine bx_ (N := 5) (cs := #[.bool false, .slice none 0 0, .slice none 0 0]) (t := 32) ?_; intro gbA1 hg w6 hbox hb; replace HOB3 := rblR HOB3 hb; replace HOB4 := rblR HOB4 hb; have BKA1 := Aside0.mk (hbox); have GWA1 := geh hg HB; have GEA1 := geh hg HB; replace HB := bst HB hb; have NBA4_A1 := nlt hg BKA4; have NBA1_A4 := ngt hg BKA4; replace BKA4 := bkb BKA4 hb; clear hb hbox hg; have hnb7 := NBA1_A4.out; have hnc7 := NBA4_A1.out; obtain ⟨hcz8_0, hcz8_1, hcz8_2, hfz8_0, hfz8_1, hfz8_2⟩ := bc3 BKA1; obtain ⟨Ao9, co9, eo9⟩ := Kd.R_slice HOB3.out; subst eo9; obtain ⟨Ao10, co10, eo10⟩ := Kd.R_slice HOB4.out; subst eo10))
 go_loopg [11] k (fun kq v11 w' => ∃ (x11_1 : Int) (x628000_1 : Bool) (x628001_1 : List Int) (x628002_1 : List Int) (u628001 : Value) (u628002 : Value), v11 = .int .i64 x11_1 ∧ Aside0 (impl_dot.l0 kq l1 l0 (l0.length : Int) x11_1 x628000_1 x628001_1 x628002_1 = some (r1, r2, r3)) ∧ Aside0 (kq ≤ k) ∧ Aside0 (Kd.R (Kd.int .i64) 3 w' w.heap.size (fun k_ => nO k_ u628002) u628001 x628001_1) ∧ Aside0 (Kd.R (Kd.int .i64) 3 w' w.heap.size (fun k_ => nO k_ u628001) u628002 x628002_1) ∧ Aside0 (w'.heap[gbA4]? = some (.cells #[.bool false, (.slice none 0 0), (.slice none 0 0)] 32 (0, 0))) ∧ Aside0 (w'.heap[gbA1]? = some (.cells #[.bool x628000_1, u628001, u628002] 32 (0, 0))) ∧ Aside0 (Below w.heap.size w w'))
 case atStart => exact ⟨(0), (tA6), (tB0), (tB2), (.slice Ao9 tB0.length co9), (.slice Ao10 tB2.length co10), rs_, H', ⟨Nat.le_refl _⟩, ⟨(crN HOB3 BKA1 fun _ hk => hk.1)⟩, ⟨(crN HOB4 BKA1 fun _ hk => hk.1)⟩, ⟨by (with_reducible repeat (first | refine blk_drewN ?_ _ | refine blk_drew ?_ | refine blk_alloc ?_ _)); refine blk_far ?_ NBA4_A1.out _; (with_reducible repeat (first | refine blk_drewN ?_ _ | refine blk_drew ?_ | refine blk_alloc ?_ _)); refine blk_far ?_ NBA4_A1.out _; (with_reducible repeat (first | refine blk_drewN ?_ _ | refine blk_drew ?_ | refine blk_alloc ?_ _)); refine blk_far ?_ NBA4_A1.out _; (with_reducible repeat (first | refine blk_drewN ?_ _ | refine blk_drew ?_ | refine blk_alloc ?_ _)); exact BKA4.out⟩, ⟨by (with_reducible repeat (first | refine blk_drewN ?_ _ | refine blk_drew ?_ | refine blk_alloc ?_ _)); refine blk_put (cs := #[.bool tA6, .slice Ao9 tB0.length co9, .slice none 0 0]) ?_ 2 _ rfl; (with_reducible repeat (first | refine blk_drewN ?_ _ | refine blk_drew ?_ | refine blk_alloc ?_ _)); refine blk_put (cs := #[.bool tA6, .slice none 0 0, .slice none 0 0]) ?_ 1 _ rfl; (with_reducible repeat (first | refine blk_drewN ?_ _ | refine blk_drew ?_ | refine blk_alloc ?_ _)); refine blk_put (cs := #[.bool false, .slice none 0 0, .slice none 0 0]) ?_ 0 _ rfl; (with_reducible repeat (first | refine blk_drewN ?_ _ | refine blk_drew ?_ | refine blk_alloc ?_ _)); exact BKA1.out⟩, ⟨blw HB⟩⟩
 case round =>
  clear H'
  try clear c1
  try clear p2
  try clear c3
  try clear c5
  try clear c7
  try clear hcz8_0
  try clear hcz8_1
  try clear hcz8_2
  try clear hfz8_0
  try clear hfz8_1
  try clear hfz8_2
  obtain ⟨x11_1, x628000_1, x628001_1, x628002_1, u628001, u628002, rfl, HA, HK1, HO_628001, HO_628002, BKA4, BKA1, HB⟩ := hrel
  cases gk with
  | zero => exact absurd HA.out (by simp [impl_dot.l0])
  | succ k1 =>
   have H := HA.out
   clear HA
   simp only [impl_dot.l0] at H
   by_cases c11 : x11_1 < (l0.length : Int)
   ·
    rw [if_pos c11] at H
    have c11b0 : decide (x11_1 < (l0.length : Int)) = true := decide_eq_true c11
    clear c11
    by_cases c12 : 0 ≤ x11_1
    ·
     rw [if_pos c12] at H
     have c12b0 : decide (0 ≤ x11_1) = true := decide_eq_true c12
     clear c12
     by_cases c13 : x11_1 < (l0.length : Int)
     ·
      rw [if_pos c13] at H
      have c13b0 : decide (x11_1 < (l0.length : Int)) = true := decide_eq_true c13
      clear c13
      by_cases c14 : x11_1 < (l1.length : Int)
      ·
       rw [if_pos c14] at H
       have c14b0 : decide (x11_1 < (l1.length : Int)) = true := decide_eq_true c14
       clear c14
       replace H := Option.bind_eq_some_iff.mp H
       obtain ⟨⟨tA7, tB5, tB6⟩, AB8, H⟩ := H
       replace H : ((impl_Rat_plus.f k1 x628000_1 x628001_1 x628002_1 tA7 tB5 tB6).bind fun btA5 => (impl_dot.l0 k1 l1 l0 (l0.length : Int) (wrap64 (x11_1 + 1)) btA5.1 btA5.2.1 btA5.2.2)) = some (r1, r2, r3) := H
       have A15 := Aside0.mk AB8
       clear AB8
       replace H := Option.bind_eq_some_iff.mp H
       obtain ⟨⟨tA5, tB1, tB7⟩, AB9, H⟩ := H
       replace H : (impl_dot.l0 k1 l1 l0 (l0.length : Int) (wrap64 (x11_1 + 1)) tA5 tB1 tB7) = some (r1, r2, r3) := H
       have A16 := Aside0.mk AB9
       clear AB9
       have H' := Aside0.mk H
       clear H
       have pA0 : 0 ≤ (x11_1 : Int) := of_decide_eq_true (by first | (with_reducible assumption) | assumption)
       have qA0 : x11_1 < (l0.length : Int) := of_decide_eq_true (by first | (with_reducible assumption) | assumption)
       obtain ⟨adA0, AA0_1, cA0_1, AA0_2, cA0_2, eA0, hxA0_0, hxA0_1, hxA0_2, hlA0_1, hiA0_1, hlA0_2, hiA0_2⟩ := at_T32 HR0.out x11_1 pA0 qA0
       cases eA0
       replace hxA0_0 := (HB.out.cell (World.block_lt_of_cell? w _ hxA0_0)).trans hxA0_0
       replace hxA0_1 := (HB.out.cell (World.block_lt_of_cell? w _ hxA0_1)).trans hxA0_1
       replace hxA0_2 := (HB.out.cell (World.block_lt_of_cell? w _ hxA0_2)).trans hxA0_2
       have HRA0_1 := Aside0.mk hiA0_1
       have HCA0_1 := Aside0.mk hlA0_1
       clear hiA0_1 hlA0_1
       have HRA0_2 := Aside0.mk hiA0_2
       have HCA0_2 := Aside0.mk hlA0_2
       clear hiA0_2 hlA0_2
       replace pA0 := eq_true pA0
       replace qA0 := eq_true qA0
       try go_wp2_with (first | ((with_reducible refine gate_dst (N := 7) rfl ?_); refine bx_ (N := 7) (cs := #[.bool false, .slice none 0 0, .slice none 0 0]) (t := 32) ?_; intro gbA2 hg w17 hbox hb; replace HO_628001 := rblR HO_628001 hb; replace HO_628002 := rblR HO_628002 hb; have BKA2 := Aside0.mk (hbox); have GWA2 := geh hg HB; have GEA2 := geh hg HB; replace HB := bst HB hb; have NBA4_A2 := nlt hg BKA4; have NBA2_A4 := ngt hg BKA4; replace BKA4 := bkb BKA4 hb; have NBA1_A2 := nlt hg BKA1; have NBA2_A1 := ngt hg BKA1; replace BKA1 := bkb BKA1 hb; clear hb hbox hg; have hnb18 := NBA2_A4.out; have hnc18 := NBA4_A2.out; have hnb19 := NBA2_A1.out; have hnc19 := NBA1_A2.out; obtain ⟨hcz20_0, hcz20_1, hcz20_2, hfz20_0, hfz20_1, hfz20_2⟩ := bc3 BKA2))
       have n0_ : Aside0 (Kd.R (Kd.int .i64) 3 (((w17.setCell ⟨gbA2, 0, none⟩ (.bool ((rd_T32 l0 x11_1).f0))).setCell ⟨gbA2, 1, none⟩ (.slice AA0_1 ((rd_T32 l0 x11_1).f1).length cA0_1)).setCell ⟨gbA2, 2, none⟩ (.slice AA0_2 ((rd_T32 l0 x11_1).f2).length cA0_2)) w.heap.size (fun k_ => nO k_ u628002) u628001 x628001_1) := ⟨(crN HO_628001 BKA2 fun _ hk => hk.1)⟩
       have n1_ : Aside0 (Kd.R (Kd.int .i64) 3 (((w17.setCell ⟨gbA2, 0, none⟩ (.bool ((rd_T32 l0 x11_1).f0))).setCell ⟨gbA2, 1, none⟩ (.slice AA0_1 ((rd_T32 l0 x11_1).f1).length cA0_1)).setCell ⟨gbA2, 2, none⟩ (.slice AA0_2 ((rd_T32 l0 x11_1).f2).length cA0_2)) w.heap.size (fun k_ => nO k_ u628001) u628002 x628002_1) := ⟨(crN HO_628002 BKA2 fun _ hk => hk.1)⟩
       have n2_ : Aside0 ((((w17.setCell ⟨gbA2, 0, none⟩ (.bool ((rd_T32 l0 x11_1).f0))).setCell ⟨gbA2, 1, none⟩ (.slice AA0_1 ((rd_T32 l0 x11_1).f1).length cA0_1)).setCell ⟨gbA2, 2, none⟩ (.slice AA0_2 ((rd_T32 l0 x11_1).f2).length cA0_2)).heap[gbA4]? = some (.cells #[.bool false, .slice none 0 0, .slice none 0 0] 32 (0, 0))) := ⟨by (with_reducible repeat (first | refine blk_drewN ?_ _ | refine blk_drew ?_ | refine blk_alloc ?_ _)); refine blk_far ?_ NBA4_A2.out _; (with_reducible repeat (first | refine blk_drewN ?_ _ | refine blk_drew ?_ | refine blk_alloc ?_ _)); refine blk_far ?_ NBA4_A2.out _; (with_reducible repeat (first | refine blk_drewN ?_ _ | refine blk_drew ?_ | refine blk_alloc ?_ _)); refine blk_far ?_ NBA4_A2.out _; (with_reducible repeat (first | refine blk_drewN ?_ _ | refine blk_drew ?_ | refine blk_alloc ?_ _)); exact BKA4.out⟩
       have n3_ : Aside0 ((((w17.setCell ⟨gbA2, 0, none⟩ (.bool ((rd_T32 l0 x11_1).f0))).setCell ⟨gbA2, 1, none⟩ (.slice AA0_1 ((rd_T32 l0 x11_1).f1).length cA0_1)).setCell ⟨gbA2, 2, none⟩ (.slice AA0_2 ((rd_T32 l0 x11_1).f2).length cA0_2)).heap[gbA1]? = some (.cells #[.bool x628000_1, u628001, u628002] 32 (0, 0))) := ⟨by (with_reducible repeat (first | refine blk_drewN ?_ _ | refine blk_drew ?_ | refine blk_alloc ?_ _)); refine blk_far ?_ NBA1_A2.out _; (with_reducible repeat (first | refine blk_drewN ?_ _ | refine blk_drew ?_ | refine blk_alloc ?_ _)); refine blk_far ?_ NBA1_A2.out _; (with_reducible repeat (first | refine blk_drewN ?_ _ | refine blk_drew ?_ | refine blk_alloc ?_ _)); refine blk_far ?_ NBA1_A2.out _; (with_reducible repeat (first | refine blk_drewN ?_ _ | refine blk_drew ?_ | refine blk_alloc ?_ _)); exact BKA1.out⟩
       have n4_ : Aside0 ((((w17.setCell ⟨gbA2, 0, none⟩ (.bool ((rd_T32 l0 x11_1).f0))).setCell ⟨gbA2, 1, none⟩ (.slice AA0_1 ((rd_T32 l0 x11_1).f1).length cA0_1)).setCell ⟨gbA2, 2, none⟩ (.slice AA0_2 ((rd_T32 l0 x11_1).f2).length cA0_2)).heap[gbA2]? = some (.cells #[.bool ((rd_T32 l0 x11_1).f0), .slice AA0_1 ((rd_T32 l0 x11_1).f1).length cA0_1, .slice AA0_2 ((rd_T32 l0 x11_1).f2).length cA0_2] 32 (0, 0))) := ⟨by (with_reducible repeat (first | refine blk_drewN ?_ _ | refine blk_drew ?_ | refine blk_alloc ?_ _)); refine blk_put (cs := #[.bool ((rd_T32 l0 x11_1).f0), .slice AA0_1 ((rd_T32 l0 x11_1).f1).length cA0_1, .slice none 0 0]) ?_ 2 _ rfl; (with_reducible repeat (first | refine blk_drewN ?_ _ | refine blk_drew ?_ | refine blk_alloc ?_ _)); refine blk_put (cs := #[.bool ((rd_T32 l0 x11_1).f0), .slice none 0 0, .slice none 0 0]) ?_ 1 _ rfl; (with_reducible repeat (first | refine blk_drewN ?_ _ | refine blk_drew ?_ | refine blk_alloc ?_ _)); refine blk_put (cs := #[.bool false, .slice none 0 0, .slice none 0 0]) ?_ 0 _ rfl; (with_reducible repeat (first | refine blk_drewN ?_ _ | refine blk_drew ?_ | refine blk_alloc ?_ _)); exact BKA2.out⟩
       have n5_ : Aside0 (Below w.heap.size w (((w17.setCell ⟨gbA2, 0, none⟩ (.bool ((rd_T32 l0 x11_1).f0))).setCell ⟨gbA2, 1, none⟩ (.slice AA0_1 ((rd_T32 l0 x11_1).f1).length cA0_1)).setCell ⟨gbA2, 2, none⟩ (.slice AA0_2 ((rd_T32 l0 x11_1).f2).length cA0_2))) := ⟨blw HB⟩
       (try clear HO_628001)
       (try clear HO_628002)
       (try clear BKA4)
       (try clear BKA1)
       (try clear BKA2)
       (try clear HB)
       generalize (((w17.setCell ⟨gbA2, 0, none⟩ (.bool ((rd_T32 l0 x11_1).f0))).setCell ⟨gbA2, 1, none⟩ (.slice AA0_1 ((rd_T32 l0 x11_1).f1).length cA0_1)).setCell ⟨gbA2, 2, none⟩ (.slice AA0_2 ((rd_T32 l0 x11_1).f2).length cA0_2)) = w21 at n0_ n1_ n2_ n3_ n4_ n5_ ⊢
       have HO_628001 := n0_
       have HO_628002 := n1_
       have BKA4 := n2_
       have BKA1 := n3_
       have BKA2 := n4_
       have HB := n5_
       clear n0_ n1_ n2_ n3_ n4_ n5_
       replace HO_628001 := Aside0.mk (Kd.R_drew HO_628001.out)
       replace HO_628002 := Aside0.mk (Kd.R_drew HO_628002.out)
       replace BKA4 := Aside0.mk (blk_drew BKA4.out)
       replace BKA1 := Aside0.mk (blk_drew BKA1.out)
       replace BKA2 := Aside0.mk (blk_drew BKA2.out)
       replace HB := Aside0.mk (below_drew1 HB.out)
       have pA3 : 0 ≤ (x11_1 : Int) := of_decide_eq_true (by first | (with_reducible assumption) | assumption)
       have qA3 : x11_1 < (l1.length : Int) := of_decide_eq_true (by first | (with_reducible assumption) | assumption)
       obtain ⟨adA3, AA3_1, cA3_1, AA3_2, cA3_2, eA3, hxA3_0, hxA3_1, hxA3_2, hlA3_1, hiA3_1, hlA3_2, hiA3_2⟩ := at_T32 HR1.out x11_1 pA3 qA3
       have hw630_2 := hxA3_2
       have hw630_1 := hxA3_1
       have hw630_0 := hxA3_0
       cases eA3
       replace hxA3_0 := (HB.out.cell (World.block_lt_of_cell? w _ hxA3_0)).trans hxA3_0
       replace hxA3_1 := (HB.out.cell (World.block_lt_of_cell? w _ hxA3_1)).trans hxA3_1
       replace hxA3_2 := (HB.out.cell (World.block_lt_of_cell? w _ hxA3_2)).trans hxA3_2
       have HRA3_1 := Aside0.mk hiA3_1
       have HCA3_1 := Aside0.mk hlA3_1
       clear hiA3_1 hlA3_1
       have HRA3_2 := Aside0.mk hiA3_2
       have HCA3_2 := Aside0.mk hlA3_2
       clear hiA3_2 hlA3_2
       replace pA3 := eq_true pA3
       replace qA3 := eq_true qA3
       refine start_ (n := 9) (S := fun w' => w'.cell? ⟨gbA1, 0, none⟩ = some (.bool x628000_1) ∧ w'.cell? ⟨gbA1, 1, none⟩ = some (u628001) ∧ w'.cell? ⟨gbA1, 2, none⟩ = some (u628002) ∧ w'.cell? ⟨gbA2, 0, none⟩ = some (.bool ((rd_T32 l0 x11_1).f0)) ∧ w'.cell? ⟨gbA2, 1, none⟩ = some (.slice AA0_1 ((rd_T32 l0 x11_1).f1).length cA0_1) ∧ w'.cell? ⟨gbA2, 2, none⟩ = some (.slice AA0_2 ((rd_T32 l0 x11_1).f2).length cA0_2) ∧ w'.cell? (adA3.add ((x11_1).toNat * 3)) = some (.bool ((rd_T32 l1 x11_1).f0)) ∧ w'.cell? ⟨(adA3.add ((x11_1).toNat * 3)).block, (adA3.add ((x11_1).toNat * 3)).off + 1, none⟩ = some (.slice AA3_1 ((rd_T32 l1 x11_1).f1).length cA3_1) ∧ w'.cell? ⟨(adA3.add ((x11_1).toNat * 3)).block, (adA3.add ((x11_1).toNat * 3)).off + 2, none⟩ = some (.slice AA3_2 ((rd_T32 l1 x11_1).f2).length cA3_2)) (ds := [8]) (bm 9 0) (by kernel_rfl) rfl rfl ⟨bce BKA1 0 _, bce BKA1 1 _, bce BKA1 2 _, bce BKA2 0 _, bce BKA2 1 _, bce BKA2 2 _, ((HB.out.cell (World.block_lt_of_cell? w _ hw630_0)).trans hw630_0), ((HB.out.cell (World.block_lt_of_cell? w _ hw630_1)).trans hw630_1), ((HB.out.cell (World.block_lt_of_cell? w _ hw630_2)).trans hw630_2)⟩ (fun hHeld => ?_); refine with_tabW impl_dot.tab5 impl_dot.bits5 (fun HT_ HW_ => ?_)
       generalize w21.drew = w22 at HO_628001 HO_628002 BKA4 BKA1 BKA2 HB HRA3_1 HRA3_2 hxA3_0 hxA3_1 hxA3_2 hHeld ⊢
       refine pu_ 2 (some 18) (bm 9 4) HT_.out ?_
       refine pu_ 3 (some 19) (bm 9 12) HT_.out ?_
       refine pu_ 4 (some 20) (bm 9 28) HT_.out ?_
       refine tk_ 0 (some 16) (bm 9 29) HT_.out HW_.out hHeld ?_
       refine tk_ 1 (some 17) (bm 9 31) HT_.out HW_.out hHeld ?_
       refine tk_ 5 (some 21) (bm 9 63) HT_.out HW_.out hHeld ?_
       refine one_ (i := 6) (N := some 22) (bm 9 127) rfl rfl (one_of HT_.out (by kernel_rfl)) (by decide) (fun K hK => ?_)
       refine g_ Try.func60 #[.agg #[.bool ((rd_T32 l0 x11_1).f0), .slice AA0_1 ((rd_T32 l0 x11_1).f1).length cA0_1, .slice AA0_2 ((rd_T32 l0 x11_1).f2).length cA0_2], .agg #[.bool ((rd_T32 l1 x11_1).f0), .slice AA3_1 ((rd_T32 l1 x11_1).f1).length cA3_1, .slice AA3_2 ((rd_T32 l1 x11_1).f2).length cA3_2]] ?_
       with_reducible refine (impl_Rat_times.calls k1 ((rd_T32 l0 x11_1).f0) _ _ ((rd_T32 l0 x11_1).f1) _ _ ((rd_T32 l0 x11_1).f2) ((rd_T32 l1 x11_1).f0) _ _ ((rd_T32 l1 x11_1).f1) _ _ ((rd_T32 l1 x11_1).f2) tA7 tB5 tB6 _ ?side1 ?side2 ?side3 ?side4 ?side5 ?side6 ?side7 ?side8 A15.out).mono ?_
       (case side1 => exact crC (Kd.C_below HRA0_1.out HB.out))
       (case side2 => exact HCA0_1.out)
       (case side3 => exact crC (Kd.C_below HRA0_2.out HB.out))
       (case side4 => exact HCA0_2.out)
       (case side5 => exact crC (Kd.C_below HRA3_1.out HB.out))
       (case side6 => exact HCA3_1.out)
       (case side7 => exact crC (Kd.C_below HRA3_2.out HB.out))
       (case side8 => exact HCA3_2.out)
       rintro e w23 ⟨vC4, vC5, rfl, ho0, ho1, hb⟩
       refine ⟨_, rfl, ?_⟩
       have HOA8 := lwR (nwR (nwR ho0 HO_628001) HO_628002) HB
       have HOA9 := lwR (nwR (nwR ho1 HO_628001) HO_628002) HB
       replace HO_628001 := tldR HO_628001 hb (Kd.R_base ho0) (Kd.R_base ho1)
       replace HO_628002 := tldR HO_628002 hb (Kd.R_base ho0) (Kd.R_base ho1)
       replace BKA4 := bkb BKA4 hb
       replace BKA1 := bkb BKA1 hb
       replace BKA2 := bkb BKA2 hb
       replace HB := bst HB hb
       (try clear hb)
       (try clear hb2)
       (try clear hk)
       (try clear hi)
       (try clear ho0)
       (try clear ho1)
       obtain ⟨Ao24, co24, eo24⟩ := Kd.R_slice HO_628001.out
       (first | subst eo24 | (injection eo24 with f1_ f2_ f3_; have f4_ := f1_.symm; have f5_ := f3_.symm; clear f1_ f2_ f3_; subst f4_; subst f5_))
       obtain ⟨Ao25, co25, eo25⟩ := Kd.R_slice HO_628002.out
       (first | subst eo25 | (injection eo25 with f1_ f2_ f3_; have f4_ := f1_.symm; have f5_ := f3_.symm; clear f1_ f2_ f3_; subst f4_; subst f5_))
       obtain ⟨Ao26, co26, eo26⟩ := Kd.R_slice HOA8.out
       (first | subst eo26 | (injection eo26 with f1_ f2_ f3_; have f4_ := f1_.symm; have f5_ := f3_.symm; clear f1_ f2_ f3_; subst f4_; subst f5_))
       obtain ⟨Ao27, co27, eo27⟩ := Kd.R_slice HOA9.out
       (first | subst eo27 | (injection eo27 with f1_ f2_ f3_; have f4_ := f1_.symm; have f5_ := f3_.symm; clear f1_ f2_ f3_; subst f4_; subst f5_))
       refine hK.out _ _ ⟨bce BKA1 0 _, bce BKA1 1 _, bce BKA1 2 _, bce BKA2 0 _, bce BKA2 1 _, bce BKA2 2 _, ((HB.out.cell (World.block_lt_of_cell? w _ hw630_0)).trans hw630_0), ((HB.out.cell (World.block_lt_of_cell? w _ hw630_1)).trans hw630_1), ((HB.out.cell (World.block_lt_of_cell? w _ hw630_2)).trans hw630_2)⟩ (fun hHeld => ?_)
       clear hK K
       refine nm_ 22 ?_
       refine one_ (i := 7) (N := some 23) (bm 9 255) rfl rfl (one_of HT_.out (by kernel_rfl)) (by decide) (fun K hK => ?_)
       refine g_ Try.func59 #[.agg #[.bool x628000_1, .slice Ao24 x628001_1.length co24, .slice Ao25 x628002_1.length co25], .agg #[.bool tA7, .slice Ao26 tB5.length co26, .slice Ao27 tB6.length co27]] ?_
       with_reducible refine (impl_Rat_plus.calls k1 x628000_1 _ _ x628001_1 _ _ x628002_1 tA7 _ _ tB5 _ _ tB6 tA5 tB1 tB7 _ ?side1 ?side2 ?side3 ?side4 ?side5 ?side6 ?side7 ?side8 A16.out).mono ?_
       (case side1 => exact crC (Kd.R_reads' HO_628001.out).2.2)
       (case side2 => exact (Kd.R_reads' HO_628001.out).2.1)
       (case side3 => exact crC (Kd.R_reads' HO_628002.out).2.2)
       (case side4 => exact (Kd.R_reads' HO_628002.out).2.1)
       (case side5 => exact crC (Kd.R_reads' HOA8.out).2.2)
       (case side6 => exact (Kd.R_reads' HOA8.out).2.1)
       (case side7 => exact crC (Kd.R_reads' HOA9.out).2.2)
       (case side8 => exact (Kd.R_reads' HOA9.out).2.1)
       rintro e w28 ⟨vC6, vC7, rfl, ho0, ho1, hb⟩
       refine ⟨_, rfl, ?_⟩
       have HOC0 := lwR (nwR (nwR (nwR (nwR ho0 HO_628001) HO_628002) HOA8) HOA9) HB
       have HOC1 := lwR (nwR (nwR (nwR (nwR ho1 HO_628001) HO_628002) HOA8) HOA9) HB
       replace HO_628001 := tldR HO_628001 hb (Kd.R_base ho0) (Kd.R_base ho1)
       replace HO_628002 := tldR HO_628002 hb (Kd.R_base ho0) (Kd.R_base ho1)
       replace HOA8 := tldR HOA8 hb (Kd.R_base ho0) (Kd.R_base ho1)
       replace HOA9 := tldR HOA9 hb (Kd.R_base ho0) (Kd.R_base ho1)
       replace BKA4 := bkb BKA4 hb
       replace BKA1 := bkb BKA1 hb
       replace BKA2 := bkb BKA2 hb
       replace HB := bst HB hb
       (try clear hb)
       (try clear hb2)
       (try clear hk)
       (try clear hi)
       (try clear ho0)
       (try clear ho1)
       obtain ⟨Ao30, co30, eo30⟩ := Kd.R_slice HOC0.out
       (first | subst eo30 | (injection eo30 with f1_ f2_ f3_; have f4_ := f1_.symm; have f5_ := f3_.symm; clear f1_ f2_ f3_; subst f4_; subst f5_))
       obtain ⟨Ao32, co32, eo32⟩ := Kd.R_slice HOC1.out
       (first | subst eo32 | (injection eo32 with f1_ f2_ f3_; have f4_ := f1_.symm; have f5_ := f3_.symm; clear f1_ f2_ f3_; subst f4_; subst f5_))
       refine hK.out _ _ ⟨bce BKA1 0 _, bce BKA1 1 _, bce BKA1 2 _, bce BKA2 0 _, bce BKA2 1 _, bce BKA2 2 _, ((HB.out.cell (World.block_lt_of_cell? w _ hw630_0)).trans hw630_0), ((HB.out.cell (World.block_lt_of_cell? w _ hw630_1)).trans hw630_1), ((HB.out.cell (World.block_lt_of_cell? w _ hw630_2)).trans hw630_2)⟩ (fun hHeld => ?_)
       clear hK K
       refine nm_ 23 ?_
       refine last_ (i := 8) (N := none) (bm 9 511) rfl rfl (one_of HT_.out (by kernel_rfl)) (by decide) (fun K hK => ?_)
       have hs29 : w28.cell? ⟨gbA1, 0, none⟩ = some (.bool x628000_1) := bce BKA1 0 _
       have hfs29 := blk_frozen BKA1.out 0
       have hns29_0 := NBA4_A1.out
       have hns29_2 := NBA2_A1.out
       have hms29_0 := NBA1_A4.out
       have hms29_2 := NBA1_A2.out
       have hs31 : w28.cell? ⟨gbA1, 1, none⟩ = some (.slice Ao24 x628001_1.length co24) := bce BKA1 1 _
       have hfs31 := blk_frozen BKA1.out 1
       have hns31_0 := NBA4_A1.out
       have hns31_2 := NBA2_A1.out
       have hms31_0 := NBA1_A4.out
       have hms31_2 := NBA1_A2.out
       have hs33 : w28.cell? ⟨gbA1, 2, none⟩ = some (.slice Ao25 x628002_1.length co25) := bce BKA1 2 _
       have hfs33 := blk_frozen BKA1.out 2
       have hns33_0 := NBA4_A1.out
       have hns33_2 := NBA2_A1.out
       have hms33_0 := NBA1_A4.out
       have hms33_2 := NBA1_A2.out
       refine skip_ (w1 := ?_) (by rfl) rfl ?_ ?_
       rotate_left
       ·
        go_simp
        rfl
       refine hK.out _ _ ?_
       clear hK K
       refine done_ (done_of HT_.out (by kernel_rfl)) ?_
       try go_wp2
       go_roundg k1
       case measure => have := HK1.out; omega
       case rel => exact ⟨(wrap64 (x11_1 + 1)), (tA5), (tB1), (tB7), (.slice Ao30 tB1.length co30), (.slice Ao32 tB7.length co32), rs_, H', ⟨by have := HK1.out; omega⟩, ⟨(crN HOC0 BKA1 fun _ hk => hk.1.1.1.1.1)⟩, ⟨(crN HOC1 BKA1 fun _ hk => hk.1.1.1.1.1)⟩, ⟨by (with_reducible repeat (first | refine blk_drewN ?_ _ | refine blk_drew ?_ | refine blk_alloc ?_ _)); refine blk_far ?_ NBA4_A1.out _; (with_reducible repeat (first | refine blk_drewN ?_ _ | refine blk_drew ?_ | refine blk_alloc ?_ _)); refine blk_far ?_ NBA4_A1.out _; (with_reducible repeat (first | refine blk_drewN ?_ _ | refine blk_drew ?_ | refine blk_alloc ?_ _)); refine blk_far ?_ NBA4_A1.out _; (with_reducible repeat (first | refine blk_drewN ?_ _ | refine blk_drew ?_ | refine blk_alloc ?_ _)); exact BKA4.out⟩, ⟨by (with_reducible repeat (first | refine blk_drewN ?_ _ | refine blk_drew ?_ | refine blk_alloc ?_ _)); refine blk_put (cs := #[.bool tA5, .slice Ao30 tB1.length co30, .slice Ao25 x628002_1.length co25]) ?_ 2 _ rfl; (with_reducible repeat (first | refine blk_drewN ?_ _ | refine blk_drew ?_ | refine blk_alloc ?_ _)); refine blk_put (cs := #[.bool tA5, .slice Ao24 x628001_1.length co24, .slice Ao25 x628002_1.length co25]) ?_ 1 _ rfl; (with_reducible repeat (first | refine blk_drewN ?_ _ | refine blk_drew ?_ | refine blk_alloc ?_ _)); refine blk_put (cs := #[.bool x628000_1, .slice Ao24 x628001_1.length co24, .slice Ao25 x628002_1.length co25]) ?_ 0 _ rfl; (with_reducible repeat (first | refine blk_drewN ?_ _ | refine blk_drew ?_ | refine blk_alloc ?_ _)); exact BKA1.out⟩, ⟨blw HB⟩⟩
      ·
       rw [if_neg c14] at H
       exact absurd H (by simp)
     ·
      rw [if_neg c13] at H
      exact absurd H (by simp)
    ·
     rw [if_neg c12] at H
     exact absurd H (by simp)
   ·
    rw [if_neg c11] at H
    have c11b0 : decide (x11_1 < (l0.length : Int)) = false := decide_eq_false c11
    clear c11
    simp only [Option.some.injEq, Prod.mk.injEq] at H
    obtain ⟨rfl, rfl, rfl⟩ := H
    have hnb34 := NBA1_A4.out
    have hnc34 := NBA4_A1.out
    obtain ⟨hcz35_0, hcz35_1, hcz35_2, hfz35_0, hfz35_1, hfz35_2⟩ := bc3 BKA1
    obtain ⟨hcz36_0, hcz36_1, hcz36_2, hfz36_0, hfz36_1, hfz36_2⟩ := bc3 BKA4
    obtain ⟨Ao37, co37, eo37⟩ := Kd.R_slice HO_628001.out
    subst eo37
    obtain ⟨Ao38, co38, eo38⟩ := Kd.R_slice HO_628002.out
    subst eo38
    go_wp2
    refine bodyPost_ret (results_cell_row rfl _ _ gbA4 32 #[.bool x628000_1, .slice Ao37 x628001_1.length co37, .slice Ao38 x628002_1.length co38] (0, 0) _ rfl (bp3 BKA4 _ _ _) Try.underlying32 rfl (by kernel_rfl)) rfl ?_
    exact ⟨_, _, er_, (crN HO_628001 BKA4 fun _ hk => hk.1), (crN HO_628002 BKA4 fun _ hk => hk.1), blw HB⟩

end Go.Proofs.Ytegbmillbbcmfaa.Q
