-- written by a program of this claim's session (myprint.py) out of the translation; Lean checks it.
import Derived.Test.YtegbmillbbcmfaaQx0
import Derived.Test.YtegbmillbbcmfaaWords
import Derived.Test.YtegbmillbbcmfaaQxrsp
import Derived.Test.YtegbmillbbcmfaaQxrmk
import Derived.Test.YtegbmillbbcmfaaQxrsq
namespace Go.Proofs.Ytegbmillbbcmfaa.Q
open Go.RowKit Go.Proofs.YtegbmillbbcmfaaW.PrintWords Go.Proofs.YtegbmillbbcmfaaW.PrintLast Go.Proofs.YtegbmillbbcmfaaW.PrintMore
attribute [local go_sem] max2_int min2_int max_two min_two max_three min_three max_four min_four   -- for this text's walks alone
set_option linter.unusedVariables false
set_option linter.unusedSimpArgs false

def spec_l03Dot.l0 : Nat → List (S32) → List (S32) → Int → Bool → List Int → List Int → Option (Bool × List Int × List Int)
 | 0, _, _, _, _, _, _ => none
 | k + 1, x0, x1, x6, x387000, x387001, x387002 => if x6 < (x0.length : Int) then (if 0 ≤ x6 then (if x6 < (x1.length : Int) then ((spec_l02Mul.f k ((rd_T32 x0 x6).f0) ((rd_T32 x0 x6).f1) ((rd_T32 x0 x6).f2) ((rd_T32 x1 x6).f0) ((rd_T32 x1 x6).f1) ((rd_T32 x1 x6).f2)).bind fun btA6 => ((spec_l02Add.f k x387000 x387001 x387002 btA6.1 btA6.2.1 btA6.2.2).bind fun btA4 => (spec_l03Dot.l0 k x0 x1 (wrap64 (x6 + 1)) btA4.1 btA4.2.1 btA4.2.2))) else (none)) else (none)) else (some (x387000, x387001, x387002))
def spec_l03Dot.f (k : Nat) (l0 : List (S32)) (l1 : List (S32)) : Option (Bool × List Int × List Int) := (spec_l02Int.f k 0).bind fun btA5 => (spec_l03Dot.l0 k l0 l1 0 btA5.1 btA5.2.1 btA5.2.2)
def spec_l03Dot.T5 : Bool × List (List Nat × List Nat) := (true, [([], []), ([], []), ([], []), ([1, 2], [1, 2]), ([3], [3]), ([], []), ([], []), ([5, 6], [5, 6]), ([7], [7]), ([4, 8], [4, 8]), ([0, 9, 9], [0, 9]), ([10, 10, 0, 1, 2, 3, 4, 5, 6, 7, 8, 9, 10], [10])])
def spec_l03Dot.B5 : List Nat := [0, 0, 0, 6, 14, 0, 0, 96, 224, 510, 1023, 2047]
theorem spec_l03Dot.tab5 : rtab .any (opsOf Try.f31 5) = spec_l03Dot.T5 := by kernel_rfl
theorem spec_l03Dot.bits5 : waitsOk spec_l03Dot.T5.2 spec_l03Dot.B5 = true := by kernel_rfl
set_option maxHeartbeats 8000000 in
set_option maxRecDepth 100000 in
theorem spec_l03Dot.calls (k : Nat) (A0 : Option Addr) (c0 : Nat) (l0 : List (S32)) (A1 : Option Addr) (c1 : Nat) (l1 : List (S32)) (r1 : Bool) (r2 : List Int) (r3 : List Int) (w : World) (hr0 : Kd.C k32 w A0 l0.length l0) (hc0 : l0.length ≤ c0) (hr1 : Kd.C k32 w A1 l1.length l1) (hc1 : l1.length ≤ c1) (h : spec_l03Dot.f k l0 l1 = some (r1, r2, r3)) :
  Calls Try.prog 31 #[.slice A0 l0.length c0, .slice A1 l1.length c1] w fun e w' => ∃ v1_ v2_ : Value, e = .returned (.agg #[.bool r1, v1_, v2_]) ∧ Kd.R (Kd.int .i64) 3 w' w.heap.size (fun k_ => nO k_ v2_) v1_ r2 ∧ Kd.R (Kd.int .i64) 3 w' w.heap.size (fun k_ => nO k_ v1_) v2_ r3 ∧ Below w.heap.size w w' := by
 have hu32 := Try.underlying32
 have HR0 := Aside0.mk hr0
 have HC0 := Aside0.mk hc0
 clear hr0 hc0
 have HR1 := Aside0.mk hr1
 have HC1 := Aside0.mk hc1
 clear hr1 hc1
 have HB := Aside0.mk (Below.refl w.heap.size w)
 have H : ((spec_l02Int.f k 0).bind fun btA5 => (spec_l03Dot.l0 k l0 l1 0 btA5.1 btA5.2.1 btA5.2.2)) = some (r1, r2, r3) := h
 clear h
 replace H := Option.bind_eq_some_iff.mp H
 obtain ⟨⟨tA5, tA9, tB1⟩, A30, H⟩ := H
 replace H : (spec_l03Dot.l0 k l0 l1 0 tA5 tA9 tB1) = some (r1, r2, r3) := H
 have A3 := Aside0.mk A30
 clear A30
 have H' := Aside0.mk H
 clear H
 go_enter Try.func31, Try.ntmps31
 go_wp2_with (first | ((with_reducible refine gate_dst (N := 4) rfl ?_); refine bx_ (N := 4) (cs := #[.bool false, .slice none 0 0, .slice none 0 0]) (t := 32) ?_; intro gbA3 hg w4 hbox hb; have BKA3 := Aside0.mk (hbox); have GWA3 := geh hg HB; have GEA3 := geh hg HB; replace HB := bst HB hb; clear hb hbox hg) | ((with_reducible refine gate_callee (f := 53) rfl ?_); refine gL_ (some 7) Try.func53 #[.int .i64 0] ?_; (with_reducible refine (spec_l02Int.calls k 0 tA5 tA9 tB1 _ A3.out).mono ?_); rintro e w5 ⟨vC1, vC2, rfl, ho0, ho1, hb⟩; refine ⟨_, rfl, ?_⟩; have HOB2 := lwR ho0 HB; have HOB3 := lwR ho1 HB; replace BKA3 := bkb BKA3 hb; replace HB := bst HB hb; (try clear hb); (try clear hb2); (try clear hk); (try clear hi); (try clear ho0); (try clear ho1)) | ((with_reducible refine gate_dst (N := 5) rfl ?_); refine bx_ (N := 5) (cs := #[.bool false, .slice none 0 0, .slice none 0 0]) (t := 32) ?_; intro gbA2 hg w6 hbox hb; replace HOB2 := rblR HOB2 hb; replace HOB3 := rblR HOB3 hb; have BKA2 := Aside0.mk (hbox); have GWA2 := geh hg HB; have GEA2 := geh hg HB; replace HB := bst HB hb; have NBA3_A2 := nlt hg BKA3; have NBA2_A3 := ngt hg BKA3; replace BKA3 := bkb BKA3 hb; clear hb hbox hg; have hnb7 := NBA2_A3.out; have hnc7 := NBA3_A2.out; obtain ⟨hcz8_0, hcz8_1, hcz8_2, hfz8_0, hfz8_1, hfz8_2⟩ := bc3 BKA2; obtain ⟨Ao9, co9, eo9⟩ := Kd.R_slice HOB2.out; subst eo9; obtain ⟨Ao10, co10, eo10⟩ := Kd.R_slice HOB3.out; subst eo10))
 go_loopg [6] k (fun kq v6 w' => ∃ (x6_1 : Int) (x387000_1 : Bool) (x387001_1 : List Int) (x387002_1 : List Int) (u387001 : Value) (u387002 : Value), v6 = .int .i64 x6_1 ∧ Aside0 (spec_l03Dot.l0 kq l0 l1 x6_1 x387000_1 x387001_1 x387002_1 = some (r1, r2, r3)) ∧ Aside0 (kq ≤ k) ∧ Aside0 (Kd.R (Kd.int .i64) 3 w' w.heap.size (fun k_ => nO k_ u387002) u387001 x387001_1) ∧ Aside0 (Kd.R (Kd.int .i64) 3 w' w.heap.size (fun k_ => nO k_ u387001) u387002 x387002_1) ∧ Aside0 (w'.heap[gbA3]? = some (.cells #[.bool false, (.slice none 0 0), (.slice none 0 0)] 32 (0, 0))) ∧ Aside0 (w'.heap[gbA2]? = some (.cells #[.bool x387000_1, u387001, u387002] 32 (0, 0))) ∧ Aside0 (Below w.heap.size w w'))
 case atStart => exact ⟨(0), (tA5), (tA9), (tB1), (.slice Ao9 tA9.length co9), (.slice Ao10 tB1.length co10), rs_, H', ⟨Nat.le_refl _⟩, ⟨(crN HOB2 BKA2 fun _ hk => hk.1)⟩, ⟨(crN HOB3 BKA2 fun _ hk => hk.1)⟩, ⟨by (with_reducible repeat (first | refine blk_drewN ?_ _ | refine blk_drew ?_ | refine blk_alloc ?_ _)); refine blk_far ?_ NBA3_A2.out _; (with_reducible repeat (first | refine blk_drewN ?_ _ | refine blk_drew ?_ | refine blk_alloc ?_ _)); refine blk_far ?_ NBA3_A2.out _; (with_reducible repeat (first | refine blk_drewN ?_ _ | refine blk_drew ?_ | refine blk_alloc ?_ _)); refine blk_far ?_ NBA3_A2.out _; (with_reducible repeat (first | refine blk_drewN ?_ _ | refine blk_drew ?_ | refine blk_alloc ?_ _)); exact BKA3.out⟩, ⟨by (with_reducible repeat (first | refine blk_drewN ?_ _ | refine blk_drew ?_ | refine blk_alloc ?_ _)); refine blk_put (cs := #[.bool tA5, .slice Ao9 tA9.length co9, .slice none 0 0]) ?_ 2 _ rfl; (with_reducible repeat (first | refine blk_drewN ?_ _ | refine blk_drew ?_ | refine blk_alloc ?_ _)); refine blk_put (cs := #[.bool tA5, .slice none 0 0, .slice none 0 0]) ?_ 1 _ rfl; (with_reducible repeat (first | refine blk_drewN ?_ _ | refine blk_drew ?_ | refine blk_alloc ?_ _)); refine blk_put (cs := #[.bool false, .slice none 0 0, .slice none 0 0]) ?_ 0 _ rfl; (with_reducible repeat (first | refine blk_drewN ?_ _ | refine blk_drew ?_ | refine blk_alloc ?_ _)); exact BKA2.out⟩, ⟨blw HB⟩⟩
 case round =>
  clear H'
  try clear c1
  try clear p2
  try clear c3
  try clear c5
  try clear c7
  try clear hcz8_0
  try clear hcz8_1
  try clear hcz8_2
  try clear hfz8_0
  try clear hfz8_1
  try clear hfz8_2
  obtain ⟨x6_1, x387000_1, x387001_1, x387002_1, u387001, u387002, rfl, HA, HK1, HO_387001, HO_387002, BKA3, BKA2, HB⟩ := hrel
  cases gk with
  | zero => exact absurd HA.out (by simp [spec_l03Dot.l0])
  | succ k1 =>
   have H := HA.out
   clear HA
   simp only [spec_l03Dot.l0] at H
   by_cases c11 : x6_1 < (l0.length : Int)
   ·
    rw [if_pos c11] at H
    have c11b0 : decide (x6_1 < (l0.length : Int)) = true := decide_eq_true c11
    clear c11
    by_cases c12 : 0 ≤ x6_1
    ·
     rw [if_pos c12] at H
     have c12b0 : decide (0 ≤ x6_1) = true := decide_eq_true c12
     clear c12
     by_cases c13 : x6_1 < (l1.length : Int)
     ·
      rw [if_pos c13] at H
      have c13b0 : decide (x6_1 < (l1.length : Int)) = true := decide_eq_true c13
      clear c13
      replace H := Option.bind_eq_some_iff.mp H
      obtain ⟨⟨tA6, tB4, tB5⟩, AB7, H⟩ := H
      replace H : ((spec_l02Add.f k1 x387000_1 x387001_1 x387002_1 tA6 tB4 tB5).bind fun btA4 => (spec_l03Dot.l0 k1 l0 l1 (wrap64 (x6_1 + 1)) btA4.1 btA4.2.1 btA4.2.2)) = some (r1, r2, r3) := H
      have A14 := Aside0.mk AB7
      clear AB7
      replace H := Option.bind_eq_some_iff.mp H
      obtain ⟨⟨tA4, tB0, tB6⟩, AB8, H⟩ := H
      replace H : (spec_l03Dot.l0 k1 l0 l1 (wrap64 (x6_1 + 1)) tA4 tB0 tB6) = some (r1, r2, r3) := H
      have A15 := Aside0.mk AB8
      clear AB8
      have H' := Aside0.mk H
      clear H
      try go_wp2
      replace HO_387001 := Aside0.mk (Kd.R_drew HO_387001.out)
      replace HO_387002 := Aside0.mk (Kd.R_drew HO_387002.out)
      replace BKA3 := Aside0.mk (blk_drew BKA3.out)
      replace BKA2 := Aside0.mk (blk_drew BKA2.out)
      replace HB := Aside0.mk (below_drew1 HB.out)
      have pA0 : 0 ≤ (x6_1 : Int) := of_decide_eq_true (by first | (with_reducible assumption) | assumption)
      have qA0 : x6_1 < (l0.length : Int) := of_decide_eq_true (by first | (with_reducible assumption) | assumption)
      obtain ⟨adA0, AA0_1, cA0_1, AA0_2, cA0_2, eA0, hxA0_0, hxA0_1, hxA0_2, hlA0_1, hiA0_1, hlA0_2, hiA0_2⟩ := at_T32 HR0.out x6_1 pA0 qA0
      have hw387_2 := hxA0_2
      have hw387_1 := hxA0_1
      have hw387_0 := hxA0_0
      cases eA0
      replace hxA0_0 := (HB.out.cell (World.block_lt_of_cell? w _ hxA0_0)).trans hxA0_0
      replace hxA0_1 := (HB.out.cell (World.block_lt_of_cell? w _ hxA0_1)).trans hxA0_1
      replace hxA0_2 := (HB.out.cell (World.block_lt_of_cell? w _ hxA0_2)).trans hxA0_2
      have HRA0_1 := Aside0.mk hiA0_1
      have HCA0_1 := Aside0.mk hlA0_1
      clear hiA0_1 hlA0_1
      have HRA0_2 := Aside0.mk hiA0_2
      have HCA0_2 := Aside0.mk hlA0_2
      clear hiA0_2 hlA0_2
      replace pA0 := eq_true pA0
      replace qA0 := eq_true qA0
      have pA1 : 0 ≤ (x6_1 : Int) := of_decide_eq_true (by first | (with_reducible assumption) | assumption)
      have qA1 : x6_1 < (l1.length : Int) := of_decide_eq_true (by first | (with_reducible assumption) | assumption)
      obtain ⟨adA1, AA1_1, cA1_1, AA1_2, cA1_2, eA1, hxA1_0, hxA1_1, hxA1_2, hlA1_1, hiA1_1, hlA1_2, hiA1_2⟩ := at_T32 HR1.out x6_1 pA1 qA1
      have hw388_2 := hxA1_2
      have hw388_1 := hxA1_1
      have hw388_0 := hxA1_0
      cases eA1
      replace hxA1_0 := (HB.out.cell (World.block_lt_of_cell? w _ hxA1_0)).trans hxA1_0
      replace hxA1_1 := (HB.out.cell (World.block_lt_of_cell? w _ hxA1_1)).trans hxA1_1
      replace hxA1_2 := (HB.out.cell (World.block_lt_of_cell? w _ hxA1_2)).trans hxA1_2
      have HRA1_1 := Aside0.mk hiA1_1
      have HCA1_1 := Aside0.mk hlA1_1
      clear hiA1_1 hlA1_1
      have HRA1_2 := Aside0.mk hiA1_2
      have HCA1_2 := Aside0.mk hlA1_2
      clear hiA1_2 hlA1_2
      replace pA1 := eq_true pA1
      replace qA1 := eq_true qA1
      refine start_ (n := 12) (S := fun w' => w'.cell? ⟨gbA2, 0, none⟩ = some (.bool x387000_1) ∧ w'.cell? ⟨gbA2, 1, none⟩ = some (u387001) ∧ w'.cell? ⟨gbA2, 2, none⟩ = some (u387002) ∧ w'.cell? (adA0.add ((x6_1).toNat * 3)) = some (.bool ((rd_T32 l0 x6_1).f0)) ∧ w'.cell? ⟨(adA0.add ((x6_1).toNat * 3)).block, (adA0.add ((x6_1).toNat * 3)).off + 1, none⟩ = some (.slice AA0_1 ((rd_T32 l0 x6_1).f1).length cA0_1) ∧ w'.cell? ⟨(adA0.add ((x6_1).toNat * 3)).block, (adA0.add ((x6_1).toNat * 3)).off + 2, none⟩ = some (.slice AA0_2 ((rd_T32 l0 x6_1).f2).length cA0_2) ∧ w'.cell? (adA1.add ((x6_1).toNat * 3)) = some (.bool ((rd_T32 l1 x6_1).f0)) ∧ w'.cell? ⟨(adA1.add ((x6_1).toNat * 3)).block, (adA1.add ((x6_1).toNat * 3)).off + 1, none⟩ = some (.slice AA1_1 ((rd_T32 l1 x6_1).f1).length cA1_1) ∧ w'.cell? ⟨(adA1.add ((x6_1).toNat * 3)).block, (adA1.add ((x6_1).toNat * 3)).off + 2, none⟩ = some (.slice AA1_2 ((rd_T32 l1 x6_1).f2).length cA1_2)) (ds := [11]) (bm 12 0) (by kernel_rfl) rfl rfl ⟨bce BKA2 0 _, bce BKA2 1 _, bce BKA2 2 _, ((HB.out.cell (World.block_lt_of_cell? w _ hw387_0)).trans hw387_0), ((HB.out.cell (World.block_lt_of_cell? w _ hw387_1)).trans hw387_1), ((HB.out.cell (World.block_lt_of_cell? w _ hw387_2)).trans hw387_2), ((HB.out.cell (World.block_lt_of_cell? w _ hw388_0)).trans hw388_0), ((HB.out.cell (World.block_lt_of_cell? w _ hw388_1)).trans hw388_1), ((HB.out.cell (World.block_lt_of_cell? w _ hw388_2)).trans hw388_2)⟩ (fun hHeld => ?_); refine with_tabW spec_l03Dot.tab5 spec_l03Dot.bits5 (fun HT_ HW_ => ?_)
      generalize wr.drew = w16 at HO_387001 HO_387002 BKA3 BKA2 HB HRA0_1 HRA0_2 HRA1_1 HRA1_2 hxA0_0 hxA0_1 hxA0_2 hxA1_0 hxA1_1 hxA1_2 hHeld ⊢
      refine pu_ 1 (some 15) (bm 12 2) HT_.out ?_
      refine pu_ 2 (some 16) (bm 12 6) HT_.out ?_
      refine pu_ 3 (some 17) (bm 12 14) HT_.out ?_
      refine pu_ 5 (some 19) (bm 12 46) HT_.out ?_
      refine pu_ 6 (some 20) (bm 12 110) HT_.out ?_
      refine pu_ 7 (some 21) (bm 12 238) HT_.out ?_
      refine tk_ 0 (some 14) (bm 12 239) HT_.out HW_.out hHeld ?_
      refine tk_ 4 (some 18) (bm 12 255) HT_.out HW_.out hHeld ?_
      refine tk_ 8 (some 22) (bm 12 511) HT_.out HW_.out hHeld ?_
      refine one_ (i := 9) (N := some 23) (bm 12 1023) rfl rfl (one_of HT_.out (by kernel_rfl)) (by decide) (fun K hK => ?_)
      refine g_ Try.func55 #[.agg #[.bool ((rd_T32 l0 x6_1).f0), .slice AA0_1 ((rd_T32 l0 x6_1).f1).length cA0_1, .slice AA0_2 ((rd_T32 l0 x6_1).f2).length cA0_2], .agg #[.bool ((rd_T32 l1 x6_1).f0), .slice AA1_1 ((rd_T32 l1 x6_1).f1).length cA1_1, .slice AA1_2 ((rd_T32 l1 x6_1).f2).length cA1_2]] ?_
      with_reducible refine (spec_l02Mul.calls k1 ((rd_T32 l0 x6_1).f0) _ _ ((rd_T32 l0 x6_1).f1) _ _ ((rd_T32 l0 x6_1).f2) ((rd_T32 l1 x6_1).f0) _ _ ((rd_T32 l1 x6_1).f1) _ _ ((rd_T32 l1 x6_1).f2) tA6 tB4 tB5 _ ?side1 ?side2 ?side3 ?side4 ?side5 ?side6 ?side7 ?side8 A14.out).mono ?_
      (case side1 => exact crC (Kd.C_below HRA0_1.out HB.out))
      (case side2 => exact HCA0_1.out)
      (case side3 => exact crC (Kd.C_below HRA0_2.out HB.out))
      (case side4 => exact HCA0_2.out)
      (case side5 => exact crC (Kd.C_below HRA1_1.out HB.out))
      (case side6 => exact HCA1_1.out)
      (case side7 => exact crC (Kd.C_below HRA1_2.out HB.out))
      (case side8 => exact HCA1_2.out)
      rintro e w17 ⟨vC3, vC4, rfl, ho0, ho1, hb⟩
      refine ⟨_, rfl, ?_⟩
      have HOA7 := lwR (nwR (nwR ho0 HO_387001) HO_387002) HB
      have HOA8 := lwR (nwR (nwR ho1 HO_387001) HO_387002) HB
      replace HO_387001 := tldR HO_387001 hb (Kd.R_base ho0) (Kd.R_base ho1)
      replace HO_387002 := tldR HO_387002 hb (Kd.R_base ho0) (Kd.R_base ho1)
      replace BKA3 := bkb BKA3 hb
      replace BKA2 := bkb BKA2 hb
      replace HB := bst HB hb
      (try clear hb)
      (try clear hb2)
      (try clear hk)
      (try clear hi)
      (try clear ho0)
      (try clear ho1)
      obtain ⟨Ao18, co18, eo18⟩ := Kd.R_slice HO_387001.out
      (first | subst eo18 | (injection eo18 with f1_ f2_ f3_; have f4_ := f1_.symm; have f5_ := f3_.symm; clear f1_ f2_ f3_; subst f4_; subst f5_))
      obtain ⟨Ao19, co19, eo19⟩ := Kd.R_slice HO_387002.out
      (first | subst eo19 | (injection eo19 with f1_ f2_ f3_; have f4_ := f1_.symm; have f5_ := f3_.symm; clear f1_ f2_ f3_; subst f4_; subst f5_))
      obtain ⟨Ao20, co20, eo20⟩ := Kd.R_slice HOA7.out
      (first | subst eo20 | (injection eo20 with f1_ f2_ f3_; have f4_ := f1_.symm; have f5_ := f3_.symm; clear f1_ f2_ f3_; subst f4_; subst f5_))
      obtain ⟨Ao21, co21, eo21⟩ := Kd.R_slice HOA8.out
      (first | subst eo21 | (injection eo21 with f1_ f2_ f3_; have f4_ := f1_.symm; have f5_ := f3_.symm; clear f1_ f2_ f3_; subst f4_; subst f5_))
      refine hK.out _ _ ⟨bce BKA2 0 _, bce BKA2 1 _, bce BKA2 2 _, ((HB.out.cell (World.block_lt_of_cell? w _ hw387_0)).trans hw387_0), ((HB.out.cell (World.block_lt_of_cell? w _ hw387_1)).trans hw387_1), ((HB.out.cell (World.block_lt_of_cell? w _ hw387_2)).trans hw387_2), ((HB.out.cell (World.block_lt_of_cell? w _ hw388_0)).trans hw388_0), ((HB.out.cell (World.block_lt_of_cell? w _ hw388_1)).trans hw388_1), ((HB.out.cell (World.block_lt_of_cell? w _ hw388_2)).trans hw388_2)⟩ (fun hHeld => ?_)
      clear hK K
      refine nm_ 23 ?_
      refine one_ (i := 10) (N := some 24) (bm 12 2047) rfl rfl (one_of HT_.out (by kernel_rfl)) (by decide) (fun K hK => ?_)
      refine g_ Try.func54 #[.agg #[.bool x387000_1, .slice Ao18 x387001_1.length co18, .slice Ao19 x387002_1.length co19], .agg #[.bool tA6, .slice Ao20 tB4.length co20, .slice Ao21 tB5.length co21]] ?_
      with_reducible refine (spec_l02Add.calls k1 x387000_1 _ _ x387001_1 _ _ x387002_1 tA6 _ _ tB4 _ _ tB5 tA4 tB0 tB6 _ ?side1 ?side2 ?side3 ?side4 ?side5 ?side6 ?side7 ?side8 A15.out).mono ?_
      (case side1 => exact crC (Kd.R_reads' HO_387001.out).2.2)
      (case side2 => exact (Kd.R_reads' HO_387001.out).2.1)
      (case side3 => exact crC (Kd.R_reads' HO_387002.out).2.2)
      (case side4 => exact (Kd.R_reads' HO_387002.out).2.1)
      (case side5 => exact crC (Kd.R_reads' HOA7.out).2.2)
      (case side6 => exact (Kd.R_reads' HOA7.out).2.1)
      (case side7 => exact crC (Kd.R_reads' HOA8.out).2.2)
      (case side8 => exact (Kd.R_reads' HOA8.out).2.1)
      rintro e w22 ⟨vC5, vC6, rfl, ho0, ho1, hb⟩
      refine ⟨_, rfl, ?_⟩
      have HOB9 := lwR (nwR (nwR (nwR (nwR ho0 HO_387001) HO_387002) HOA7) HOA8) HB
      have HOC0 := lwR (nwR (nwR (nwR (nwR ho1 HO_387001) HO_387002) HOA7) HOA8) HB
      replace HO_387001 := tldR HO_387001 hb (Kd.R_base ho0) (Kd.R_base ho1)
      replace HO_387002 := tldR HO_387002 hb (Kd.R_base ho0) (Kd.R_base ho1)
      replace HOA7 := tldR HOA7 hb (Kd.R_base ho0) (Kd.R_base ho1)
      replace HOA8 := tldR HOA8 hb (Kd.R_base ho0) (Kd.R_base ho1)
      replace BKA3 := bkb BKA3 hb
      replace BKA2 := bkb BKA2 hb
      replace HB := bst HB hb
      (try clear hb)
      (try clear hb2)
      (try clear hk)
      (try clear hi)
      (try clear ho0)
      (try clear ho1)
      obtain ⟨Ao24, co24, eo24⟩ := Kd.R_slice HOB9.out
      (first | subst eo24 | (injection eo24 with f1_ f2_ f3_; have f4_ := f1_.symm; have f5_ := f3_.symm; clear f1_ f2_ f3_; subst f4_; subst f5_))
      obtain ⟨Ao26, co26, eo26⟩ := Kd.R_slice HOC0.out
      (first | subst eo26 | (injection eo26 with f1_ f2_ f3_; have f4_ := f1_.symm; have f5_ := f3_.symm; clear f1_ f2_ f3_; subst f4_; subst f5_))
      refine hK.out _ _ ⟨bce BKA2 0 _, bce BKA2 1 _, bce BKA2 2 _, ((HB.out.cell (World.block_lt_of_cell? w _ hw387_0)).trans hw387_0), ((HB.out.cell (World.block_lt_of_cell? w _ hw387_1)).trans hw387_1), ((HB.out.cell (World.block_lt_of_cell? w _ hw387_2)).trans hw387_2), ((HB.out.cell (World.block_lt_of_cell? w _ hw388_0)).trans hw388_0), ((HB.out.cell (World.block_lt_of_cell? w _ hw388_1)).trans hw388_1), ((HB.out.cell (World.block_lt_of_cell? w _ hw388_2)).trans hw388_2)⟩ (fun hHeld => ?_)
      clear hK K
      refine nm_ 24 ?_
      refine last_ (i := 11) (N := none) (bm 12 4095) rfl rfl (one_of HT_.out (by kernel_rfl)) (by decide) (fun K hK => ?_)
      have hs23 : w22.cell? ⟨gbA2, 0, none⟩ = some (.bool x387000_1) := bce BKA2 0 _
      have hfs23 := blk_frozen BKA2.out 0
      have hns23_0 := NBA3_A2.out
      have hms23_0 := NBA2_A3.out
      have hs25 : w22.cell? ⟨gbA2, 1, none⟩ = some (.slice Ao18 x387001_1.length co18) := bce BKA2 1 _
      have hfs25 := blk_frozen BKA2.out 1
      have hns25_0 := NBA3_A2.out
      have hms25_0 := NBA2_A3.out
      have hs27 : w22.cell? ⟨gbA2, 2, none⟩ = some (.slice Ao19 x387002_1.length co19) := bce BKA2 2 _
      have hfs27 := blk_frozen BKA2.out 2
      have hns27_0 := NBA3_A2.out
      have hms27_0 := NBA2_A3.out
      refine skip_ (w1 := ?_) (by rfl) rfl ?_ ?_
      rotate_left
      ·
       go_simp
       rfl
      refine hK.out _ _ ?_
      clear hK K
      refine done_ (done_of HT_.out (by kernel_rfl)) ?_
      try go_wp2
      go_roundg k1
      case measure => have := HK1.out; omega
      case rel => exact ⟨(wrap64 (x6_1 + 1)), (tA4), (tB0), (tB6), (.slice Ao24 tB0.length co24), (.slice Ao26 tB6.length co26), rs_, H', ⟨by have := HK1.out; omega⟩, ⟨(crN HOB9 BKA2 fun _ hk => hk.1.1.1.1.1)⟩, ⟨(crN HOC0 BKA2 fun _ hk => hk.1.1.1.1.1)⟩, ⟨by (with_reducible repeat (first | refine blk_drewN ?_ _ | refine blk_drew ?_ | refine blk_alloc ?_ _)); refine blk_far ?_ NBA3_A2.out _; (with_reducible repeat (first | refine blk_drewN ?_ _ | refine blk_drew ?_ | refine blk_alloc ?_ _)); refine blk_far ?_ NBA3_A2.out _; (with_reducible repeat (first | refine blk_drewN ?_ _ | refine blk_drew ?_ | refine blk_alloc ?_ _)); refine blk_far ?_ NBA3_A2.out _; (with_reducible repeat (first | refine blk_drewN ?_ _ | refine blk_drew ?_ | refine blk_alloc ?_ _)); exact BKA3.out⟩, ⟨by (with_reducible repeat (first | refine blk_drewN ?_ _ | refine blk_drew ?_ | refine blk_alloc ?_ _)); refine blk_put (cs := #[.bool tA4, .slice Ao24 tB0.length co24, .slice Ao19 x387002_1.length co19]) ?_ 2 _ rfl; (with_reducible repeat (first | refine blk_drewN ?_ _ | refine blk_drew ?_ | refine blk_alloc ?_ _)); refine blk_put (cs := #[.bool tA4, .slice Ao18 x387001_1.length co18, .slice Ao19 x387002_1.length co19]) ?_ 1 _ rfl; (with_reducible repeat (first | refine blk_drewN ?_ _ | refine blk_drew ?_ | refine blk_alloc ?_ _)); refine blk_put (cs := #[.bool x387000_1, .slice Ao18 x387001_1.length co18, .slice Ao19 x387002_1.length co19]) ?_ 0 _ rfl; (with_reducible repeat (first | refine blk_drewN ?_ _ | refine blk_drew ?_ | refine blk_alloc ?_ _)); exact BKA2.out⟩, ⟨blw HB⟩⟩
     ·
      rw [if_neg c13] at H
      exact absurd H (by simp)
    ·
     rw [if_neg c12] at H
     exact absurd H (by simp)
   ·
    rw [if_neg c11] at H
    have c11b0 : decide (x6_1 < (l0.length : Int)) = false := decide_eq_false c11
    clear c11
    simp only [Option.some.injEq, Prod.mk.injEq] at H
    obtain ⟨rfl, rfl, rfl⟩ := H
    have hnb28 := NBA2_A3.out
    have hnc28 := NBA3_A2.out
    obtain ⟨hcz29_0, hcz29_1, hcz29_2, hfz29_0, hfz29_1, hfz29_2⟩ := bc3 BKA2
    obtain ⟨hcz30_0, hcz30_1, hcz30_2, hfz30_0, hfz30_1, hfz30_2⟩ := bc3 BKA3
    obtain ⟨Ao31, co31, eo31⟩ := Kd.R_slice HO_387001.out
    subst eo31
    obtain ⟨Ao32, co32, eo32⟩ := Kd.R_slice HO_387002.out
    subst eo32
    go_wp2
    refine bodyPost_ret (results_cell_row rfl _ _ gbA3 32 #[.bool x387000_1, .slice Ao31 x387001_1.length co31, .slice Ao32 x387002_1.length co32] (0, 0) _ rfl (bp3 BKA3 _ _ _) Try.underlying32 rfl (by kernel_rfl)) rfl ?_
    exact ⟨_, _, er_, (crN HO_387001 BKA3 fun _ hk => hk.1), (crN HO_387002 BKA3 fun _ hk => hk.1), blw HB⟩

end Go.Proofs.Ytegbmillbbcmfaa.Q
