-- written by a program of this claim's session (myprint.py) out of the translation; Lean checks it.
import Derived.Test.YtegbmillbbcmfaaQx0
import Derived.Test.YtegbmillbbcmfaaSq
import Derived.Test.YtegbmillbbcmfaaQxrim
import Derived.Test.YtegbmillbbcmfaaQxrin
import Derived.Test.YtegbmillbbcmfaaQxrsq
namespace Go.Proofs.Ytegbmillbbcmfaa.Q
open Go.RowKit Go.Proofs.YtegbmillbbcmfaaW.PrintWords Go.Proofs.YtegbmillbbcmfaaW.PrintLast Go.Proofs.YtegbmillbbcmfaaW.PrintMore
attribute [local go_sem] max2_int min2_int max_two min_two max_three min_three max_four min_four   -- for this text's walks alone
set_option linter.unusedVariables false
set_option linter.unusedSimpArgs false

def impl_sameVec_1.f (k : Nat) (a0_0 : Bool) (l0_1 : List Int) (l0_2 : List Int) (a1_0 : Bool) (l1_1 : List Int) (l1_2 : List Int) : Option (Bool) := (impl_Rat_cmp.f k a0_0 l0_1 l0_2 a1_0 l1_1 l1_2).bind fun tB3 => (some (tB3 == 0))
theorem impl_sameVec_1.mono : ∀ a0 a1 a2 a3 a4 a5 k, LeO (impl_sameVec_1.f k a0 a1 a2 a3 a4 a5) (impl_sameVec_1.f (k + 1) a0 a1 a2 a3 a4 a5) := by
 intro a0 a1 a2 a3 a4 a5 k
 unfold impl_sameVec_1.f
 repeat' first
   | (with_reducible exact impl_Rat_cmp.mono _ _ _ _ _ _ _)
   | (with_reducible exact LeO.refl _)
   | (with_reducible exact LeO.none _)
   | (with_reducible refine LeO.ite ?_ ?_)
   | (with_reducible refine LeO.bind ?_ (fun _ => ?_))
   | exact impl_Rat_cmp.mono _ _ _ _ _ _ _
   | exact LeO.none _
   | refine LeO.ite ?_ ?_
   | refine LeO.bind ?_ (fun _ => ?_)
set_option maxHeartbeats 8000000 in
set_option maxRecDepth 100000 in
theorem impl_sameVec_1.calls (k : Nat) (a0_0 : Bool) (A0_1 : Option Addr) (c0_1 : Nat) (l0_1 : List Int) (A0_2 : Option Addr) (c0_2 : Nat) (l0_2 : List Int) (a1_0 : Bool) (A1_1 : Option Addr) (c1_1 : Nat) (l1_1 : List Int) (A1_2 : Option Addr) (c1_2 : Nat) (l1_2 : List Int) (r : Bool) (w : World) (hr0_1 : Kd.C (Kd.int .i64) w A0_1 l0_1.length l0_1) (hc0_1 : l0_1.length ≤ c0_1) (hr0_2 : Kd.C (Kd.int .i64) w A0_2 l0_2.length l0_2) (hc0_2 : l0_2.length ≤ c0_2) (hr1_1 : Kd.C (Kd.int .i64) w A1_1 l1_1.length l1_1) (hc1_1 : l1_1.length ≤ c1_1) (hr1_2 : Kd.C (Kd.int .i64) w A1_2 l1_2.length l1_2) (hc1_2 : l1_2.length ≤ c1_2) (h : impl_sameVec_1.f k a0_0 l0_1 l0_2 a1_0 l1_1 l1_2 = some r) :
  Calls Try.prog 49 #[.agg #[.bool a0_0, .slice A0_1 l0_1.length c0_1, .slice A0_2 l0_2.length c0_2], .agg #[.bool a1_0, .slice A1_1 l1_1.length c1_1, .slice A1_2 l1_2.length c1_2]] w fun e w' => e = .returned (.bool r) ∧ Below w.heap.size w w' := by
 have hu32 := Try.underlying32
 have HR0_1 := Aside0.mk hr0_1
 have HC0_1 := Aside0.mk hc0_1
 clear hr0_1 hc0_1
 have HR0_2 := Aside0.mk hr0_2
 have HC0_2 := Aside0.mk hc0_2
 clear hr0_2 hc0_2
 have HR1_1 := Aside0.mk hr1_1
 have HC1_1 := Aside0.mk hc1_1
 clear hr1_1 hc1_1
 have HR1_2 := Aside0.mk hr1_2
 have HC1_2 := Aside0.mk hc1_2
 clear hr1_2 hc1_2
 have HB := Aside0.mk (Below.refl w.heap.size w)
 have H : ((impl_Rat_cmp.f k a0_0 l0_1 l0_2 a1_0 l1_1 l1_2).bind fun tB3 => (some (tB3 == 0))) = some r := h
 clear h
 replace H := Option.bind_eq_some_iff.mp H
 obtain ⟨tB3, A30, H⟩ := H
 replace H : (some (tB3 == 0)) = some r := H
 have A3 := Aside0.mk A30
 clear A30
 obtain rfl := Option.some.inj H
 go_enter Try.func49, Try.ntmps49
 go_wp2_with (first | ((with_reducible refine gate_dst (N := 2) rfl ?_); refine bx_ (N := 2) (cs := #[.bool a0_0, .slice A0_1 l0_1.length c0_1, .slice A0_2 l0_2.length c0_2]) (t := 32) ?_; intro gbA6 hg w4 hbox hb; have BKA6 := Aside0.mk (hbox); have GWA6 := geh hg HB; have GEA6 := geh hg HB; replace HB := bst HB hb; clear hb hbox hg) | ((with_reducible refine gate_dst (N := 3) rfl ?_); refine bx_ (N := 3) (cs := #[.bool a1_0, .slice A1_1 l1_1.length c1_1, .slice A1_2 l1_2.length c1_2]) (t := 32) ?_; intro gbA9 hg w5 hbox hb; have BKA9 := Aside0.mk (hbox); have GWA9 := geh hg HB; have GEA9 := geh hg HB; replace HB := bst HB hb; have NBA6_A9 := nlt hg BKA6; have NBA9_A6 := ngt hg BKA6; replace BKA6 := bkb BKA6 hb; clear hb hbox hg; have hnb6 := NBA6_A9.out; have hnc6 := NBA9_A6.out; obtain ⟨hcz7_0, hcz7_1, hcz7_2, hfz7_0, hfz7_1, hfz7_2⟩ := bc3 BKA6; obtain ⟨hcz8_0, hcz8_1, hcz8_2, hfz8_0, hfz8_1, hfz8_2⟩ := bc3 BKA9) | ((with_reducible refine gate_callee (f := 50) rfl ?_); refine gL_ (some 7) Try.func50 #[.agg #[.bool a0_0, .slice A0_1 l0_1.length c0_1, .slice A0_2 l0_2.length c0_2], .agg #[.bool a1_0, .slice A1_1 l1_1.length c1_1, .slice A1_2 l1_2.length c1_2]] ?_; (with_reducible refine (impl_Rat_cmp.calls k a0_0 _ _ l0_1 _ _ l0_2 a1_0 _ _ l1_1 _ _ l1_2 tB3 _ ?side1 ?side2 ?side3 ?side4 ?side5 ?side6 ?side7 ?side8 A3.out).mono ?_); (case side1 => exact crC (Kd.C_below HR0_1.out HB.out)); (case side2 => exact HC0_1.out); (case side3 => exact crC (Kd.C_below HR0_2.out HB.out)); (case side4 => exact HC0_2.out); (case side5 => exact crC (Kd.C_below HR1_1.out HB.out)); (case side6 => exact HC1_1.out); (case side7 => exact crC (Kd.C_below HR1_2.out HB.out)); (case side8 => exact HC1_2.out); rintro e w9 ⟨rfl, hb⟩; refine ⟨_, rfl, ?_⟩; replace BKA6 := bkb BKA6 hb; replace BKA9 := bkb BKA9 hb; replace HB := bst HB hb; (try clear hb); (try clear hb2); (try clear hk); (try clear hi)))
 go_ret
 exact ⟨er_, blw HB⟩

def spec_l03Same.l0 : Nat → List (S32) → List (S32) → Int → Option (Bool)
 | 0, _, _, _ => none
 | k + 1, x0, x1, x5 => if x5 < (x0.length : Int) then (if 0 ≤ x5 then (if x5 < (x1.length : Int) then ((spec_l02Cmp.f k ((rd_T32 x0 x5).f0) ((rd_T32 x0 x5).f1) ((rd_T32 x0 x5).f2) ((rd_T32 x1 x5).f0) ((rd_T32 x1 x5).f1) ((rd_T32 x1 x5).f2)).bind fun tB0 => (if tB0 = 0 then (spec_l03Same.l0 k x0 x1 (wrap64 (x5 + 1))) else (some false))) else (none)) else (none)) else (some true)
def spec_l03Same.f (k : Nat) (l0 : List (S32)) (l1 : List (S32)) : Option (Bool) := if (l0.length : Int) = (l1.length : Int) then (spec_l03Same.l0 k l0 l1 0) else (some false)
theorem spec_l03Same.mono_l : ∀ k, (∀ y0 y1 y2, LeO (spec_l03Same.l0 k y0 y1 y2) (spec_l03Same.l0 (k + 1) y0 y1 y2))
 | 0 => fun _ _ _ r h => by simp [spec_l03Same.l0] at h
 | k + 1 => by
  have ih0 := spec_l03Same.mono_l k
  ·
   intro y0 y1 y2
   unfold spec_l03Same.l0
   repeat' first
   | (with_reducible exact ih0 _ _ _)
   | (with_reducible exact spec_l02Cmp.mono _ _ _ _ _ _ _)
   | (with_reducible exact LeO.refl _)
   | (with_reducible exact LeO.none _)
   | (with_reducible refine LeO.ite ?_ ?_)
   | (with_reducible refine LeO.bind ?_ (fun _ => ?_))
   | exact ih0 _ _ _
   | exact spec_l02Cmp.mono _ _ _ _ _ _ _
   | exact LeO.none _
   | refine LeO.ite ?_ ?_
   | refine LeO.bind ?_ (fun _ => ?_)
theorem spec_l03Same.mono : ∀ a0 a1 k, LeO (spec_l03Same.f k a0 a1) (spec_l03Same.f (k + 1) a0 a1) := by
 intro a0 a1 k
 have ih0 := spec_l03Same.mono_l k
 unfold spec_l03Same.f
 repeat' first
   | (with_reducible exact ih0 _ _ _)
   | (with_reducible exact spec_l02Cmp.mono _ _ _ _ _ _ _)
   | (with_reducible exact LeO.refl _)
   | (with_reducible exact LeO.none _)
   | (with_reducible refine LeO.ite ?_ ?_)
   | (with_reducible refine LeO.bind ?_ (fun _ => ?_))
   | exact ih0 _ _ _
   | exact spec_l02Cmp.mono _ _ _ _ _ _ _
   | exact LeO.none _
   | refine LeO.ite ?_ ?_
   | refine LeO.bind ?_ (fun _ => ?_)
def spec_l03Same.T6 : Bool × List (List Nat × List Nat) := (true, [([], []), ([], []), ([0, 1], [0, 1]), ([2], [2]), ([], []), ([], []), ([4, 5], [4, 5]), ([6], [6]), ([3, 7], [3, 7]), ([8], [8])])
def spec_l03Same.B6 : List Nat := [0, 0, 3, 7, 0, 0, 48, 112, 255, 511]
theorem spec_l03Same.tab6 : rtab .any (opsOf Try.f27 6) = spec_l03Same.T6 := by kernel_rfl
theorem spec_l03Same.bits6 : waitsOk spec_l03Same.T6.2 spec_l03Same.B6 = true := by kernel_rfl
set_option maxHeartbeats 8000000 in
set_option maxRecDepth 100000 in
theorem spec_l03Same.calls (k : Nat) (A0 : Option Addr) (c0 : Nat) (l0 : List (S32)) (A1 : Option Addr) (c1 : Nat) (l1 : List (S32)) (r : Bool) (w : World) (hr0 : Kd.C k32 w A0 l0.length l0) (hc0 : l0.length ≤ c0) (hr1 : Kd.C k32 w A1 l1.length l1) (hc1 : l1.length ≤ c1) (h : spec_l03Same.f k l0 l1 = some r) :
  Calls Try.prog 27 #[.slice A0 l0.length c0, .slice A1 l1.length c1] w fun e w' => e = .returned (.bool r) ∧ Below w.heap.size w w' := by
 have hu32 := Try.underlying32
 have HR0 := Aside0.mk hr0
 have HC0 := Aside0.mk hc0
 clear hr0 hc0
 have HR1 := Aside0.mk hr1
 have HC1 := Aside0.mk hc1
 clear hr1 hc1
 have HB := Aside0.mk (Below.refl w.heap.size w)
 have H : (if (l0.length : Int) = (l1.length : Int) then (spec_l03Same.l0 k l0 l1 0) else (some false)) = some r := h
 clear h
 by_cases c3 : (l0.length : Int) = (l1.length : Int)
 ·
  rw [if_pos c3] at H
  have c3b0 : ((l0.length : Int) == (l1.length : Int)) = true := beq_iff_eq.mpr c3
  have c3b1 : ((l0.length : Int) != (l1.length : Int)) = false := bne_eq_false_iff_eq.mpr c3
  have c3b2 : (l0.length == l1.length) = true := by first | simpa using c3 | (simp at c3 ⊢; omega)
  clear c3
  have H' := Aside0.mk H
  clear H
  go_enter Try.func27, Try.ntmps27
  go_wp2
  go_loopg [5] k (fun kq v5 w' => ∃ (x5_1 : Int), v5 = .int .i64 x5_1 ∧ Aside0 (spec_l03Same.l0 kq l0 l1 x5_1 = some r) ∧ Aside0 (kq ≤ k) ∧ Aside0 (Below w.heap.size w w'))
  case atStart => exact ⟨(0), rs_, H', ⟨Nat.le_refl _⟩, ⟨blw HB⟩⟩
  case round =>
   clear H'
   try clear c1
   try clear c2
   try clear p2
   try clear c3
   try clear c3b0
   try clear c3b1
   try clear c3b2
   obtain ⟨x5_1, rfl, HA, HK1, HB⟩ := hrel
   cases gk with
   | zero => exact absurd HA.out (by simp [spec_l03Same.l0])
   | succ k1 =>
    have H := HA.out
    clear HA
    simp only [spec_l03Same.l0] at H
    by_cases c4 : x5_1 < (l0.length : Int)
    ·
     rw [if_pos c4] at H
     have c4b0 : decide (x5_1 < (l0.length : Int)) = true := decide_eq_true c4
     clear c4
     by_cases c5 : 0 ≤ x5_1
     ·
      rw [if_pos c5] at H
      have c5b0 : decide (0 ≤ x5_1) = true := decide_eq_true c5
      clear c5
      by_cases c6 : x5_1 < (l1.length : Int)
      ·
       rw [if_pos c6] at H
       have c6b0 : decide (x5_1 < (l1.length : Int)) = true := decide_eq_true c6
       clear c6
       replace H := Option.bind_eq_some_iff.mp H
       obtain ⟨tB0, A70, H⟩ := H
       replace H : (if tB0 = 0 then (spec_l03Same.l0 k1 l0 l1 (wrap64 (x5_1 + 1))) else (some false)) = some r := H
       have A7 := Aside0.mk A70
       clear A70
       by_cases c8 : tB0 = 0
       ·
        rw [if_pos c8] at H
        have c8b0 : (tB0 == 0) = true := beq_iff_eq.mpr c8
        have c8b1 : (tB0 != 0) = false := bne_eq_false_iff_eq.mpr c8
        clear c8
        have H' := Aside0.mk H
        clear H
        try go_wp2
        replace HB := Aside0.mk (below_drew1 HB.out)
        have pA2 : 0 ≤ (x5_1 : Int) := of_decide_eq_true (by first | (with_reducible assumption) | assumption)
        have qA2 : x5_1 < (l0.length : Int) := of_decide_eq_true (by first | (with_reducible assumption) | assumption)
        obtain ⟨adA2, AA2_1, cA2_1, AA2_2, cA2_2, eA2, hxA2_0, hxA2_1, hxA2_2, hlA2_1, hiA2_1, hlA2_2, hiA2_2⟩ := at_T32 HR0.out x5_1 pA2 qA2
        have hw382_2 := hxA2_2
        have hw382_1 := hxA2_1
        have hw382_0 := hxA2_0
        cases eA2
        replace hxA2_0 := (HB.out.cell (World.block_lt_of_cell? w _ hxA2_0)).trans hxA2_0
        replace hxA2_1 := (HB.out.cell (World.block_lt_of_cell? w _ hxA2_1)).trans hxA2_1
        replace hxA2_2 := (HB.out.cell (World.block_lt_of_cell? w _ hxA2_2)).trans hxA2_2
        have HRA2_1 := Aside0.mk hiA2_1
        have HCA2_1 := Aside0.mk hlA2_1
        clear hiA2_1 hlA2_1
        have HRA2_2 := Aside0.mk hiA2_2
        have HCA2_2 := Aside0.mk hlA2_2
        clear hiA2_2 hlA2_2
        replace pA2 := eq_true pA2
        replace qA2 := eq_true qA2
        have pA3 : 0 ≤ (x5_1 : Int) := of_decide_eq_true (by first | (with_reducible assumption) | assumption)
        have qA3 : x5_1 < (l1.length : Int) := of_decide_eq_true (by first | (with_reducible assumption) | assumption)
        obtain ⟨adA3, AA3_1, cA3_1, AA3_2, cA3_2, eA3, hxA3_0, hxA3_1, hxA3_2, hlA3_1, hiA3_1, hlA3_2, hiA3_2⟩ := at_T32 HR1.out x5_1 pA3 qA3
        have hw383_2 := hxA3_2
        have hw383_1 := hxA3_1
        have hw383_0 := hxA3_0
        cases eA3
        replace hxA3_0 := (HB.out.cell (World.block_lt_of_cell? w _ hxA3_0)).trans hxA3_0
        replace hxA3_1 := (HB.out.cell (World.block_lt_of_cell? w _ hxA3_1)).trans hxA3_1
        replace hxA3_2 := (HB.out.cell (World.block_lt_of_cell? w _ hxA3_2)).trans hxA3_2
        have HRA3_1 := Aside0.mk hiA3_1
        have HCA3_1 := Aside0.mk hlA3_1
        clear hiA3_1 hlA3_1
        have HRA3_2 := Aside0.mk hiA3_2
        have HCA3_2 := Aside0.mk hlA3_2
        clear hiA3_2 hlA3_2
        replace pA3 := eq_true pA3
        replace qA3 := eq_true qA3
        refine start_ (n := 10) (S := fun w' => w'.cell? (adA2.add ((x5_1).toNat * 3)) = some (.bool ((rd_T32 l0 x5_1).f0)) ∧ w'.cell? ⟨(adA2.add ((x5_1).toNat * 3)).block, (adA2.add ((x5_1).toNat * 3)).off + 1, none⟩ = some (.slice AA2_1 ((rd_T32 l0 x5_1).f1).length cA2_1) ∧ w'.cell? ⟨(adA2.add ((x5_1).toNat * 3)).block, (adA2.add ((x5_1).toNat * 3)).off + 2, none⟩ = some (.slice AA2_2 ((rd_T32 l0 x5_1).f2).length cA2_2) ∧ w'.cell? (adA3.add ((x5_1).toNat * 3)) = some (.bool ((rd_T32 l1 x5_1).f0)) ∧ w'.cell? ⟨(adA3.add ((x5_1).toNat * 3)).block, (adA3.add ((x5_1).toNat * 3)).off + 1, none⟩ = some (.slice AA3_1 ((rd_T32 l1 x5_1).f1).length cA3_1) ∧ w'.cell? ⟨(adA3.add ((x5_1).toNat * 3)).block, (adA3.add ((x5_1).toNat * 3)).off + 2, none⟩ = some (.slice AA3_2 ((rd_T32 l1 x5_1).f2).length cA3_2)) (ds := []) (bm 10 0) (by kernel_rfl) rfl rfl ⟨((HB.out.cell (World.block_lt_of_cell? w _ hw382_0)).trans hw382_0), ((HB.out.cell (World.block_lt_of_cell? w _ hw382_1)).trans hw382_1), ((HB.out.cell (World.block_lt_of_cell? w _ hw382_2)).trans hw382_2), ((HB.out.cell (World.block_lt_of_cell? w _ hw383_0)).trans hw383_0), ((HB.out.cell (World.block_lt_of_cell? w _ hw383_1)).trans hw383_1), ((HB.out.cell (World.block_lt_of_cell? w _ hw383_2)).trans hw383_2)⟩ (fun hHeld => ?_); refine with_tabW spec_l03Same.tab6 spec_l03Same.bits6 (fun HT_ HW_ => ?_)
        generalize wr.drew = w9 at HB HRA2_1 HRA2_2 HRA3_1 HRA3_2 hxA2_0 hxA2_1 hxA2_2 hxA3_0 hxA3_1 hxA3_2 hHeld ⊢
        refine pu_ 0 (some 17) (bm 10 1) HT_.out ?_
        refine pu_ 1 (some 18) (bm 10 3) HT_.out ?_
        refine pu_ 2 (some 19) (bm 10 7) HT_.out ?_
        refine pu_ 4 (some 21) (bm 10 23) HT_.out ?_
        refine pu_ 5 (some 22) (bm 10 55) HT_.out ?_
        refine pu_ 6 (some 23) (bm 10 119) HT_.out ?_
        refine tk_ 3 (some 20) (bm 10 127) HT_.out HW_.out hHeld ?_
        refine tk_ 7 (some 24) (bm 10 255) HT_.out HW_.out hHeld ?_
        refine one_ (i := 8) (N := some 25) (bm 10 511) rfl rfl (one_of HT_.out (by kernel_rfl)) (by decide) (fun K hK => ?_)
        refine g_ Try.func47 #[.agg #[.bool ((rd_T32 l0 x5_1).f0), .slice AA2_1 ((rd_T32 l0 x5_1).f1).length cA2_1, .slice AA2_2 ((rd_T32 l0 x5_1).f2).length cA2_2], .agg #[.bool ((rd_T32 l1 x5_1).f0), .slice AA3_1 ((rd_T32 l1 x5_1).f1).length cA3_1, .slice AA3_2 ((rd_T32 l1 x5_1).f2).length cA3_2]] ?_
        with_reducible refine (spec_l02Cmp.calls k1 ((rd_T32 l0 x5_1).f0) _ _ ((rd_T32 l0 x5_1).f1) _ _ ((rd_T32 l0 x5_1).f2) ((rd_T32 l1 x5_1).f0) _ _ ((rd_T32 l1 x5_1).f1) _ _ ((rd_T32 l1 x5_1).f2) tB0 _ ?side1 ?side2 ?side3 ?side4 ?side5 ?side6 ?side7 ?side8 A7.out).mono ?_
        (case side1 => exact crC (Kd.C_below HRA2_1.out HB.out))
        (case side2 => exact HCA2_1.out)
        (case side3 => exact crC (Kd.C_below HRA2_2.out HB.out))
        (case side4 => exact HCA2_2.out)
        (case side5 => exact crC (Kd.C_below HRA3_1.out HB.out))
        (case side6 => exact HCA3_1.out)
        (case side7 => exact crC (Kd.C_below HRA3_2.out HB.out))
        (case side8 => exact HCA3_2.out)
        rintro e w10 ⟨rfl, hb⟩
        refine ⟨_, rfl, ?_⟩
        replace HB := bst HB hb
        (try clear hb)
        (try clear hb2)
        (try clear hk)
        (try clear hi)
        refine hK.out _ _ ⟨((HB.out.cell (World.block_lt_of_cell? w _ hw382_0)).trans hw382_0), ((HB.out.cell (World.block_lt_of_cell? w _ hw382_1)).trans hw382_1), ((HB.out.cell (World.block_lt_of_cell? w _ hw382_2)).trans hw382_2), ((HB.out.cell (World.block_lt_of_cell? w _ hw383_0)).trans hw383_0), ((HB.out.cell (World.block_lt_of_cell? w _ hw383_1)).trans hw383_1), ((HB.out.cell (World.block_lt_of_cell? w _ hw383_2)).trans hw383_2)⟩ (fun hHeld => ?_)
        clear hK K
        refine nm_ 25 ?_
        refine pu_ 9 (some 26) (bm 10 1023) HT_.out ?_
        refine done_ (done_of HT_.out (by kernel_rfl)) ?_
        try go_wp2
        go_roundg k1
        case measure => have := HK1.out; omega
        case rel => exact ⟨(wrap64 (x5_1 + 1)), rs_, H', ⟨by have := HK1.out; omega⟩, ⟨blw HB⟩⟩
       ·
        rw [if_neg c8] at H
        have c8b0 : (tB0 == 0) = false := beq_eq_false_iff_ne.mpr c8
        have c8b1 : (tB0 != 0) = true := bne_iff_ne.mpr c8
        obtain rfl := Option.some.inj H
        try go_wp2
        replace HB := Aside0.mk (below_drew1 HB.out)
        have pA2 : 0 ≤ (x5_1 : Int) := of_decide_eq_true (by first | (with_reducible assumption) | assumption)
        have qA2 : x5_1 < (l0.length : Int) := of_decide_eq_true (by first | (with_reducible assumption) | assumption)
        obtain ⟨adA2, AA2_1, cA2_1, AA2_2, cA2_2, eA2, hxA2_0, hxA2_1, hxA2_2, hlA2_1, hiA2_1, hlA2_2, hiA2_2⟩ := at_T32 HR0.out x5_1 pA2 qA2
        have hw382_2 := hxA2_2
        have hw382_1 := hxA2_1
        have hw382_0 := hxA2_0
        cases eA2
        replace hxA2_0 := (HB.out.cell (World.block_lt_of_cell? w _ hxA2_0)).trans hxA2_0
        replace hxA2_1 := (HB.out.cell (World.block_lt_of_cell? w _ hxA2_1)).trans hxA2_1
        replace hxA2_2 := (HB.out.cell (World.block_lt_of_cell? w _ hxA2_2)).trans hxA2_2
        have HRA2_1 := Aside0.mk hiA2_1
        have HCA2_1 := Aside0.mk hlA2_1
        clear hiA2_1 hlA2_1
        have HRA2_2 := Aside0.mk hiA2_2
        have HCA2_2 := Aside0.mk hlA2_2
        clear hiA2_2 hlA2_2
        replace pA2 := eq_true pA2
        replace qA2 := eq_true qA2
        have pA3 : 0 ≤ (x5_1 : Int) := of_decide_eq_true (by first | (with_reducible assumption) | assumption)
        have qA3 : x5_1 < (l1.length : Int) := of_decide_eq_true (by first | (with_reducible assumption) | assumption)
        obtain ⟨adA3, AA3_1, cA3_1, AA3_2, cA3_2, eA3, hxA3_0, hxA3_1, hxA3_2, hlA3_1, hiA3_1, hlA3_2, hiA3_2⟩ := at_T32 HR1.out x5_1 pA3 qA3
        have hw383_2 := hxA3_2
        have hw383_1 := hxA3_1
        have hw383_0 := hxA3_0
        cases eA3
        replace hxA3_0 := (HB.out.cell (World.block_lt_of_cell? w _ hxA3_0)).trans hxA3_0
        replace hxA3_1 := (HB.out.cell (World.block_lt_of_cell? w _ hxA3_1)).trans hxA3_1
        replace hxA3_2 := (HB.out.cell (World.block_lt_of_cell? w _ hxA3_2)).trans hxA3_2
        have HRA3_1 := Aside0.mk hiA3_1
        have HCA3_1 := Aside0.mk hlA3_1
        clear hiA3_1 hlA3_1
        have HRA3_2 := Aside0.mk hiA3_2
        have HCA3_2 := Aside0.mk hlA3_2
        clear hiA3_2 hlA3_2
        replace pA3 := eq_true pA3
        replace qA3 := eq_true qA3
        refine start_ (n := 10) (S := fun w' => w'.cell? (adA2.add ((x5_1).toNat * 3)) = some (.bool ((rd_T32 l0 x5_1).f0)) ∧ w'.cell? ⟨(adA2.add ((x5_1).toNat * 3)).block, (adA2.add ((x5_1).toNat * 3)).off + 1, none⟩ = some (.slice AA2_1 ((rd_T32 l0 x5_1).f1).length cA2_1) ∧ w'.cell? ⟨(adA2.add ((x5_1).toNat * 3)).block, (adA2.add ((x5_1).toNat * 3)).off + 2, none⟩ = some (.slice AA2_2 ((rd_T32 l0 x5_1).f2).length cA2_2) ∧ w'.cell? (adA3.add ((x5_1).toNat * 3)) = some (.bool ((rd_T32 l1 x5_1).f0)) ∧ w'.cell? ⟨(adA3.add ((x5_1).toNat * 3)).block, (adA3.add ((x5_1).toNat * 3)).off + 1, none⟩ = some (.slice AA3_1 ((rd_T32 l1 x5_1).f1).length cA3_1) ∧ w'.cell? ⟨(adA3.add ((x5_1).toNat * 3)).block, (adA3.add ((x5_1).toNat * 3)).off + 2, none⟩ = some (.slice AA3_2 ((rd_T32 l1 x5_1).f2).length cA3_2)) (ds := []) (bm 10 0) (by kernel_rfl) rfl rfl ⟨((HB.out.cell (World.block_lt_of_cell? w _ hw382_0)).trans hw382_0), ((HB.out.cell (World.block_lt_of_cell? w _ hw382_1)).trans hw382_1), ((HB.out.cell (World.block_lt_of_cell? w _ hw382_2)).trans hw382_2), ((HB.out.cell (World.block_lt_of_cell? w _ hw383_0)).trans hw383_0), ((HB.out.cell (World.block_lt_of_cell? w _ hw383_1)).trans hw383_1), ((HB.out.cell (World.block_lt_of_cell? w _ hw383_2)).trans hw383_2)⟩ (fun hHeld => ?_); refine with_tabW spec_l03Same.tab6 spec_l03Same.bits6 (fun HT_ HW_ => ?_)
        generalize wr.drew = w11 at HB HRA2_1 HRA2_2 HRA3_1 HRA3_2 hxA2_0 hxA2_1 hxA2_2 hxA3_0 hxA3_1 hxA3_2 hHeld ⊢
        refine pu_ 0 (some 17) (bm 10 1) HT_.out ?_
        refine pu_ 1 (some 18) (bm 10 3) HT_.out ?_
        refine pu_ 2 (some 19) (bm 10 7) HT_.out ?_
        refine pu_ 4 (some 21) (bm 10 23) HT_.out ?_
        refine pu_ 5 (some 22) (bm 10 55) HT_.out ?_
        refine pu_ 6 (some 23) (bm 10 119) HT_.out ?_
        refine tk_ 3 (some 20) (bm 10 127) HT_.out HW_.out hHeld ?_
        refine tk_ 7 (some 24) (bm 10 255) HT_.out HW_.out hHeld ?_
        refine one_ (i := 8) (N := some 25) (bm 10 511) rfl rfl (one_of HT_.out (by kernel_rfl)) (by decide) (fun K hK => ?_)
        refine g_ Try.func47 #[.agg #[.bool ((rd_T32 l0 x5_1).f0), .slice AA2_1 ((rd_T32 l0 x5_1).f1).length cA2_1, .slice AA2_2 ((rd_T32 l0 x5_1).f2).length cA2_2], .agg #[.bool ((rd_T32 l1 x5_1).f0), .slice AA3_1 ((rd_T32 l1 x5_1).f1).length cA3_1, .slice AA3_2 ((rd_T32 l1 x5_1).f2).length cA3_2]] ?_
        with_reducible refine (spec_l02Cmp.calls k1 ((rd_T32 l0 x5_1).f0) _ _ ((rd_T32 l0 x5_1).f1) _ _ ((rd_T32 l0 x5_1).f2) ((rd_T32 l1 x5_1).f0) _ _ ((rd_T32 l1 x5_1).f1) _ _ ((rd_T32 l1 x5_1).f2) tB0 _ ?side1 ?side2 ?side3 ?side4 ?side5 ?side6 ?side7 ?side8 A7.out).mono ?_
        (case side1 => exact crC (Kd.C_below HRA2_1.out HB.out))
        (case side2 => exact HCA2_1.out)
        (case side3 => exact crC (Kd.C_below HRA2_2.out HB.out))
        (case side4 => exact HCA2_2.out)
        (case side5 => exact crC (Kd.C_below HRA3_1.out HB.out))
        (case side6 => exact HCA3_1.out)
        (case side7 => exact crC (Kd.C_below HRA3_2.out HB.out))
        (case side8 => exact HCA3_2.out)
        rintro e w12 ⟨rfl, hb⟩
        refine ⟨_, rfl, ?_⟩
        replace HB := bst HB hb
        (try clear hb)
        (try clear hb2)
        (try clear hk)
        (try clear hi)
        refine hK.out _ _ ⟨((HB.out.cell (World.block_lt_of_cell? w _ hw382_0)).trans hw382_0), ((HB.out.cell (World.block_lt_of_cell? w _ hw382_1)).trans hw382_1), ((HB.out.cell (World.block_lt_of_cell? w _ hw382_2)).trans hw382_2), ((HB.out.cell (World.block_lt_of_cell? w _ hw383_0)).trans hw383_0), ((HB.out.cell (World.block_lt_of_cell? w _ hw383_1)).trans hw383_1), ((HB.out.cell (World.block_lt_of_cell? w _ hw383_2)).trans hw383_2)⟩ (fun hHeld => ?_)
        clear hK K
        refine nm_ 25 ?_
        refine pu_ 9 (some 26) (bm 10 1023) HT_.out ?_
        refine done_ (done_of HT_.out (by kernel_rfl)) ?_
        try go_wp2
        go_ret
        exact ⟨er_, blw HB⟩
      ·
       rw [if_neg c6] at H
       exact absurd H (by simp)
     ·
      rw [if_neg c5] at H
      exact absurd H (by simp)
    ·
     rw [if_neg c4] at H
     have c4b0 : decide (x5_1 < (l0.length : Int)) = false := decide_eq_false c4
     clear c4
     obtain rfl := Option.some.inj H
     go_wp2
     go_ret
     exact ⟨er_, blw HB⟩
 ·
  rw [if_neg c3] at H
  have c3b0 : ((l0.length : Int) == (l1.length : Int)) = false := beq_eq_false_iff_ne.mpr c3
  have c3b1 : ((l0.length : Int) != (l1.length : Int)) = true := bne_iff_ne.mpr c3
  have c3b2 : (l0.length == l1.length) = false := by first | simpa using c3 | (simp at c3 ⊢; omega)
  obtain rfl := Option.some.inj H
  go_enter Try.func27, Try.ntmps27
  go_wp2
  go_ret
  exact ⟨er_, blw HB⟩

def spec_SameVec.j0 : Nat → List (S32) → List (S32) → Bool → Option (Bool)
 | 0, _, _, _ => none
 | k + 1, x0, x1, x12 => if x12 = true then (some false) else ((spec_VecOK.f k x0).bind fun tB4 => (if tB4 = true then ((spec_VecOK.f k x1).bind fun tB1 => (if tB1 = true then ((spec_l03Same.f k x0 x1).bind fun tA7 => (some tA7)) else (some false))) else (some false)))
def spec_SameVec.f (k : Nat) (l0 : List (S32)) (l1 : List (S32)) : Option (Bool) := if (l0.length : Int) > 4096 then (spec_SameVec.j0 k l0 l1 true) else (spec_SameVec.j0 k l0 l1 (decide ((l1.length : Int) > 4096)))
theorem spec_SameVec.mono_l : ∀ k, (∀ y0 y1 y2, LeO (spec_SameVec.j0 k y0 y1 y2) (spec_SameVec.j0 (k + 1) y0 y1 y2))
 | 0 => fun _ _ _ r h => by simp [spec_SameVec.j0] at h
 | k + 1 => by
  have ih0 := spec_SameVec.mono_l k
  ·
   intro y0 y1 y2
   unfold spec_SameVec.j0
   repeat' first
   | (with_reducible exact ih0 _ _ _)
   | (with_reducible exact spec_VecOK.mono _ _)
   | (with_reducible exact spec_l03Same.mono _ _ _)
   | (with_reducible exact LeO.refl _)
   | (with_reducible exact LeO.none _)
   | (with_reducible refine LeO.ite ?_ ?_)
   | (with_reducible refine LeO.bind ?_ (fun _ => ?_))
   | exact ih0 _ _ _
   | exact spec_VecOK.mono _ _
   | exact spec_l03Same.mono _ _ _
   | exact LeO.none _
   | refine LeO.ite ?_ ?_
   | refine LeO.bind ?_ (fun _ => ?_)
theorem spec_SameVec.mono : ∀ a0 a1 k, LeO (spec_SameVec.f k a0 a1) (spec_SameVec.f (k + 1) a0 a1) := by
 intro a0 a1 k
 have ih0 := spec_SameVec.mono_l k
 unfold spec_SameVec.f
 repeat' first
   | (with_reducible exact ih0 _ _ _)
   | (with_reducible exact spec_VecOK.mono _ _)
   | (with_reducible exact spec_l03Same.mono _ _ _)
   | (with_reducible exact LeO.refl _)
   | (with_reducible exact LeO.none _)
   | (with_reducible refine LeO.ite ?_ ?_)
   | (with_reducible refine LeO.bind ?_ (fun _ => ?_))
   | exact ih0 _ _ _
   | exact spec_VecOK.mono _ _
   | exact spec_l03Same.mono _ _ _
   | exact LeO.none _
   | refine LeO.ite ?_ ?_
   | refine LeO.bind ?_ (fun _ => ?_)
set_option maxHeartbeats 8000000 in
set_option maxRecDepth 100000 in
theorem spec_SameVec.calls (k : Nat) (A0 : Option Addr) (c0 : Nat) (l0 : List (S32)) (A1 : Option Addr) (c1 : Nat) (l1 : List (S32)) (r : Bool) (w : World) (hr0 : Kd.C k32 w A0 l0.length l0) (hc0 : l0.length ≤ c0) (hr1 : Kd.C k32 w A1 l1.length l1) (hc1 : l1.length ≤ c1) (h : spec_SameVec.f k l0 l1 = some r) :
  Calls Try.prog 12 #[.slice A0 l0.length c0, .slice A1 l1.length c1] w fun e w' => e = .returned (.bool r) ∧ Below w.heap.size w w' := by
 have HR0 := Aside0.mk hr0
 have HC0 := Aside0.mk hc0
 clear hr0 hc0
 have HR1 := Aside0.mk hr1
 have HC1 := Aside0.mk hc1
 clear hr1 hc1
 have HB := Aside0.mk (Below.refl w.heap.size w)
 have H : (if (l0.length : Int) > 4096 then (spec_SameVec.j0 k l0 l1 true) else (spec_SameVec.j0 k l0 l1 (decide ((l1.length : Int) > 4096)))) = some r := h
 clear h
 have HC3 := Aside0.mk H
 clear H
 go_enter Try.func12, Try.ntmps12
 go_upto_region 1 with (fail)
 go_cut [12] (fun v12 wc => ∃ (kq : Nat) (x12_2 : Bool), v12 = .bool x12_2 ∧ Aside0 (spec_SameVec.j0 kq l0 l1 x12_2 = some r) ∧ Aside0 (kq ≤ k) ∧ Aside0 (Below w.heap.size w wc))
 case first =>
  have H := HC3.out
  clear HC3
  by_cases c4 : (l0.length : Int) > 4096
  ·
   rw [if_pos c4] at H
   have c4b0 : decide (4096 < (l0.length : Int)) = true := decide_eq_true c4
   have c4b1 : decide (4096 < l0.length) = true := decide_eq_true (by omega)
   clear c4
   (first | rw [c4b0] | (simp only [i64_w, i32_w]; rw [c4b0]) | skip)
   have H' := Aside0.mk H
   clear H
   go_wp2
   go_meet
   case rel => exact ⟨_, (true), rs_, H', ⟨by first | omega | exact Nat.le_refl _⟩, ⟨blw HB⟩⟩
  ·
   rw [if_neg c4] at H
   have c4b0 : decide (4096 < (l0.length : Int)) = false := decide_eq_false c4
   have c4b1 : decide (4096 < l0.length) = false := decide_eq_false (by omega)
   clear c4
   (first | rw [c4b0] | (simp only [i64_w, i32_w]; rw [c4b0]) | skip)
   have H' := Aside0.mk H
   clear H
   go_wp2
   go_meet
   case rel => exact ⟨_, (decide ((l1.length : Int) > 4096)), rs_, H', ⟨by first | omega | exact Nat.le_refl _⟩, ⟨blw HB⟩⟩
 case rest =>
  clear HC3
  try clear c1
  try clear p2
  try clear c4
  try clear c4b0
  try clear c4b1
  obtain ⟨kq, x12_2, rfl, HA, HJ2, HB⟩ := hcut
  cases kq with
  | zero => exact absurd HA.out (by simp [spec_SameVec.j0])
  | succ kj2 =>
   have H := HA.out
   clear HA
   simp only [spec_SameVec.j0] at H
   by_cases c5 : x12_2 = true
   ·
    subst c5
    have H1 : (some false) = some r := by rw [if_pos rfl] at H; exact H
    clear H
    have H := H1
    clear H1
    obtain rfl := Option.some.inj H
    go_wp2
    go_ret
    exact ⟨er_, blw HB⟩
   ·
    replace c5 := Bool.eq_false_iff.mpr c5
    subst c5
    have H1 : ((spec_VecOK.f kj2 l0).bind fun tB4 => (if tB4 = true then ((spec_VecOK.f kj2 l1).bind fun tB1 => (if tB1 = true then ((spec_l03Same.f kj2 l0 l1).bind fun tA7 => (some tA7)) else (some false))) else (some false))) = some r := by rw [if_neg (show ¬ (false = true) by decide)] at H; exact H
    clear H
    have H := H1
    clear H1
    replace H := Option.bind_eq_some_iff.mp H
    obtain ⟨tB4, A60, H⟩ := H
    replace H : (if tB4 = true then ((spec_VecOK.f kj2 l1).bind fun tB1 => (if tB1 = true then ((spec_l03Same.f kj2 l0 l1).bind fun tA7 => (some tA7)) else (some false))) else (some false)) = some r := H
    have A6 := Aside0.mk A60
    clear A60
    by_cases c7 : tB4 = true
    ·
     subst c7
     have H1 : ((spec_VecOK.f kj2 l1).bind fun tB1 => (if tB1 = true then ((spec_l03Same.f kj2 l0 l1).bind fun tA7 => (some tA7)) else (some false))) = some r := by rw [if_pos rfl] at H; exact H
     clear H
     have H := H1
     clear H1
     replace H := Option.bind_eq_some_iff.mp H
     obtain ⟨tB1, A80, H⟩ := H
     replace H : (if tB1 = true then ((spec_l03Same.f kj2 l0 l1).bind fun tA7 => (some tA7)) else (some false)) = some r := H
     have A8 := Aside0.mk A80
     clear A80
     by_cases c9 : tB1 = true
     ·
      subst c9
      have H1 : ((spec_l03Same.f kj2 l0 l1).bind fun tA7 => (some tA7)) = some r := by rw [if_pos rfl] at H; exact H
      clear H
      have H := H1
      clear H1
      replace H := Option.bind_eq_some_iff.mp H
      obtain ⟨tA7, AB8, H⟩ := H
      replace H : (some tA7) = some r := H
      have A10 := Aside0.mk AB8
      clear AB8
      obtain rfl := Option.some.inj H
      go_wp2_with (first | ((with_reducible refine gate_callee (f := 8) rfl ?_); refine gL_ (some 14) Try.func8 #[.slice A0 l0.length c0] ?_; (with_reducible refine (spec_VecOK.calls kj2 _ _ l0 true _ ?side1 ?side2 A6.out).mono ?_); (case side1 => exact crC (Kd.C_below HR0.out HB.out)); (case side2 => exact HC0.out); rintro e w11 ⟨rfl, hb⟩; refine ⟨_, rfl, ?_⟩; replace HB := bst HB hb; (try clear hb); (try clear hb2); (try clear hk); (try clear hi)) | (go_at_call 8; (with_reducible refine (spec_VecOK.calls kj2 _ _ l1 true _ ?side1 ?side2 A8.out).mono ?_); (case side1 => exact crC (Kd.C_below HR1.out HB.out)); (case side2 => exact HC1.out); rintro e w12 ⟨rfl, hb⟩; replace HB := bst HB hb; (try clear hb); (try clear hb2); (try clear hk); (try clear hi)) | (go_at_call 27; (with_reducible refine (spec_l03Same.calls kj2 _ _ l0 _ _ l1 tA7 _ ?side1 ?side2 ?side3 ?side4 A10.out).mono ?_); (case side1 => exact crC (Kd.C_below HR0.out HB.out)); (case side2 => exact HC0.out); (case side3 => exact crC (Kd.C_below HR1.out HB.out)); (case side4 => exact HC1.out); rintro e w13 ⟨rfl, hb⟩; replace HB := bst HB hb; (try clear hb); (try clear hb2); (try clear hk); (try clear hi)))
      go_ret
      exact ⟨er_, blw HB⟩
     ·
      replace c9 := Bool.eq_false_iff.mpr c9
      subst c9
      have H1 : (some false) = some r := by rw [if_neg (show ¬ (false = true) by decide)] at H; exact H
      clear H
      have H := H1
      clear H1
      obtain rfl := Option.some.inj H
      go_wp2_with (first | ((with_reducible refine gate_callee (f := 8) rfl ?_); refine gL_ (some 14) Try.func8 #[.slice A0 l0.length c0] ?_; (with_reducible refine (spec_VecOK.calls kj2 _ _ l0 true _ ?side1 ?side2 A6.out).mono ?_); (case side1 => exact crC (Kd.C_below HR0.out HB.out)); (case side2 => exact HC0.out); rintro e w14 ⟨rfl, hb⟩; refine ⟨_, rfl, ?_⟩; replace HB := bst HB hb; (try clear hb); (try clear hb2); (try clear hk); (try clear hi)) | (go_at_call 8; (with_reducible refine (spec_VecOK.calls kj2 _ _ l1 false _ ?side1 ?side2 A8.out).mono ?_); (case side1 => exact crC (Kd.C_below HR1.out HB.out)); (case side2 => exact HC1.out); rintro e w15 ⟨rfl, hb⟩; replace HB := bst HB hb; (try clear hb); (try clear hb2); (try clear hk); (try clear hi)))
      go_ret
      exact ⟨er_, blw HB⟩
    ·
     replace c7 := Bool.eq_false_iff.mpr c7
     subst c7
     have H1 : (some false) = some r := by rw [if_neg (show ¬ (false = true) by decide)] at H; exact H
     clear H
     have H := H1
     clear H1
     obtain rfl := Option.some.inj H
     go_wp2_with (first | ((with_reducible refine gate_callee (f := 8) rfl ?_); refine gL_ (some 14) Try.func8 #[.slice A0 l0.length c0] ?_; (with_reducible refine (spec_VecOK.calls kj2 _ _ l0 false _ ?side1 ?side2 A6.out).mono ?_); (case side1 => exact crC (Kd.C_below HR0.out HB.out)); (case side2 => exact HC0.out); rintro e w16 ⟨rfl, hb⟩; refine ⟨_, rfl, ?_⟩; replace HB := bst HB hb; (try clear hb); (try clear hb2); (try clear hk); (try clear hi)))
     go_ret
     exact ⟨er_, blw HB⟩

theorem goesE_ {P : Program} {ops : Array Oper} {Q : Exit → Act → World → Prop} {rest : List Oper} {oi : Oper} {a : Act} {w : World} (N : Option Tmp) (hd : oi.dst = N) (hg : oi.guard = none) {f : FuncId} {fn : Func} {t : Operand} {ax : Array Operand} {ts : Array TypeId} (hf : P.funcs[f]? = some fn) (hname : (fn.name == "runtime.NumGoroutine") = false) (hb : fn.body.isSome = true) (args : Array Value)
  (hop : oi.op = .call { callee := .value t, args := ax, argTypes := ts }) (hv : a.eval t = .func (.func f) #[] #[]) (hargs : ax.map a.eval = args)
  (h : Calls P f args w fun e w' => ∃ v, e = .returned v ∧ wpList P ops Q rest (a.put N v) w') : wpList P ops Q (oi :: rest) a w := by
 refine wpList_plain hg fun K hK => ?_
 have he := enters_ hf hname hb args w
 have hrun : (execOp a.eval oi).run P w = .ok (.enter f args) w := by
  unfold execOp
  simp [hop, resolve, Deferred.ofValue, invoke, hv, hargs, he]
 unfold Oper.wp
 rw [hrun, Oper.upon_enter]
 refine h.mono fun e w'' hh => ?_
 obtain ⟨v, rfl, hk⟩ := hh
 subst hd
 exact hK _ _ hk
def impl_Rat_48.l0 : Nat → List (S32) → List (S32) → Int → Int → Option (Bool)
 | 0, _, _, _, _ => none
 | k + 1, x1, x15, x16, x17 => if x17 < x16 then (if 0 ≤ x17 then (if x17 < (x15.length : Int) then (if x17 < (x1.length : Int) then ((impl_sameVec_1.f k ((rd_T32 x15 x17).f0) ((rd_T32 x15 x17).f1) ((rd_T32 x15 x17).f2) ((rd_T32 x1 x17).f0) ((rd_T32 x1 x17).f1) ((rd_T32 x1 x17).f2)).bind fun tB7 => (if tB7 = true then (impl_Rat_48.l0 k x1 x15 x16 (wrap64 (x17 + 1))) else (some false))) else (none)) else (none)) else (none)) else (some true)
def impl_Rat_48.f (k : Nat) (l0 : List (S32)) (l1 : List (S32)) : Option (Bool) := if (l0.length : Int) = (l1.length : Int) then (impl_Rat_48.l0 k l1 l0 (l0.length : Int) 0) else (some false)
theorem impl_Rat_48.mono_l : ∀ k, (∀ y0 y1 y2 y3, LeO (impl_Rat_48.l0 k y0 y1 y2 y3) (impl_Rat_48.l0 (k + 1) y0 y1 y2 y3))
 | 0 => fun _ _ _ _ r h => by simp [impl_Rat_48.l0] at h
 | k + 1 => by
  have ih0 := impl_Rat_48.mono_l k
  ·
   intro y0 y1 y2 y3
   unfold impl_Rat_48.l0
   repeat' first
   | (with_reducible exact ih0 _ _ _ _)
   | (with_reducible exact impl_sameVec_1.mono _ _ _ _ _ _ _)
   | (with_reducible exact LeO.refl _)
   | (with_reducible exact LeO.none _)
   | (with_reducible refine LeO.ite ?_ ?_)
   | (with_reducible refine LeO.bind ?_ (fun _ => ?_))
   | exact ih0 _ _ _ _
   | exact impl_sameVec_1.mono _ _ _ _ _ _ _
   | exact LeO.none _
   | refine LeO.ite ?_ ?_
   | refine LeO.bind ?_ (fun _ => ?_)
theorem impl_Rat_48.mono : ∀ a0 a1 k, LeO (impl_Rat_48.f k a0 a1) (impl_Rat_48.f (k + 1) a0 a1) := by
 intro a0 a1 k
 have ih0 := impl_Rat_48.mono_l k
 unfold impl_Rat_48.f
 repeat' first
   | (with_reducible exact ih0 _ _ _ _)
   | (with_reducible exact impl_sameVec_1.mono _ _ _ _ _ _ _)
   | (with_reducible exact LeO.refl _)
   | (with_reducible exact LeO.none _)
   | (with_reducible refine LeO.ite ?_ ?_)
   | (with_reducible refine LeO.bind ?_ (fun _ => ?_))
   | exact ih0 _ _ _ _
   | exact impl_sameVec_1.mono _ _ _ _ _ _ _
   | exact LeO.none _
   | refine LeO.ite ?_ ?_
   | refine LeO.bind ?_ (fun _ => ?_)
set_option maxHeartbeats 8000000 in
set_option maxRecDepth 100000 in
theorem impl_Rat_48.calls (k : Nat) (A0 : Option Addr) (c0 : Nat) (l0 : List (S32)) (A1 : Option Addr) (c1 : Nat) (l1 : List (S32)) (r : Bool) (w : World) (hr0 : Kd.C k32 w A0 l0.length l0) (hc0 : l0.length ≤ c0) (hr1 : Kd.C k32 w A1 l1.length l1) (hc1 : l1.length ≤ c1) (h : impl_Rat_48.f k l0 l1 = some r) :
  Calls Try.prog 48 #[.slice A0 l0.length c0, .slice A1 l1.length c1, .func (.func 49) #[] #[]] w fun e w' => e = .returned (.bool r) ∧ Below w.heap.size w w' := by
 have hu32 := Try.underlying32
 have HR0 := Aside0.mk hr0
 have HC0 := Aside0.mk hc0
 clear hr0 hc0
 have HR1 := Aside0.mk hr1
 have HC1 := Aside0.mk hc1
 clear hr1 hc1
 have HB := Aside0.mk (Below.refl w.heap.size w)
 have H : (if (l0.length : Int) = (l1.length : Int) then (impl_Rat_48.l0 k l1 l0 (l0.length : Int) 0) else (some false)) = some r := h
 clear h
 by_cases c3 : (l0.length : Int) = (l1.length : Int)
 ·
  rw [if_pos c3] at H
  have c3b0 : ((l0.length : Int) == (l1.length : Int)) = true := beq_iff_eq.mpr c3
  have c3b1 : ((l0.length : Int) != (l1.length : Int)) = false := bne_eq_false_iff_eq.mpr c3
  have c3b2 : (l0.length == l1.length) = true := by first | simpa using c3 | (simp at c3 ⊢; omega)
  clear c3
  have H' := Aside0.mk H
  clear H
  go_enter Try.func48, Try.ntmps48
  go_wp2
  go_loopg [17] k (fun kq v17 w' => ∃ (x17_1 : Int), v17 = .int .i64 x17_1 ∧ Aside0 (impl_Rat_48.l0 kq l1 l0 (l0.length : Int) x17_1 = some r) ∧ Aside0 (kq ≤ k) ∧ Aside0 (Below w.heap.size w w'))
  case atStart => exact ⟨(0), rs_, H', ⟨Nat.le_refl _⟩, ⟨blw HB⟩⟩
  case round =>
   clear H'
   try clear c1
   try clear p2
   try clear c3
   try clear c3b0
   try clear c3b1
   try clear c3b2
   obtain ⟨x17_1, rfl, HA, HK1, HB⟩ := hrel
   cases gk with
   | zero => exact absurd HA.out (by simp [impl_Rat_48.l0])
   | succ k1 =>
    have H := HA.out
    clear HA
    simp only [impl_Rat_48.l0] at H
    by_cases c4 : x17_1 < (l0.length : Int)
    ·
     rw [if_pos c4] at H
     have c4b0 : decide (x17_1 < (l0.length : Int)) = true := decide_eq_true c4
     clear c4
     by_cases c5 : 0 ≤ x17_1
     ·
      rw [if_pos c5] at H
      have c5b0 : decide (0 ≤ x17_1) = true := decide_eq_true c5
      clear c5
      by_cases c6 : x17_1 < (l0.length : Int)
      ·
       rw [if_pos c6] at H
       have c6b0 : decide (x17_1 < (l0.length : Int)) = true := decide_eq_true c6
       clear c6
       by_cases c7 : x17_1 < (l1.length : Int)
       ·
        rw [if_pos c7] at H
        have c7b0 : decide (x17_1 < (l1.length : Int)) = true := decide_eq_true c7
        clear c7
        replace H := Option.bind_eq_some_iff.mp H
        obtain ⟨tB7, A80, H⟩ := H
        replace H : (if tB7 = true then (impl_Rat_48.l0 k1 l1 l0 (l0.length : Int) (wrap64 (x17_1 + 1))) else (some false)) = some r := H
        have A8 := Aside0.mk A80
        clear A80
        by_cases c9 : tB7 = true
        ·
         subst c9
         have H1 : (impl_Rat_48.l0 k1 l1 l0 (l0.length : Int) (wrap64 (x17_1 + 1))) = some r := by rw [if_pos rfl] at H; exact H
         clear H
         have H := H1
         clear H1
         have H' := Aside0.mk H
         clear H
         have pA0 : 0 ≤ (x17_1 : Int) := of_decide_eq_true (by first | (with_reducible assumption) | assumption)
         have qA0 : x17_1 < (l0.length : Int) := of_decide_eq_true (by first | (with_reducible assumption) | assumption)
         obtain ⟨adA0, AA0_1, cA0_1, AA0_2, cA0_2, eA0, hxA0_0, hxA0_1, hxA0_2, hlA0_1, hiA0_1, hlA0_2, hiA0_2⟩ := at_T32 HR0.out x17_1 pA0 qA0
         cases eA0
         replace hxA0_0 := (HB.out.cell (World.block_lt_of_cell? w _ hxA0_0)).trans hxA0_0
         replace hxA0_1 := (HB.out.cell (World.block_lt_of_cell? w _ hxA0_1)).trans hxA0_1
         replace hxA0_2 := (HB.out.cell (World.block_lt_of_cell? w _ hxA0_2)).trans hxA0_2
         have HRA0_1 := Aside0.mk hiA0_1
         have HCA0_1 := Aside0.mk hlA0_1
         clear hiA0_1 hlA0_1
         have HRA0_2 := Aside0.mk hiA0_2
         have HCA0_2 := Aside0.mk hlA0_2
         clear hiA0_2 hlA0_2
         replace pA0 := eq_true pA0
         replace qA0 := eq_true qA0
         go_wp2_with (first | ((with_reducible refine gate_dst (N := 8) rfl ?_); refine bx_ (N := 8) (cs := #[.bool false, .slice none 0 0, .slice none 0 0]) (t := 32) ?_; intro gbA4 hg w10 hbox hb; have BKA4 := Aside0.mk (hbox); have GWA4 := geh hg HB; have GEA4 := geh hg HB; replace HB := bst HB hb; clear hb hbox hg; obtain ⟨hcz11_0, hcz11_1, hcz11_2, hfz11_0, hfz11_1, hfz11_2⟩ := bc3 BKA4; have pA1 : 0 ≤ (x17_1 : Int) := of_decide_eq_true (by first | (with_reducible assumption) | assumption); have qA1 : x17_1 < (l1.length : Int) := of_decide_eq_true (by first | (with_reducible assumption) | assumption); obtain ⟨adA1, AA1_1, cA1_1, AA1_2, cA1_2, eA1, hxA1_0, hxA1_1, hxA1_2, hlA1_1, hiA1_1, hlA1_2, hiA1_2⟩ := at_T32 HR1.out x17_1 pA1 qA1; cases eA1; have hn377_0 : adA1.block ≠ gbA4 := Nat.ne_of_lt (Nat.lt_of_lt_of_le (by have := World.block_lt_of_cell? _ _ hxA1_0; first | rwa [add_block] at this | exact this) GWA4.out); have hn377_1 : adA1.block ≠ gbA4 := Nat.ne_of_lt (Nat.lt_of_lt_of_le (by have := World.block_lt_of_cell? _ _ hxA1_0; first | rwa [add_block] at this | exact this) GWA4.out); have hn377_2 : adA1.block ≠ gbA4 := Nat.ne_of_lt (Nat.lt_of_lt_of_le (by have := World.block_lt_of_cell? _ _ hxA1_0; first | rwa [add_block] at this | exact this) GWA4.out); replace hxA1_0 := (HB.out.cell (World.block_lt_of_cell? w _ hxA1_0)).trans hxA1_0; replace hxA1_1 := (HB.out.cell (World.block_lt_of_cell? w _ hxA1_1)).trans hxA1_1; replace hxA1_2 := (HB.out.cell (World.block_lt_of_cell? w _ hxA1_2)).trans hxA1_2; have HRA1_1 := Aside0.mk hiA1_1; have HCA1_1 := Aside0.mk hlA1_1; clear hiA1_1 hlA1_1; have HRA1_2 := Aside0.mk hiA1_2; have HCA1_2 := Aside0.mk hlA1_2; clear hiA1_2 hlA1_2; replace hxA1_0 := (cell_far (p := ⟨gbA4, 0, none⟩) (by first | (rw [add_block]; exact hn377_0) | (show (Addr.add _ _).block ≠ _; rw [add_block]; exact hn377_0) | exact hn377_0) (.bool ((rd_T32 l0 x17_1).f0))).trans hxA1_0; replace hxA1_1 := (cell_far (p := ⟨gbA4, 0, none⟩) (by first | (rw [add_block]; exact hn377_0) | (show (Addr.add _ _).block ≠ _; rw [add_block]; exact hn377_0) | exact hn377_0) (.bool ((rd_T32 l0 x17_1).f0))).trans hxA1_1; replace hxA1_2 := (cell_far (p := ⟨gbA4, 0, none⟩) (by first | (rw [add_block]; exact hn377_0) | (show (Addr.add _ _).block ≠ _; rw [add_block]; exact hn377_0) | exact hn377_0) (.bool ((rd_T32 l0 x17_1).f0))).trans hxA1_2; replace hxA1_0 := (cell_far (p := ⟨gbA4, 1, none⟩) (by first | (rw [add_block]; exact hn377_1) | (show (Addr.add _ _).block ≠ _; rw [add_block]; exact hn377_1) | exact hn377_1) (.slice AA0_1 ((rd_T32 l0 x17_1).f1).length cA0_1)).trans hxA1_0; replace hxA1_1 := (cell_far (p := ⟨gbA4, 1, none⟩) (by first | (rw [add_block]; exact hn377_1) | (show (Addr.add _ _).block ≠ _; rw [add_block]; exact hn377_1) | exact hn377_1) (.slice AA0_1 ((rd_T32 l0 x17_1).f1).length cA0_1)).trans hxA1_1; replace hxA1_2 := (cell_far (p := ⟨gbA4, 1, none⟩) (by first | (rw [add_block]; exact hn377_1) | (show (Addr.add _ _).block ≠ _; rw [add_block]; exact hn377_1) | exact hn377_1) (.slice AA0_1 ((rd_T32 l0 x17_1).f1).length cA0_1)).trans hxA1_2; replace hxA1_0 := (cell_far (p := ⟨gbA4, 2, none⟩) (by first | (rw [add_block]; exact hn377_2) | (show (Addr.add _ _).block ≠ _; rw [add_block]; exact hn377_2) | exact hn377_2) (.slice AA0_2 ((rd_T32 l0 x17_1).f2).length cA0_2)).trans hxA1_0; replace hxA1_1 := (cell_far (p := ⟨gbA4, 2, none⟩) (by first | (rw [add_block]; exact hn377_2) | (show (Addr.add _ _).block ≠ _; rw [add_block]; exact hn377_2) | exact hn377_2) (.slice AA0_2 ((rd_T32 l0 x17_1).f2).length cA0_2)).trans hxA1_1; replace hxA1_2 := (cell_far (p := ⟨gbA4, 2, none⟩) (by first | (rw [add_block]; exact hn377_2) | (show (Addr.add _ _).block ≠ _; rw [add_block]; exact hn377_2) | exact hn377_2) (.slice AA0_2 ((rd_T32 l0 x17_1).f2).length cA0_2)).trans hxA1_2; clear hn377_0; clear hn377_1; clear hn377_2; replace pA1 := eq_true pA1; replace qA1 := eq_true qA1) | ((with_reducible refine gate_dst (N := 9) rfl ?_); refine bx_ (N := 9) (cs := #[.bool false, .slice none 0 0, .slice none 0 0]) (t := 32) ?_; intro gbA5 hg w12 hbox hb; have BKA5 := Aside0.mk (hbox); have GWA5 := geh hg HB; have GEA5 := geh hg HB; replace HB := bst HB hb; have NBA4_A5 := Aside0.mk ((by rw [hg]; exact Nat.ne_of_lt (blk_lt (g := gbA4) (o := .cells #[.bool ((rd_T32 l0 x17_1).f0), .slice AA0_1 ((rd_T32 l0 x17_1).f1).length cA0_1, .slice AA0_2 ((rd_T32 l0 x17_1).f2).length cA0_2] 32 (0, 0)) (by (with_reducible repeat (first | refine blk_drewN ?_ _ | refine blk_drew ?_ | refine blk_alloc ?_ _)); refine blk_put (cs := #[.bool ((rd_T32 l0 x17_1).f0), .slice AA0_1 ((rd_T32 l0 x17_1).f1).length cA0_1, .slice none 0 0]) ?_ 2 _ rfl; (with_reducible repeat (first | refine blk_drewN ?_ _ | refine blk_drew ?_ | refine blk_alloc ?_ _)); refine blk_put (cs := #[.bool ((rd_T32 l0 x17_1).f0), .slice none 0 0, .slice none 0 0]) ?_ 1 _ rfl; (with_reducible repeat (first | refine blk_drewN ?_ _ | refine blk_drew ?_ | refine blk_alloc ?_ _)); refine blk_put (cs := #[.bool false, .slice none 0 0, .slice none 0 0]) ?_ 0 _ rfl; (with_reducible repeat (first | refine blk_drewN ?_ _ | refine blk_drew ?_ | refine blk_alloc ?_ _)); exact BKA4.out)) : gbA4 ≠ gbA5)); have NBA5_A4 := Aside0.mk ((by rw [hg]; exact Nat.ne_of_gt (blk_lt (g := gbA4) (o := .cells #[.bool ((rd_T32 l0 x17_1).f0), .slice AA0_1 ((rd_T32 l0 x17_1).f1).length cA0_1, .slice AA0_2 ((rd_T32 l0 x17_1).f2).length cA0_2] 32 (0, 0)) (by (with_reducible repeat (first | refine blk_drewN ?_ _ | refine blk_drew ?_ | refine blk_alloc ?_ _)); refine blk_put (cs := #[.bool ((rd_T32 l0 x17_1).f0), .slice AA0_1 ((rd_T32 l0 x17_1).f1).length cA0_1, .slice none 0 0]) ?_ 2 _ rfl; (with_reducible repeat (first | refine blk_drewN ?_ _ | refine blk_drew ?_ | refine blk_alloc ?_ _)); refine blk_put (cs := #[.bool ((rd_T32 l0 x17_1).f0), .slice none 0 0, .slice none 0 0]) ?_ 1 _ rfl; (with_reducible repeat (first | refine blk_drewN ?_ _ | refine blk_drew ?_ | refine blk_alloc ?_ _)); refine blk_put (cs := #[.bool false, .slice none 0 0, .slice none 0 0]) ?_ 0 _ rfl; (with_reducible repeat (first | refine blk_drewN ?_ _ | refine blk_drew ?_ | refine blk_alloc ?_ _)); exact BKA4.out)) : gbA5 ≠ gbA4)); replace BKA4 := bkp BKA4 (.bool ((rd_T32 l0 x17_1).f0)) (.slice AA0_1 ((rd_T32 l0 x17_1).f1).length cA0_1) (.slice AA0_2 ((rd_T32 l0 x17_1).f2).length cA0_2) hb; clear hb hbox hg; have hnb13 := NBA5_A4.out; have hnc13 := NBA4_A5.out; obtain ⟨hcz14_0, hcz14_1, hcz14_2, hfz14_0, hfz14_1, hfz14_2⟩ := bc3 BKA5; have hcz15_0 : w12.cell? ⟨gbA4, 0, none⟩ = some (.bool ((rd_T32 l0 x17_1).f0)) := bce BKA4 0 _; have hcz15_1 : w12.cell? ⟨gbA4, 1, none⟩ = some (.slice AA0_1 ((rd_T32 l0 x17_1).f1).length cA0_1) := bce BKA4 1 _; have hcz15_2 : w12.cell? ⟨gbA4, 2, none⟩ = some (.slice AA0_2 ((rd_T32 l0 x17_1).f2).length cA0_2) := bce BKA4 2 _; have hfz15_0 := blk_frozen BKA4.out 0; have hfz15_1 := blk_frozen BKA4.out 1; have hfz15_2 := blk_frozen BKA4.out 2) | (refine goesE_ (some 29) rfl rfl Try.func49 (by kernel_rfl) rfl #[.agg #[.bool ((rd_T32 l0 x17_1).f0), .slice AA0_1 ((rd_T32 l0 x17_1).f1).length cA0_1, .slice AA0_2 ((rd_T32 l0 x17_1).f2).length cA0_2], .agg #[.bool ((rd_T32 l1 x17_1).f0), .slice AA1_1 ((rd_T32 l1 x17_1).f1).length cA1_1, .slice AA1_2 ((rd_T32 l1 x17_1).f2).length cA1_2]] rfl rfl (by (try simp only [List.map_toArray, List.map_cons, List.map_nil]); first | done | rfl | (simp only [List.length_drop, List.length_take]; rfl)) ?_; (with_reducible refine (impl_sameVec_1.calls k1 ((rd_T32 l0 x17_1).f0) _ _ ((rd_T32 l0 x17_1).f1) _ _ ((rd_T32 l0 x17_1).f2) ((rd_T32 l1 x17_1).f0) _ _ ((rd_T32 l1 x17_1).f1) _ _ ((rd_T32 l1 x17_1).f2) true _ ?side1 ?side2 ?side3 ?side4 ?side5 ?side6 ?side7 ?side8 A8.out).mono ?_); (case side1 => exact Kd.C_below HRA0_1.out (blw HB)); (case side2 => exact HCA0_1.out); (case side3 => exact Kd.C_below HRA0_2.out (blw HB)); (case side4 => exact HCA0_2.out); (case side5 => exact Kd.C_below HRA1_1.out (blw HB)); (case side6 => exact HCA1_1.out); (case side7 => exact Kd.C_below HRA1_2.out (blw HB)); (case side8 => exact HCA1_2.out); rintro e w16 ⟨rfl, hb⟩; refine ⟨_, rfl, ?_⟩; replace BKA4 := bkf BKA4 hb; replace BKA5 := bkp BKA5 (.bool ((rd_T32 l1 x17_1).f0)) (.slice AA1_1 ((rd_T32 l1 x17_1).f1).length cA1_1) (.slice AA1_2 ((rd_T32 l1 x17_1).f2).length cA1_2) hb; replace HB := bst HB hb; (try clear hb); (try clear hb2); (try clear hk); (try clear hi)))
         go_roundg k1
         case measure => have := HK1.out; omega
         case rel => exact ⟨(wrap64 (x17_1 + 1)), rs_, H', ⟨by have := HK1.out; omega⟩, ⟨blw HB⟩⟩
        ·
         replace c9 := Bool.eq_false_iff.mpr c9
         subst c9
         have H1 : (some false) = some r := by rw [if_neg (show ¬ (false = true) by decide)] at H; exact H
         clear H
         have H := H1
         clear H1
         obtain rfl := Option.some.inj H
         have pA0 : 0 ≤ (x17_1 : Int) := of_decide_eq_true (by first | (with_reducible assumption) | assumption)
         have qA0 : x17_1 < (l0.length : Int) := of_decide_eq_true (by first | (with_reducible assumption) | assumption)
         obtain ⟨adA0, AA0_1, cA0_1, AA0_2, cA0_2, eA0, hxA0_0, hxA0_1, hxA0_2, hlA0_1, hiA0_1, hlA0_2, hiA0_2⟩ := at_T32 HR0.out x17_1 pA0 qA0
         cases eA0
         replace hxA0_0 := (HB.out.cell (World.block_lt_of_cell? w _ hxA0_0)).trans hxA0_0
         replace hxA0_1 := (HB.out.cell (World.block_lt_of_cell? w _ hxA0_1)).trans hxA0_1
         replace hxA0_2 := (HB.out.cell (World.block_lt_of_cell? w _ hxA0_2)).trans hxA0_2
         have HRA0_1 := Aside0.mk hiA0_1
         have HCA0_1 := Aside0.mk hlA0_1
         clear hiA0_1 hlA0_1
         have HRA0_2 := Aside0.mk hiA0_2
         have HCA0_2 := Aside0.mk hlA0_2
         clear hiA0_2 hlA0_2
         replace pA0 := eq_true pA0
         replace qA0 := eq_true qA0
         go_wp2_with (first | ((with_reducible refine gate_dst (N := 8) rfl ?_); refine bx_ (N := 8) (cs := #[.bool false, .slice none 0 0, .slice none 0 0]) (t := 32) ?_; intro gbA4 hg w17 hbox hb; have BKA4 := Aside0.mk (hbox); have GWA4 := geh hg HB; have GEA4 := geh hg HB; replace HB := bst HB hb; clear hb hbox hg; obtain ⟨hcz18_0, hcz18_1, hcz18_2, hfz18_0, hfz18_1, hfz18_2⟩ := bc3 BKA4; have pA1 : 0 ≤ (x17_1 : Int) := of_decide_eq_true (by first | (with_reducible assumption) | assumption); have qA1 : x17_1 < (l1.length : Int) := of_decide_eq_true (by first | (with_reducible assumption) | assumption); obtain ⟨adA1, AA1_1, cA1_1, AA1_2, cA1_2, eA1, hxA1_0, hxA1_1, hxA1_2, hlA1_1, hiA1_1, hlA1_2, hiA1_2⟩ := at_T32 HR1.out x17_1 pA1 qA1; cases eA1; have hn377_0 : adA1.block ≠ gbA4 := Nat.ne_of_lt (Nat.lt_of_lt_of_le (by have := World.block_lt_of_cell? _ _ hxA1_0; first | rwa [add_block] at this | exact this) GWA4.out); have hn377_1 : adA1.block ≠ gbA4 := Nat.ne_of_lt (Nat.lt_of_lt_of_le (by have := World.block_lt_of_cell? _ _ hxA1_0; first | rwa [add_block] at this | exact this) GWA4.out); have hn377_2 : adA1.block ≠ gbA4 := Nat.ne_of_lt (Nat.lt_of_lt_of_le (by have := World.block_lt_of_cell? _ _ hxA1_0; first | rwa [add_block] at this | exact this) GWA4.out); replace hxA1_0 := (HB.out.cell (World.block_lt_of_cell? w _ hxA1_0)).trans hxA1_0; replace hxA1_1 := (HB.out.cell (World.block_lt_of_cell? w _ hxA1_1)).trans hxA1_1; replace hxA1_2 := (HB.out.cell (World.block_lt_of_cell? w _ hxA1_2)).trans hxA1_2; have HRA1_1 := Aside0.mk hiA1_1; have HCA1_1 := Aside0.mk hlA1_1; clear hiA1_1 hlA1_1; have HRA1_2 := Aside0.mk hiA1_2; have HCA1_2 := Aside0.mk hlA1_2; clear hiA1_2 hlA1_2; replace hxA1_0 := (cell_far (p := ⟨gbA4, 0, none⟩) (by first | (rw [add_block]; exact hn377_0) | (show (Addr.add _ _).block ≠ _; rw [add_block]; exact hn377_0) | exact hn377_0) (.bool ((rd_T32 l0 x17_1).f0))).trans hxA1_0; replace hxA1_1 := (cell_far (p := ⟨gbA4, 0, none⟩) (by first | (rw [add_block]; exact hn377_0) | (show (Addr.add _ _).block ≠ _; rw [add_block]; exact hn377_0) | exact hn377_0) (.bool ((rd_T32 l0 x17_1).f0))).trans hxA1_1; replace hxA1_2 := (cell_far (p := ⟨gbA4, 0, none⟩) (by first | (rw [add_block]; exact hn377_0) | (show (Addr.add _ _).block ≠ _; rw [add_block]; exact hn377_0) | exact hn377_0) (.bool ((rd_T32 l0 x17_1).f0))).trans hxA1_2; replace hxA1_0 := (cell_far (p := ⟨gbA4, 1, none⟩) (by first | (rw [add_block]; exact hn377_1) | (show (Addr.add _ _).block ≠ _; rw [add_block]; exact hn377_1) | exact hn377_1) (.slice AA0_1 ((rd_T32 l0 x17_1).f1).length cA0_1)).trans hxA1_0; replace hxA1_1 := (cell_far (p := ⟨gbA4, 1, none⟩) (by first | (rw [add_block]; exact hn377_1) | (show (Addr.add _ _).block ≠ _; rw [add_block]; exact hn377_1) | exact hn377_1) (.slice AA0_1 ((rd_T32 l0 x17_1).f1).length cA0_1)).trans hxA1_1; replace hxA1_2 := (cell_far (p := ⟨gbA4, 1, none⟩) (by first | (rw [add_block]; exact hn377_1) | (show (Addr.add _ _).block ≠ _; rw [add_block]; exact hn377_1) | exact hn377_1) (.slice AA0_1 ((rd_T32 l0 x17_1).f1).length cA0_1)).trans hxA1_2; replace hxA1_0 := (cell_far (p := ⟨gbA4, 2, none⟩) (by first | (rw [add_block]; exact hn377_2) | (show (Addr.add _ _).block ≠ _; rw [add_block]; exact hn377_2) | exact hn377_2) (.slice AA0_2 ((rd_T32 l0 x17_1).f2).length cA0_2)).trans hxA1_0; replace hxA1_1 := (cell_far (p := ⟨gbA4, 2, none⟩) (by first | (rw [add_block]; exact hn377_2) | (show (Addr.add _ _).block ≠ _; rw [add_block]; exact hn377_2) | exact hn377_2) (.slice AA0_2 ((rd_T32 l0 x17_1).f2).length cA0_2)).trans hxA1_1; replace hxA1_2 := (cell_far (p := ⟨gbA4, 2, none⟩) (by first | (rw [add_block]; exact hn377_2) | (show (Addr.add _ _).block ≠ _; rw [add_block]; exact hn377_2) | exact hn377_2) (.slice AA0_2 ((rd_T32 l0 x17_1).f2).length cA0_2)).trans hxA1_2; clear hn377_0; clear hn377_1; clear hn377_2; replace pA1 := eq_true pA1; replace qA1 := eq_true qA1) | ((with_reducible refine gate_dst (N := 9) rfl ?_); refine bx_ (N := 9) (cs := #[.bool false, .slice none 0 0, .slice none 0 0]) (t := 32) ?_; intro gbA5 hg w19 hbox hb; have BKA5 := Aside0.mk (hbox); have GWA5 := geh hg HB; have GEA5 := geh hg HB; replace HB := bst HB hb; have NBA4_A5 := Aside0.mk ((by rw [hg]; exact Nat.ne_of_lt (blk_lt (g := gbA4) (o := .cells #[.bool ((rd_T32 l0 x17_1).f0), .slice AA0_1 ((rd_T32 l0 x17_1).f1).length cA0_1, .slice AA0_2 ((rd_T32 l0 x17_1).f2).length cA0_2] 32 (0, 0)) (by (with_reducible repeat (first | refine blk_drewN ?_ _ | refine blk_drew ?_ | refine blk_alloc ?_ _)); refine blk_put (cs := #[.bool ((rd_T32 l0 x17_1).f0), .slice AA0_1 ((rd_T32 l0 x17_1).f1).length cA0_1, .slice none 0 0]) ?_ 2 _ rfl; (with_reducible repeat (first | refine blk_drewN ?_ _ | refine blk_drew ?_ | refine blk_alloc ?_ _)); refine blk_put (cs := #[.bool ((rd_T32 l0 x17_1).f0), .slice none 0 0, .slice none 0 0]) ?_ 1 _ rfl; (with_reducible repeat (first | refine blk_drewN ?_ _ | refine blk_drew ?_ | refine blk_alloc ?_ _)); refine blk_put (cs := #[.bool false, .slice none 0 0, .slice none 0 0]) ?_ 0 _ rfl; (with_reducible repeat (first | refine blk_drewN ?_ _ | refine blk_drew ?_ | refine blk_alloc ?_ _)); exact BKA4.out)) : gbA4 ≠ gbA5)); have NBA5_A4 := Aside0.mk ((by rw [hg]; exact Nat.ne_of_gt (blk_lt (g := gbA4) (o := .cells #[.bool ((rd_T32 l0 x17_1).f0), .slice AA0_1 ((rd_T32 l0 x17_1).f1).length cA0_1, .slice AA0_2 ((rd_T32 l0 x17_1).f2).length cA0_2] 32 (0, 0)) (by (with_reducible repeat (first | refine blk_drewN ?_ _ | refine blk_drew ?_ | refine blk_alloc ?_ _)); refine blk_put (cs := #[.bool ((rd_T32 l0 x17_1).f0), .slice AA0_1 ((rd_T32 l0 x17_1).f1).length cA0_1, .slice none 0 0]) ?_ 2 _ rfl; (with_reducible repeat (first | refine blk_drewN ?_ _ | refine blk_drew ?_ | refine blk_alloc ?_ _)); refine blk_put (cs := #[.bool ((rd_T32 l0 x17_1).f0), .slice none 0 0, .slice none 0 0]) ?_ 1 _ rfl; (with_reducible repeat (first | refine blk_drewN ?_ _ | refine blk_drew ?_ | refine blk_alloc ?_ _)); refine blk_put (cs := #[.bool false, .slice none 0 0, .slice none 0 0]) ?_ 0 _ rfl; (with_reducible repeat (first | refine blk_drewN ?_ _ | refine blk_drew ?_ | refine blk_alloc ?_ _)); exact BKA4.out)) : gbA5 ≠ gbA4)); replace BKA4 := bkp BKA4 (.bool ((rd_T32 l0 x17_1).f0)) (.slice AA0_1 ((rd_T32 l0 x17_1).f1).length cA0_1) (.slice AA0_2 ((rd_T32 l0 x17_1).f2).length cA0_2) hb; clear hb hbox hg; have hnb20 := NBA5_A4.out; have hnc20 := NBA4_A5.out; obtain ⟨hcz21_0, hcz21_1, hcz21_2, hfz21_0, hfz21_1, hfz21_2⟩ := bc3 BKA5; have hcz22_0 : w19.cell? ⟨gbA4, 0, none⟩ = some (.bool ((rd_T32 l0 x17_1).f0)) := bce BKA4 0 _; have hcz22_1 : w19.cell? ⟨gbA4, 1, none⟩ = some (.slice AA0_1 ((rd_T32 l0 x17_1).f1).length cA0_1) := bce BKA4 1 _; have hcz22_2 : w19.cell? ⟨gbA4, 2, none⟩ = some (.slice AA0_2 ((rd_T32 l0 x17_1).f2).length cA0_2) := bce BKA4 2 _; have hfz22_0 := blk_frozen BKA4.out 0; have hfz22_1 := blk_frozen BKA4.out 1; have hfz22_2 := blk_frozen BKA4.out 2) | (refine goesE_ (some 29) rfl rfl Try.func49 (by kernel_rfl) rfl #[.agg #[.bool ((rd_T32 l0 x17_1).f0), .slice AA0_1 ((rd_T32 l0 x17_1).f1).length cA0_1, .slice AA0_2 ((rd_T32 l0 x17_1).f2).length cA0_2], .agg #[.bool ((rd_T32 l1 x17_1).f0), .slice AA1_1 ((rd_T32 l1 x17_1).f1).length cA1_1, .slice AA1_2 ((rd_T32 l1 x17_1).f2).length cA1_2]] rfl rfl (by (try simp only [List.map_toArray, List.map_cons, List.map_nil]); first | done | rfl | (simp only [List.length_drop, List.length_take]; rfl)) ?_; (with_reducible refine (impl_sameVec_1.calls k1 ((rd_T32 l0 x17_1).f0) _ _ ((rd_T32 l0 x17_1).f1) _ _ ((rd_T32 l0 x17_1).f2) ((rd_T32 l1 x17_1).f0) _ _ ((rd_T32 l1 x17_1).f1) _ _ ((rd_T32 l1 x17_1).f2) false _ ?side1 ?side2 ?side3 ?side4 ?side5 ?side6 ?side7 ?side8 A8.out).mono ?_); (case side1 => exact Kd.C_below HRA0_1.out (blw HB)); (case side2 => exact HCA0_1.out); (case side3 => exact Kd.C_below HRA0_2.out (blw HB)); (case side4 => exact HCA0_2.out); (case side5 => exact Kd.C_below HRA1_1.out (blw HB)); (case side6 => exact HCA1_1.out); (case side7 => exact Kd.C_below HRA1_2.out (blw HB)); (case side8 => exact HCA1_2.out); rintro e w23 ⟨rfl, hb⟩; refine ⟨_, rfl, ?_⟩; replace BKA4 := bkf BKA4 hb; replace BKA5 := bkp BKA5 (.bool ((rd_T32 l1 x17_1).f0)) (.slice AA1_1 ((rd_T32 l1 x17_1).f1).length cA1_1) (.slice AA1_2 ((rd_T32 l1 x17_1).f2).length cA1_2) hb; replace HB := bst HB hb; (try clear hb); (try clear hb2); (try clear hk); (try clear hi)))
         go_ret
         exact ⟨er_, blw HB⟩
       ·
        rw [if_neg c7] at H
        exact absurd H (by simp)
      ·
       rw [if_neg c6] at H
       exact absurd H (by simp)
     ·
      rw [if_neg c5] at H
      exact absurd H (by simp)
    ·
     rw [if_neg c4] at H
     have c4b0 : decide (x17_1 < (l0.length : Int)) = false := decide_eq_false c4
     clear c4
     obtain rfl := Option.some.inj H
     go_wp2
     go_ret
     exact ⟨er_, blw HB⟩
 ·
  rw [if_neg c3] at H
  have c3b0 : ((l0.length : Int) == (l1.length : Int)) = false := beq_eq_false_iff_ne.mpr c3
  have c3b1 : ((l0.length : Int) != (l1.length : Int)) = true := bne_iff_ne.mpr c3
  have c3b2 : (l0.length == l1.length) = false := by first | simpa using c3 | (simp at c3 ⊢; omega)
  obtain rfl := Option.some.inj H
  go_enter Try.func48, Try.ntmps48
  go_wp2
  go_ret
  exact ⟨er_, blw HB⟩
def impl_sameVec.f (k : Nat) (l0 : List (S32)) (l1 : List (S32)) : Option (Bool) := (impl_Rat_48.f k l0 l1).bind fun tB5 => (some tB5)
theorem impl_sameVec.mono : ∀ a0 a1 k, LeO (impl_sameVec.f k a0 a1) (impl_sameVec.f (k + 1) a0 a1) := by
 intro a0 a1 k
 unfold impl_sameVec.f
 repeat' first
   | (with_reducible exact impl_Rat_48.mono _ _ _)
   | (with_reducible exact LeO.refl _)
   | (with_reducible exact LeO.none _)
   | (with_reducible refine LeO.ite ?_ ?_)
   | (with_reducible refine LeO.bind ?_ (fun _ => ?_))
   | exact impl_Rat_48.mono _ _ _
   | exact LeO.none _
   | refine LeO.ite ?_ ?_
   | refine LeO.bind ?_ (fun _ => ?_)
set_option maxHeartbeats 8000000 in
set_option maxRecDepth 100000 in
theorem impl_sameVec.calls (k : Nat) (A0 : Option Addr) (c0 : Nat) (l0 : List (S32)) (A1 : Option Addr) (c1 : Nat) (l1 : List (S32)) (r : Bool) (w : World) (hr0 : Kd.C k32 w A0 l0.length l0) (hc0 : l0.length ≤ c0) (hr1 : Kd.C k32 w A1 l1.length l1) (hc1 : l1.length ≤ c1) (h : impl_sameVec.f k l0 l1 = some r) :
  Calls Try.prog 28 #[.slice A0 l0.length c0, .slice A1 l1.length c1] w fun e w' => e = .returned (.bool r) ∧ Below w.heap.size w w' := by
 have HR0 := Aside0.mk hr0
 have HC0 := Aside0.mk hc0
 clear hr0 hc0
 have HR1 := Aside0.mk hr1
 have HC1 := Aside0.mk hc1
 clear hr1 hc1
 have HB := Aside0.mk (Below.refl w.heap.size w)
 have H : ((impl_Rat_48.f k l0 l1).bind fun tB5 => (some tB5)) = some r := h
 clear h
 replace H := Option.bind_eq_some_iff.mp H
 obtain ⟨tB5, A30, H⟩ := H
 replace H : (some tB5) = some r := H
 have A3 := Aside0.mk A30
 clear A30
 obtain rfl := Option.some.inj H
 go_enter Try.func28, Try.ntmps28
 go_wp2_with (first | ((with_reducible refine gate_callee (f := 48) rfl ?_); refine gL_ (some 7) Try.func48 #[.slice A0 l0.length c0, .slice A1 l1.length c1, .func (.func 49) #[] #[]] ?_; (with_reducible refine (impl_Rat_48.calls k _ _ l0 _ _ l1 tB5 _ ?side1 ?side2 ?side3 ?side4 A3.out).mono ?_); (case side1 => repeat (first | exact HR0.out | (with_reducible refine Kd.C_alloc ?_ _) | (with_reducible refine Kd.C_drewN ?_ _) | (with_reducible refine Kd.C_drew ?_))); (case side2 => exact HC0.out); (case side3 => repeat (first | exact HR1.out | (with_reducible refine Kd.C_alloc ?_ _) | (with_reducible refine Kd.C_drewN ?_ _) | (with_reducible refine Kd.C_drew ?_))); (case side4 => exact HC1.out); rintro e w4 ⟨rfl, hb⟩; refine ⟨_, rfl, ?_⟩; replace HB := bst HB hb; (try clear hb); (try clear hb2); (try clear hk); (try clear hi)))
 go_ret
 exact ⟨er_, blw HB⟩

def impl_SameVec.f (k : Nat) (l0 : List (S32)) (l1 : List (S32)) : Option (Bool) := (impl_VecOK.f k l0).bind fun tB6 => (if tB6 = true then ((impl_VecOK.f k l1).bind fun tB2 => (if tB2 = true then ((impl_sameVec.f k l0 l1).bind fun tA8 => (some tA8)) else (some false))) else (some false))
theorem impl_SameVec.mono : ∀ a0 a1 k, LeO (impl_SameVec.f k a0 a1) (impl_SameVec.f (k + 1) a0 a1) := by
 intro a0 a1 k
 unfold impl_SameVec.f
 repeat' first
   | (with_reducible exact impl_VecOK.mono _ _)
   | (with_reducible exact impl_sameVec.mono _ _ _)
   | (with_reducible exact LeO.refl _)
   | (with_reducible exact LeO.none _)
   | (with_reducible refine LeO.ite ?_ ?_)
   | (with_reducible refine LeO.bind ?_ (fun _ => ?_))
   | exact impl_VecOK.mono _ _
   | exact impl_sameVec.mono _ _ _
   | exact LeO.none _
   | refine LeO.ite ?_ ?_
   | refine LeO.bind ?_ (fun _ => ?_)
set_option maxHeartbeats 8000000 in
set_option maxRecDepth 100000 in
theorem impl_SameVec.calls (k : Nat) (A0 : Option Addr) (c0 : Nat) (l0 : List (S32)) (A1 : Option Addr) (c1 : Nat) (l1 : List (S32)) (r : Bool) (w : World) (hr0 : Kd.C k32 w A0 l0.length l0) (hc0 : l0.length ≤ c0) (hr1 : Kd.C k32 w A1 l1.length l1) (hc1 : l1.length ≤ c1) (h : impl_SameVec.f k l0 l1 = some r) :
  Calls Try.prog 13 #[.slice A0 l0.length c0, .slice A1 l1.length c1] w fun e w' => e = .returned (.bool r) ∧ Below w.heap.size w w' := by
 have HR0 := Aside0.mk hr0
 have HC0 := Aside0.mk hc0
 clear hr0 hc0
 have HR1 := Aside0.mk hr1
 have HC1 := Aside0.mk hc1
 clear hr1 hc1
 have HB := Aside0.mk (Below.refl w.heap.size w)
 have H : ((impl_VecOK.f k l0).bind fun tB6 => (if tB6 = true then ((impl_VecOK.f k l1).bind fun tB2 => (if tB2 = true then ((impl_sameVec.f k l0 l1).bind fun tA8 => (some tA8)) else (some false))) else (some false))) = some r := h
 clear h
 replace H := Option.bind_eq_some_iff.mp H
 obtain ⟨tB6, A30, H⟩ := H
 replace H : (if tB6 = true then ((impl_VecOK.f k l1).bind fun tB2 => (if tB2 = true then ((impl_sameVec.f k l0 l1).bind fun tA8 => (some tA8)) else (some false))) else (some false)) = some r := H
 have A3 := Aside0.mk A30
 clear A30
 by_cases c4 : tB6 = true
 ·
  subst c4
  have H1 : ((impl_VecOK.f k l1).bind fun tB2 => (if tB2 = true then ((impl_sameVec.f k l0 l1).bind fun tA8 => (some tA8)) else (some false))) = some r := by rw [if_pos rfl] at H; exact H
  clear H
  have H := H1
  clear H1
  replace H := Option.bind_eq_some_iff.mp H
  obtain ⟨tB2, A50, H⟩ := H
  replace H : (if tB2 = true then ((impl_sameVec.f k l0 l1).bind fun tA8 => (some tA8)) else (some false)) = some r := H
  have A5 := Aside0.mk A50
  clear A50
  by_cases c6 : tB2 = true
  ·
   subst c6
   have H1 : ((impl_sameVec.f k l0 l1).bind fun tA8 => (some tA8)) = some r := by rw [if_pos rfl] at H; exact H
   clear H
   have H := H1
   clear H1
   replace H := Option.bind_eq_some_iff.mp H
   obtain ⟨tA8, A70, H⟩ := H
   replace H : (some tA8) = some r := H
   have A7 := Aside0.mk A70
   clear A70
   obtain rfl := Option.some.inj H
   go_enter Try.func13, Try.ntmps13
   go_wp2_with (first | ((with_reducible refine gate_callee (f := 10) rfl ?_); refine gL_ (some 6) Try.func10 #[.slice A0 l0.length c0] ?_; (with_reducible refine (impl_VecOK.calls k _ _ l0 true _ ?side1 ?side2 A3.out).mono ?_); (case side1 => repeat (first | exact HR0.out | (with_reducible refine Kd.C_alloc ?_ _) | (with_reducible refine Kd.C_drewN ?_ _) | (with_reducible refine Kd.C_drew ?_))); (case side2 => exact HC0.out); rintro e w8 ⟨rfl, hb⟩; refine ⟨_, rfl, ?_⟩; replace HB := bst HB hb; (try clear hb); (try clear hb2); (try clear hk); (try clear hi)) | (go_at_call 10; (with_reducible refine (impl_VecOK.calls k _ _ l1 true _ ?side1 ?side2 A5.out).mono ?_); (case side1 => exact crC (Kd.C_below HR1.out HB.out)); (case side2 => exact HC1.out); rintro e w9 ⟨rfl, hb⟩; replace HB := bst HB hb; (try clear hb); (try clear hb2); (try clear hk); (try clear hi)) | (go_at_call 28; (with_reducible refine (impl_sameVec.calls k _ _ l0 _ _ l1 tA8 _ ?side1 ?side2 ?side3 ?side4 A7.out).mono ?_); (case side1 => exact crC (Kd.C_below HR0.out HB.out)); (case side2 => exact HC0.out); (case side3 => exact crC (Kd.C_below HR1.out HB.out)); (case side4 => exact HC1.out); rintro e w10 ⟨rfl, hb⟩; replace HB := bst HB hb; (try clear hb); (try clear hb2); (try clear hk); (try clear hi)))
   go_ret
   exact ⟨er_, blw HB⟩
  ·
   replace c6 := Bool.eq_false_iff.mpr c6
   subst c6
   have H1 : (some false) = some r := by rw [if_neg (show ¬ (false = true) by decide)] at H; exact H
   clear H
   have H := H1
   clear H1
   obtain rfl := Option.some.inj H
   go_enter Try.func13, Try.ntmps13
   go_wp2_with (first | ((with_reducible refine gate_callee (f := 10) rfl ?_); refine gL_ (some 6) Try.func10 #[.slice A0 l0.length c0] ?_; (with_reducible refine (impl_VecOK.calls k _ _ l0 true _ ?side1 ?side2 A3.out).mono ?_); (case side1 => repeat (first | exact HR0.out | (with_reducible refine Kd.C_alloc ?_ _) | (with_reducible refine Kd.C_drewN ?_ _) | (with_reducible refine Kd.C_drew ?_))); (case side2 => exact HC0.out); rintro e w11 ⟨rfl, hb⟩; refine ⟨_, rfl, ?_⟩; replace HB := bst HB hb; (try clear hb); (try clear hb2); (try clear hk); (try clear hi)) | (go_at_call 10; (with_reducible refine (impl_VecOK.calls k _ _ l1 false _ ?side1 ?side2 A5.out).mono ?_); (case side1 => exact crC (Kd.C_below HR1.out HB.out)); (case side2 => exact HC1.out); rintro e w12 ⟨rfl, hb⟩; replace HB := bst HB hb; (try clear hb); (try clear hb2); (try clear hk); (try clear hi)))
   go_ret
   exact ⟨er_, blw HB⟩
 ·
  replace c4 := Bool.eq_false_iff.mpr c4
  subst c4
  have H1 : (some false) = some r := by rw [if_neg (show ¬ (false = true) by decide)] at H; exact H
  clear H
  have H := H1
  clear H1
  obtain rfl := Option.some.inj H
  go_enter Try.func13, Try.ntmps13
  go_wp2_with (first | ((with_reducible refine gate_callee (f := 10) rfl ?_); refine gL_ (some 6) Try.func10 #[.slice A0 l0.length c0] ?_; (with_reducible refine (impl_VecOK.calls k _ _ l0 false _ ?side1 ?side2 A3.out).mono ?_); (case side1 => repeat (first | exact HR0.out | (with_reducible refine Kd.C_alloc ?_ _) | (with_reducible refine Kd.C_drewN ?_ _) | (with_reducible refine Kd.C_drew ?_))); (case side2 => exact HC0.out); rintro e w13 ⟨rfl, hb⟩; refine ⟨_, rfl, ?_⟩; replace HB := bst HB hb; (try clear hb); (try clear hb2); (try clear hk); (try clear hi)))
  go_ret
  exact ⟨er_, blw HB⟩

end Go.Proofs.Ytegbmillbbcmfaa.Q
