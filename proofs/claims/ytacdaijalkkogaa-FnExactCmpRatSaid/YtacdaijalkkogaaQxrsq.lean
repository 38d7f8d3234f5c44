-- written by a program of this claim's session (myprint.py) out of the translation; Lean checks it.
import Derived.Test.YtacdaijalkkogaaQx0
import Derived.Test.YtacdaijalkkogaaQxcmp
import Derived.Test.YtacdaijalkkogaaQxadd
import Derived.Test.YtacdaijalkkogaaQxdiv
import Derived.Test.YtacdaijalkkogaaQxsub
import Derived.Test.YtacdaijalkkogaaQxrmk
import Derived.Test.YtacdaijalkkogaaQxmul
import Derived.Test.YtacdaijalkkogaaQxrsp
namespace Go.Proofs.Ytacdaijalkkogaa.Q
open Go.RowKit Go.Proofs.YtacdaijalkkogaaW.PrintWords Go.Proofs.YtacdaijalkkogaaW.PrintLast Go.Proofs.YtacdaijalkkogaaW.PrintMore
attribute [local go_sem] max2_int min2_int max_two min_two max_three min_three max_four min_four
set_option linter.unusedVariables false
set_option linter.unusedSimpArgs false

def spec_l02Add.f (k : Nat) (a0_0 : Bool) (l0_1 : List Int) (l0_2 : List Int) (a1_0 : Bool) (l1_1 : List Int) (l1_2 : List Int) : Option (Bool × List Int × List Int) := (spec_l01Mul.f k l0_1 l1_2).bind fun t756 => ((spec_l01Mul.f k l1_1 l0_2).bind fun t759 => ((spec_l01Mul.f k l0_2 l1_2).bind fun t762 => (if (a0_0 == a1_0) = true then ((spec_l01Add.f k t756 t759).bind fun t765 => ((spec_l02Make.f k a0_0 t765 t762).bind fun bt768 => (some (bt768.1, bt768.2.1, bt768.2.2)))) else ((spec_l01Cmp.f k t756 t759).bind fun t775 => (if t775 ≥ 0 then ((spec_l01Sub.f k t756 t759).bind fun t776 => ((spec_l02Make.f k a0_0 t776 t762).bind fun bt779 => (some (bt779.1, bt779.2.1, bt779.2.2)))) else ((spec_l01Sub.f k t759 t756).bind fun t786 => ((spec_l02Make.f k a1_0 t786 t762).bind fun bt789 => (some (bt789.1, bt789.2.1, bt789.2.2)))))))))
theorem spec_l02Add.mono : ∀ a0 a1 a2 a3 a4 a5 k, LeO (spec_l02Add.f k a0 a1 a2 a3 a4 a5) (spec_l02Add.f (k + 1) a0 a1 a2 a3 a4 a5) := by
 intro a0 a1 a2 a3 a4 a5 k
 unfold spec_l02Add.f
 repeat' first
   | (with_reducible exact spec_l01Add.mono _ _ _)
   | (with_reducible exact spec_l01Cmp.mono _ _ _)
   | (with_reducible exact spec_l01Mul.mono _ _ _)
   | (with_reducible exact spec_l01Sub.mono _ _ _)
   | (with_reducible exact spec_l02Make.mono _ _ _ _)
   | (with_reducible exact LeO.refl _)
   | (with_reducible exact LeO.none _)
   | (with_reducible refine LeO.ite ?_ ?_)
   | (with_reducible refine LeO.bind ?_ (fun _ => ?_))
   | exact spec_l01Add.mono _ _ _
   | exact spec_l01Cmp.mono _ _ _
   | exact spec_l01Mul.mono _ _ _
   | exact spec_l01Sub.mono _ _ _
   | exact spec_l02Make.mono _ _ _ _
   | exact LeO.none _
   | refine LeO.ite ?_ ?_
   | refine LeO.bind ?_ (fun _ => ?_)
def spec_l02Add.T5 : Bool × List (List Nat × List Nat) := (true, [([], []), ([0], [0]), ([], []), ([], []), ([2, 3], [2, 3]), ([], []), ([1, 4, 5, 4], [1, 4, 5]), ([6, 6, 0, 1, 2, 3, 4, 5, 6], [6])])
def spec_l02Add.B5 : List Nat := [0, 1, 0, 0, 12, 0, 63, 127]
theorem spec_l02Add.tab5 : rtab .any (opsOf Try.f84 5) = spec_l02Add.T5 := by kernel_rfl
theorem spec_l02Add.bits5 : waitsOk spec_l02Add.T5.2 spec_l02Add.B5 = true := by kernel_rfl
def spec_l02Add.T7 : Bool × List (List Nat × List Nat) := (true, [([], []), ([0], [0]), ([], []), ([], []), ([2, 3], [2, 3]), ([], []), ([1, 4, 5, 4], [1, 4, 5]), ([6, 6, 0, 1, 2, 3, 4, 5, 6], [6])])
def spec_l02Add.B7 : List Nat := [0, 1, 0, 0, 12, 0, 63, 127]
theorem spec_l02Add.tab7 : rtab .any (opsOf Try.f84 7) = spec_l02Add.T7 := by kernel_rfl
theorem spec_l02Add.bits7 : waitsOk spec_l02Add.T7.2 spec_l02Add.B7 = true := by kernel_rfl
def spec_l02Add.T8 : Bool × List (List Nat × List Nat) := (true, [([], []), ([0], [0]), ([], []), ([], []), ([2, 3], [2, 3]), ([], []), ([1, 4, 5, 4], [1, 4, 5]), ([6, 6, 0, 1, 2, 3, 4, 5, 6], [6])])
def spec_l02Add.B8 : List Nat := [0, 1, 0, 0, 12, 0, 63, 127]
theorem spec_l02Add.tab8 : rtab .any (opsOf Try.f84 8) = spec_l02Add.T8 := by kernel_rfl
theorem spec_l02Add.bits8 : waitsOk spec_l02Add.T8.2 spec_l02Add.B8 = true := by kernel_rfl
set_option maxHeartbeats 8000000 in
set_option maxRecDepth 100000 in
theorem spec_l02Add.calls (k : Nat) (a0_0 : Bool) (A0_1 : Option Addr) (c0_1 : Nat) (l0_1 : List Int) (A0_2 : Option Addr) (c0_2 : Nat) (l0_2 : List Int) (a1_0 : Bool) (A1_1 : Option Addr) (c1_1 : Nat) (l1_1 : List Int) (A1_2 : Option Addr) (c1_2 : Nat) (l1_2 : List Int) (r1 : Bool) (r2 : List Int) (r3 : List Int) (w : World) (hr0_1 : Kd.C (Kd.int .i64) w A0_1 l0_1.length l0_1) (hc0_1 : l0_1.length ≤ c0_1) (hr0_2 : Kd.C (Kd.int .i64) w A0_2 l0_2.length l0_2) (hc0_2 : l0_2.length ≤ c0_2) (hr1_1 : Kd.C (Kd.int .i64) w A1_1 l1_1.length l1_1) (hc1_1 : l1_1.length ≤ c1_1) (hr1_2 : Kd.C (Kd.int .i64) w A1_2 l1_2.length l1_2) (hc1_2 : l1_2.length ≤ c1_2) (h : spec_l02Add.f k a0_0 l0_1 l0_2 a1_0 l1_1 l1_2 = some (r1, r2, r3)) :
  Calls Try.prog 84 #[.agg #[.bool a0_0, .slice A0_1 l0_1.length c0_1, .slice A0_2 l0_2.length c0_2], .agg #[.bool a1_0, .slice A1_1 l1_1.length c1_1, .slice A1_2 l1_2.length c1_2]] w fun e w' => ∃ v1_ v2_ : Value, e = .returned (.agg #[.bool r1, v1_, v2_]) ∧ Kd.R (Kd.int .i64) 3 w' w.heap.size (fun k_ => some k_ ≠ (v2_ : Value).ownBlock) v1_ r2 ∧ Kd.R (Kd.int .i64) 3 w' w.heap.size (fun k_ => some k_ ≠ (v1_ : Value).ownBlock) v2_ r3 ∧ Below w.heap.size w w' := by
 have hu24 := Try.underlying24
 have HR0_1 := Aside0.mk hr0_1
 have HC0_1 := Aside0.mk hc0_1
 clear hr0_1 hc0_1
 have HR0_2 := Aside0.mk hr0_2
 have HC0_2 := Aside0.mk hc0_2
 clear hr0_2 hc0_2
 have HR1_1 := Aside0.mk hr1_1
 have HC1_1 := Aside0.mk hc1_1
 clear hr1_1 hc1_1
 have HR1_2 := Aside0.mk hr1_2
 have HC1_2 := Aside0.mk hc1_2
 clear hr1_2 hc1_2
 have HB := Aside0.mk (Below.refl w.heap.size w)
 have H : ((spec_l01Mul.f k l0_1 l1_2).bind fun t756 => ((spec_l01Mul.f k l1_1 l0_2).bind fun t759 => ((spec_l01Mul.f k l0_2 l1_2).bind fun t762 => (if (a0_0 == a1_0) = true then ((spec_l01Add.f k t756 t759).bind fun t765 => ((spec_l02Make.f k a0_0 t765 t762).bind fun bt768 => (some (bt768.1, bt768.2.1, bt768.2.2)))) else ((spec_l01Cmp.f k t756 t759).bind fun t775 => (if t775 ≥ 0 then ((spec_l01Sub.f k t756 t759).bind fun t776 => ((spec_l02Make.f k a0_0 t776 t762).bind fun bt779 => (some (bt779.1, bt779.2.1, bt779.2.2)))) else ((spec_l01Sub.f k t759 t756).bind fun t786 => ((spec_l02Make.f k a1_0 t786 t762).bind fun bt789 => (some (bt789.1, bt789.2.1, bt789.2.2)))))))))) = some (r1, r2, r3) := h
 clear h
 replace H := Option.bind_eq_some_iff.mp H
 obtain ⟨t756, A30, H⟩ := H
 replace H : ((spec_l01Mul.f k l1_1 l0_2).bind fun t759 => ((spec_l01Mul.f k l0_2 l1_2).bind fun t762 => (if (a0_0 == a1_0) = true then ((spec_l01Add.f k t756 t759).bind fun t765 => ((spec_l02Make.f k a0_0 t765 t762).bind fun bt768 => (some (bt768.1, bt768.2.1, bt768.2.2)))) else ((spec_l01Cmp.f k t756 t759).bind fun t775 => (if t775 ≥ 0 then ((spec_l01Sub.f k t756 t759).bind fun t776 => ((spec_l02Make.f k a0_0 t776 t762).bind fun bt779 => (some (bt779.1, bt779.2.1, bt779.2.2)))) else ((spec_l01Sub.f k t759 t756).bind fun t786 => ((spec_l02Make.f k a1_0 t786 t762).bind fun bt789 => (some (bt789.1, bt789.2.1, bt789.2.2))))))))) = some (r1, r2, r3) := H
 have A3 := Aside0.mk A30
 clear A30
 replace H := Option.bind_eq_some_iff.mp H
 obtain ⟨t759, A40, H⟩ := H
 replace H : ((spec_l01Mul.f k l0_2 l1_2).bind fun t762 => (if (a0_0 == a1_0) = true then ((spec_l01Add.f k t756 t759).bind fun t765 => ((spec_l02Make.f k a0_0 t765 t762).bind fun bt768 => (some (bt768.1, bt768.2.1, bt768.2.2)))) else ((spec_l01Cmp.f k t756 t759).bind fun t775 => (if t775 ≥ 0 then ((spec_l01Sub.f k t756 t759).bind fun t776 => ((spec_l02Make.f k a0_0 t776 t762).bind fun bt779 => (some (bt779.1, bt779.2.1, bt779.2.2)))) else ((spec_l01Sub.f k t759 t756).bind fun t786 => ((spec_l02Make.f k a1_0 t786 t762).bind fun bt789 => (some (bt789.1, bt789.2.1, bt789.2.2)))))))) = some (r1, r2, r3) := H
 have A4 := Aside0.mk A40
 clear A40
 replace H := Option.bind_eq_some_iff.mp H
 obtain ⟨t762, A50, H⟩ := H
 replace H : (if (a0_0 == a1_0) = true then ((spec_l01Add.f k t756 t759).bind fun t765 => ((spec_l02Make.f k a0_0 t765 t762).bind fun bt768 => (some (bt768.1, bt768.2.1, bt768.2.2)))) else ((spec_l01Cmp.f k t756 t759).bind fun t775 => (if t775 ≥ 0 then ((spec_l01Sub.f k t756 t759).bind fun t776 => ((spec_l02Make.f k a0_0 t776 t762).bind fun bt779 => (some (bt779.1, bt779.2.1, bt779.2.2)))) else ((spec_l01Sub.f k t759 t756).bind fun t786 => ((spec_l02Make.f k a1_0 t786 t762).bind fun bt789 => (some (bt789.1, bt789.2.1, bt789.2.2))))))) = some (r1, r2, r3) := H
 have A5 := Aside0.mk A50
 clear A50
 by_cases c6 : (a0_0 == a1_0) = true
 ·
  rw [if_pos c6] at H
  have c6b0 : (a0_0 == a1_0) = true := c6
  (try (have c6b1 : decide (a0_0 = a1_0) = true := by simpa using c6))
  (try (have c6b2 : (a0_0 == a1_0) = true := by simpa using c6))
  clear c6
  replace H := Option.bind_eq_some_iff.mp H
  obtain ⟨t765, A70, H⟩ := H
  replace H : ((spec_l02Make.f k a0_0 t765 t762).bind fun bt768 => (some (bt768.1, bt768.2.1, bt768.2.2))) = some (r1, r2, r3) := H
  have A7 := Aside0.mk A70
  clear A70
  replace H := Option.bind_eq_some_iff.mp H
  obtain ⟨⟨t768, t769, t772⟩, A80, H⟩ := H
  replace H : (some (t768, t769, t772)) = some (r1, r2, r3) := H
  have A8 := Aside0.mk A80
  clear A80
  simp only [Option.some.injEq, Prod.mk.injEq] at H
  obtain ⟨rfl, rfl, rfl⟩ := H
  go_enter Try.func84, Try.ntmps84
  try go_wp2_with (first | ((with_reducible refine gate_dst (N := 2) rfl ?_); refine box_event ?hg (N := 2) ?hd (cs := #[.bool a0_0, .slice A0_1 l0_1.length c0_1, .slice A0_2 l0_2.length c0_2]) (t := 24) ?hr ?_; (case hd => rfl); (case hg => rfl); (case hr => first | (go_simp; done) | (go_simp; rfl)); intro gb753 hg w9 hbox hb; have n0_ := Aside0.mk (below_step (by repeat (first | (with_reducible first | exact HB.out | apply zzb1 | apply zzb2 | apply zzb3) | exact HB.out)) hb); have n1_ := Aside0.mk (hbox); have n2_ := Aside0.mk ((by rw [hg]; exact (below_size (by repeat (first | (with_reducible first | exact HB.out | apply zzb1 | apply zzb2 | apply zzb3) | exact HB.out))) : w.heap.size ≤ gb753)); have n3_ := Aside0.mk ((by rw [hg]; exact (below_size (by repeat (first | (with_reducible first | exact HB.out | apply zzb1 | apply zzb2 | apply zzb3) | exact HB.out))) : w.heap.size ≤ gb753)); clear HB; have HB := n0_; have BK753 := n1_; have GW753 := n2_; have GE753 := n3_; clear n0_ n1_ n2_ n3_; clear hb hbox hg) | ((with_reducible refine gate_dst (N := 3) rfl ?_); refine box_event ?hg (N := 3) ?hd (cs := #[.bool a1_0, .slice A1_1 l1_1.length c1_1, .slice A1_2 l1_2.length c1_2]) (t := 24) ?hr ?_; (case hd => rfl); (case hg => rfl); (case hr => first | (go_simp; done) | (go_simp; rfl)); intro gb754 hg w10 hbox hb; have n0_ := Aside0.mk (blk_below (g := gb753) (o := .cells #[.bool a0_0, .slice A0_1 l0_1.length c0_1, .slice A0_2 l0_2.length c0_2] 24 (0, 0)) (by (with_reducible repeat (first | refine zzk1 ?_ _ | refine zzk2 ?_ | refine zzk3 ?_ _)); exact BK753.out) hb); have n1_ := Aside0.mk (below_step (by repeat (first | (with_reducible first | exact HB.out | apply zzb1 | apply zzb2 | apply zzb3 | refine below_set ?_ GE753.out) | exact HB.out)) hb); have n2_ := Aside0.mk (hbox); have n3_ := Aside0.mk ((by rw [hg]; exact (below_size (by repeat (first | (with_reducible first | exact HB.out | apply zzb1 | apply zzb2 | apply zzb3 | refine below_set ?_ GE753.out) | exact HB.out))) : w.heap.size ≤ gb754)); have n4_ := Aside0.mk ((by rw [hg]; exact (below_size (by repeat (first | (with_reducible first | exact HB.out | apply zzb1 | apply zzb2 | apply zzb3 | refine below_set ?_ GE753.out) | exact HB.out))) : w.heap.size ≤ gb754)); have n5_ := Aside0.mk ((by rw [hg]; exact Nat.ne_of_lt (blk_lt (g := gb753) (o := .cells #[.bool a0_0, .slice A0_1 l0_1.length c0_1, .slice A0_2 l0_2.length c0_2] 24 (0, 0)) (by (with_reducible repeat (first | refine zzk1 ?_ _ | refine zzk2 ?_ | refine zzk3 ?_ _)); exact BK753.out)) : gb753 ≠ gb754)); have n6_ := Aside0.mk ((by rw [hg]; exact Nat.ne_of_gt (blk_lt (g := gb753) (o := .cells #[.bool a0_0, .slice A0_1 l0_1.length c0_1, .slice A0_2 l0_2.length c0_2] 24 (0, 0)) (by (with_reducible repeat (first | refine zzk1 ?_ _ | refine zzk2 ?_ | refine zzk3 ?_ _)); exact BK753.out)) : gb754 ≠ gb753)); clear BK753; clear HB; have BK753 := n0_; have HB := n1_; have BK754 := n2_; have GW754 := n3_; have GE754 := n4_; have NB753_754 := n5_; have NB754_753 := n6_; clear n0_ n1_ n2_ n3_ n4_ n5_ n6_; clear hb hbox hg) | ((with_reducible refine gate_dst (N := 4) rfl ?_); refine box_event ?hg (N := 4) ?hd (cs := #[.bool false, .slice none 0 0, .slice none 0 0]) (t := 24) ?hr ?_; (case hd => rfl); (case hg => rfl); (case hr => first | (go_simp; done) | (go_simp; rfl)); intro gb755 hg w11 hbox hb; have n0_ := Aside0.mk (blk_below (g := gb753) (o := .cells #[.bool a0_0, .slice A0_1 l0_1.length c0_1, .slice A0_2 l0_2.length c0_2] 24 (0, 0)) (by (with_reducible repeat (first | refine zzk1 ?_ _ | refine zzk2 ?_ | refine zzk3 ?_ _)); exact BK753.out) hb); have n1_ := Aside0.mk (blk_below (g := gb754) (o := .cells #[.bool a1_0, .slice A1_1 l1_1.length c1_1, .slice A1_2 l1_2.length c1_2] 24 (0, 0)) (by (with_reducible repeat (first | refine zzk1 ?_ _ | refine zzk2 ?_ | refine zzk3 ?_ _)); exact BK754.out) hb); have n2_ := Aside0.mk (below_step (by repeat (first | (with_reducible first | exact HB.out | apply zzb1 | apply zzb2 | apply zzb3 | refine below_set ?_ GE753.out | refine below_set ?_ GE754.out) | exact HB.out)) hb); have n3_ := Aside0.mk (hbox); have n4_ := Aside0.mk ((by rw [hg]; exact (below_size (by repeat (first | (with_reducible first | exact HB.out | apply zzb1 | apply zzb2 | apply zzb3 | refine below_set ?_ GE753.out | refine below_set ?_ GE754.out) | exact HB.out))) : w.heap.size ≤ gb755)); have n5_ := Aside0.mk ((by rw [hg]; exact (below_size (by repeat (first | (with_reducible first | exact HB.out | apply zzb1 | apply zzb2 | apply zzb3 | refine below_set ?_ GE753.out | refine below_set ?_ GE754.out) | exact HB.out))) : w.heap.size ≤ gb755)); have n6_ := Aside0.mk ((by rw [hg]; exact Nat.ne_of_lt (blk_lt (g := gb753) (o := .cells #[.bool a0_0, .slice A0_1 l0_1.length c0_1, .slice A0_2 l0_2.length c0_2] 24 (0, 0)) (by (with_reducible repeat (first | refine zzk1 ?_ _ | refine zzk2 ?_ | refine zzk3 ?_ _)); exact BK753.out)) : gb753 ≠ gb755)); have n7_ := Aside0.mk ((by rw [hg]; exact Nat.ne_of_gt (blk_lt (g := gb753) (o := .cells #[.bool a0_0, .slice A0_1 l0_1.length c0_1, .slice A0_2 l0_2.length c0_2] 24 (0, 0)) (by (with_reducible repeat (first | refine zzk1 ?_ _ | refine zzk2 ?_ | refine zzk3 ?_ _)); exact BK753.out)) : gb755 ≠ gb753)); have n8_ := Aside0.mk ((by rw [hg]; exact Nat.ne_of_lt (blk_lt (g := gb754) (o := .cells #[.bool a1_0, .slice A1_1 l1_1.length c1_1, .slice A1_2 l1_2.length c1_2] 24 (0, 0)) (by (with_reducible repeat (first | refine zzk1 ?_ _ | refine zzk2 ?_ | refine zzk3 ?_ _)); exact BK754.out)) : gb754 ≠ gb755)); have n9_ := Aside0.mk ((by rw [hg]; exact Nat.ne_of_gt (blk_lt (g := gb754) (o := .cells #[.bool a1_0, .slice A1_1 l1_1.length c1_1, .slice A1_2 l1_2.length c1_2] 24 (0, 0)) (by (with_reducible repeat (first | refine zzk1 ?_ _ | refine zzk2 ?_ | refine zzk3 ?_ _)); exact BK754.out)) : gb755 ≠ gb754)); clear BK753; clear BK754; clear HB; have BK753 := n0_; have BK754 := n1_; have HB := n2_; have BK755 := n3_; have GW755 := n4_; have GE755 := n5_; have NB753_755 := n6_; have NB755_753 := n7_; have NB754_755 := n8_; have NB755_754 := n9_; clear n0_ n1_ n2_ n3_ n4_ n5_ n6_ n7_ n8_ n9_; clear hb hbox hg; have hnb12 := NB753_754.out; have hnc12 := NB754_753.out; have hnb13 := NB753_755.out; have hnc13 := NB755_753.out; have hcz14_0 : w11.cell? ⟨gb753, 0, none⟩ = some (.bool a0_0) := (blk_cell BK753.out 0).trans rfl; have hcz14_1 : w11.cell? ⟨gb753, 1, none⟩ = some (.slice A0_1 l0_1.length c0_1) := (blk_cell BK753.out 1).trans rfl; have hcz14_2 : w11.cell? ⟨gb753, 2, none⟩ = some (.slice A0_2 l0_2.length c0_2) := (blk_cell BK753.out 2).trans rfl; have hfz14_0 := blk_frozen BK753.out 0; have hfz14_1 := blk_frozen BK753.out 1; have hfz14_2 := blk_frozen BK753.out 2; have hnb15 := NB754_755.out; have hnc15 := NB755_754.out; have hcz16_0 : w11.cell? ⟨gb754, 0, none⟩ = some (.bool a1_0) := (blk_cell BK754.out 0).trans rfl; have hcz16_1 : w11.cell? ⟨gb754, 1, none⟩ = some (.slice A1_1 l1_1.length c1_1) := (blk_cell BK754.out 1).trans rfl; have hcz16_2 : w11.cell? ⟨gb754, 2, none⟩ = some (.slice A1_2 l1_2.length c1_2) := (blk_cell BK754.out 2).trans rfl; have hfz16_0 := blk_frozen BK754.out 0; have hfz16_1 := blk_frozen BK754.out 1; have hfz16_2 := blk_frozen BK754.out 2) | ((with_reducible refine gate_callee (f := 106) rfl ?_); refine goesL_ (some 12) rfl rfl Try.func106 (by kernel_rfl) rfl #[.slice A0_1 l0_1.length c0_1, .slice A1_2 l1_2.length c1_2] rfl (by (try simp only [zz4, zz5, zz6]); first | done | rfl | (simp only [zza, zzb]; rfl)) ?_; (with_reducible refine (spec_l01Mul.calls k _ _ l0_1 _ _ l1_2 t756 _ ?side1 ?side2 ?side3 ?side4 A3.out).mono ?_); (case side1 => repeat (first | exact (Kd.C_below HR0_1.out HB.out) | (with_reducible refine zzC1 ?_ _) | (with_reducible refine zzC2 ?_ _) | (with_reducible refine zzC3 ?_))); (case side2 => exact HC0_1.out); (case side3 => repeat (first | exact (Kd.C_below HR1_2.out HB.out) | (with_reducible refine zzC1 ?_ _) | (with_reducible refine zzC2 ?_ _) | (with_reducible refine zzC3 ?_))); (case side4 => exact HC1_2.out); rintro e w17 ⟨v757, rfl, ho0, hb⟩; refine ⟨_, rfl, ?_⟩; have n0_ := Aside0.mk (Kd.R_lower ho0 (below_size (by repeat (first | (with_reducible first | exact HB.out | apply zzb1 | apply zzb2 | apply zzb3 | refine below_set ?_ GE753.out | refine below_set ?_ GE754.out | refine below_set ?_ GE755.out) | exact HB.out)))); have n1_ := Aside0.mk (blk_below (g := gb753) (o := .cells #[.bool a0_0, .slice A0_1 l0_1.length c0_1, .slice A0_2 l0_2.length c0_2] 24 (0, 0)) (by (with_reducible repeat (first | refine zzk1 ?_ _ | refine zzk2 ?_ | refine zzk3 ?_ _)); exact BK753.out) hb); have n2_ := Aside0.mk (blk_below (g := gb754) (o := .cells #[.bool a1_0, .slice A1_1 l1_1.length c1_1, .slice A1_2 l1_2.length c1_2] 24 (0, 0)) (by (with_reducible repeat (first | refine zzk1 ?_ _ | refine zzk2 ?_ | refine zzk3 ?_ _)); exact BK754.out) hb); have n3_ := Aside0.mk (blk_below (g := gb755) (o := .cells #[.bool false, .slice none 0 0, .slice none 0 0] 24 (0, 0)) (by (with_reducible repeat (first | refine zzk1 ?_ _ | refine zzk2 ?_ | refine zzk3 ?_ _)); exact BK755.out) hb); have n4_ := Aside0.mk (below_step (by repeat (first | (with_reducible first | exact HB.out | apply zzb1 | apply zzb2 | apply zzb3 | refine below_set ?_ GE753.out | refine below_set ?_ GE754.out | refine below_set ?_ GE755.out) | exact HB.out)) hb); clear BK753; clear BK754; clear BK755; clear HB; have HO758 := n0_; have BK753 := n1_; have BK754 := n2_; have BK755 := n3_; have HB := n4_; clear n0_ n1_ n2_ n3_ n4_; (try clear hb); (try clear hb2); (try clear hk); (try clear hi); (try clear ho0); have hcz18_0 : w17.cell? ⟨gb754, 0, none⟩ = some (.bool a1_0) := (blk_cell BK754.out 0).trans rfl; have hcz18_1 : w17.cell? ⟨gb754, 1, none⟩ = some (.slice A1_1 l1_1.length c1_1) := (blk_cell BK754.out 1).trans rfl; have hcz18_2 : w17.cell? ⟨gb754, 2, none⟩ = some (.slice A1_2 l1_2.length c1_2) := (blk_cell BK754.out 2).trans rfl; have hfz18_0 := blk_frozen BK754.out 0; have hfz18_1 := blk_frozen BK754.out 1; have hfz18_2 := blk_frozen BK754.out 2; have hcz19_0 : w17.cell? ⟨gb753, 0, none⟩ = some (.bool a0_0) := (blk_cell BK753.out 0).trans rfl; have hcz19_1 : w17.cell? ⟨gb753, 1, none⟩ = some (.slice A0_1 l0_1.length c0_1) := (blk_cell BK753.out 1).trans rfl; have hcz19_2 : w17.cell? ⟨gb753, 2, none⟩ = some (.slice A0_2 l0_2.length c0_2) := (blk_cell BK753.out 2).trans rfl; have hfz19_0 := blk_frozen BK753.out 0; have hfz19_1 := blk_frozen BK753.out 1; have hfz19_2 := blk_frozen BK753.out 2) | ((with_reducible refine gate_callee (f := 106) rfl ?_); refine goesL_ (some 17) rfl rfl Try.func106 (by kernel_rfl) rfl #[.slice A1_1 l1_1.length c1_1, .slice A0_2 l0_2.length c0_2] rfl (by (try simp only [zz4, zz5, zz6]); first | done | rfl | (simp only [zza, zzb]; rfl)) ?_; (with_reducible refine (spec_l01Mul.calls k _ _ l1_1 _ _ l0_2 t759 _ ?side1 ?side2 ?side3 ?side4 A4.out).mono ?_); (case side1 => repeat (first | exact (Kd.C_below HR1_1.out HB.out) | (with_reducible refine zzC1 ?_ _) | (with_reducible refine zzC2 ?_ _) | (with_reducible refine zzC3 ?_))); (case side2 => exact HC1_1.out); (case side3 => repeat (first | exact (Kd.C_below HR0_2.out HB.out) | (with_reducible refine zzC1 ?_ _) | (with_reducible refine zzC2 ?_ _) | (with_reducible refine zzC3 ?_))); (case side4 => exact HC0_2.out); rintro e w20 ⟨v760, rfl, ho0, hb⟩; refine ⟨_, rfl, ?_⟩; have n0_ := Aside0.mk (Kd.R_elder' (by (with_reducible repeat (first | apply zzR1 | apply zzR2 | apply zzR3)); exact HO758.out) (Kd.R_base ho0) hb); have n1_ := Aside0.mk (Kd.R_lower (Kd.R_new' ho0 (Kd.R_lt (by (with_reducible repeat (first | apply zzR1 | apply zzR2 | apply zzR3)); exact HO758.out))) (below_size (by repeat (first | (with_reducible first | exact HB.out | apply zzb1 | apply zzb2 | apply zzb3 | refine below_set ?_ GE753.out | refine below_set ?_ GE754.out | refine below_set ?_ GE755.out) | exact HB.out)))); have n2_ := Aside0.mk (blk_below (g := gb753) (o := .cells #[.bool a0_0, .slice A0_1 l0_1.length c0_1, .slice A0_2 l0_2.length c0_2] 24 (0, 0)) (by (with_reducible repeat (first | refine zzk1 ?_ _ | refine zzk2 ?_ | refine zzk3 ?_ _)); exact BK753.out) hb); have n3_ := Aside0.mk (blk_below (g := gb754) (o := .cells #[.bool a1_0, .slice A1_1 l1_1.length c1_1, .slice A1_2 l1_2.length c1_2] 24 (0, 0)) (by (with_reducible repeat (first | refine zzk1 ?_ _ | refine zzk2 ?_ | refine zzk3 ?_ _)); exact BK754.out) hb); have n4_ := Aside0.mk (blk_below (g := gb755) (o := .cells #[.bool false, .slice none 0 0, .slice none 0 0] 24 (0, 0)) (by (with_reducible repeat (first | refine zzk1 ?_ _ | refine zzk2 ?_ | refine zzk3 ?_ _)); exact BK755.out) hb); have n5_ := Aside0.mk (below_step (by repeat (first | (with_reducible first | exact HB.out | apply zzb1 | apply zzb2 | apply zzb3 | refine below_set ?_ GE753.out | refine below_set ?_ GE754.out | refine below_set ?_ GE755.out) | exact HB.out)) hb); clear HO758; clear BK753; clear BK754; clear BK755; clear HB; have HO758 := n0_; have HO761 := n1_; have BK753 := n2_; have BK754 := n3_; have BK755 := n4_; have HB := n5_; clear n0_ n1_ n2_ n3_ n4_ n5_; (try clear hb); (try clear hb2); (try clear hk); (try clear hi); (try clear ho0); have hcz21_0 : w20.cell? ⟨gb753, 0, none⟩ = some (.bool a0_0) := (blk_cell BK753.out 0).trans rfl; have hcz21_1 : w20.cell? ⟨gb753, 1, none⟩ = some (.slice A0_1 l0_1.length c0_1) := (blk_cell BK753.out 1).trans rfl; have hcz21_2 : w20.cell? ⟨gb753, 2, none⟩ = some (.slice A0_2 l0_2.length c0_2) := (blk_cell BK753.out 2).trans rfl; have hfz21_0 := blk_frozen BK753.out 0; have hfz21_1 := blk_frozen BK753.out 1; have hfz21_2 := blk_frozen BK753.out 2; have hcz22_0 : w20.cell? ⟨gb754, 0, none⟩ = some (.bool a1_0) := (blk_cell BK754.out 0).trans rfl; have hcz22_1 : w20.cell? ⟨gb754, 1, none⟩ = some (.slice A1_1 l1_1.length c1_1) := (blk_cell BK754.out 1).trans rfl; have hcz22_2 : w20.cell? ⟨gb754, 2, none⟩ = some (.slice A1_2 l1_2.length c1_2) := (blk_cell BK754.out 2).trans rfl; have hfz22_0 := blk_frozen BK754.out 0; have hfz22_1 := blk_frozen BK754.out 1; have hfz22_2 := blk_frozen BK754.out 2) | ((with_reducible refine gate_callee (f := 106) rfl ?_); refine goesL_ (some 22) rfl rfl Try.func106 (by kernel_rfl) rfl #[.slice A0_2 l0_2.length c0_2, .slice A1_2 l1_2.length c1_2] rfl (by (try simp only [zz4, zz5, zz6]); first | done | rfl | (simp only [zza, zzb]; rfl)) ?_; (with_reducible refine (spec_l01Mul.calls k _ _ l0_2 _ _ l1_2 t762 _ ?side1 ?side2 ?side3 ?side4 A5.out).mono ?_); (case side1 => repeat (first | exact (Kd.C_below HR0_2.out HB.out) | (with_reducible refine zzC1 ?_ _) | (with_reducible refine zzC2 ?_ _) | (with_reducible refine zzC3 ?_))); (case side2 => exact HC0_2.out); (case side3 => repeat (first | exact (Kd.C_below HR1_2.out HB.out) | (with_reducible refine zzC1 ?_ _) | (with_reducible refine zzC2 ?_ _) | (with_reducible refine zzC3 ?_))); (case side4 => exact HC1_2.out); rintro e w23 ⟨v763, rfl, ho0, hb⟩; refine ⟨_, rfl, ?_⟩; have n0_ := Aside0.mk (Kd.R_elder' (by (with_reducible repeat (first | apply zzR1 | apply zzR2 | apply zzR3)); exact HO758.out) (Kd.R_base ho0) hb); have n1_ := Aside0.mk (Kd.R_elder' (by (with_reducible repeat (first | apply zzR1 | apply zzR2 | apply zzR3)); exact HO761.out) (Kd.R_base ho0) hb); have n2_ := Aside0.mk (Kd.R_lower (Kd.R_new' (Kd.R_new' ho0 (Kd.R_lt (by (with_reducible repeat (first | apply zzR1 | apply zzR2 | apply zzR3)); exact HO758.out))) (Kd.R_lt (by (with_reducible repeat (first | apply zzR1 | apply zzR2 | apply zzR3)); exact HO761.out))) (below_size (by repeat (first | (with_reducible first | exact HB.out | apply zzb1 | apply zzb2 | apply zzb3 | refine below_set ?_ GE753.out | refine below_set ?_ GE754.out | refine below_set ?_ GE755.out) | exact HB.out)))); have n3_ := Aside0.mk (blk_below (g := gb753) (o := .cells #[.bool a0_0, .slice A0_1 l0_1.length c0_1, .slice A0_2 l0_2.length c0_2] 24 (0, 0)) (by (with_reducible repeat (first | refine zzk1 ?_ _ | refine zzk2 ?_ | refine zzk3 ?_ _)); exact BK753.out) hb); have n4_ := Aside0.mk (blk_below (g := gb754) (o := .cells #[.bool a1_0, .slice A1_1 l1_1.length c1_1, .slice A1_2 l1_2.length c1_2] 24 (0, 0)) (by (with_reducible repeat (first | refine zzk1 ?_ _ | refine zzk2 ?_ | refine zzk3 ?_ _)); exact BK754.out) hb); have n5_ := Aside0.mk (blk_below (g := gb755) (o := .cells #[.bool false, .slice none 0 0, .slice none 0 0] 24 (0, 0)) (by (with_reducible repeat (first | refine zzk1 ?_ _ | refine zzk2 ?_ | refine zzk3 ?_ _)); exact BK755.out) hb); have n6_ := Aside0.mk (below_step (by repeat (first | (with_reducible first | exact HB.out | apply zzb1 | apply zzb2 | apply zzb3 | refine below_set ?_ GE753.out | refine below_set ?_ GE754.out | refine below_set ?_ GE755.out) | exact HB.out)) hb); clear HO758; clear HO761; clear BK753; clear BK754; clear BK755; clear HB; have HO758 := n0_; have HO761 := n1_; have HO764 := n2_; have BK753 := n3_; have BK754 := n4_; have BK755 := n5_; have HB := n6_; clear n0_ n1_ n2_ n3_ n4_ n5_ n6_; (try clear hb); (try clear hb2); (try clear hk); (try clear hi); (try clear ho0); have hcz24_0 : w23.cell? ⟨gb753, 0, none⟩ = some (.bool a0_0) := (blk_cell BK753.out 0).trans rfl; have hcz24_1 : w23.cell? ⟨gb753, 1, none⟩ = some (.slice A0_1 l0_1.length c0_1) := (blk_cell BK753.out 1).trans rfl; have hcz24_2 : w23.cell? ⟨gb753, 2, none⟩ = some (.slice A0_2 l0_2.length c0_2) := (blk_cell BK753.out 2).trans rfl; have hfz24_0 := blk_frozen BK753.out 0; have hfz24_1 := blk_frozen BK753.out 1; have hfz24_2 := blk_frozen BK753.out 2; have hcz25_0 : w23.cell? ⟨gb754, 0, none⟩ = some (.bool a1_0) := (blk_cell BK754.out 0).trans rfl; have hcz25_1 : w23.cell? ⟨gb754, 1, none⟩ = some (.slice A1_1 l1_1.length c1_1) := (blk_cell BK754.out 1).trans rfl; have hcz25_2 : w23.cell? ⟨gb754, 2, none⟩ = some (.slice A1_2 l1_2.length c1_2) := (blk_cell BK754.out 2).trans rfl; have hfz25_0 := blk_frozen BK754.out 0; have hfz25_1 := blk_frozen BK754.out 1; have hfz25_2 := blk_frozen BK754.out 2))
  have n0_ := Aside0.mk (Kd.R_drew HO758.out)
  have n1_ := Aside0.mk (Kd.R_drew HO761.out)
  have n2_ := Aside0.mk (Kd.R_drew HO764.out)
  have n3_ := Aside0.mk (blk_drew BK753.out)
  have n4_ := Aside0.mk (blk_drew BK754.out)
  have n5_ := Aside0.mk (blk_drew BK755.out)
  have n6_ := Aside0.mk (below_drew1 HB.out)
  clear HO758
  clear HO761
  clear HO764
  clear BK753
  clear BK754
  clear BK755
  clear HB
  have HO758 := n0_
  have HO761 := n1_
  have HO764 := n2_
  have BK753 := n3_
  have BK754 := n4_
  have BK755 := n5_
  have HB := n6_
  clear n0_ n1_ n2_ n3_ n4_ n5_ n6_
  obtain ⟨Ao27, co27, eo27⟩ := Kd.R_slice HO758.out
  (first | subst eo27 | (injection eo27 with f1_ f2_ f3_; have f4_ := f1_.symm; have f5_ := f3_.symm; clear f1_ f2_ f3_; subst f4_; subst f5_))
  obtain ⟨Ao28, co28, eo28⟩ := Kd.R_slice HO761.out
  (first | subst eo28 | (injection eo28 with f1_ f2_ f3_; have f4_ := f1_.symm; have f5_ := f3_.symm; clear f1_ f2_ f3_; subst f4_; subst f5_))
  refine start_ (n := 8) (S := fun w' => w'.cell? ⟨gb753, 0, none⟩ = some (.bool a0_0) ∧ w'.cell? ⟨gb753, 1, none⟩ = some (.slice A0_1 l0_1.length c0_1) ∧ w'.cell? ⟨gb753, 2, none⟩ = some (.slice A0_2 l0_2.length c0_2)) (ds := []) #[false, false, false, false, false, false, false, false] (by kernel_rfl) rfl rfl ⟨(blk_cell BK753.out 0).trans rfl, (blk_cell BK753.out 1).trans rfl, (blk_cell BK753.out 2).trans rfl⟩ (fun hHeld => ?_); refine with_tabW spec_l02Add.tab5 spec_l02Add.bits5 (fun HT_ HW_ => ?_)
  generalize w23.drew = w26 at HO758 HO761 HO764 BK753 BK754 BK755 HB hHeld ⊢
  refine pure_ (i := 0) (N := some 28) (v := ?_) (a' := ?_) #[true, false, false, false, false, false, false, false] rfl rfl (any_of HT_.out (by kernel_rfl)) (fun _ _ _ h => h) (Or.inl ⟨by rfl, ?_⟩) ?_ ?_
  rotate_left
  ·
   intro w'
   go_simp
   with_reducible rfl
  rotate_left
  ·
   simp only [Act.put, zz7, zz8, zz9, i64_w, i32_w]
   rfl
  refine pure_ (i := 2) (N := some 30) (v := ?_) (a' := ?_) #[true, false, true, false, false, false, false, false] rfl rfl (any_of HT_.out (by kernel_rfl)) (fun _ _ _ h => h) (Or.inl ⟨by rfl, ?_⟩) ?_ ?_
  rotate_left
  ·
   intro w'
   go_simp
   with_reducible rfl
  rotate_left
  ·
   simp only [Act.put, zz7, zz8, zz9, i64_w, i32_w]
   rfl
  refine pure_ (i := 3) (N := some 31) (v := ?_) (a' := ?_) #[true, false, true, true, false, false, false, false] rfl rfl (any_of HT_.out (by kernel_rfl)) (fun _ _ _ h => h) (Or.inl ⟨by rfl, ?_⟩) ?_ ?_
  rotate_left
  ·
   intro w'
   go_simp
   with_reducible rfl
  rotate_left
  ·
   simp only [Act.put, zz7, zz8, zz9, i64_w, i32_w]
   rfl
  refine pure_ (i := 5) (N := some 33) (v := ?_) (a' := ?_) #[true, false, true, true, false, true, false, false] rfl rfl (any_of HT_.out (by kernel_rfl)) (fun _ _ _ h => h) (Or.inl ⟨by rfl, ?_⟩) ?_ ?_
  rotate_left
  ·
   intro w'
   go_simp
   with_reducible rfl
  rotate_left
  ·
   simp only [Act.put, zz7, zz8, zz9, i64_w, i32_w]
   rfl
  refine take_ (i := 1) (N := some 29) (v := ?_) (a' := ?_) #[true, true, true, true, false, true, false, false] rfl rfl (take_ofW HT_.out HW_.out (by kernel_rfl)) (fun _ _ _ h => h) (Or.inl ⟨by rfl, ?_⟩) hHeld ?_ ?_
  rotate_left
  ·
   rintro w' ⟨s0, s1, s2⟩
   go_simp
   with_reducible rfl
  rotate_left
  ·
   simp only [Act.put, zz7, zz8, zz9, i64_w, i32_w]
   rfl
  refine one_ (i := 4) (N := some 32) #[true, true, true, true, true, true, false, false] rfl rfl (one_of HT_.out (by kernel_rfl)) (by decide) (fun K hK => ?_)
  refine goes_ Try.func107 (by kernel_rfl) rfl #[.slice Ao27 t756.length co27, .slice Ao28 t759.length co28] (by rfl) rfl rfl (by (try simp only [zz4, zz5, zz6]); first | done | rfl | (simp only [zza, zzb]; rfl)) ?_
  with_reducible refine (spec_l01Add.calls k _ _ t756 _ _ t759 t765 _ ?side1 ?side2 ?side3 ?side4 A7.out).mono ?_
  (case side1 => repeat (first | exact (Kd.R_reads' HO758.out).2.2 | (with_reducible refine zzC1 ?_ _) | (with_reducible refine zzC2 ?_ _) | (with_reducible refine zzC3 ?_)))
  (case side2 => exact (Kd.R_reads' HO758.out).2.1)
  (case side3 => repeat (first | exact (Kd.R_reads' HO761.out).2.2 | (with_reducible refine zzC1 ?_ _) | (with_reducible refine zzC2 ?_ _) | (with_reducible refine zzC3 ?_)))
  (case side4 => exact (Kd.R_reads' HO761.out).2.1)
  rintro e w29 ⟨v766, rfl, ho0, hb⟩
  refine ⟨_, rfl, ?_⟩
  have n0_ := Aside0.mk (Kd.R_elder' (by (with_reducible repeat (first | apply zzR1 | apply zzR2 | apply zzR3)); exact HO758.out) (Kd.R_base ho0) hb)
  have n1_ := Aside0.mk (Kd.R_elder' (by (with_reducible repeat (first | apply zzR1 | apply zzR2 | apply zzR3)); exact HO761.out) (Kd.R_base ho0) hb)
  have n2_ := Aside0.mk (Kd.R_elder' (by (with_reducible repeat (first | apply zzR1 | apply zzR2 | apply zzR3)); exact HO764.out) (Kd.R_base ho0) hb)
  have n3_ := Aside0.mk (Kd.R_lower (Kd.R_new' (Kd.R_new' (Kd.R_new' ho0 (Kd.R_lt (by (with_reducible repeat (first | apply zzR1 | apply zzR2 | apply zzR3)); exact HO758.out))) (Kd.R_lt (by (with_reducible repeat (first | apply zzR1 | apply zzR2 | apply zzR3)); exact HO761.out))) (Kd.R_lt (by (with_reducible repeat (first | apply zzR1 | apply zzR2 | apply zzR3)); exact HO764.out))) (below_size (by repeat (first | (with_reducible first | exact HB.out | apply zzb1 | apply zzb2 | apply zzb3 | refine below_set ?_ GE753.out | refine below_set ?_ GE754.out | refine below_set ?_ GE755.out) | exact HB.out))))
  have n4_ := Aside0.mk (blk_below (g := gb753) (o := .cells #[.bool a0_0, .slice A0_1 l0_1.length c0_1, .slice A0_2 l0_2.length c0_2] 24 (0, 0)) (by (with_reducible repeat (first | refine zzk1 ?_ _ | refine zzk2 ?_ | refine zzk3 ?_ _)); exact BK753.out) hb)
  have n5_ := Aside0.mk (blk_below (g := gb754) (o := .cells #[.bool a1_0, .slice A1_1 l1_1.length c1_1, .slice A1_2 l1_2.length c1_2] 24 (0, 0)) (by (with_reducible repeat (first | refine zzk1 ?_ _ | refine zzk2 ?_ | refine zzk3 ?_ _)); exact BK754.out) hb)
  have n6_ := Aside0.mk (blk_below (g := gb755) (o := .cells #[.bool false, .slice none 0 0, .slice none 0 0] 24 (0, 0)) (by (with_reducible repeat (first | refine zzk1 ?_ _ | refine zzk2 ?_ | refine zzk3 ?_ _)); exact BK755.out) hb)
  have n7_ := Aside0.mk (below_step (by repeat (first | (with_reducible first | exact HB.out | apply zzb1 | apply zzb2 | apply zzb3 | refine below_set ?_ GE753.out | refine below_set ?_ GE754.out | refine below_set ?_ GE755.out) | exact HB.out)) hb)
  clear HO758
  clear HO761
  clear HO764
  clear BK753
  clear BK754
  clear BK755
  clear HB
  have HO758 := n0_
  have HO761 := n1_
  have HO764 := n2_
  have HO767 := n3_
  have BK753 := n4_
  have BK754 := n5_
  have BK755 := n6_
  have HB := n7_
  clear n0_ n1_ n2_ n3_ n4_ n5_ n6_ n7_
  (try clear hb)
  (try clear hb2)
  (try clear hk)
  (try clear hi)
  (try clear ho0)
  obtain ⟨Ao30, co30, eo30⟩ := Kd.R_slice HO767.out
  (first | subst eo30 | (injection eo30 with f1_ f2_ f3_; have f4_ := f1_.symm; have f5_ := f3_.symm; clear f1_ f2_ f3_; subst f4_; subst f5_))
  obtain ⟨Ao31, co31, eo31⟩ := Kd.R_slice HO764.out
  (first | subst eo31 | (injection eo31 with f1_ f2_ f3_; have f4_ := f1_.symm; have f5_ := f3_.symm; clear f1_ f2_ f3_; subst f4_; subst f5_))
  refine hK.out _ _ ⟨(blk_cell BK753.out 0).trans rfl, (blk_cell BK753.out 1).trans rfl, (blk_cell BK753.out 2).trans rfl⟩ (fun hHeld => ?_)
  clear hK K
  refine norm_ (a' := ?_) ?_ ?_
  rotate_left
  ·
   show Act.put _ (some 32) _ = _
   simp only [Act.put, zz7, zz8, zz9, i64_w, i32_w]
   rfl
  refine one_ (i := 6) (N := some 34) #[true, true, true, true, true, true, true, false] rfl rfl (one_of HT_.out (by kernel_rfl)) (by decide) (fun K hK => ?_)
  refine goes_ Try.func47 (by kernel_rfl) rfl #[.bool a0_0, .slice Ao30 t765.length co30, .slice Ao31 t762.length co31] (by rfl) rfl rfl (by (try simp only [zz4, zz5, zz6]); first | done | rfl | (simp only [zza, zzb]; rfl)) ?_
  with_reducible refine (spec_l02Make.calls k a0_0 _ _ t765 _ _ t762 t768 t769 t772 _ ?side1 ?side2 ?side3 ?side4 A8.out).mono ?_
  (case side1 => repeat (first | exact (Kd.R_reads' HO767.out).2.2 | (with_reducible refine zzC1 ?_ _) | (with_reducible refine zzC2 ?_ _) | (with_reducible refine zzC3 ?_)))
  (case side2 => exact (Kd.R_reads' HO767.out).2.1)
  (case side3 => repeat (first | exact (Kd.R_reads' HO764.out).2.2 | (with_reducible refine zzC1 ?_ _) | (with_reducible refine zzC2 ?_ _) | (with_reducible refine zzC3 ?_)))
  (case side4 => exact (Kd.R_reads' HO764.out).2.1)
  rintro e w32 ⟨v770, v773, rfl, ho0, ho1, hb⟩
  refine ⟨_, rfl, ?_⟩
  have n0_ := Aside0.mk (Kd.R_mono (Kd.R_told (Kd.R_told (Kd.R_old (by (with_reducible repeat (first | apply zzR1 | apply zzR2 | apply zzR3)); exact HO758.out) hb) (Kd.R_base ho0)) (Kd.R_base ho1)) (fun _ h_ => h_.1))
  have n1_ := Aside0.mk (Kd.R_mono (Kd.R_told (Kd.R_told (Kd.R_old (by (with_reducible repeat (first | apply zzR1 | apply zzR2 | apply zzR3)); exact HO761.out) hb) (Kd.R_base ho0)) (Kd.R_base ho1)) (fun _ h_ => h_.1))
  have n2_ := Aside0.mk (Kd.R_mono (Kd.R_told (Kd.R_told (Kd.R_old (by (with_reducible repeat (first | apply zzR1 | apply zzR2 | apply zzR3)); exact HO764.out) hb) (Kd.R_base ho0)) (Kd.R_base ho1)) (fun _ h_ => h_.1))
  have n3_ := Aside0.mk (Kd.R_mono (Kd.R_told (Kd.R_told (Kd.R_old (by (with_reducible repeat (first | apply zzR1 | apply zzR2 | apply zzR3)); exact HO767.out) hb) (Kd.R_base ho0)) (Kd.R_base ho1)) (fun _ h_ => h_.1))
  have n4_ := Aside0.mk (Kd.R_lower (Kd.R_new' (Kd.R_new' (Kd.R_new' (Kd.R_new' ho0 (Kd.R_lt (by (with_reducible repeat (first | apply zzR1 | apply zzR2 | apply zzR3)); exact HO758.out))) (Kd.R_lt (by (with_reducible repeat (first | apply zzR1 | apply zzR2 | apply zzR3)); exact HO761.out))) (Kd.R_lt (by (with_reducible repeat (first | apply zzR1 | apply zzR2 | apply zzR3)); exact HO764.out))) (Kd.R_lt (by (with_reducible repeat (first | apply zzR1 | apply zzR2 | apply zzR3)); exact HO767.out))) (below_size (by repeat (first | (with_reducible first | exact HB.out | apply zzb1 | apply zzb2 | apply zzb3 | refine below_set ?_ GE753.out | refine below_set ?_ GE754.out | refine below_set ?_ GE755.out) | exact HB.out))))
  have n5_ := Aside0.mk (Kd.R_lower (Kd.R_new' (Kd.R_new' (Kd.R_new' (Kd.R_new' ho1 (Kd.R_lt (by (with_reducible repeat (first | apply zzR1 | apply zzR2 | apply zzR3)); exact HO758.out))) (Kd.R_lt (by (with_reducible repeat (first | apply zzR1 | apply zzR2 | apply zzR3)); exact HO761.out))) (Kd.R_lt (by (with_reducible repeat (first | apply zzR1 | apply zzR2 | apply zzR3)); exact HO764.out))) (Kd.R_lt (by (with_reducible repeat (first | apply zzR1 | apply zzR2 | apply zzR3)); exact HO767.out))) (below_size (by repeat (first | (with_reducible first | exact HB.out | apply zzb1 | apply zzb2 | apply zzb3 | refine below_set ?_ GE753.out | refine below_set ?_ GE754.out | refine below_set ?_ GE755.out) | exact HB.out))))
  have n6_ := Aside0.mk (blk_below (g := gb753) (o := .cells #[.bool a0_0, .slice A0_1 l0_1.length c0_1, .slice A0_2 l0_2.length c0_2] 24 (0, 0)) (by (with_reducible repeat (first | refine zzk1 ?_ _ | refine zzk2 ?_ | refine zzk3 ?_ _)); exact BK753.out) hb)
  have n7_ := Aside0.mk (blk_below (g := gb754) (o := .cells #[.bool a1_0, .slice A1_1 l1_1.length c1_1, .slice A1_2 l1_2.length c1_2] 24 (0, 0)) (by (with_reducible repeat (first | refine zzk1 ?_ _ | refine zzk2 ?_ | refine zzk3 ?_ _)); exact BK754.out) hb)
  have n8_ := Aside0.mk (blk_below (g := gb755) (o := .cells #[.bool false, .slice none 0 0, .slice none 0 0] 24 (0, 0)) (by (with_reducible repeat (first | refine zzk1 ?_ _ | refine zzk2 ?_ | refine zzk3 ?_ _)); exact BK755.out) hb)
  have n9_ := Aside0.mk (below_step (by repeat (first | (with_reducible first | exact HB.out | apply zzb1 | apply zzb2 | apply zzb3 | refine below_set ?_ GE753.out | refine below_set ?_ GE754.out | refine below_set ?_ GE755.out) | exact HB.out)) hb)
  clear HO758
  clear HO761
  clear HO764
  clear HO767
  clear BK753
  clear BK754
  clear BK755
  clear HB
  have HO758 := n0_
  have HO761 := n1_
  have HO764 := n2_
  have HO767 := n3_
  have HO771 := n4_
  have HO774 := n5_
  have BK753 := n6_
  have BK754 := n7_
  have BK755 := n8_
  have HB := n9_
  clear n0_ n1_ n2_ n3_ n4_ n5_ n6_ n7_ n8_ n9_
  (try clear hb)
  (try clear hb2)
  (try clear hk)
  (try clear hi)
  (try clear ho0)
  (try clear ho1)
  obtain ⟨Ao34, co34, eo34⟩ := Kd.R_slice HO771.out
  (first | subst eo34 | (injection eo34 with f1_ f2_ f3_; have f4_ := f1_.symm; have f5_ := f3_.symm; clear f1_ f2_ f3_; subst f4_; subst f5_))
  obtain ⟨Ao36, co36, eo36⟩ := Kd.R_slice HO774.out
  (first | subst eo36 | (injection eo36 with f1_ f2_ f3_; have f4_ := f1_.symm; have f5_ := f3_.symm; clear f1_ f2_ f3_; subst f4_; subst f5_))
  refine hK.out _ _ ⟨(blk_cell BK753.out 0).trans rfl, (blk_cell BK753.out 1).trans rfl, (blk_cell BK753.out 2).trans rfl⟩ (fun hHeld => ?_)
  clear hK K
  refine norm_ (a' := ?_) ?_ ?_
  rotate_left
  ·
   show Act.put _ (some 34) _ = _
   simp only [Act.put, zz7, zz8, zz9, i64_w, i32_w]
   rfl
  refine one_ (i := 7) (N := none) #[true, true, true, true, true, true, true, true] rfl rfl (one_of HT_.out (by kernel_rfl)) (by decide) (fun K hK => ?_)
  have hs33 : w32.cell? ⟨gb755, 0, none⟩ = some (.bool false) := (blk_cell BK755.out 0).trans rfl
  have hfs33 := blk_frozen BK755.out 0
  have hns33_0 := NB753_755.out
  have hns33_1 := NB754_755.out
  have hms33_0 := NB755_753.out
  have hms33_1 := NB755_754.out
  have hs35 : w32.cell? ⟨gb755, 1, none⟩ = some (.slice none 0 0) := (blk_cell BK755.out 1).trans rfl
  have hfs35 := blk_frozen BK755.out 1
  have hns35_0 := NB753_755.out
  have hns35_1 := NB754_755.out
  have hms35_0 := NB755_753.out
  have hms35_1 := NB755_754.out
  have hs37 : w32.cell? ⟨gb755, 2, none⟩ = some (.slice none 0 0) := (blk_cell BK755.out 2).trans rfl
  have hfs37 := blk_frozen BK755.out 2
  have hns37_0 := NB753_755.out
  have hns37_1 := NB754_755.out
  have hms37_0 := NB755_753.out
  have hms37_1 := NB755_754.out
  refine skip_ (w1 := ?_) (by rfl) rfl ?_ ?_
  rotate_left
  ·
   go_simp
   rfl
  refine hK.out _ _ ⟨((cell_far (p := ⟨gb755, _, none⟩) NB753_755.out _).trans (((cell_far (p := ⟨gb755, _, none⟩) NB753_755.out _).trans (((cell_far (p := ⟨gb755, _, none⟩) NB753_755.out _).trans (hHeld.1)))))), ((cell_far (p := ⟨gb755, _, none⟩) NB753_755.out _).trans (((cell_far (p := ⟨gb755, _, none⟩) NB753_755.out _).trans (((cell_far (p := ⟨gb755, _, none⟩) NB753_755.out _).trans (hHeld.2.1)))))), ((cell_far (p := ⟨gb755, _, none⟩) NB753_755.out _).trans (((cell_far (p := ⟨gb755, _, none⟩) NB753_755.out _).trans (((cell_far (p := ⟨gb755, _, none⟩) NB753_755.out _).trans (hHeld.2.2))))))⟩ (fun hHeld => ?_)
  clear hK K
  refine done_ (done_of HT_.out (by kernel_rfl)) ?_
  try go_wp2
  refine bodyPost_ret (results_cell_row rfl _ _ gb755 24 #[.bool t768, .slice Ao34 t769.length co34, .slice Ao36 t772.length co36] (0, 0) _ rfl (by (with_reducible repeat (first | refine zzk1 ?_ _ | refine zzk2 ?_ | refine zzk3 ?_ _)); refine blk_put (cs := #[.bool t768, .slice Ao34 t769.length co34, .slice none 0 0]) ?_ 2 _ rfl; (with_reducible repeat (first | refine zzk1 ?_ _ | refine zzk2 ?_ | refine zzk3 ?_ _)); refine blk_put (cs := #[.bool t768, .slice none 0 0, .slice none 0 0]) ?_ 1 _ rfl; (with_reducible repeat (first | refine zzk1 ?_ _ | refine zzk2 ?_ | refine zzk3 ?_ _)); refine blk_put (cs := #[.bool false, .slice none 0 0, .slice none 0 0]) ?_ 0 _ rfl; (with_reducible repeat (first | refine zzk1 ?_ _ | refine zzk2 ?_ | refine zzk3 ?_ _)); exact BK755.out) Try.underlying24 rfl (by kernel_rfl)) rfl ?_
  exact ⟨_, _, by first | rfl | (simp [errW_none, errW_some] <;> rfl) | (simp [*, errW_none, errW_some] <;> rfl), by (with_reducible repeat (first | apply zzR1 | apply zzR2 | apply zzR3)); exact Kd.R_mono (Kd.R_far (p := ⟨gb755, 2, none⟩) (Kd.R_far (p := ⟨gb755, 1, none⟩) (Kd.R_far (p := ⟨gb755, 0, none⟩) (Kd.R_types HO771.out BK755.out (by decide)) (fun _ hk => hk.2) (.bool t768)) (fun _ hk => hk.2) (.slice Ao34 t769.length co34)) (fun _ hk => hk.2) (.slice Ao36 t772.length co36)) (fun _ hk => hk.1.1.1.1.1), by (with_reducible repeat (first | apply zzR1 | apply zzR2 | apply zzR3)); exact Kd.R_mono (Kd.R_far (p := ⟨gb755, 2, none⟩) (Kd.R_far (p := ⟨gb755, 1, none⟩) (Kd.R_far (p := ⟨gb755, 0, none⟩) (Kd.R_types HO774.out BK755.out (by decide)) (fun _ hk => hk.2) (.bool t768)) (fun _ hk => hk.2) (.slice Ao34 t769.length co34)) (fun _ hk => hk.2) (.slice Ao36 t772.length co36)) (fun _ hk => hk.1.1.1.1.1), by repeat (first | (with_reducible first | exact HB.out | apply zzb1 | apply zzb2 | apply zzb3 | refine below_set ?_ GE753.out | refine below_set ?_ GE754.out | refine below_set ?_ GE755.out) | exact HB.out)⟩
 ·
  rw [if_neg c6] at H
  have c6b0 : (a0_0 == a1_0) = false := by simpa using c6
  (try (have c6b1 : decide (a0_0 = a1_0) = false := by simpa using c6))
  (try (have c6b2 : (a0_0 == a1_0) = false := by simpa using c6))
  (try (have c6b3 : ¬ (a0_0 = a1_0) := by simpa using c6))
  clear c6
  replace H := Option.bind_eq_some_iff.mp H
  obtain ⟨t775, A380, H⟩ := H
  replace H : (if t775 ≥ 0 then ((spec_l01Sub.f k t756 t759).bind fun t776 => ((spec_l02Make.f k a0_0 t776 t762).bind fun bt779 => (some (bt779.1, bt779.2.1, bt779.2.2)))) else ((spec_l01Sub.f k t759 t756).bind fun t786 => ((spec_l02Make.f k a1_0 t786 t762).bind fun bt789 => (some (bt789.1, bt789.2.1, bt789.2.2))))) = some (r1, r2, r3) := H
  have A38 := Aside0.mk A380
  clear A380
  by_cases c39 : t775 ≥ 0
  ·
   rw [if_pos c39] at H
   have c39b0 : decide (0 ≤ t775) = true := decide_eq_true c39
   clear c39
   replace H := Option.bind_eq_some_iff.mp H
   obtain ⟨t776, A400, H⟩ := H
   replace H : ((spec_l02Make.f k a0_0 t776 t762).bind fun bt779 => (some (bt779.1, bt779.2.1, bt779.2.2))) = some (r1, r2, r3) := H
   have A40 := Aside0.mk A400
   clear A400
   replace H := Option.bind_eq_some_iff.mp H
   obtain ⟨⟨t779, t780, t783⟩, A410, H⟩ := H
   replace H : (some (t779, t780, t783)) = some (r1, r2, r3) := H
   have A41 := Aside0.mk A410
   clear A410
   simp only [Option.some.injEq, Prod.mk.injEq] at H
   obtain ⟨rfl, rfl, rfl⟩ := H
   go_enter Try.func84, Try.ntmps84
   try go_wp2_with (first | ((with_reducible refine gate_dst (N := 2) rfl ?_); refine box_event ?hg (N := 2) ?hd (cs := #[.bool a0_0, .slice A0_1 l0_1.length c0_1, .slice A0_2 l0_2.length c0_2]) (t := 24) ?hr ?_; (case hd => rfl); (case hg => rfl); (case hr => first | (go_simp; done) | (go_simp; rfl)); intro gb753 hg w42 hbox hb; have n0_ := Aside0.mk (below_step (by repeat (first | (with_reducible first | exact HB.out | apply zzb1 | apply zzb2 | apply zzb3) | exact HB.out)) hb); have n1_ := Aside0.mk (hbox); have n2_ := Aside0.mk ((by rw [hg]; exact (below_size (by repeat (first | (with_reducible first | exact HB.out | apply zzb1 | apply zzb2 | apply zzb3) | exact HB.out))) : w.heap.size ≤ gb753)); have n3_ := Aside0.mk ((by rw [hg]; exact (below_size (by repeat (first | (with_reducible first | exact HB.out | apply zzb1 | apply zzb2 | apply zzb3) | exact HB.out))) : w.heap.size ≤ gb753)); clear HB; have HB := n0_; have BK753 := n1_; have GW753 := n2_; have GE753 := n3_; clear n0_ n1_ n2_ n3_; clear hb hbox hg) | ((with_reducible refine gate_dst (N := 3) rfl ?_); refine box_event ?hg (N := 3) ?hd (cs := #[.bool a1_0, .slice A1_1 l1_1.length c1_1, .slice A1_2 l1_2.length c1_2]) (t := 24) ?hr ?_; (case hd => rfl); (case hg => rfl); (case hr => first | (go_simp; done) | (go_simp; rfl)); intro gb754 hg w43 hbox hb; have n0_ := Aside0.mk (blk_below (g := gb753) (o := .cells #[.bool a0_0, .slice A0_1 l0_1.length c0_1, .slice A0_2 l0_2.length c0_2] 24 (0, 0)) (by (with_reducible repeat (first | refine zzk1 ?_ _ | refine zzk2 ?_ | refine zzk3 ?_ _)); exact BK753.out) hb); have n1_ := Aside0.mk (below_step (by repeat (first | (with_reducible first | exact HB.out | apply zzb1 | apply zzb2 | apply zzb3 | refine below_set ?_ GE753.out) | exact HB.out)) hb); have n2_ := Aside0.mk (hbox); have n3_ := Aside0.mk ((by rw [hg]; exact (below_size (by repeat (first | (with_reducible first | exact HB.out | apply zzb1 | apply zzb2 | apply zzb3 | refine below_set ?_ GE753.out) | exact HB.out))) : w.heap.size ≤ gb754)); have n4_ := Aside0.mk ((by rw [hg]; exact (below_size (by repeat (first | (with_reducible first | exact HB.out | apply zzb1 | apply zzb2 | apply zzb3 | refine below_set ?_ GE753.out) | exact HB.out))) : w.heap.size ≤ gb754)); have n5_ := Aside0.mk ((by rw [hg]; exact Nat.ne_of_lt (blk_lt (g := gb753) (o := .cells #[.bool a0_0, .slice A0_1 l0_1.length c0_1, .slice A0_2 l0_2.length c0_2] 24 (0, 0)) (by (with_reducible repeat (first | refine zzk1 ?_ _ | refine zzk2 ?_ | refine zzk3 ?_ _)); exact BK753.out)) : gb753 ≠ gb754)); have n6_ := Aside0.mk ((by rw [hg]; exact Nat.ne_of_gt (blk_lt (g := gb753) (o := .cells #[.bool a0_0, .slice A0_1 l0_1.length c0_1, .slice A0_2 l0_2.length c0_2] 24 (0, 0)) (by (with_reducible repeat (first | refine zzk1 ?_ _ | refine zzk2 ?_ | refine zzk3 ?_ _)); exact BK753.out)) : gb754 ≠ gb753)); clear BK753; clear HB; have BK753 := n0_; have HB := n1_; have BK754 := n2_; have GW754 := n3_; have GE754 := n4_; have NB753_754 := n5_; have NB754_753 := n6_; clear n0_ n1_ n2_ n3_ n4_ n5_ n6_; clear hb hbox hg) | ((with_reducible refine gate_dst (N := 4) rfl ?_); refine box_event ?hg (N := 4) ?hd (cs := #[.bool false, .slice none 0 0, .slice none 0 0]) (t := 24) ?hr ?_; (case hd => rfl); (case hg => rfl); (case hr => first | (go_simp; done) | (go_simp; rfl)); intro gb755 hg w44 hbox hb; have n0_ := Aside0.mk (blk_below (g := gb753) (o := .cells #[.bool a0_0, .slice A0_1 l0_1.length c0_1, .slice A0_2 l0_2.length c0_2] 24 (0, 0)) (by (with_reducible repeat (first | refine zzk1 ?_ _ | refine zzk2 ?_ | refine zzk3 ?_ _)); exact BK753.out) hb); have n1_ := Aside0.mk (blk_below (g := gb754) (o := .cells #[.bool a1_0, .slice A1_1 l1_1.length c1_1, .slice A1_2 l1_2.length c1_2] 24 (0, 0)) (by (with_reducible repeat (first | refine zzk1 ?_ _ | refine zzk2 ?_ | refine zzk3 ?_ _)); exact BK754.out) hb); have n2_ := Aside0.mk (below_step (by repeat (first | (with_reducible first | exact HB.out | apply zzb1 | apply zzb2 | apply zzb3 | refine below_set ?_ GE753.out | refine below_set ?_ GE754.out) | exact HB.out)) hb); have n3_ := Aside0.mk (hbox); have n4_ := Aside0.mk ((by rw [hg]; exact (below_size (by repeat (first | (with_reducible first | exact HB.out | apply zzb1 | apply zzb2 | apply zzb3 | refine below_set ?_ GE753.out | refine below_set ?_ GE754.out) | exact HB.out))) : w.heap.size ≤ gb755)); have n5_ := Aside0.mk ((by rw [hg]; exact (below_size (by repeat (first | (with_reducible first | exact HB.out | apply zzb1 | apply zzb2 | apply zzb3 | refine below_set ?_ GE753.out | refine below_set ?_ GE754.out) | exact HB.out))) : w.heap.size ≤ gb755)); have n6_ := Aside0.mk ((by rw [hg]; exact Nat.ne_of_lt (blk_lt (g := gb753) (o := .cells #[.bool a0_0, .slice A0_1 l0_1.length c0_1, .slice A0_2 l0_2.length c0_2] 24 (0, 0)) (by (with_reducible repeat (first | refine zzk1 ?_ _ | refine zzk2 ?_ | refine zzk3 ?_ _)); exact BK753.out)) : gb753 ≠ gb755)); have n7_ := Aside0.mk ((by rw [hg]; exact Nat.ne_of_gt (blk_lt (g := gb753) (o := .cells #[.bool a0_0, .slice A0_1 l0_1.length c0_1, .slice A0_2 l0_2.length c0_2] 24 (0, 0)) (by (with_reducible repeat (first | refine zzk1 ?_ _ | refine zzk2 ?_ | refine zzk3 ?_ _)); exact BK753.out)) : gb755 ≠ gb753)); have n8_ := Aside0.mk ((by rw [hg]; exact Nat.ne_of_lt (blk_lt (g := gb754) (o := .cells #[.bool a1_0, .slice A1_1 l1_1.length c1_1, .slice A1_2 l1_2.length c1_2] 24 (0, 0)) (by (with_reducible repeat (first | refine zzk1 ?_ _ | refine zzk2 ?_ | refine zzk3 ?_ _)); exact BK754.out)) : gb754 ≠ gb755)); have n9_ := Aside0.mk ((by rw [hg]; exact Nat.ne_of_gt (blk_lt (g := gb754) (o := .cells #[.bool a1_0, .slice A1_1 l1_1.length c1_1, .slice A1_2 l1_2.length c1_2] 24 (0, 0)) (by (with_reducible repeat (first | refine zzk1 ?_ _ | refine zzk2 ?_ | refine zzk3 ?_ _)); exact BK754.out)) : gb755 ≠ gb754)); clear BK753; clear BK754; clear HB; have BK753 := n0_; have BK754 := n1_; have HB := n2_; have BK755 := n3_; have GW755 := n4_; have GE755 := n5_; have NB753_755 := n6_; have NB755_753 := n7_; have NB754_755 := n8_; have NB755_754 := n9_; clear n0_ n1_ n2_ n3_ n4_ n5_ n6_ n7_ n8_ n9_; clear hb hbox hg; have hnb45 := NB753_754.out; have hnc45 := NB754_753.out; have hnb46 := NB753_755.out; have hnc46 := NB755_753.out; have hcz47_0 : w44.cell? ⟨gb753, 0, none⟩ = some (.bool a0_0) := (blk_cell BK753.out 0).trans rfl; have hcz47_1 : w44.cell? ⟨gb753, 1, none⟩ = some (.slice A0_1 l0_1.length c0_1) := (blk_cell BK753.out 1).trans rfl; have hcz47_2 : w44.cell? ⟨gb753, 2, none⟩ = some (.slice A0_2 l0_2.length c0_2) := (blk_cell BK753.out 2).trans rfl; have hfz47_0 := blk_frozen BK753.out 0; have hfz47_1 := blk_frozen BK753.out 1; have hfz47_2 := blk_frozen BK753.out 2; have hnb48 := NB754_755.out; have hnc48 := NB755_754.out; have hcz49_0 : w44.cell? ⟨gb754, 0, none⟩ = some (.bool a1_0) := (blk_cell BK754.out 0).trans rfl; have hcz49_1 : w44.cell? ⟨gb754, 1, none⟩ = some (.slice A1_1 l1_1.length c1_1) := (blk_cell BK754.out 1).trans rfl; have hcz49_2 : w44.cell? ⟨gb754, 2, none⟩ = some (.slice A1_2 l1_2.length c1_2) := (blk_cell BK754.out 2).trans rfl; have hfz49_0 := blk_frozen BK754.out 0; have hfz49_1 := blk_frozen BK754.out 1; have hfz49_2 := blk_frozen BK754.out 2) | ((with_reducible refine gate_callee (f := 106) rfl ?_); refine goesL_ (some 12) rfl rfl Try.func106 (by kernel_rfl) rfl #[.slice A0_1 l0_1.length c0_1, .slice A1_2 l1_2.length c1_2] rfl (by (try simp only [zz4, zz5, zz6]); first | done | rfl | (simp only [zza, zzb]; rfl)) ?_; (with_reducible refine (spec_l01Mul.calls k _ _ l0_1 _ _ l1_2 t756 _ ?side1 ?side2 ?side3 ?side4 A3.out).mono ?_); (case side1 => repeat (first | exact (Kd.C_below HR0_1.out HB.out) | (with_reducible refine zzC1 ?_ _) | (with_reducible refine zzC2 ?_ _) | (with_reducible refine zzC3 ?_))); (case side2 => exact HC0_1.out); (case side3 => repeat (first | exact (Kd.C_below HR1_2.out HB.out) | (with_reducible refine zzC1 ?_ _) | (with_reducible refine zzC2 ?_ _) | (with_reducible refine zzC3 ?_))); (case side4 => exact HC1_2.out); rintro e w50 ⟨v757, rfl, ho0, hb⟩; refine ⟨_, rfl, ?_⟩; have n0_ := Aside0.mk (Kd.R_lower ho0 (below_size (by repeat (first | (with_reducible first | exact HB.out | apply zzb1 | apply zzb2 | apply zzb3 | refine below_set ?_ GE753.out | refine below_set ?_ GE754.out | refine below_set ?_ GE755.out) | exact HB.out)))); have n1_ := Aside0.mk (blk_below (g := gb753) (o := .cells #[.bool a0_0, .slice A0_1 l0_1.length c0_1, .slice A0_2 l0_2.length c0_2] 24 (0, 0)) (by (with_reducible repeat (first | refine zzk1 ?_ _ | refine zzk2 ?_ | refine zzk3 ?_ _)); exact BK753.out) hb); have n2_ := Aside0.mk (blk_below (g := gb754) (o := .cells #[.bool a1_0, .slice A1_1 l1_1.length c1_1, .slice A1_2 l1_2.length c1_2] 24 (0, 0)) (by (with_reducible repeat (first | refine zzk1 ?_ _ | refine zzk2 ?_ | refine zzk3 ?_ _)); exact BK754.out) hb); have n3_ := Aside0.mk (blk_below (g := gb755) (o := .cells #[.bool false, .slice none 0 0, .slice none 0 0] 24 (0, 0)) (by (with_reducible repeat (first | refine zzk1 ?_ _ | refine zzk2 ?_ | refine zzk3 ?_ _)); exact BK755.out) hb); have n4_ := Aside0.mk (below_step (by repeat (first | (with_reducible first | exact HB.out | apply zzb1 | apply zzb2 | apply zzb3 | refine below_set ?_ GE753.out | refine below_set ?_ GE754.out | refine below_set ?_ GE755.out) | exact HB.out)) hb); clear BK753; clear BK754; clear BK755; clear HB; have HO758 := n0_; have BK753 := n1_; have BK754 := n2_; have BK755 := n3_; have HB := n4_; clear n0_ n1_ n2_ n3_ n4_; (try clear hb); (try clear hb2); (try clear hk); (try clear hi); (try clear ho0); have hcz51_0 : w50.cell? ⟨gb754, 0, none⟩ = some (.bool a1_0) := (blk_cell BK754.out 0).trans rfl; have hcz51_1 : w50.cell? ⟨gb754, 1, none⟩ = some (.slice A1_1 l1_1.length c1_1) := (blk_cell BK754.out 1).trans rfl; have hcz51_2 : w50.cell? ⟨gb754, 2, none⟩ = some (.slice A1_2 l1_2.length c1_2) := (blk_cell BK754.out 2).trans rfl; have hfz51_0 := blk_frozen BK754.out 0; have hfz51_1 := blk_frozen BK754.out 1; have hfz51_2 := blk_frozen BK754.out 2; have hcz52_0 : w50.cell? ⟨gb753, 0, none⟩ = some (.bool a0_0) := (blk_cell BK753.out 0).trans rfl; have hcz52_1 : w50.cell? ⟨gb753, 1, none⟩ = some (.slice A0_1 l0_1.length c0_1) := (blk_cell BK753.out 1).trans rfl; have hcz52_2 : w50.cell? ⟨gb753, 2, none⟩ = some (.slice A0_2 l0_2.length c0_2) := (blk_cell BK753.out 2).trans rfl; have hfz52_0 := blk_frozen BK753.out 0; have hfz52_1 := blk_frozen BK753.out 1; have hfz52_2 := blk_frozen BK753.out 2) | ((with_reducible refine gate_callee (f := 106) rfl ?_); refine goesL_ (some 17) rfl rfl Try.func106 (by kernel_rfl) rfl #[.slice A1_1 l1_1.length c1_1, .slice A0_2 l0_2.length c0_2] rfl (by (try simp only [zz4, zz5, zz6]); first | done | rfl | (simp only [zza, zzb]; rfl)) ?_; (with_reducible refine (spec_l01Mul.calls k _ _ l1_1 _ _ l0_2 t759 _ ?side1 ?side2 ?side3 ?side4 A4.out).mono ?_); (case side1 => repeat (first | exact (Kd.C_below HR1_1.out HB.out) | (with_reducible refine zzC1 ?_ _) | (with_reducible refine zzC2 ?_ _) | (with_reducible refine zzC3 ?_))); (case side2 => exact HC1_1.out); (case side3 => repeat (first | exact (Kd.C_below HR0_2.out HB.out) | (with_reducible refine zzC1 ?_ _) | (with_reducible refine zzC2 ?_ _) | (with_reducible refine zzC3 ?_))); (case side4 => exact HC0_2.out); rintro e w53 ⟨v760, rfl, ho0, hb⟩; refine ⟨_, rfl, ?_⟩; have n0_ := Aside0.mk (Kd.R_elder' (by (with_reducible repeat (first | apply zzR1 | apply zzR2 | apply zzR3)); exact HO758.out) (Kd.R_base ho0) hb); have n1_ := Aside0.mk (Kd.R_lower (Kd.R_new' ho0 (Kd.R_lt (by (with_reducible repeat (first | apply zzR1 | apply zzR2 | apply zzR3)); exact HO758.out))) (below_size (by repeat (first | (with_reducible first | exact HB.out | apply zzb1 | apply zzb2 | apply zzb3 | refine below_set ?_ GE753.out | refine below_set ?_ GE754.out | refine below_set ?_ GE755.out) | exact HB.out)))); have n2_ := Aside0.mk (blk_below (g := gb753) (o := .cells #[.bool a0_0, .slice A0_1 l0_1.length c0_1, .slice A0_2 l0_2.length c0_2] 24 (0, 0)) (by (with_reducible repeat (first | refine zzk1 ?_ _ | refine zzk2 ?_ | refine zzk3 ?_ _)); exact BK753.out) hb); have n3_ := Aside0.mk (blk_below (g := gb754) (o := .cells #[.bool a1_0, .slice A1_1 l1_1.length c1_1, .slice A1_2 l1_2.length c1_2] 24 (0, 0)) (by (with_reducible repeat (first | refine zzk1 ?_ _ | refine zzk2 ?_ | refine zzk3 ?_ _)); exact BK754.out) hb); have n4_ := Aside0.mk (blk_below (g := gb755) (o := .cells #[.bool false, .slice none 0 0, .slice none 0 0] 24 (0, 0)) (by (with_reducible repeat (first | refine zzk1 ?_ _ | refine zzk2 ?_ | refine zzk3 ?_ _)); exact BK755.out) hb); have n5_ := Aside0.mk (below_step (by repeat (first | (with_reducible first | exact HB.out | apply zzb1 | apply zzb2 | apply zzb3 | refine below_set ?_ GE753.out | refine below_set ?_ GE754.out | refine below_set ?_ GE755.out) | exact HB.out)) hb); clear HO758; clear BK753; clear BK754; clear BK755; clear HB; have HO758 := n0_; have HO761 := n1_; have BK753 := n2_; have BK754 := n3_; have BK755 := n4_; have HB := n5_; clear n0_ n1_ n2_ n3_ n4_ n5_; (try clear hb); (try clear hb2); (try clear hk); (try clear hi); (try clear ho0); have hcz54_0 : w53.cell? ⟨gb753, 0, none⟩ = some (.bool a0_0) := (blk_cell BK753.out 0).trans rfl; have hcz54_1 : w53.cell? ⟨gb753, 1, none⟩ = some (.slice A0_1 l0_1.length c0_1) := (blk_cell BK753.out 1).trans rfl; have hcz54_2 : w53.cell? ⟨gb753, 2, none⟩ = some (.slice A0_2 l0_2.length c0_2) := (blk_cell BK753.out 2).trans rfl; have hfz54_0 := blk_frozen BK753.out 0; have hfz54_1 := blk_frozen BK753.out 1; have hfz54_2 := blk_frozen BK753.out 2; have hcz55_0 : w53.cell? ⟨gb754, 0, none⟩ = some (.bool a1_0) := (blk_cell BK754.out 0).trans rfl; have hcz55_1 : w53.cell? ⟨gb754, 1, none⟩ = some (.slice A1_1 l1_1.length c1_1) := (blk_cell BK754.out 1).trans rfl; have hcz55_2 : w53.cell? ⟨gb754, 2, none⟩ = some (.slice A1_2 l1_2.length c1_2) := (blk_cell BK754.out 2).trans rfl; have hfz55_0 := blk_frozen BK754.out 0; have hfz55_1 := blk_frozen BK754.out 1; have hfz55_2 := blk_frozen BK754.out 2) | ((with_reducible refine gate_callee (f := 106) rfl ?_); refine goesL_ (some 22) rfl rfl Try.func106 (by kernel_rfl) rfl #[.slice A0_2 l0_2.length c0_2, .slice A1_2 l1_2.length c1_2] rfl (by (try simp only [zz4, zz5, zz6]); first | done | rfl | (simp only [zza, zzb]; rfl)) ?_; (with_reducible refine (spec_l01Mul.calls k _ _ l0_2 _ _ l1_2 t762 _ ?side1 ?side2 ?side3 ?side4 A5.out).mono ?_); (case side1 => repeat (first | exact (Kd.C_below HR0_2.out HB.out) | (with_reducible refine zzC1 ?_ _) | (with_reducible refine zzC2 ?_ _) | (with_reducible refine zzC3 ?_))); (case side2 => exact HC0_2.out); (case side3 => repeat (first | exact (Kd.C_below HR1_2.out HB.out) | (with_reducible refine zzC1 ?_ _) | (with_reducible refine zzC2 ?_ _) | (with_reducible refine zzC3 ?_))); (case side4 => exact HC1_2.out); rintro e w56 ⟨v763, rfl, ho0, hb⟩; refine ⟨_, rfl, ?_⟩; have n0_ := Aside0.mk (Kd.R_elder' (by (with_reducible repeat (first | apply zzR1 | apply zzR2 | apply zzR3)); exact HO758.out) (Kd.R_base ho0) hb); have n1_ := Aside0.mk (Kd.R_elder' (by (with_reducible repeat (first | apply zzR1 | apply zzR2 | apply zzR3)); exact HO761.out) (Kd.R_base ho0) hb); have n2_ := Aside0.mk (Kd.R_lower (Kd.R_new' (Kd.R_new' ho0 (Kd.R_lt (by (with_reducible repeat (first | apply zzR1 | apply zzR2 | apply zzR3)); exact HO758.out))) (Kd.R_lt (by (with_reducible repeat (first | apply zzR1 | apply zzR2 | apply zzR3)); exact HO761.out))) (below_size (by repeat (first | (with_reducible first | exact HB.out | apply zzb1 | apply zzb2 | apply zzb3 | refine below_set ?_ GE753.out | refine below_set ?_ GE754.out | refine below_set ?_ GE755.out) | exact HB.out)))); have n3_ := Aside0.mk (blk_below (g := gb753) (o := .cells #[.bool a0_0, .slice A0_1 l0_1.length c0_1, .slice A0_2 l0_2.length c0_2] 24 (0, 0)) (by (with_reducible repeat (first | refine zzk1 ?_ _ | refine zzk2 ?_ | refine zzk3 ?_ _)); exact BK753.out) hb); have n4_ := Aside0.mk (blk_below (g := gb754) (o := .cells #[.bool a1_0, .slice A1_1 l1_1.length c1_1, .slice A1_2 l1_2.length c1_2] 24 (0, 0)) (by (with_reducible repeat (first | refine zzk1 ?_ _ | refine zzk2 ?_ | refine zzk3 ?_ _)); exact BK754.out) hb); have n5_ := Aside0.mk (blk_below (g := gb755) (o := .cells #[.bool false, .slice none 0 0, .slice none 0 0] 24 (0, 0)) (by (with_reducible repeat (first | refine zzk1 ?_ _ | refine zzk2 ?_ | refine zzk3 ?_ _)); exact BK755.out) hb); have n6_ := Aside0.mk (below_step (by repeat (first | (with_reducible first | exact HB.out | apply zzb1 | apply zzb2 | apply zzb3 | refine below_set ?_ GE753.out | refine below_set ?_ GE754.out | refine below_set ?_ GE755.out) | exact HB.out)) hb); clear HO758; clear HO761; clear BK753; clear BK754; clear BK755; clear HB; have HO758 := n0_; have HO761 := n1_; have HO764 := n2_; have BK753 := n3_; have BK754 := n4_; have BK755 := n5_; have HB := n6_; clear n0_ n1_ n2_ n3_ n4_ n5_ n6_; (try clear hb); (try clear hb2); (try clear hk); (try clear hi); (try clear ho0); have hcz57_0 : w56.cell? ⟨gb753, 0, none⟩ = some (.bool a0_0) := (blk_cell BK753.out 0).trans rfl; have hcz57_1 : w56.cell? ⟨gb753, 1, none⟩ = some (.slice A0_1 l0_1.length c0_1) := (blk_cell BK753.out 1).trans rfl; have hcz57_2 : w56.cell? ⟨gb753, 2, none⟩ = some (.slice A0_2 l0_2.length c0_2) := (blk_cell BK753.out 2).trans rfl; have hfz57_0 := blk_frozen BK753.out 0; have hfz57_1 := blk_frozen BK753.out 1; have hfz57_2 := blk_frozen BK753.out 2; have hcz58_0 : w56.cell? ⟨gb754, 0, none⟩ = some (.bool a1_0) := (blk_cell BK754.out 0).trans rfl; have hcz58_1 : w56.cell? ⟨gb754, 1, none⟩ = some (.slice A1_1 l1_1.length c1_1) := (blk_cell BK754.out 1).trans rfl; have hcz58_2 : w56.cell? ⟨gb754, 2, none⟩ = some (.slice A1_2 l1_2.length c1_2) := (blk_cell BK754.out 2).trans rfl; have hfz58_0 := blk_frozen BK754.out 0; have hfz58_1 := blk_frozen BK754.out 1; have hfz58_2 := blk_frozen BK754.out 2; obtain ⟨Ao59, co59, eo59⟩ := Kd.R_slice HO758.out; subst eo59; obtain ⟨Ao60, co60, eo60⟩ := Kd.R_slice HO761.out; subst eo60) | ((with_reducible refine gate_callee (f := 55) rfl ?_); refine goesL_ (some 37) rfl rfl Try.func55 (by kernel_rfl) rfl #[.slice Ao59 t756.length co59, .slice Ao60 t759.length co60] rfl (by (try simp only [zz4, zz5, zz6]); first | done | rfl | (simp only [zza, zzb]; rfl)) ?_; (with_reducible refine (spec_l01Cmp.calls k _ _ t756 _ _ t759 t775 _ ?side1 ?side2 ?side3 ?side4 A38.out).mono ?_); (case side1 => repeat (first | exact (Kd.R_reads' HO758.out).2.2 | (with_reducible refine zzC1 ?_ _) | (with_reducible refine zzC2 ?_ _) | (with_reducible refine zzC3 ?_))); (case side2 => exact (Kd.R_reads' HO758.out).2.1); (case side3 => repeat (first | exact (Kd.R_reads' HO761.out).2.2 | (with_reducible refine zzC1 ?_ _) | (with_reducible refine zzC2 ?_ _) | (with_reducible refine zzC3 ?_))); (case side4 => exact (Kd.R_reads' HO761.out).2.1); rintro e w' ⟨rfl, ⟨nd, rfl⟩⟩; refine ⟨_, rfl, ?_⟩; (try (rw [drewN_self w56]; generalize hq_ : World.drewN w56 _ = w56; have n0_ : Aside0 (Kd.R (Kd.int .i64) 3 w56 w.heap.size (fun k_ => some k_ ≠ (.slice Ao60 t759.length co60 : Value).ownBlock ∧ some k_ ≠ (v763 : Value).ownBlock) (.slice Ao59 t756.length co59) t756) := ⟨by rw [← hq_]; exact (by (with_reducible repeat (first | apply zzR1 | apply zzR2 | apply zzR3)); exact Kd.R_mono HO758.out (fun _ hk => ⟨hk.1.2, hk.2⟩))⟩; have n1_ : Aside0 (Kd.R (Kd.int .i64) 3 w56 w.heap.size (fun k_ => some k_ ≠ (.slice Ao59 t756.length co59 : Value).ownBlock ∧ some k_ ≠ (v763 : Value).ownBlock) (.slice Ao60 t759.length co60) t759) := ⟨by rw [← hq_]; exact (by (with_reducible repeat (first | apply zzR1 | apply zzR2 | apply zzR3)); exact Kd.R_mono HO761.out (fun _ hk => ⟨hk.1.2, hk.2⟩))⟩; have n2_ : Aside0 (Kd.R (Kd.int .i64) 3 w56 w.heap.size (fun k_ => some k_ ≠ (.slice Ao59 t756.length co59 : Value).ownBlock ∧ some k_ ≠ (.slice Ao60 t759.length co60 : Value).ownBlock) v763 t762) := ⟨by rw [← hq_]; exact (by (with_reducible repeat (first | apply zzR1 | apply zzR2 | apply zzR3)); exact Kd.R_mono HO764.out (fun _ hk => ⟨hk.1.2, hk.2⟩))⟩; have n3_ : Aside0 (w56.heap[gb753]? = some (.cells #[.bool a0_0, .slice A0_1 l0_1.length c0_1, .slice A0_2 l0_2.length c0_2] 24 (0, 0))) := ⟨by rw [← hq_]; exact (by (with_reducible repeat (first | refine zzk1 ?_ _ | refine zzk2 ?_ | refine zzk3 ?_ _)); exact BK753.out)⟩; have n4_ : Aside0 (w56.heap[gb754]? = some (.cells #[.bool a1_0, .slice A1_1 l1_1.length c1_1, .slice A1_2 l1_2.length c1_2] 24 (0, 0))) := ⟨by rw [← hq_]; exact (by (with_reducible repeat (first | refine zzk1 ?_ _ | refine zzk2 ?_ | refine zzk3 ?_ _)); exact BK754.out)⟩; have n5_ : Aside0 (w56.heap[gb755]? = some (.cells #[.bool false, .slice none 0 0, .slice none 0 0] 24 (0, 0))) := ⟨by rw [← hq_]; exact (by (with_reducible repeat (first | refine zzk1 ?_ _ | refine zzk2 ?_ | refine zzk3 ?_ _)); exact BK755.out)⟩; have n6_ : Aside0 (Below w.heap.size w w56) := ⟨by rw [← hq_]; exact (by repeat (first | (with_reducible first | exact HB.out | apply zzb1 | apply zzb2 | apply zzb3 | refine below_set ?_ GE753.out | refine below_set ?_ GE754.out | refine below_set ?_ GE755.out) | exact HB.out))⟩; clear HO758 HO761 HO764 BK753 BK754 BK755 HB hq_; have HO758 := n0_; have HO761 := n1_; have HO764 := n2_; have BK753 := n3_; have BK754 := n4_; have BK755 := n5_; have HB := n6_; clear n0_ n1_ n2_ n3_ n4_ n5_ n6_))))
   have n0_ := Aside0.mk (Kd.R_drew HO758.out)
   have n1_ := Aside0.mk (Kd.R_drew HO761.out)
   have n2_ := Aside0.mk (Kd.R_drew HO764.out)
   have n3_ := Aside0.mk (blk_drew BK753.out)
   have n4_ := Aside0.mk (blk_drew BK754.out)
   have n5_ := Aside0.mk (blk_drew BK755.out)
   have n6_ := Aside0.mk (below_drew1 HB.out)
   clear HO758
   clear HO761
   clear HO764
   clear BK753
   clear BK754
   clear BK755
   clear HB
   have HO758 := n0_
   have HO761 := n1_
   have HO764 := n2_
   have BK753 := n3_
   have BK754 := n4_
   have BK755 := n5_
   have HB := n6_
   clear n0_ n1_ n2_ n3_ n4_ n5_ n6_
   refine start_ (n := 8) (S := fun w' => w'.cell? ⟨gb753, 0, none⟩ = some (.bool a0_0) ∧ w'.cell? ⟨gb753, 1, none⟩ = some (.slice A0_1 l0_1.length c0_1) ∧ w'.cell? ⟨gb753, 2, none⟩ = some (.slice A0_2 l0_2.length c0_2)) (ds := []) #[false, false, false, false, false, false, false, false] (by kernel_rfl) rfl rfl ⟨(blk_cell BK753.out 0).trans rfl, (blk_cell BK753.out 1).trans rfl, (blk_cell BK753.out 2).trans rfl⟩ (fun hHeld => ?_); refine with_tabW spec_l02Add.tab7 spec_l02Add.bits7 (fun HT_ HW_ => ?_)
   generalize w56.drew = w61 at HO758 HO761 HO764 BK753 BK754 BK755 HB hHeld ⊢
   refine pure_ (i := 0) (N := some 39) (v := ?_) (a' := ?_) #[true, false, false, false, false, false, false, false] rfl rfl (any_of HT_.out (by kernel_rfl)) (fun _ _ _ h => h) (Or.inl ⟨by rfl, ?_⟩) ?_ ?_
   rotate_left
   ·
    intro w'
    go_simp
    with_reducible rfl
   rotate_left
   ·
    simp only [Act.put, zz7, zz8, zz9, i64_w, i32_w]
    rfl
   refine pure_ (i := 2) (N := some 41) (v := ?_) (a' := ?_) #[true, false, true, false, false, false, false, false] rfl rfl (any_of HT_.out (by kernel_rfl)) (fun _ _ _ h => h) (Or.inl ⟨by rfl, ?_⟩) ?_ ?_
   rotate_left
   ·
    intro w'
    go_simp
    with_reducible rfl
   rotate_left
   ·
    simp only [Act.put, zz7, zz8, zz9, i64_w, i32_w]
    rfl
   refine pure_ (i := 3) (N := some 42) (v := ?_) (a' := ?_) #[true, false, true, true, false, false, false, false] rfl rfl (any_of HT_.out (by kernel_rfl)) (fun _ _ _ h => h) (Or.inl ⟨by rfl, ?_⟩) ?_ ?_
   rotate_left
   ·
    intro w'
    go_simp
    with_reducible rfl
   rotate_left
   ·
    simp only [Act.put, zz7, zz8, zz9, i64_w, i32_w]
    rfl
   refine pure_ (i := 5) (N := some 44) (v := ?_) (a' := ?_) #[true, false, true, true, false, true, false, false] rfl rfl (any_of HT_.out (by kernel_rfl)) (fun _ _ _ h => h) (Or.inl ⟨by rfl, ?_⟩) ?_ ?_
   rotate_left
   ·
    intro w'
    go_simp
    with_reducible rfl
   rotate_left
   ·
    simp only [Act.put, zz7, zz8, zz9, i64_w, i32_w]
    rfl
   refine take_ (i := 1) (N := some 40) (v := ?_) (a' := ?_) #[true, true, true, true, false, true, false, false] rfl rfl (take_ofW HT_.out HW_.out (by kernel_rfl)) (fun _ _ _ h => h) (Or.inl ⟨by rfl, ?_⟩) hHeld ?_ ?_
   rotate_left
   ·
    rintro w' ⟨s0, s1, s2⟩
    go_simp
    with_reducible rfl
   rotate_left
   ·
    simp only [Act.put, zz7, zz8, zz9, i64_w, i32_w]
    rfl
   refine one_ (i := 4) (N := some 43) #[true, true, true, true, true, true, false, false] rfl rfl (one_of HT_.out (by kernel_rfl)) (by decide) (fun K hK => ?_)
   refine goes_ Try.func111 (by kernel_rfl) rfl #[.slice Ao59 t756.length co59, .slice Ao60 t759.length co60] (by rfl) rfl rfl (by (try simp only [zz4, zz5, zz6]); first | done | rfl | (simp only [zza, zzb]; rfl)) ?_
   with_reducible refine (spec_l01Sub.calls k _ _ t756 _ _ t759 t776 _ ?side1 ?side2 ?side3 ?side4 A40.out).mono ?_
   (case side1 => repeat (first | exact (Kd.R_reads' HO758.out).2.2 | (with_reducible refine zzC1 ?_ _) | (with_reducible refine zzC2 ?_ _) | (with_reducible refine zzC3 ?_)))
   (case side2 => exact (Kd.R_reads' HO758.out).2.1)
   (case side3 => repeat (first | exact (Kd.R_reads' HO761.out).2.2 | (with_reducible refine zzC1 ?_ _) | (with_reducible refine zzC2 ?_ _) | (with_reducible refine zzC3 ?_)))
   (case side4 => exact (Kd.R_reads' HO761.out).2.1)
   rintro e w62 ⟨v777, rfl, ho0, hb⟩
   refine ⟨_, rfl, ?_⟩
   have n0_ := Aside0.mk (Kd.R_elder' (by (with_reducible repeat (first | apply zzR1 | apply zzR2 | apply zzR3)); exact HO758.out) (Kd.R_base ho0) hb)
   have n1_ := Aside0.mk (Kd.R_elder' (by (with_reducible repeat (first | apply zzR1 | apply zzR2 | apply zzR3)); exact HO761.out) (Kd.R_base ho0) hb)
   have n2_ := Aside0.mk (Kd.R_elder' (by (with_reducible repeat (first | apply zzR1 | apply zzR2 | apply zzR3)); exact HO764.out) (Kd.R_base ho0) hb)
   have n3_ := Aside0.mk (Kd.R_lower (Kd.R_new' (Kd.R_new' (Kd.R_new' ho0 (Kd.R_lt (by (with_reducible repeat (first | apply zzR1 | apply zzR2 | apply zzR3)); exact HO758.out))) (Kd.R_lt (by (with_reducible repeat (first | apply zzR1 | apply zzR2 | apply zzR3)); exact HO761.out))) (Kd.R_lt (by (with_reducible repeat (first | apply zzR1 | apply zzR2 | apply zzR3)); exact HO764.out))) (below_size (by repeat (first | (with_reducible first | exact HB.out | apply zzb1 | apply zzb2 | apply zzb3 | refine below_set ?_ GE753.out | refine below_set ?_ GE754.out | refine below_set ?_ GE755.out) | exact HB.out))))
   have n4_ := Aside0.mk (blk_below (g := gb753) (o := .cells #[.bool a0_0, .slice A0_1 l0_1.length c0_1, .slice A0_2 l0_2.length c0_2] 24 (0, 0)) (by (with_reducible repeat (first | refine zzk1 ?_ _ | refine zzk2 ?_ | refine zzk3 ?_ _)); exact BK753.out) hb)
   have n5_ := Aside0.mk (blk_below (g := gb754) (o := .cells #[.bool a1_0, .slice A1_1 l1_1.length c1_1, .slice A1_2 l1_2.length c1_2] 24 (0, 0)) (by (with_reducible repeat (first | refine zzk1 ?_ _ | refine zzk2 ?_ | refine zzk3 ?_ _)); exact BK754.out) hb)
   have n6_ := Aside0.mk (blk_below (g := gb755) (o := .cells #[.bool false, .slice none 0 0, .slice none 0 0] 24 (0, 0)) (by (with_reducible repeat (first | refine zzk1 ?_ _ | refine zzk2 ?_ | refine zzk3 ?_ _)); exact BK755.out) hb)
   have n7_ := Aside0.mk (below_step (by repeat (first | (with_reducible first | exact HB.out | apply zzb1 | apply zzb2 | apply zzb3 | refine below_set ?_ GE753.out | refine below_set ?_ GE754.out | refine below_set ?_ GE755.out) | exact HB.out)) hb)
   clear HO758
   clear HO761
   clear HO764
   clear BK753
   clear BK754
   clear BK755
   clear HB
   have HO758 := n0_
   have HO761 := n1_
   have HO764 := n2_
   have HO778 := n3_
   have BK753 := n4_
   have BK754 := n5_
   have BK755 := n6_
   have HB := n7_
   clear n0_ n1_ n2_ n3_ n4_ n5_ n6_ n7_
   (try clear hb)
   (try clear hb2)
   (try clear hk)
   (try clear hi)
   (try clear ho0)
   obtain ⟨Ao63, co63, eo63⟩ := Kd.R_slice HO778.out
   (first | subst eo63 | (injection eo63 with f1_ f2_ f3_; have f4_ := f1_.symm; have f5_ := f3_.symm; clear f1_ f2_ f3_; subst f4_; subst f5_))
   obtain ⟨Ao64, co64, eo64⟩ := Kd.R_slice HO764.out
   (first | subst eo64 | (injection eo64 with f1_ f2_ f3_; have f4_ := f1_.symm; have f5_ := f3_.symm; clear f1_ f2_ f3_; subst f4_; subst f5_))
   refine hK.out _ _ ⟨(blk_cell BK753.out 0).trans rfl, (blk_cell BK753.out 1).trans rfl, (blk_cell BK753.out 2).trans rfl⟩ (fun hHeld => ?_)
   clear hK K
   refine norm_ (a' := ?_) ?_ ?_
   rotate_left
   ·
    show Act.put _ (some 43) _ = _
    simp only [Act.put, zz7, zz8, zz9, i64_w, i32_w]
    rfl
   refine one_ (i := 6) (N := some 45) #[true, true, true, true, true, true, true, false] rfl rfl (one_of HT_.out (by kernel_rfl)) (by decide) (fun K hK => ?_)
   refine goes_ Try.func47 (by kernel_rfl) rfl #[.bool a0_0, .slice Ao63 t776.length co63, .slice Ao64 t762.length co64] (by rfl) rfl rfl (by (try simp only [zz4, zz5, zz6]); first | done | rfl | (simp only [zza, zzb]; rfl)) ?_
   with_reducible refine (spec_l02Make.calls k a0_0 _ _ t776 _ _ t762 t779 t780 t783 _ ?side1 ?side2 ?side3 ?side4 A41.out).mono ?_
   (case side1 => repeat (first | exact (Kd.R_reads' HO778.out).2.2 | (with_reducible refine zzC1 ?_ _) | (with_reducible refine zzC2 ?_ _) | (with_reducible refine zzC3 ?_)))
   (case side2 => exact (Kd.R_reads' HO778.out).2.1)
   (case side3 => repeat (first | exact (Kd.R_reads' HO764.out).2.2 | (with_reducible refine zzC1 ?_ _) | (with_reducible refine zzC2 ?_ _) | (with_reducible refine zzC3 ?_)))
   (case side4 => exact (Kd.R_reads' HO764.out).2.1)
   rintro e w65 ⟨v781, v784, rfl, ho0, ho1, hb⟩
   refine ⟨_, rfl, ?_⟩
   have n0_ := Aside0.mk (Kd.R_mono (Kd.R_told (Kd.R_told (Kd.R_old (by (with_reducible repeat (first | apply zzR1 | apply zzR2 | apply zzR3)); exact HO758.out) hb) (Kd.R_base ho0)) (Kd.R_base ho1)) (fun _ h_ => h_.1))
   have n1_ := Aside0.mk (Kd.R_mono (Kd.R_told (Kd.R_told (Kd.R_old (by (with_reducible repeat (first | apply zzR1 | apply zzR2 | apply zzR3)); exact HO761.out) hb) (Kd.R_base ho0)) (Kd.R_base ho1)) (fun _ h_ => h_.1))
   have n2_ := Aside0.mk (Kd.R_mono (Kd.R_told (Kd.R_told (Kd.R_old (by (with_reducible repeat (first | apply zzR1 | apply zzR2 | apply zzR3)); exact HO764.out) hb) (Kd.R_base ho0)) (Kd.R_base ho1)) (fun _ h_ => h_.1))
   have n3_ := Aside0.mk (Kd.R_mono (Kd.R_told (Kd.R_told (Kd.R_old (by (with_reducible repeat (first | apply zzR1 | apply zzR2 | apply zzR3)); exact HO778.out) hb) (Kd.R_base ho0)) (Kd.R_base ho1)) (fun _ h_ => h_.1))
   have n4_ := Aside0.mk (Kd.R_lower (Kd.R_new' (Kd.R_new' (Kd.R_new' (Kd.R_new' ho0 (Kd.R_lt (by (with_reducible repeat (first | apply zzR1 | apply zzR2 | apply zzR3)); exact HO758.out))) (Kd.R_lt (by (with_reducible repeat (first | apply zzR1 | apply zzR2 | apply zzR3)); exact HO761.out))) (Kd.R_lt (by (with_reducible repeat (first | apply zzR1 | apply zzR2 | apply zzR3)); exact HO764.out))) (Kd.R_lt (by (with_reducible repeat (first | apply zzR1 | apply zzR2 | apply zzR3)); exact HO778.out))) (below_size (by repeat (first | (with_reducible first | exact HB.out | apply zzb1 | apply zzb2 | apply zzb3 | refine below_set ?_ GE753.out | refine below_set ?_ GE754.out | refine below_set ?_ GE755.out) | exact HB.out))))
   have n5_ := Aside0.mk (Kd.R_lower (Kd.R_new' (Kd.R_new' (Kd.R_new' (Kd.R_new' ho1 (Kd.R_lt (by (with_reducible repeat (first | apply zzR1 | apply zzR2 | apply zzR3)); exact HO758.out))) (Kd.R_lt (by (with_reducible repeat (first | apply zzR1 | apply zzR2 | apply zzR3)); exact HO761.out))) (Kd.R_lt (by (with_reducible repeat (first | apply zzR1 | apply zzR2 | apply zzR3)); exact HO764.out))) (Kd.R_lt (by (with_reducible repeat (first | apply zzR1 | apply zzR2 | apply zzR3)); exact HO778.out))) (below_size (by repeat (first | (with_reducible first | exact HB.out | apply zzb1 | apply zzb2 | apply zzb3 | refine below_set ?_ GE753.out | refine below_set ?_ GE754.out | refine below_set ?_ GE755.out) | exact HB.out))))
   have n6_ := Aside0.mk (blk_below (g := gb753) (o := .cells #[.bool a0_0, .slice A0_1 l0_1.length c0_1, .slice A0_2 l0_2.length c0_2] 24 (0, 0)) (by (with_reducible repeat (first | refine zzk1 ?_ _ | refine zzk2 ?_ | refine zzk3 ?_ _)); exact BK753.out) hb)
   have n7_ := Aside0.mk (blk_below (g := gb754) (o := .cells #[.bool a1_0, .slice A1_1 l1_1.length c1_1, .slice A1_2 l1_2.length c1_2] 24 (0, 0)) (by (with_reducible repeat (first | refine zzk1 ?_ _ | refine zzk2 ?_ | refine zzk3 ?_ _)); exact BK754.out) hb)
   have n8_ := Aside0.mk (blk_below (g := gb755) (o := .cells #[.bool false, .slice none 0 0, .slice none 0 0] 24 (0, 0)) (by (with_reducible repeat (first | refine zzk1 ?_ _ | refine zzk2 ?_ | refine zzk3 ?_ _)); exact BK755.out) hb)
   have n9_ := Aside0.mk (below_step (by repeat (first | (with_reducible first | exact HB.out | apply zzb1 | apply zzb2 | apply zzb3 | refine below_set ?_ GE753.out | refine below_set ?_ GE754.out | refine below_set ?_ GE755.out) | exact HB.out)) hb)
   clear HO758
   clear HO761
   clear HO764
   clear HO778
   clear BK753
   clear BK754
   clear BK755
   clear HB
   have HO758 := n0_
   have HO761 := n1_
   have HO764 := n2_
   have HO778 := n3_
   have HO782 := n4_
   have HO785 := n5_
   have BK753 := n6_
   have BK754 := n7_
   have BK755 := n8_
   have HB := n9_
   clear n0_ n1_ n2_ n3_ n4_ n5_ n6_ n7_ n8_ n9_
   (try clear hb)
   (try clear hb2)
   (try clear hk)
   (try clear hi)
   (try clear ho0)
   (try clear ho1)
   obtain ⟨Ao67, co67, eo67⟩ := Kd.R_slice HO782.out
   (first | subst eo67 | (injection eo67 with f1_ f2_ f3_; have f4_ := f1_.symm; have f5_ := f3_.symm; clear f1_ f2_ f3_; subst f4_; subst f5_))
   obtain ⟨Ao69, co69, eo69⟩ := Kd.R_slice HO785.out
   (first | subst eo69 | (injection eo69 with f1_ f2_ f3_; have f4_ := f1_.symm; have f5_ := f3_.symm; clear f1_ f2_ f3_; subst f4_; subst f5_))
   refine hK.out _ _ ⟨(blk_cell BK753.out 0).trans rfl, (blk_cell BK753.out 1).trans rfl, (blk_cell BK753.out 2).trans rfl⟩ (fun hHeld => ?_)
   clear hK K
   refine norm_ (a' := ?_) ?_ ?_
   rotate_left
   ·
    show Act.put _ (some 45) _ = _
    simp only [Act.put, zz7, zz8, zz9, i64_w, i32_w]
    rfl
   refine one_ (i := 7) (N := none) #[true, true, true, true, true, true, true, true] rfl rfl (one_of HT_.out (by kernel_rfl)) (by decide) (fun K hK => ?_)
   have hs66 : w65.cell? ⟨gb755, 0, none⟩ = some (.bool false) := (blk_cell BK755.out 0).trans rfl
   have hfs66 := blk_frozen BK755.out 0
   have hns66_0 := NB753_755.out
   have hns66_1 := NB754_755.out
   have hms66_0 := NB755_753.out
   have hms66_1 := NB755_754.out
   have hs68 : w65.cell? ⟨gb755, 1, none⟩ = some (.slice none 0 0) := (blk_cell BK755.out 1).trans rfl
   have hfs68 := blk_frozen BK755.out 1
   have hns68_0 := NB753_755.out
   have hns68_1 := NB754_755.out
   have hms68_0 := NB755_753.out
   have hms68_1 := NB755_754.out
   have hs70 : w65.cell? ⟨gb755, 2, none⟩ = some (.slice none 0 0) := (blk_cell BK755.out 2).trans rfl
   have hfs70 := blk_frozen BK755.out 2
   have hns70_0 := NB753_755.out
   have hns70_1 := NB754_755.out
   have hms70_0 := NB755_753.out
   have hms70_1 := NB755_754.out
   refine skip_ (w1 := ?_) (by rfl) rfl ?_ ?_
   rotate_left
   ·
    go_simp
    rfl
   refine hK.out _ _ ⟨((cell_far (p := ⟨gb755, _, none⟩) NB753_755.out _).trans (((cell_far (p := ⟨gb755, _, none⟩) NB753_755.out _).trans (((cell_far (p := ⟨gb755, _, none⟩) NB753_755.out _).trans (hHeld.1)))))), ((cell_far (p := ⟨gb755, _, none⟩) NB753_755.out _).trans (((cell_far (p := ⟨gb755, _, none⟩) NB753_755.out _).trans (((cell_far (p := ⟨gb755, _, none⟩) NB753_755.out _).trans (hHeld.2.1)))))), ((cell_far (p := ⟨gb755, _, none⟩) NB753_755.out _).trans (((cell_far (p := ⟨gb755, _, none⟩) NB753_755.out _).trans (((cell_far (p := ⟨gb755, _, none⟩) NB753_755.out _).trans (hHeld.2.2))))))⟩ (fun hHeld => ?_)
   clear hK K
   refine done_ (done_of HT_.out (by kernel_rfl)) ?_
   try go_wp2
   refine bodyPost_ret (results_cell_row rfl _ _ gb755 24 #[.bool t779, .slice Ao67 t780.length co67, .slice Ao69 t783.length co69] (0, 0) _ rfl (by (with_reducible repeat (first | refine zzk1 ?_ _ | refine zzk2 ?_ | refine zzk3 ?_ _)); refine blk_put (cs := #[.bool t779, .slice Ao67 t780.length co67, .slice none 0 0]) ?_ 2 _ rfl; (with_reducible repeat (first | refine zzk1 ?_ _ | refine zzk2 ?_ | refine zzk3 ?_ _)); refine blk_put (cs := #[.bool t779, .slice none 0 0, .slice none 0 0]) ?_ 1 _ rfl; (with_reducible repeat (first | refine zzk1 ?_ _ | refine zzk2 ?_ | refine zzk3 ?_ _)); refine blk_put (cs := #[.bool false, .slice none 0 0, .slice none 0 0]) ?_ 0 _ rfl; (with_reducible repeat (first | refine zzk1 ?_ _ | refine zzk2 ?_ | refine zzk3 ?_ _)); exact BK755.out) Try.underlying24 rfl (by kernel_rfl)) rfl ?_
   exact ⟨_, _, by first | rfl | (simp [errW_none, errW_some] <;> rfl) | (simp [*, errW_none, errW_some] <;> rfl), by (with_reducible repeat (first | apply zzR1 | apply zzR2 | apply zzR3)); exact Kd.R_mono (Kd.R_far (p := ⟨gb755, 2, none⟩) (Kd.R_far (p := ⟨gb755, 1, none⟩) (Kd.R_far (p := ⟨gb755, 0, none⟩) (Kd.R_types HO782.out BK755.out (by decide)) (fun _ hk => hk.2) (.bool t779)) (fun _ hk => hk.2) (.slice Ao67 t780.length co67)) (fun _ hk => hk.2) (.slice Ao69 t783.length co69)) (fun _ hk => hk.1.1.1.1.1), by (with_reducible repeat (first | apply zzR1 | apply zzR2 | apply zzR3)); exact Kd.R_mono (Kd.R_far (p := ⟨gb755, 2, none⟩) (Kd.R_far (p := ⟨gb755, 1, none⟩) (Kd.R_far (p := ⟨gb755, 0, none⟩) (Kd.R_types HO785.out BK755.out (by decide)) (fun _ hk => hk.2) (.bool t779)) (fun _ hk => hk.2) (.slice Ao67 t780.length co67)) (fun _ hk => hk.2) (.slice Ao69 t783.length co69)) (fun _ hk => hk.1.1.1.1.1), by repeat (first | (with_reducible first | exact HB.out | apply zzb1 | apply zzb2 | apply zzb3 | refine below_set ?_ GE753.out | refine below_set ?_ GE754.out | refine below_set ?_ GE755.out) | exact HB.out)⟩
  ·
   rw [if_neg c39] at H
   have c39b0 : decide (0 ≤ t775) = false := decide_eq_false c39
   clear c39
   replace H := Option.bind_eq_some_iff.mp H
   obtain ⟨t786, A710, H⟩ := H
   replace H : ((spec_l02Make.f k a1_0 t786 t762).bind fun bt789 => (some (bt789.1, bt789.2.1, bt789.2.2))) = some (r1, r2, r3) := H
   have A71 := Aside0.mk A710
   clear A710
   replace H := Option.bind_eq_some_iff.mp H
   obtain ⟨⟨t789, t790, t793⟩, A720, H⟩ := H
   replace H : (some (t789, t790, t793)) = some (r1, r2, r3) := H
   have A72 := Aside0.mk A720
   clear A720
   simp only [Option.some.injEq, Prod.mk.injEq] at H
   obtain ⟨rfl, rfl, rfl⟩ := H
   go_enter Try.func84, Try.ntmps84
   try go_wp2_with (first | ((with_reducible refine gate_dst (N := 2) rfl ?_); refine box_event ?hg (N := 2) ?hd (cs := #[.bool a0_0, .slice A0_1 l0_1.length c0_1, .slice A0_2 l0_2.length c0_2]) (t := 24) ?hr ?_; (case hd => rfl); (case hg => rfl); (case hr => first | (go_simp; done) | (go_simp; rfl)); intro gb753 hg w73 hbox hb; have n0_ := Aside0.mk (below_step (by repeat (first | (with_reducible first | exact HB.out | apply zzb1 | apply zzb2 | apply zzb3) | exact HB.out)) hb); have n1_ := Aside0.mk (hbox); have n2_ := Aside0.mk ((by rw [hg]; exact (below_size (by repeat (first | (with_reducible first | exact HB.out | apply zzb1 | apply zzb2 | apply zzb3) | exact HB.out))) : w.heap.size ≤ gb753)); have n3_ := Aside0.mk ((by rw [hg]; exact (below_size (by repeat (first | (with_reducible first | exact HB.out | apply zzb1 | apply zzb2 | apply zzb3) | exact HB.out))) : w.heap.size ≤ gb753)); clear HB; have HB := n0_; have BK753 := n1_; have GW753 := n2_; have GE753 := n3_; clear n0_ n1_ n2_ n3_; clear hb hbox hg) | ((with_reducible refine gate_dst (N := 3) rfl ?_); refine box_event ?hg (N := 3) ?hd (cs := #[.bool a1_0, .slice A1_1 l1_1.length c1_1, .slice A1_2 l1_2.length c1_2]) (t := 24) ?hr ?_; (case hd => rfl); (case hg => rfl); (case hr => first | (go_simp; done) | (go_simp; rfl)); intro gb754 hg w74 hbox hb; have n0_ := Aside0.mk (blk_below (g := gb753) (o := .cells #[.bool a0_0, .slice A0_1 l0_1.length c0_1, .slice A0_2 l0_2.length c0_2] 24 (0, 0)) (by (with_reducible repeat (first | refine zzk1 ?_ _ | refine zzk2 ?_ | refine zzk3 ?_ _)); exact BK753.out) hb); have n1_ := Aside0.mk (below_step (by repeat (first | (with_reducible first | exact HB.out | apply zzb1 | apply zzb2 | apply zzb3 | refine below_set ?_ GE753.out) | exact HB.out)) hb); have n2_ := Aside0.mk (hbox); have n3_ := Aside0.mk ((by rw [hg]; exact (below_size (by repeat (first | (with_reducible first | exact HB.out | apply zzb1 | apply zzb2 | apply zzb3 | refine below_set ?_ GE753.out) | exact HB.out))) : w.heap.size ≤ gb754)); have n4_ := Aside0.mk ((by rw [hg]; exact (below_size (by repeat (first | (with_reducible first | exact HB.out | apply zzb1 | apply zzb2 | apply zzb3 | refine below_set ?_ GE753.out) | exact HB.out))) : w.heap.size ≤ gb754)); have n5_ := Aside0.mk ((by rw [hg]; exact Nat.ne_of_lt (blk_lt (g := gb753) (o := .cells #[.bool a0_0, .slice A0_1 l0_1.length c0_1, .slice A0_2 l0_2.length c0_2] 24 (0, 0)) (by (with_reducible repeat (first | refine zzk1 ?_ _ | refine zzk2 ?_ | refine zzk3 ?_ _)); exact BK753.out)) : gb753 ≠ gb754)); have n6_ := Aside0.mk ((by rw [hg]; exact Nat.ne_of_gt (blk_lt (g := gb753) (o := .cells #[.bool a0_0, .slice A0_1 l0_1.length c0_1, .slice A0_2 l0_2.length c0_2] 24 (0, 0)) (by (with_reducible repeat (first | refine zzk1 ?_ _ | refine zzk2 ?_ | refine zzk3 ?_ _)); exact BK753.out)) : gb754 ≠ gb753)); clear BK753; clear HB; have BK753 := n0_; have HB := n1_; have BK754 := n2_; have GW754 := n3_; have GE754 := n4_; have NB753_754 := n5_; have NB754_753 := n6_; clear n0_ n1_ n2_ n3_ n4_ n5_ n6_; clear hb hbox hg) | ((with_reducible refine gate_dst (N := 4) rfl ?_); refine box_event ?hg (N := 4) ?hd (cs := #[.bool false, .slice none 0 0, .slice none 0 0]) (t := 24) ?hr ?_; (case hd => rfl); (case hg => rfl); (case hr => first | (go_simp; done) | (go_simp; rfl)); intro gb755 hg w75 hbox hb; have n0_ := Aside0.mk (blk_below (g := gb753) (o := .cells #[.bool a0_0, .slice A0_1 l0_1.length c0_1, .slice A0_2 l0_2.length c0_2] 24 (0, 0)) (by (with_reducible repeat (first | refine zzk1 ?_ _ | refine zzk2 ?_ | refine zzk3 ?_ _)); exact BK753.out) hb); have n1_ := Aside0.mk (blk_below (g := gb754) (o := .cells #[.bool a1_0, .slice A1_1 l1_1.length c1_1, .slice A1_2 l1_2.length c1_2] 24 (0, 0)) (by (with_reducible repeat (first | refine zzk1 ?_ _ | refine zzk2 ?_ | refine zzk3 ?_ _)); exact BK754.out) hb); have n2_ := Aside0.mk (below_step (by repeat (first | (with_reducible first | exact HB.out | apply zzb1 | apply zzb2 | apply zzb3 | refine below_set ?_ GE753.out | refine below_set ?_ GE754.out) | exact HB.out)) hb); have n3_ := Aside0.mk (hbox); have n4_ := Aside0.mk ((by rw [hg]; exact (below_size (by repeat (first | (with_reducible first | exact HB.out | apply zzb1 | apply zzb2 | apply zzb3 | refine below_set ?_ GE753.out | refine below_set ?_ GE754.out) | exact HB.out))) : w.heap.size ≤ gb755)); have n5_ := Aside0.mk ((by rw [hg]; exact (below_size (by repeat (first | (with_reducible first | exact HB.out | apply zzb1 | apply zzb2 | apply zzb3 | refine below_set ?_ GE753.out | refine below_set ?_ GE754.out) | exact HB.out))) : w.heap.size ≤ gb755)); have n6_ := Aside0.mk ((by rw [hg]; exact Nat.ne_of_lt (blk_lt (g := gb753) (o := .cells #[.bool a0_0, .slice A0_1 l0_1.length c0_1, .slice A0_2 l0_2.length c0_2] 24 (0, 0)) (by (with_reducible repeat (first | refine zzk1 ?_ _ | refine zzk2 ?_ | refine zzk3 ?_ _)); exact BK753.out)) : gb753 ≠ gb755)); have n7_ := Aside0.mk ((by rw [hg]; exact Nat.ne_of_gt (blk_lt (g := gb753) (o := .cells #[.bool a0_0, .slice A0_1 l0_1.length c0_1, .slice A0_2 l0_2.length c0_2] 24 (0, 0)) (by (with_reducible repeat (first | refine zzk1 ?_ _ | refine zzk2 ?_ | refine zzk3 ?_ _)); exact BK753.out)) : gb755 ≠ gb753)); have n8_ := Aside0.mk ((by rw [hg]; exact Nat.ne_of_lt (blk_lt (g := gb754) (o := .cells #[.bool a1_0, .slice A1_1 l1_1.length c1_1, .slice A1_2 l1_2.length c1_2] 24 (0, 0)) (by (with_reducible repeat (first | refine zzk1 ?_ _ | refine zzk2 ?_ | refine zzk3 ?_ _)); exact BK754.out)) : gb754 ≠ gb755)); have n9_ := Aside0.mk ((by rw [hg]; exact Nat.ne_of_gt (blk_lt (g := gb754) (o := .cells #[.bool a1_0, .slice A1_1 l1_1.length c1_1, .slice A1_2 l1_2.length c1_2] 24 (0, 0)) (by (with_reducible repeat (first | refine zzk1 ?_ _ | refine zzk2 ?_ | refine zzk3 ?_ _)); exact BK754.out)) : gb755 ≠ gb754)); clear BK753; clear BK754; clear HB; have BK753 := n0_; have BK754 := n1_; have HB := n2_; have BK755 := n3_; have GW755 := n4_; have GE755 := n5_; have NB753_755 := n6_; have NB755_753 := n7_; have NB754_755 := n8_; have NB755_754 := n9_; clear n0_ n1_ n2_ n3_ n4_ n5_ n6_ n7_ n8_ n9_; clear hb hbox hg; have hnb76 := NB753_754.out; have hnc76 := NB754_753.out; have hnb77 := NB753_755.out; have hnc77 := NB755_753.out; have hcz78_0 : w75.cell? ⟨gb753, 0, none⟩ = some (.bool a0_0) := (blk_cell BK753.out 0).trans rfl; have hcz78_1 : w75.cell? ⟨gb753, 1, none⟩ = some (.slice A0_1 l0_1.length c0_1) := (blk_cell BK753.out 1).trans rfl; have hcz78_2 : w75.cell? ⟨gb753, 2, none⟩ = some (.slice A0_2 l0_2.length c0_2) := (blk_cell BK753.out 2).trans rfl; have hfz78_0 := blk_frozen BK753.out 0; have hfz78_1 := blk_frozen BK753.out 1; have hfz78_2 := blk_frozen BK753.out 2; have hnb79 := NB754_755.out; have hnc79 := NB755_754.out; have hcz80_0 : w75.cell? ⟨gb754, 0, none⟩ = some (.bool a1_0) := (blk_cell BK754.out 0).trans rfl; have hcz80_1 : w75.cell? ⟨gb754, 1, none⟩ = some (.slice A1_1 l1_1.length c1_1) := (blk_cell BK754.out 1).trans rfl; have hcz80_2 : w75.cell? ⟨gb754, 2, none⟩ = some (.slice A1_2 l1_2.length c1_2) := (blk_cell BK754.out 2).trans rfl; have hfz80_0 := blk_frozen BK754.out 0; have hfz80_1 := blk_frozen BK754.out 1; have hfz80_2 := blk_frozen BK754.out 2) | ((with_reducible refine gate_callee (f := 106) rfl ?_); refine goesL_ (some 12) rfl rfl Try.func106 (by kernel_rfl) rfl #[.slice A0_1 l0_1.length c0_1, .slice A1_2 l1_2.length c1_2] rfl (by (try simp only [zz4, zz5, zz6]); first | done | rfl | (simp only [zza, zzb]; rfl)) ?_; (with_reducible refine (spec_l01Mul.calls k _ _ l0_1 _ _ l1_2 t756 _ ?side1 ?side2 ?side3 ?side4 A3.out).mono ?_); (case side1 => repeat (first | exact (Kd.C_below HR0_1.out HB.out) | (with_reducible refine zzC1 ?_ _) | (with_reducible refine zzC2 ?_ _) | (with_reducible refine zzC3 ?_))); (case side2 => exact HC0_1.out); (case side3 => repeat (first | exact (Kd.C_below HR1_2.out HB.out) | (with_reducible refine zzC1 ?_ _) | (with_reducible refine zzC2 ?_ _) | (with_reducible refine zzC3 ?_))); (case side4 => exact HC1_2.out); rintro e w81 ⟨v757, rfl, ho0, hb⟩; refine ⟨_, rfl, ?_⟩; have n0_ := Aside0.mk (Kd.R_lower ho0 (below_size (by repeat (first | (with_reducible first | exact HB.out | apply zzb1 | apply zzb2 | apply zzb3 | refine below_set ?_ GE753.out | refine below_set ?_ GE754.out | refine below_set ?_ GE755.out) | exact HB.out)))); have n1_ := Aside0.mk (blk_below (g := gb753) (o := .cells #[.bool a0_0, .slice A0_1 l0_1.length c0_1, .slice A0_2 l0_2.length c0_2] 24 (0, 0)) (by (with_reducible repeat (first | refine zzk1 ?_ _ | refine zzk2 ?_ | refine zzk3 ?_ _)); exact BK753.out) hb); have n2_ := Aside0.mk (blk_below (g := gb754) (o := .cells #[.bool a1_0, .slice A1_1 l1_1.length c1_1, .slice A1_2 l1_2.length c1_2] 24 (0, 0)) (by (with_reducible repeat (first | refine zzk1 ?_ _ | refine zzk2 ?_ | refine zzk3 ?_ _)); exact BK754.out) hb); have n3_ := Aside0.mk (blk_below (g := gb755) (o := .cells #[.bool false, .slice none 0 0, .slice none 0 0] 24 (0, 0)) (by (with_reducible repeat (first | refine zzk1 ?_ _ | refine zzk2 ?_ | refine zzk3 ?_ _)); exact BK755.out) hb); have n4_ := Aside0.mk (below_step (by repeat (first | (with_reducible first | exact HB.out | apply zzb1 | apply zzb2 | apply zzb3 | refine below_set ?_ GE753.out | refine below_set ?_ GE754.out | refine below_set ?_ GE755.out) | exact HB.out)) hb); clear BK753; clear BK754; clear BK755; clear HB; have HO758 := n0_; have BK753 := n1_; have BK754 := n2_; have BK755 := n3_; have HB := n4_; clear n0_ n1_ n2_ n3_ n4_; (try clear hb); (try clear hb2); (try clear hk); (try clear hi); (try clear ho0); have hcz82_0 : w81.cell? ⟨gb754, 0, none⟩ = some (.bool a1_0) := (blk_cell BK754.out 0).trans rfl; have hcz82_1 : w81.cell? ⟨gb754, 1, none⟩ = some (.slice A1_1 l1_1.length c1_1) := (blk_cell BK754.out 1).trans rfl; have hcz82_2 : w81.cell? ⟨gb754, 2, none⟩ = some (.slice A1_2 l1_2.length c1_2) := (blk_cell BK754.out 2).trans rfl; have hfz82_0 := blk_frozen BK754.out 0; have hfz82_1 := blk_frozen BK754.out 1; have hfz82_2 := blk_frozen BK754.out 2; have hcz83_0 : w81.cell? ⟨gb753, 0, none⟩ = some (.bool a0_0) := (blk_cell BK753.out 0).trans rfl; have hcz83_1 : w81.cell? ⟨gb753, 1, none⟩ = some (.slice A0_1 l0_1.length c0_1) := (blk_cell BK753.out 1).trans rfl; have hcz83_2 : w81.cell? ⟨gb753, 2, none⟩ = some (.slice A0_2 l0_2.length c0_2) := (blk_cell BK753.out 2).trans rfl; have hfz83_0 := blk_frozen BK753.out 0; have hfz83_1 := blk_frozen BK753.out 1; have hfz83_2 := blk_frozen BK753.out 2) | ((with_reducible refine gate_callee (f := 106) rfl ?_); refine goesL_ (some 17) rfl rfl Try.func106 (by kernel_rfl) rfl #[.slice A1_1 l1_1.length c1_1, .slice A0_2 l0_2.length c0_2] rfl (by (try simp only [zz4, zz5, zz6]); first | done | rfl | (simp only [zza, zzb]; rfl)) ?_; (with_reducible refine (spec_l01Mul.calls k _ _ l1_1 _ _ l0_2 t759 _ ?side1 ?side2 ?side3 ?side4 A4.out).mono ?_); (case side1 => repeat (first | exact (Kd.C_below HR1_1.out HB.out) | (with_reducible refine zzC1 ?_ _) | (with_reducible refine zzC2 ?_ _) | (with_reducible refine zzC3 ?_))); (case side2 => exact HC1_1.out); (case side3 => repeat (first | exact (Kd.C_below HR0_2.out HB.out) | (with_reducible refine zzC1 ?_ _) | (with_reducible refine zzC2 ?_ _) | (with_reducible refine zzC3 ?_))); (case side4 => exact HC0_2.out); rintro e w84 ⟨v760, rfl, ho0, hb⟩; refine ⟨_, rfl, ?_⟩; have n0_ := Aside0.mk (Kd.R_elder' (by (with_reducible repeat (first | apply zzR1 | apply zzR2 | apply zzR3)); exact HO758.out) (Kd.R_base ho0) hb); have n1_ := Aside0.mk (Kd.R_lower (Kd.R_new' ho0 (Kd.R_lt (by (with_reducible repeat (first | apply zzR1 | apply zzR2 | apply zzR3)); exact HO758.out))) (below_size (by repeat (first | (with_reducible first | exact HB.out | apply zzb1 | apply zzb2 | apply zzb3 | refine below_set ?_ GE753.out | refine below_set ?_ GE754.out | refine below_set ?_ GE755.out) | exact HB.out)))); have n2_ := Aside0.mk (blk_below (g := gb753) (o := .cells #[.bool a0_0, .slice A0_1 l0_1.length c0_1, .slice A0_2 l0_2.length c0_2] 24 (0, 0)) (by (with_reducible repeat (first | refine zzk1 ?_ _ | refine zzk2 ?_ | refine zzk3 ?_ _)); exact BK753.out) hb); have n3_ := Aside0.mk (blk_below (g := gb754) (o := .cells #[.bool a1_0, .slice A1_1 l1_1.length c1_1, .slice A1_2 l1_2.length c1_2] 24 (0, 0)) (by (with_reducible repeat (first | refine zzk1 ?_ _ | refine zzk2 ?_ | refine zzk3 ?_ _)); exact BK754.out) hb); have n4_ := Aside0.mk (blk_below (g := gb755) (o := .cells #[.bool false, .slice none 0 0, .slice none 0 0] 24 (0, 0)) (by (with_reducible repeat (first | refine zzk1 ?_ _ | refine zzk2 ?_ | refine zzk3 ?_ _)); exact BK755.out) hb); have n5_ := Aside0.mk (below_step (by repeat (first | (with_reducible first | exact HB.out | apply zzb1 | apply zzb2 | apply zzb3 | refine below_set ?_ GE753.out | refine below_set ?_ GE754.out | refine below_set ?_ GE755.out) | exact HB.out)) hb); clear HO758; clear BK753; clear BK754; clear BK755; clear HB; have HO758 := n0_; have HO761 := n1_; have BK753 := n2_; have BK754 := n3_; have BK755 := n4_; have HB := n5_; clear n0_ n1_ n2_ n3_ n4_ n5_; (try clear hb); (try clear hb2); (try clear hk); (try clear hi); (try clear ho0); have hcz85_0 : w84.cell? ⟨gb753, 0, none⟩ = some (.bool a0_0) := (blk_cell BK753.out 0).trans rfl; have hcz85_1 : w84.cell? ⟨gb753, 1, none⟩ = some (.slice A0_1 l0_1.length c0_1) := (blk_cell BK753.out 1).trans rfl; have hcz85_2 : w84.cell? ⟨gb753, 2, none⟩ = some (.slice A0_2 l0_2.length c0_2) := (blk_cell BK753.out 2).trans rfl; have hfz85_0 := blk_frozen BK753.out 0; have hfz85_1 := blk_frozen BK753.out 1; have hfz85_2 := blk_frozen BK753.out 2; have hcz86_0 : w84.cell? ⟨gb754, 0, none⟩ = some (.bool a1_0) := (blk_cell BK754.out 0).trans rfl; have hcz86_1 : w84.cell? ⟨gb754, 1, none⟩ = some (.slice A1_1 l1_1.length c1_1) := (blk_cell BK754.out 1).trans rfl; have hcz86_2 : w84.cell? ⟨gb754, 2, none⟩ = some (.slice A1_2 l1_2.length c1_2) := (blk_cell BK754.out 2).trans rfl; have hfz86_0 := blk_frozen BK754.out 0; have hfz86_1 := blk_frozen BK754.out 1; have hfz86_2 := blk_frozen BK754.out 2) | ((with_reducible refine gate_callee (f := 106) rfl ?_); refine goesL_ (some 22) rfl rfl Try.func106 (by kernel_rfl) rfl #[.slice A0_2 l0_2.length c0_2, .slice A1_2 l1_2.length c1_2] rfl (by (try simp only [zz4, zz5, zz6]); first | done | rfl | (simp only [zza, zzb]; rfl)) ?_; (with_reducible refine (spec_l01Mul.calls k _ _ l0_2 _ _ l1_2 t762 _ ?side1 ?side2 ?side3 ?side4 A5.out).mono ?_); (case side1 => repeat (first | exact (Kd.C_below HR0_2.out HB.out) | (with_reducible refine zzC1 ?_ _) | (with_reducible refine zzC2 ?_ _) | (with_reducible refine zzC3 ?_))); (case side2 => exact HC0_2.out); (case side3 => repeat (first | exact (Kd.C_below HR1_2.out HB.out) | (with_reducible refine zzC1 ?_ _) | (with_reducible refine zzC2 ?_ _) | (with_reducible refine zzC3 ?_))); (case side4 => exact HC1_2.out); rintro e w87 ⟨v763, rfl, ho0, hb⟩; refine ⟨_, rfl, ?_⟩; have n0_ := Aside0.mk (Kd.R_elder' (by (with_reducible repeat (first | apply zzR1 | apply zzR2 | apply zzR3)); exact HO758.out) (Kd.R_base ho0) hb); have n1_ := Aside0.mk (Kd.R_elder' (by (with_reducible repeat (first | apply zzR1 | apply zzR2 | apply zzR3)); exact HO761.out) (Kd.R_base ho0) hb); have n2_ := Aside0.mk (Kd.R_lower (Kd.R_new' (Kd.R_new' ho0 (Kd.R_lt (by (with_reducible repeat (first | apply zzR1 | apply zzR2 | apply zzR3)); exact HO758.out))) (Kd.R_lt (by (with_reducible repeat (first | apply zzR1 | apply zzR2 | apply zzR3)); exact HO761.out))) (below_size (by repeat (first | (with_reducible first | exact HB.out | apply zzb1 | apply zzb2 | apply zzb3 | refine below_set ?_ GE753.out | refine below_set ?_ GE754.out | refine below_set ?_ GE755.out) | exact HB.out)))); have n3_ := Aside0.mk (blk_below (g := gb753) (o := .cells #[.bool a0_0, .slice A0_1 l0_1.length c0_1, .slice A0_2 l0_2.length c0_2] 24 (0, 0)) (by (with_reducible repeat (first | refine zzk1 ?_ _ | refine zzk2 ?_ | refine zzk3 ?_ _)); exact BK753.out) hb); have n4_ := Aside0.mk (blk_below (g := gb754) (o := .cells #[.bool a1_0, .slice A1_1 l1_1.length c1_1, .slice A1_2 l1_2.length c1_2] 24 (0, 0)) (by (with_reducible repeat (first | refine zzk1 ?_ _ | refine zzk2 ?_ | refine zzk3 ?_ _)); exact BK754.out) hb); have n5_ := Aside0.mk (blk_below (g := gb755) (o := .cells #[.bool false, .slice none 0 0, .slice none 0 0] 24 (0, 0)) (by (with_reducible repeat (first | refine zzk1 ?_ _ | refine zzk2 ?_ | refine zzk3 ?_ _)); exact BK755.out) hb); have n6_ := Aside0.mk (below_step (by repeat (first | (with_reducible first | exact HB.out | apply zzb1 | apply zzb2 | apply zzb3 | refine below_set ?_ GE753.out | refine below_set ?_ GE754.out | refine below_set ?_ GE755.out) | exact HB.out)) hb); clear HO758; clear HO761; clear BK753; clear BK754; clear BK755; clear HB; have HO758 := n0_; have HO761 := n1_; have HO764 := n2_; have BK753 := n3_; have BK754 := n4_; have BK755 := n5_; have HB := n6_; clear n0_ n1_ n2_ n3_ n4_ n5_ n6_; (try clear hb); (try clear hb2); (try clear hk); (try clear hi); (try clear ho0); have hcz88_0 : w87.cell? ⟨gb753, 0, none⟩ = some (.bool a0_0) := (blk_cell BK753.out 0).trans rfl; have hcz88_1 : w87.cell? ⟨gb753, 1, none⟩ = some (.slice A0_1 l0_1.length c0_1) := (blk_cell BK753.out 1).trans rfl; have hcz88_2 : w87.cell? ⟨gb753, 2, none⟩ = some (.slice A0_2 l0_2.length c0_2) := (blk_cell BK753.out 2).trans rfl; have hfz88_0 := blk_frozen BK753.out 0; have hfz88_1 := blk_frozen BK753.out 1; have hfz88_2 := blk_frozen BK753.out 2; have hcz89_0 : w87.cell? ⟨gb754, 0, none⟩ = some (.bool a1_0) := (blk_cell BK754.out 0).trans rfl; have hcz89_1 : w87.cell? ⟨gb754, 1, none⟩ = some (.slice A1_1 l1_1.length c1_1) := (blk_cell BK754.out 1).trans rfl; have hcz89_2 : w87.cell? ⟨gb754, 2, none⟩ = some (.slice A1_2 l1_2.length c1_2) := (blk_cell BK754.out 2).trans rfl; have hfz89_0 := blk_frozen BK754.out 0; have hfz89_1 := blk_frozen BK754.out 1; have hfz89_2 := blk_frozen BK754.out 2; obtain ⟨Ao90, co90, eo90⟩ := Kd.R_slice HO758.out; subst eo90; obtain ⟨Ao91, co91, eo91⟩ := Kd.R_slice HO761.out; subst eo91) | ((with_reducible refine gate_callee (f := 55) rfl ?_); refine goesL_ (some 37) rfl rfl Try.func55 (by kernel_rfl) rfl #[.slice Ao90 t756.length co90, .slice Ao91 t759.length co91] rfl (by (try simp only [zz4, zz5, zz6]); first | done | rfl | (simp only [zza, zzb]; rfl)) ?_; (with_reducible refine (spec_l01Cmp.calls k _ _ t756 _ _ t759 t775 _ ?side1 ?side2 ?side3 ?side4 A38.out).mono ?_); (case side1 => repeat (first | exact (Kd.R_reads' HO758.out).2.2 | (with_reducible refine zzC1 ?_ _) | (with_reducible refine zzC2 ?_ _) | (with_reducible refine zzC3 ?_))); (case side2 => exact (Kd.R_reads' HO758.out).2.1); (case side3 => repeat (first | exact (Kd.R_reads' HO761.out).2.2 | (with_reducible refine zzC1 ?_ _) | (with_reducible refine zzC2 ?_ _) | (with_reducible refine zzC3 ?_))); (case side4 => exact (Kd.R_reads' HO761.out).2.1); rintro e w' ⟨rfl, ⟨nd, rfl⟩⟩; refine ⟨_, rfl, ?_⟩; (try (rw [drewN_self w87]; generalize hq_ : World.drewN w87 _ = w87; have n0_ : Aside0 (Kd.R (Kd.int .i64) 3 w87 w.heap.size (fun k_ => some k_ ≠ (.slice Ao91 t759.length co91 : Value).ownBlock ∧ some k_ ≠ (v763 : Value).ownBlock) (.slice Ao90 t756.length co90) t756) := ⟨by rw [← hq_]; exact (by (with_reducible repeat (first | apply zzR1 | apply zzR2 | apply zzR3)); exact Kd.R_mono HO758.out (fun _ hk => ⟨hk.1.2, hk.2⟩))⟩; have n1_ : Aside0 (Kd.R (Kd.int .i64) 3 w87 w.heap.size (fun k_ => some k_ ≠ (.slice Ao90 t756.length co90 : Value).ownBlock ∧ some k_ ≠ (v763 : Value).ownBlock) (.slice Ao91 t759.length co91) t759) := ⟨by rw [← hq_]; exact (by (with_reducible repeat (first | apply zzR1 | apply zzR2 | apply zzR3)); exact Kd.R_mono HO761.out (fun _ hk => ⟨hk.1.2, hk.2⟩))⟩; have n2_ : Aside0 (Kd.R (Kd.int .i64) 3 w87 w.heap.size (fun k_ => some k_ ≠ (.slice Ao90 t756.length co90 : Value).ownBlock ∧ some k_ ≠ (.slice Ao91 t759.length co91 : Value).ownBlock) v763 t762) := ⟨by rw [← hq_]; exact (by (with_reducible repeat (first | apply zzR1 | apply zzR2 | apply zzR3)); exact Kd.R_mono HO764.out (fun _ hk => ⟨hk.1.2, hk.2⟩))⟩; have n3_ : Aside0 (w87.heap[gb753]? = some (.cells #[.bool a0_0, .slice A0_1 l0_1.length c0_1, .slice A0_2 l0_2.length c0_2] 24 (0, 0))) := ⟨by rw [← hq_]; exact (by (with_reducible repeat (first | refine zzk1 ?_ _ | refine zzk2 ?_ | refine zzk3 ?_ _)); exact BK753.out)⟩; have n4_ : Aside0 (w87.heap[gb754]? = some (.cells #[.bool a1_0, .slice A1_1 l1_1.length c1_1, .slice A1_2 l1_2.length c1_2] 24 (0, 0))) := ⟨by rw [← hq_]; exact (by (with_reducible repeat (first | refine zzk1 ?_ _ | refine zzk2 ?_ | refine zzk3 ?_ _)); exact BK754.out)⟩; have n5_ : Aside0 (w87.heap[gb755]? = some (.cells #[.bool false, .slice none 0 0, .slice none 0 0] 24 (0, 0))) := ⟨by rw [← hq_]; exact (by (with_reducible repeat (first | refine zzk1 ?_ _ | refine zzk2 ?_ | refine zzk3 ?_ _)); exact BK755.out)⟩; have n6_ : Aside0 (Below w.heap.size w w87) := ⟨by rw [← hq_]; exact (by repeat (first | (with_reducible first | exact HB.out | apply zzb1 | apply zzb2 | apply zzb3 | refine below_set ?_ GE753.out | refine below_set ?_ GE754.out | refine below_set ?_ GE755.out) | exact HB.out))⟩; clear HO758 HO761 HO764 BK753 BK754 BK755 HB hq_; have HO758 := n0_; have HO761 := n1_; have HO764 := n2_; have BK753 := n3_; have BK754 := n4_; have BK755 := n5_; have HB := n6_; clear n0_ n1_ n2_ n3_ n4_ n5_ n6_))))
   have n0_ := Aside0.mk (Kd.R_drew HO758.out)
   have n1_ := Aside0.mk (Kd.R_drew HO761.out)
   have n2_ := Aside0.mk (Kd.R_drew HO764.out)
   have n3_ := Aside0.mk (blk_drew BK753.out)
   have n4_ := Aside0.mk (blk_drew BK754.out)
   have n5_ := Aside0.mk (blk_drew BK755.out)
   have n6_ := Aside0.mk (below_drew1 HB.out)
   clear HO758
   clear HO761
   clear HO764
   clear BK753
   clear BK754
   clear BK755
   clear HB
   have HO758 := n0_
   have HO761 := n1_
   have HO764 := n2_
   have BK753 := n3_
   have BK754 := n4_
   have BK755 := n5_
   have HB := n6_
   clear n0_ n1_ n2_ n3_ n4_ n5_ n6_
   refine start_ (n := 8) (S := fun w' => w'.cell? ⟨gb754, 0, none⟩ = some (.bool a1_0) ∧ w'.cell? ⟨gb754, 1, none⟩ = some (.slice A1_1 l1_1.length c1_1) ∧ w'.cell? ⟨gb754, 2, none⟩ = some (.slice A1_2 l1_2.length c1_2)) (ds := []) #[false, false, false, false, false, false, false, false] (by kernel_rfl) rfl rfl ⟨(blk_cell BK754.out 0).trans rfl, (blk_cell BK754.out 1).trans rfl, (blk_cell BK754.out 2).trans rfl⟩ (fun hHeld => ?_); refine with_tabW spec_l02Add.tab8 spec_l02Add.bits8 (fun HT_ HW_ => ?_)
   generalize w87.drew = w92 at HO758 HO761 HO764 BK753 BK754 BK755 HB hHeld ⊢
   refine pure_ (i := 0) (N := some 46) (v := ?_) (a' := ?_) #[true, false, false, false, false, false, false, false] rfl rfl (any_of HT_.out (by kernel_rfl)) (fun _ _ _ h => h) (Or.inl ⟨by rfl, ?_⟩) ?_ ?_
   rotate_left
   ·
    intro w'
    go_simp
    with_reducible rfl
   rotate_left
   ·
    simp only [Act.put, zz7, zz8, zz9, i64_w, i32_w]
    rfl
   refine pure_ (i := 2) (N := some 48) (v := ?_) (a' := ?_) #[true, false, true, false, false, false, false, false] rfl rfl (any_of HT_.out (by kernel_rfl)) (fun _ _ _ h => h) (Or.inl ⟨by rfl, ?_⟩) ?_ ?_
   rotate_left
   ·
    intro w'
    go_simp
    with_reducible rfl
   rotate_left
   ·
    simp only [Act.put, zz7, zz8, zz9, i64_w, i32_w]
    rfl
   refine pure_ (i := 3) (N := some 49) (v := ?_) (a' := ?_) #[true, false, true, true, false, false, false, false] rfl rfl (any_of HT_.out (by kernel_rfl)) (fun _ _ _ h => h) (Or.inl ⟨by rfl, ?_⟩) ?_ ?_
   rotate_left
   ·
    intro w'
    go_simp
    with_reducible rfl
   rotate_left
   ·
    simp only [Act.put, zz7, zz8, zz9, i64_w, i32_w]
    rfl
   refine pure_ (i := 5) (N := some 51) (v := ?_) (a' := ?_) #[true, false, true, true, false, true, false, false] rfl rfl (any_of HT_.out (by kernel_rfl)) (fun _ _ _ h => h) (Or.inl ⟨by rfl, ?_⟩) ?_ ?_
   rotate_left
   ·
    intro w'
    go_simp
    with_reducible rfl
   rotate_left
   ·
    simp only [Act.put, zz7, zz8, zz9, i64_w, i32_w]
    rfl
   refine take_ (i := 1) (N := some 47) (v := ?_) (a' := ?_) #[true, true, true, true, false, true, false, false] rfl rfl (take_ofW HT_.out HW_.out (by kernel_rfl)) (fun _ _ _ h => h) (Or.inl ⟨by rfl, ?_⟩) hHeld ?_ ?_
   rotate_left
   ·
    rintro w' ⟨s0, s1, s2⟩
    go_simp
    with_reducible rfl
   rotate_left
   ·
    simp only [Act.put, zz7, zz8, zz9, i64_w, i32_w]
    rfl
   refine one_ (i := 4) (N := some 50) #[true, true, true, true, true, true, false, false] rfl rfl (one_of HT_.out (by kernel_rfl)) (by decide) (fun K hK => ?_)
   refine goes_ Try.func111 (by kernel_rfl) rfl #[.slice Ao91 t759.length co91, .slice Ao90 t756.length co90] (by rfl) rfl rfl (by (try simp only [zz4, zz5, zz6]); first | done | rfl | (simp only [zza, zzb]; rfl)) ?_
   with_reducible refine (spec_l01Sub.calls k _ _ t759 _ _ t756 t786 _ ?side1 ?side2 ?side3 ?side4 A71.out).mono ?_
   (case side1 => repeat (first | exact (Kd.R_reads' HO761.out).2.2 | (with_reducible refine zzC1 ?_ _) | (with_reducible refine zzC2 ?_ _) | (with_reducible refine zzC3 ?_)))
   (case side2 => exact (Kd.R_reads' HO761.out).2.1)
   (case side3 => repeat (first | exact (Kd.R_reads' HO758.out).2.2 | (with_reducible refine zzC1 ?_ _) | (with_reducible refine zzC2 ?_ _) | (with_reducible refine zzC3 ?_)))
   (case side4 => exact (Kd.R_reads' HO758.out).2.1)
   rintro e w93 ⟨v787, rfl, ho0, hb⟩
   refine ⟨_, rfl, ?_⟩
   have n0_ := Aside0.mk (Kd.R_elder' (by (with_reducible repeat (first | apply zzR1 | apply zzR2 | apply zzR3)); exact HO758.out) (Kd.R_base ho0) hb)
   have n1_ := Aside0.mk (Kd.R_elder' (by (with_reducible repeat (first | apply zzR1 | apply zzR2 | apply zzR3)); exact HO761.out) (Kd.R_base ho0) hb)
   have n2_ := Aside0.mk (Kd.R_elder' (by (with_reducible repeat (first | apply zzR1 | apply zzR2 | apply zzR3)); exact HO764.out) (Kd.R_base ho0) hb)
   have n3_ := Aside0.mk (Kd.R_lower (Kd.R_new' (Kd.R_new' (Kd.R_new' ho0 (Kd.R_lt (by (with_reducible repeat (first | apply zzR1 | apply zzR2 | apply zzR3)); exact HO758.out))) (Kd.R_lt (by (with_reducible repeat (first | apply zzR1 | apply zzR2 | apply zzR3)); exact HO761.out))) (Kd.R_lt (by (with_reducible repeat (first | apply zzR1 | apply zzR2 | apply zzR3)); exact HO764.out))) (below_size (by repeat (first | (with_reducible first | exact HB.out | apply zzb1 | apply zzb2 | apply zzb3 | refine below_set ?_ GE753.out | refine below_set ?_ GE754.out | refine below_set ?_ GE755.out) | exact HB.out))))
   have n4_ := Aside0.mk (blk_below (g := gb753) (o := .cells #[.bool a0_0, .slice A0_1 l0_1.length c0_1, .slice A0_2 l0_2.length c0_2] 24 (0, 0)) (by (with_reducible repeat (first | refine zzk1 ?_ _ | refine zzk2 ?_ | refine zzk3 ?_ _)); exact BK753.out) hb)
   have n5_ := Aside0.mk (blk_below (g := gb754) (o := .cells #[.bool a1_0, .slice A1_1 l1_1.length c1_1, .slice A1_2 l1_2.length c1_2] 24 (0, 0)) (by (with_reducible repeat (first | refine zzk1 ?_ _ | refine zzk2 ?_ | refine zzk3 ?_ _)); exact BK754.out) hb)
   have n6_ := Aside0.mk (blk_below (g := gb755) (o := .cells #[.bool false, .slice none 0 0, .slice none 0 0] 24 (0, 0)) (by (with_reducible repeat (first | refine zzk1 ?_ _ | refine zzk2 ?_ | refine zzk3 ?_ _)); exact BK755.out) hb)
   have n7_ := Aside0.mk (below_step (by repeat (first | (with_reducible first | exact HB.out | apply zzb1 | apply zzb2 | apply zzb3 | refine below_set ?_ GE753.out | refine below_set ?_ GE754.out | refine below_set ?_ GE755.out) | exact HB.out)) hb)
   clear HO758
   clear HO761
   clear HO764
   clear BK753
   clear BK754
   clear BK755
   clear HB
   have HO758 := n0_
   have HO761 := n1_
   have HO764 := n2_
   have HO788 := n3_
   have BK753 := n4_
   have BK754 := n5_
   have BK755 := n6_
   have HB := n7_
   clear n0_ n1_ n2_ n3_ n4_ n5_ n6_ n7_
   (try clear hb)
   (try clear hb2)
   (try clear hk)
   (try clear hi)
   (try clear ho0)
   obtain ⟨Ao94, co94, eo94⟩ := Kd.R_slice HO788.out
   (first | subst eo94 | (injection eo94 with f1_ f2_ f3_; have f4_ := f1_.symm; have f5_ := f3_.symm; clear f1_ f2_ f3_; subst f4_; subst f5_))
   obtain ⟨Ao95, co95, eo95⟩ := Kd.R_slice HO764.out
   (first | subst eo95 | (injection eo95 with f1_ f2_ f3_; have f4_ := f1_.symm; have f5_ := f3_.symm; clear f1_ f2_ f3_; subst f4_; subst f5_))
   refine hK.out _ _ ⟨(blk_cell BK754.out 0).trans rfl, (blk_cell BK754.out 1).trans rfl, (blk_cell BK754.out 2).trans rfl⟩ (fun hHeld => ?_)
   clear hK K
   refine norm_ (a' := ?_) ?_ ?_
   rotate_left
   ·
    show Act.put _ (some 50) _ = _
    simp only [Act.put, zz7, zz8, zz9, i64_w, i32_w]
    rfl
   refine one_ (i := 6) (N := some 52) #[true, true, true, true, true, true, true, false] rfl rfl (one_of HT_.out (by kernel_rfl)) (by decide) (fun K hK => ?_)
   refine goes_ Try.func47 (by kernel_rfl) rfl #[.bool a1_0, .slice Ao94 t786.length co94, .slice Ao95 t762.length co95] (by rfl) rfl rfl (by (try simp only [zz4, zz5, zz6]); first | done | rfl | (simp only [zza, zzb]; rfl)) ?_
   with_reducible refine (spec_l02Make.calls k a1_0 _ _ t786 _ _ t762 t789 t790 t793 _ ?side1 ?side2 ?side3 ?side4 A72.out).mono ?_
   (case side1 => repeat (first | exact (Kd.R_reads' HO788.out).2.2 | (with_reducible refine zzC1 ?_ _) | (with_reducible refine zzC2 ?_ _) | (with_reducible refine zzC3 ?_)))
   (case side2 => exact (Kd.R_reads' HO788.out).2.1)
   (case side3 => repeat (first | exact (Kd.R_reads' HO764.out).2.2 | (with_reducible refine zzC1 ?_ _) | (with_reducible refine zzC2 ?_ _) | (with_reducible refine zzC3 ?_)))
   (case side4 => exact (Kd.R_reads' HO764.out).2.1)
   rintro e w96 ⟨v791, v794, rfl, ho0, ho1, hb⟩
   refine ⟨_, rfl, ?_⟩
   have n0_ := Aside0.mk (Kd.R_mono (Kd.R_told (Kd.R_told (Kd.R_old (by (with_reducible repeat (first | apply zzR1 | apply zzR2 | apply zzR3)); exact HO758.out) hb) (Kd.R_base ho0)) (Kd.R_base ho1)) (fun _ h_ => h_.1))
   have n1_ := Aside0.mk (Kd.R_mono (Kd.R_told (Kd.R_told (Kd.R_old (by (with_reducible repeat (first | apply zzR1 | apply zzR2 | apply zzR3)); exact HO761.out) hb) (Kd.R_base ho0)) (Kd.R_base ho1)) (fun _ h_ => h_.1))
   have n2_ := Aside0.mk (Kd.R_mono (Kd.R_told (Kd.R_told (Kd.R_old (by (with_reducible repeat (first | apply zzR1 | apply zzR2 | apply zzR3)); exact HO764.out) hb) (Kd.R_base ho0)) (Kd.R_base ho1)) (fun _ h_ => h_.1))
   have n3_ := Aside0.mk (Kd.R_mono (Kd.R_told (Kd.R_told (Kd.R_old (by (with_reducible repeat (first | apply zzR1 | apply zzR2 | apply zzR3)); exact HO788.out) hb) (Kd.R_base ho0)) (Kd.R_base ho1)) (fun _ h_ => h_.1))
   have n4_ := Aside0.mk (Kd.R_lower (Kd.R_new' (Kd.R_new' (Kd.R_new' (Kd.R_new' ho0 (Kd.R_lt (by (with_reducible repeat (first | apply zzR1 | apply zzR2 | apply zzR3)); exact HO758.out))) (Kd.R_lt (by (with_reducible repeat (first | apply zzR1 | apply zzR2 | apply zzR3)); exact HO761.out))) (Kd.R_lt (by (with_reducible repeat (first | apply zzR1 | apply zzR2 | apply zzR3)); exact HO764.out))) (Kd.R_lt (by (with_reducible repeat (first | apply zzR1 | apply zzR2 | apply zzR3)); exact HO788.out))) (below_size (by repeat (first | (with_reducible first | exact HB.out | apply zzb1 | apply zzb2 | apply zzb3 | refine below_set ?_ GE753.out | refine below_set ?_ GE754.out | refine below_set ?_ GE755.out) | exact HB.out))))
   have n5_ := Aside0.mk (Kd.R_lower (Kd.R_new' (Kd.R_new' (Kd.R_new' (Kd.R_new' ho1 (Kd.R_lt (by (with_reducible repeat (first | apply zzR1 | apply zzR2 | apply zzR3)); exact HO758.out))) (Kd.R_lt (by (with_reducible repeat (first | apply zzR1 | apply zzR2 | apply zzR3)); exact HO761.out))) (Kd.R_lt (by (with_reducible repeat (first | apply zzR1 | apply zzR2 | apply zzR3)); exact HO764.out))) (Kd.R_lt (by (with_reducible repeat (first | apply zzR1 | apply zzR2 | apply zzR3)); exact HO788.out))) (below_size (by repeat (first | (with_reducible first | exact HB.out | apply zzb1 | apply zzb2 | apply zzb3 | refine below_set ?_ GE753.out | refine below_set ?_ GE754.out | refine below_set ?_ GE755.out) | exact HB.out))))
   have n6_ := Aside0.mk (blk_below (g := gb753) (o := .cells #[.bool a0_0, .slice A0_1 l0_1.length c0_1, .slice A0_2 l0_2.length c0_2] 24 (0, 0)) (by (with_reducible repeat (first | refine zzk1 ?_ _ | refine zzk2 ?_ | refine zzk3 ?_ _)); exact BK753.out) hb)
   have n7_ := Aside0.mk (blk_below (g := gb754) (o := .cells #[.bool a1_0, .slice A1_1 l1_1.length c1_1, .slice A1_2 l1_2.length c1_2] 24 (0, 0)) (by (with_reducible repeat (first | refine zzk1 ?_ _ | refine zzk2 ?_ | refine zzk3 ?_ _)); exact BK754.out) hb)
   have n8_ := Aside0.mk (blk_below (g := gb755) (o := .cells #[.bool false, .slice none 0 0, .slice none 0 0] 24 (0, 0)) (by (with_reducible repeat (first | refine zzk1 ?_ _ | refine zzk2 ?_ | refine zzk3 ?_ _)); exact BK755.out) hb)
   have n9_ := Aside0.mk (below_step (by repeat (first | (with_reducible first | exact HB.out | apply zzb1 | apply zzb2 | apply zzb3 | refine below_set ?_ GE753.out | refine below_set ?_ GE754.out | refine below_set ?_ GE755.out) | exact HB.out)) hb)
   clear HO758
   clear HO761
   clear HO764
   clear HO788
   clear BK753
   clear BK754
   clear BK755
   clear HB
   have HO758 := n0_
   have HO761 := n1_
   have HO764 := n2_
   have HO788 := n3_
   have HO792 := n4_
   have HO795 := n5_
   have BK753 := n6_
   have BK754 := n7_
   have BK755 := n8_
   have HB := n9_
   clear n0_ n1_ n2_ n3_ n4_ n5_ n6_ n7_ n8_ n9_
   (try clear hb)
   (try clear hb2)
   (try clear hk)
   (try clear hi)
   (try clear ho0)
   (try clear ho1)
   obtain ⟨Ao98, co98, eo98⟩ := Kd.R_slice HO792.out
   (first | subst eo98 | (injection eo98 with f1_ f2_ f3_; have f4_ := f1_.symm; have f5_ := f3_.symm; clear f1_ f2_ f3_; subst f4_; subst f5_))
   obtain ⟨Ao100, co100, eo100⟩ := Kd.R_slice HO795.out
   (first | subst eo100 | (injection eo100 with f1_ f2_ f3_; have f4_ := f1_.symm; have f5_ := f3_.symm; clear f1_ f2_ f3_; subst f4_; subst f5_))
   refine hK.out _ _ ⟨(blk_cell BK754.out 0).trans rfl, (blk_cell BK754.out 1).trans rfl, (blk_cell BK754.out 2).trans rfl⟩ (fun hHeld => ?_)
   clear hK K
   refine norm_ (a' := ?_) ?_ ?_
   rotate_left
   ·
    show Act.put _ (some 52) _ = _
    simp only [Act.put, zz7, zz8, zz9, i64_w, i32_w]
    rfl
   refine one_ (i := 7) (N := none) #[true, true, true, true, true, true, true, true] rfl rfl (one_of HT_.out (by kernel_rfl)) (by decide) (fun K hK => ?_)
   have hs97 : w96.cell? ⟨gb755, 0, none⟩ = some (.bool false) := (blk_cell BK755.out 0).trans rfl
   have hfs97 := blk_frozen BK755.out 0
   have hns97_0 := NB753_755.out
   have hns97_1 := NB754_755.out
   have hms97_0 := NB755_753.out
   have hms97_1 := NB755_754.out
   have hs99 : w96.cell? ⟨gb755, 1, none⟩ = some (.slice none 0 0) := (blk_cell BK755.out 1).trans rfl
   have hfs99 := blk_frozen BK755.out 1
   have hns99_0 := NB753_755.out
   have hns99_1 := NB754_755.out
   have hms99_0 := NB755_753.out
   have hms99_1 := NB755_754.out
   have hs101 : w96.cell? ⟨gb755, 2, none⟩ = some (.slice none 0 0) := (blk_cell BK755.out 2).trans rfl
   have hfs101 := blk_frozen BK755.out 2
   have hns101_0 := NB753_755.out
   have hns101_1 := NB754_755.out
   have hms101_0 := NB755_753.out
   have hms101_1 := NB755_754.out
   refine skip_ (w1 := ?_) (by rfl) rfl ?_ ?_
   rotate_left
   ·
    go_simp
    rfl
   refine hK.out _ _ ⟨((cell_far (p := ⟨gb755, _, none⟩) NB754_755.out _).trans (((cell_far (p := ⟨gb755, _, none⟩) NB754_755.out _).trans (((cell_far (p := ⟨gb755, _, none⟩) NB754_755.out _).trans (hHeld.1)))))), ((cell_far (p := ⟨gb755, _, none⟩) NB754_755.out _).trans (((cell_far (p := ⟨gb755, _, none⟩) NB754_755.out _).trans (((cell_far (p := ⟨gb755, _, none⟩) NB754_755.out _).trans (hHeld.2.1)))))), ((cell_far (p := ⟨gb755, _, none⟩) NB754_755.out _).trans (((cell_far (p := ⟨gb755, _, none⟩) NB754_755.out _).trans (((cell_far (p := ⟨gb755, _, none⟩) NB754_755.out _).trans (hHeld.2.2))))))⟩ (fun hHeld => ?_)
   clear hK K
   refine done_ (done_of HT_.out (by kernel_rfl)) ?_
   try go_wp2
   refine bodyPost_ret (results_cell_row rfl _ _ gb755 24 #[.bool t789, .slice Ao98 t790.length co98, .slice Ao100 t793.length co100] (0, 0) _ rfl (by (with_reducible repeat (first | refine zzk1 ?_ _ | refine zzk2 ?_ | refine zzk3 ?_ _)); refine blk_put (cs := #[.bool t789, .slice Ao98 t790.length co98, .slice none 0 0]) ?_ 2 _ rfl; (with_reducible repeat (first | refine zzk1 ?_ _ | refine zzk2 ?_ | refine zzk3 ?_ _)); refine blk_put (cs := #[.bool t789, .slice none 0 0, .slice none 0 0]) ?_ 1 _ rfl; (with_reducible repeat (first | refine zzk1 ?_ _ | refine zzk2 ?_ | refine zzk3 ?_ _)); refine blk_put (cs := #[.bool false, .slice none 0 0, .slice none 0 0]) ?_ 0 _ rfl; (with_reducible repeat (first | refine zzk1 ?_ _ | refine zzk2 ?_ | refine zzk3 ?_ _)); exact BK755.out) Try.underlying24 rfl (by kernel_rfl)) rfl ?_
   exact ⟨_, _, by first | rfl | (simp [errW_none, errW_some] <;> rfl) | (simp [*, errW_none, errW_some] <;> rfl), by (with_reducible repeat (first | apply zzR1 | apply zzR2 | apply zzR3)); exact Kd.R_mono (Kd.R_far (p := ⟨gb755, 2, none⟩) (Kd.R_far (p := ⟨gb755, 1, none⟩) (Kd.R_far (p := ⟨gb755, 0, none⟩) (Kd.R_types HO792.out BK755.out (by decide)) (fun _ hk => hk.2) (.bool t789)) (fun _ hk => hk.2) (.slice Ao98 t790.length co98)) (fun _ hk => hk.2) (.slice Ao100 t793.length co100)) (fun _ hk => hk.1.1.1.1.1), by (with_reducible repeat (first | apply zzR1 | apply zzR2 | apply zzR3)); exact Kd.R_mono (Kd.R_far (p := ⟨gb755, 2, none⟩) (Kd.R_far (p := ⟨gb755, 1, none⟩) (Kd.R_far (p := ⟨gb755, 0, none⟩) (Kd.R_types HO795.out BK755.out (by decide)) (fun _ hk => hk.2) (.bool t789)) (fun _ hk => hk.2) (.slice Ao98 t790.length co98)) (fun _ hk => hk.2) (.slice Ao100 t793.length co100)) (fun _ hk => hk.1.1.1.1.1), by repeat (first | (with_reducible first | exact HB.out | apply zzb1 | apply zzb2 | apply zzb3 | refine below_set ?_ GE753.out | refine below_set ?_ GE754.out | refine below_set ?_ GE755.out) | exact HB.out)⟩

def spec_l02Sub.f (k : Nat) (a0_0 : Bool) (l0_1 : List Int) (l0_2 : List Int) (a1_0 : Bool) (l1_1 : List Int) (l1_2 : List Int) : Option (Bool × List Int × List Int) := (spec_l02Neg.f a1_0 l1_1 l1_2).bind fun bt799 => ((spec_l02Add.f k a0_0 l0_1 l0_2 bt799.1 bt799.2.1 bt799.2.2).bind fun bt806 => (some (bt806.1, bt806.2.1, bt806.2.2)))
theorem spec_l02Sub.mono : ∀ a0 a1 a2 a3 a4 a5 k, LeO (spec_l02Sub.f k a0 a1 a2 a3 a4 a5) (spec_l02Sub.f (k + 1) a0 a1 a2 a3 a4 a5) := by
 intro a0 a1 a2 a3 a4 a5 k
 unfold spec_l02Sub.f
 repeat' first
   | (with_reducible exact spec_l02Add.mono _ _ _ _ _ _ _)
   | (with_reducible exact LeO.refl _)
   | (with_reducible exact LeO.none _)
   | (with_reducible refine LeO.ite ?_ ?_)
   | (with_reducible refine LeO.bind ?_ (fun _ => ?_))
   | exact spec_l02Add.mono _ _ _ _ _ _ _
   | exact LeO.none _
   | refine LeO.ite ?_ ?_
   | refine LeO.bind ?_ (fun _ => ?_)
set_option maxHeartbeats 8000000 in
set_option maxRecDepth 100000 in
theorem spec_l02Sub.calls (k : Nat) (a0_0 : Bool) (A0_1 : Option Addr) (c0_1 : Nat) (l0_1 : List Int) (A0_2 : Option Addr) (c0_2 : Nat) (l0_2 : List Int) (a1_0 : Bool) (P1_1_ : Nat → Prop) (u9000_ : Value) (l1_1 : List Int) (P1_2_ : Nat → Prop) (u9001_ : Value) (l1_2 : List Int) (r1 : Bool) (r2 : List Int) (r3 : List Int) (w0 w : World) (hB : Below w0.heap.size w0 w) (hr0_1 : ∀ W_, Kept w W_ (fun k_ => P1_1_ k_ ∨ P1_2_ k_) → Kd.C (Kd.int .i64) W_ A0_1 l0_1.length l0_1) (hc0_1 : l0_1.length ≤ c0_1) (hr0_2 : ∀ W_, Kept w W_ (fun k_ => P1_1_ k_ ∨ P1_2_ k_) → Kd.C (Kd.int .i64) W_ A0_2 l0_2.length l0_2) (hc0_2 : l0_2.length ≤ c0_2) (ho1_1 : Kd.R (Kd.int .i64) 3 w w0.heap.size P1_1_ u9000_ l1_1) (hp1_1_1_2 : ∀ k_, P1_1_ k_ → ¬ P1_2_ k_) (ho1_2 : Kd.R (Kd.int .i64) 3 w w0.heap.size P1_2_ u9001_ l1_2) (hp1_2_1_1 : ∀ k_, P1_2_ k_ → ¬ P1_1_ k_) (h : spec_l02Sub.f k a0_0 l0_1 l0_2 a1_0 l1_1 l1_2 = some (r1, r2, r3)) :
  Calls Try.prog 86 #[.agg #[.bool a0_0, .slice A0_1 l0_1.length c0_1, .slice A0_2 l0_2.length c0_2], .agg #[.bool a1_0, u9000_, u9001_]] w fun e w' => ∃ v1_ v2_ : Value, e = .returned (.agg #[.bool r1, v1_, v2_]) ∧ Kd.R (Kd.int .i64) 3 w' w0.heap.size (fun k_ => ((P1_1_ k_ ∨ P1_2_ k_) ∨ w.heap.size ≤ k_) ∧ some k_ ≠ (v2_ : Value).ownBlock) v1_ r2 ∧ Kd.R (Kd.int .i64) 3 w' w0.heap.size (fun k_ => ((P1_1_ k_ ∨ P1_2_ k_) ∨ w.heap.size ≤ k_) ∧ some k_ ≠ (v1_ : Value).ownBlock) v2_ r3 ∧ Below w0.heap.size w0 w' ∧ Kept w w' (fun k_ => P1_1_ k_ ∨ P1_2_ k_) := by
 have hu24 := Try.underlying24
 have HR0_1 := Aside0.mk hr0_1
 have HC0_1 := Aside0.mk hc0_1
 clear hr0_1 hc0_1
 have HR0_2 := Aside0.mk hr0_2
 have HC0_2 := Aside0.mk hc0_2
 clear hr0_2 hc0_2
 have HO1_1 := Aside0.mk (show Kd.R (Kd.int .i64) 3 w w0.heap.size (fun k_ => ((P1_1_ k_ ∨ P1_2_ k_) ∨ w.heap.size ≤ k_) ∧ some k_ ≠ (u9001_ : Value).ownBlock) u9000_ l1_1 from Kd.R_mono ho1_1 (fun k_ hk => ⟨(.inl (.inl hk)), fun e_ => hp1_1_1_2 k_ hk (ho1_2.1 k_ e_.symm)⟩))
 have HO1_2 := Aside0.mk (show Kd.R (Kd.int .i64) 3 w w0.heap.size (fun k_ => ((P1_1_ k_ ∨ P1_2_ k_) ∨ w.heap.size ≤ k_) ∧ some k_ ≠ (u9000_ : Value).ownBlock) u9001_ l1_2 from Kd.R_mono ho1_2 (fun k_ hk => ⟨(.inl (.inr hk)), fun e_ => hp1_2_1_1 k_ hk (ho1_1.1 k_ e_.symm)⟩))
 have HK := Aside0.mk (Kept.refl w (fun k_ => P1_1_ k_ ∨ P1_2_ k_))
 have HW0 := Aside0.mk hB.size
 have HB := Aside0.mk hB
 clear hB
 have H : ((spec_l02Neg.f a1_0 l1_1 l1_2).bind fun bt799 => ((spec_l02Add.f k a0_0 l0_1 l0_2 bt799.1 bt799.2.1 bt799.2.2).bind fun bt806 => (some (bt806.1, bt806.2.1, bt806.2.2)))) = some (r1, r2, r3) := h
 clear h
 replace H := Option.bind_eq_some_iff.mp H
 obtain ⟨⟨t799, t800, t803⟩, A30, H⟩ := H
 replace H : ((spec_l02Add.f k a0_0 l0_1 l0_2 t799 t800 t803).bind fun bt806 => (some (bt806.1, bt806.2.1, bt806.2.2))) = some (r1, r2, r3) := H
 have A3 := Aside0.mk A30
 clear A30
 replace H := Option.bind_eq_some_iff.mp H
 obtain ⟨⟨t806, t807, t810⟩, A40, H⟩ := H
 replace H : (some (t806, t807, t810)) = some (r1, r2, r3) := H
 have A4 := Aside0.mk A40
 clear A40
 simp only [Option.some.injEq, Prod.mk.injEq] at H
 obtain ⟨rfl, rfl, rfl⟩ := H
 go_enter Try.func86, Try.ntmps86
 try go_wp2_with (first | ((with_reducible refine gate_dst (N := 2) rfl ?_); refine box_event ?hg (N := 2) ?hd (cs := #[.bool a0_0, .slice A0_1 l0_1.length c0_1, .slice A0_2 l0_2.length c0_2]) (t := 24) ?hr ?_; (case hd => rfl); (case hg => rfl); (case hr => first | (go_simp; done) | (go_simp; rfl)); intro gb796 hg w5 hbox hb; have n0_ := Aside0.mk (Kd.R_below (by (with_reducible repeat (first | apply zzR1 | apply zzR2 | apply zzR3)); exact HO1_1.out) hb); have n1_ := Aside0.mk (Kd.R_below (by (with_reducible repeat (first | apply zzR1 | apply zzR2 | apply zzR3)); exact HO1_2.out) hb); have n2_ := Aside0.mk (Kept.below (S := (fun k_ => P1_1_ k_ ∨ P1_2_ k_)) (by repeat (first | (with_reducible first | exact HK.out | apply Kept.alloc | apply Kept.drewN | apply Kept.drew) | exact HK.out)) hb); have n3_ := Aside0.mk (below_step (by repeat (first | (with_reducible first | exact HB.out | apply zzb1 | apply zzb2 | apply zzb3) | exact HB.out)) hb); have n4_ := Aside0.mk (hbox); have n5_ := Aside0.mk ((by rw [hg]; exact (by first | exact HK.out.1 | exact (show Kept w _ (fun k_ => P1_1_ k_ ∨ P1_2_ k_) from by repeat (first | (with_reducible first | exact HK.out | apply Kept.alloc | apply Kept.drewN | apply Kept.drew) | exact HK.out)).1) : w.heap.size ≤ gb796)); have n6_ := Aside0.mk ((by rw [hg]; exact (below_size (by repeat (first | (with_reducible first | exact HB.out | apply zzb1 | apply zzb2 | apply zzb3) | exact HB.out))) : w0.heap.size ≤ gb796)); clear HO1_1; clear HO1_2; clear HK; clear HB; have HO1_1 := n0_; have HO1_2 := n1_; have HK := n2_; have HB := n3_; have BK796 := n4_; have GW796 := n5_; have GE796 := n6_; clear n0_ n1_ n2_ n3_ n4_ n5_ n6_; clear hb hbox hg; obtain ⟨Ao6, co6, eo6⟩ := Kd.R_slice HO1_1.out; subst eo6; obtain ⟨Ao7, co7, eo7⟩ := Kd.R_slice HO1_2.out; subst eo7) | ((with_reducible refine gate_dst (N := 3) rfl ?_); refine box_event ?hg (N := 3) ?hd (cs := #[.bool a1_0, .slice Ao6 l1_1.length co6, .slice Ao7 l1_2.length co7]) (t := 24) ?hr ?_; (case hd => rfl); (case hg => rfl); (case hr => first | (go_simp; done) | (go_simp; rfl)); intro gb797 hg w8 hbox hb; have n0_ := Aside0.mk (Kd.R_below (by (with_reducible repeat (first | apply zzR1 | apply zzR2 | apply zzR3)); exact HO1_1.out) hb); have n1_ := Aside0.mk (Kd.R_below (by (with_reducible repeat (first | apply zzR1 | apply zzR2 | apply zzR3)); exact HO1_2.out) hb); have n2_ := Aside0.mk (blk_below (g := gb796) (o := .cells #[.bool a0_0, .slice A0_1 l0_1.length c0_1, .slice A0_2 l0_2.length c0_2] 24 (0, 0)) (by (with_reducible repeat (first | refine zzk1 ?_ _ | refine zzk2 ?_ | refine zzk3 ?_ _)); exact BK796.out) hb); have n3_ := Aside0.mk (Kept.below (S := (fun k_ => P1_1_ k_ ∨ P1_2_ k_)) (by repeat (first | (with_reducible first | exact HK.out | apply Kept.alloc | apply Kept.drewN | apply Kept.drew | refine Kept.setCell ?_ (.inr GW796.out) _) | exact HK.out)) hb); have n4_ := Aside0.mk (below_step (by repeat (first | (with_reducible first | exact HB.out | apply zzb1 | apply zzb2 | apply zzb3 | refine below_set ?_ GE796.out) | exact HB.out)) hb); have n5_ := Aside0.mk (hbox); have n6_ := Aside0.mk ((by rw [hg]; exact (by first | exact HK.out.1 | exact (show Kept w _ (fun k_ => P1_1_ k_ ∨ P1_2_ k_) from by repeat (first | (with_reducible first | exact HK.out | apply Kept.alloc | apply Kept.drewN | apply Kept.drew | refine Kept.setCell ?_ (.inr GW796.out) _) | exact HK.out)).1) : w.heap.size ≤ gb797)); have n7_ := Aside0.mk ((by rw [hg]; exact (below_size (by repeat (first | (with_reducible first | exact HB.out | apply zzb1 | apply zzb2 | apply zzb3 | refine below_set ?_ GE796.out) | exact HB.out))) : w0.heap.size ≤ gb797)); have n8_ := Aside0.mk ((by rw [hg]; exact Nat.ne_of_lt (blk_lt (g := gb796) (o := .cells #[.bool a0_0, .slice A0_1 l0_1.length c0_1, .slice A0_2 l0_2.length c0_2] 24 (0, 0)) (by (with_reducible repeat (first | refine zzk1 ?_ _ | refine zzk2 ?_ | refine zzk3 ?_ _)); exact BK796.out)) : gb796 ≠ gb797)); have n9_ := Aside0.mk ((by rw [hg]; exact Nat.ne_of_gt (blk_lt (g := gb796) (o := .cells #[.bool a0_0, .slice A0_1 l0_1.length c0_1, .slice A0_2 l0_2.length c0_2] 24 (0, 0)) (by (with_reducible repeat (first | refine zzk1 ?_ _ | refine zzk2 ?_ | refine zzk3 ?_ _)); exact BK796.out)) : gb797 ≠ gb796)); clear HO1_1; clear HO1_2; clear BK796; clear HK; clear HB; have HO1_1 := n0_; have HO1_2 := n1_; have BK796 := n2_; have HK := n3_; have HB := n4_; have BK797 := n5_; have GW797 := n6_; have GE797 := n7_; have NB796_797 := n8_; have NB797_796 := n9_; clear n0_ n1_ n2_ n3_ n4_ n5_ n6_ n7_ n8_ n9_; clear hb hbox hg) | ((with_reducible refine gate_dst (N := 4) rfl ?_); refine box_event ?hg (N := 4) ?hd (cs := #[.bool false, .slice none 0 0, .slice none 0 0]) (t := 24) ?hr ?_; (case hd => rfl); (case hg => rfl); (case hr => first | (go_simp; done) | (go_simp; rfl)); intro gb798 hg w9 hbox hb; have n0_ := Aside0.mk (Kd.R_below (by (with_reducible repeat (first | apply zzR1 | apply zzR2 | apply zzR3)); exact HO1_1.out) hb); have n1_ := Aside0.mk (Kd.R_below (by (with_reducible repeat (first | apply zzR1 | apply zzR2 | apply zzR3)); exact HO1_2.out) hb); have n2_ := Aside0.mk (blk_below (g := gb796) (o := .cells #[.bool a0_0, .slice A0_1 l0_1.length c0_1, .slice A0_2 l0_2.length c0_2] 24 (0, 0)) (by (with_reducible repeat (first | refine zzk1 ?_ _ | refine zzk2 ?_ | refine zzk3 ?_ _)); exact BK796.out) hb); have n3_ := Aside0.mk (blk_below (g := gb797) (o := .cells #[.bool a1_0, .slice Ao6 l1_1.length co6, .slice Ao7 l1_2.length co7] 24 (0, 0)) (by (with_reducible repeat (first | refine zzk1 ?_ _ | refine zzk2 ?_ | refine zzk3 ?_ _)); exact BK797.out) hb); have n4_ := Aside0.mk (Kept.below (S := (fun k_ => P1_1_ k_ ∨ P1_2_ k_)) (by repeat (first | (with_reducible first | exact HK.out | apply Kept.alloc | apply Kept.drewN | apply Kept.drew | refine Kept.setCell ?_ (.inr GW796.out) _ | refine Kept.setCell ?_ (.inr GW797.out) _) | exact HK.out)) hb); have n5_ := Aside0.mk (below_step (by repeat (first | (with_reducible first | exact HB.out | apply zzb1 | apply zzb2 | apply zzb3 | refine below_set ?_ GE796.out | refine below_set ?_ GE797.out) | exact HB.out)) hb); have n6_ := Aside0.mk (hbox); have n7_ := Aside0.mk ((by rw [hg]; exact (by first | exact HK.out.1 | exact (show Kept w _ (fun k_ => P1_1_ k_ ∨ P1_2_ k_) from by repeat (first | (with_reducible first | exact HK.out | apply Kept.alloc | apply Kept.drewN | apply Kept.drew | refine Kept.setCell ?_ (.inr GW796.out) _ | refine Kept.setCell ?_ (.inr GW797.out) _) | exact HK.out)).1) : w.heap.size ≤ gb798)); have n8_ := Aside0.mk ((by rw [hg]; exact (below_size (by repeat (first | (with_reducible first | exact HB.out | apply zzb1 | apply zzb2 | apply zzb3 | refine below_set ?_ GE796.out | refine below_set ?_ GE797.out) | exact HB.out))) : w0.heap.size ≤ gb798)); have n9_ := Aside0.mk ((by rw [hg]; exact Nat.ne_of_lt (blk_lt (g := gb796) (o := .cells #[.bool a0_0, .slice A0_1 l0_1.length c0_1, .slice A0_2 l0_2.length c0_2] 24 (0, 0)) (by (with_reducible repeat (first | refine zzk1 ?_ _ | refine zzk2 ?_ | refine zzk3 ?_ _)); exact BK796.out)) : gb796 ≠ gb798)); have n10_ := Aside0.mk ((by rw [hg]; exact Nat.ne_of_gt (blk_lt (g := gb796) (o := .cells #[.bool a0_0, .slice A0_1 l0_1.length c0_1, .slice A0_2 l0_2.length c0_2] 24 (0, 0)) (by (with_reducible repeat (first | refine zzk1 ?_ _ | refine zzk2 ?_ | refine zzk3 ?_ _)); exact BK796.out)) : gb798 ≠ gb796)); have n11_ := Aside0.mk ((by rw [hg]; exact Nat.ne_of_lt (blk_lt (g := gb797) (o := .cells #[.bool a1_0, .slice Ao6 l1_1.length co6, .slice Ao7 l1_2.length co7] 24 (0, 0)) (by (with_reducible repeat (first | refine zzk1 ?_ _ | refine zzk2 ?_ | refine zzk3 ?_ _)); exact BK797.out)) : gb797 ≠ gb798)); have n12_ := Aside0.mk ((by rw [hg]; exact Nat.ne_of_gt (blk_lt (g := gb797) (o := .cells #[.bool a1_0, .slice Ao6 l1_1.length co6, .slice Ao7 l1_2.length co7] 24 (0, 0)) (by (with_reducible repeat (first | refine zzk1 ?_ _ | refine zzk2 ?_ | refine zzk3 ?_ _)); exact BK797.out)) : gb798 ≠ gb797)); clear HO1_1; clear HO1_2; clear BK796; clear BK797; clear HK; clear HB; have HO1_1 := n0_; have HO1_2 := n1_; have BK796 := n2_; have BK797 := n3_; have HK := n4_; have HB := n5_; have BK798 := n6_; have GW798 := n7_; have GE798 := n8_; have NB796_798 := n9_; have NB798_796 := n10_; have NB797_798 := n11_; have NB798_797 := n12_; clear n0_ n1_ n2_ n3_ n4_ n5_ n6_ n7_ n8_ n9_ n10_ n11_ n12_; clear hb hbox hg))
 have n0_ := Aside0.mk (Kd.R_drew HO1_1.out)
 have n1_ := Aside0.mk (Kd.R_drew HO1_2.out)
 have n2_ := Aside0.mk (blk_drew BK796.out)
 have n3_ := Aside0.mk (blk_drew BK797.out)
 have n4_ := Aside0.mk (blk_drew BK798.out)
 have n5_ := Aside0.mk (Kept.drew HK.out)
 have n6_ := Aside0.mk (below_drew1 HB.out)
 clear HO1_1
 clear HO1_2
 clear BK796
 clear BK797
 clear BK798
 clear HK
 clear HB
 have HO1_1 := n0_
 have HO1_2 := n1_
 have BK796 := n2_
 have BK797 := n3_
 have BK798 := n4_
 have HK := n5_
 have HB := n6_
 clear n0_ n1_ n2_ n3_ n4_ n5_ n6_
 refine start_ (n := 5) (S := fun w' => w'.cell? ⟨gb796, 0, none⟩ = some (.bool a0_0) ∧ w'.cell? ⟨gb796, 1, none⟩ = some (.slice A0_1 l0_1.length c0_1) ∧ w'.cell? ⟨gb796, 2, none⟩ = some (.slice A0_2 l0_2.length c0_2) ∧ w'.cell? ⟨gb797, 0, none⟩ = some (.bool a1_0) ∧ w'.cell? ⟨gb797, 1, none⟩ = some (.slice Ao6 l1_1.length co6) ∧ w'.cell? ⟨gb797, 2, none⟩ = some (.slice Ao7 l1_2.length co7)) (ds := []) #[false, false, false, false, false] (by kernel_rfl) rfl rfl ⟨(blk_cell BK796.out 0).trans rfl, (blk_cell BK796.out 1).trans rfl, (blk_cell BK796.out 2).trans rfl, (blk_cell BK797.out 0).trans rfl, (blk_cell BK797.out 1).trans rfl, (blk_cell BK797.out 2).trans rfl⟩ (fun hHeld => ?_)
 generalize w9.drew = w10 at HO1_1 HO1_2 BK796 BK797 BK798 HK HB hHeld ⊢
 refine take_ (i := 0) (N := some 5) (v := ?_) (a' := ?_) #[true, false, false, false, false] rfl rfl (by kernel_rfl) (fun _ _ _ h => h) (Or.inl ⟨by rfl, ?_⟩) hHeld ?_ ?_
 rotate_left
 ·
  rintro w' ⟨s0, s1, s2, s3, s4, s5⟩
  go_simp
  with_reducible rfl
 rotate_left
 ·
  simp only [Act.put, zz7, zz8, zz9, i64_w, i32_w]
  rfl
 refine take_ (i := 1) (N := some 6) (v := ?_) (a' := ?_) #[true, true, false, false, false] rfl rfl (by kernel_rfl) (fun _ _ _ h => h) (Or.inl ⟨by rfl, ?_⟩) hHeld ?_ ?_
 rotate_left
 ·
  rintro w' ⟨s0, s1, s2, s3, s4, s5⟩
  go_simp
  with_reducible rfl
 rotate_left
 ·
  simp only [Act.put, zz7, zz8, zz9, i64_w, i32_w]
  rfl
 refine one_ (i := 2) (N := some 7) #[true, true, true, false, false] rfl rfl (by kernel_rfl) (by decide) (fun K hK => ?_)
 refine goes_ Try.func64 (by kernel_rfl) rfl #[.agg #[.bool a1_0, .slice Ao6 l1_1.length co6, .slice Ao7 l1_2.length co7]] (by rfl) rfl rfl (by (try simp only [zz4, zz5, zz6]); first | done | rfl | (simp only [zza, zzb]; rfl)) ?_
 with_reducible refine (spec_l02Neg.calls a1_0 (fun k_ => some k_ = (.slice Ao6 l1_1.length co6 : Value).ownBlock) (.slice Ao6 l1_1.length co6) l1_1 (fun k_ => some k_ = (.slice Ao7 l1_2.length co7 : Value).ownBlock) (.slice Ao7 l1_2.length co7) l1_2 t799 t800 t803 w0 _ ?side1 ?side2 ?side3 ?side4 ?side5 A3.out).mono ?_
 (case side1 => repeat (first | (with_reducible first | exact HB.out | apply zzb1 | apply zzb2 | apply zzb3 | refine below_set ?_ GE796.out | refine below_set ?_ GE797.out | refine below_set ?_ GE798.out) | exact HB.out))
 (case side2 => exact Kd.R_tight rfl HO1_1.out)
 (case side3 => exact fun k_ e_ => (HO1_1.out.1 k_ e_.symm).2)
 (case side4 => exact Kd.R_tight rfl HO1_2.out)
 (case side5 => exact fun k_ e_ => (HO1_2.out.1 k_ e_.symm).2)
 rintro e w11 ⟨v801, v804, rfl, ho0, ho1, hb, hkp⟩
 refine ⟨_, rfl, ?_⟩
 have n0_ := Aside0.mk (blk_kept (by (with_reducible repeat (first | refine zzk1 ?_ _ | refine zzk2 ?_ | refine zzk3 ?_ _)); exact BK796.out) hkp (fun hs_ => Or.elim hs_ (fun e_ => (fun e_ => (Kd.R_ne HO1_1.out BK796.out (by decide)) e_) e_) (fun e_ => (fun e_ => (Kd.R_ne HO1_2.out BK796.out (by decide)) e_) e_)))
 have n1_ := Aside0.mk (blk_kept (by (with_reducible repeat (first | refine zzk1 ?_ _ | refine zzk2 ?_ | refine zzk3 ?_ _)); exact BK797.out) hkp (fun hs_ => Or.elim hs_ (fun e_ => (fun e_ => (Kd.R_ne HO1_1.out BK797.out (by decide)) e_) e_) (fun e_ => (fun e_ => (Kd.R_ne HO1_2.out BK797.out (by decide)) e_) e_)))
 have n2_ := Aside0.mk (blk_kept (by (with_reducible repeat (first | refine zzk1 ?_ _ | refine zzk2 ?_ | refine zzk3 ?_ _)); exact BK798.out) hkp (fun hs_ => Or.elim hs_ (fun e_ => (fun e_ => (Kd.R_ne HO1_1.out BK798.out (by decide)) e_) e_) (fun e_ => (fun e_ => (Kd.R_ne HO1_2.out BK798.out (by decide)) e_) e_)))
 have n3_ := Aside0.mk (Kd.R_mono (ok' := fun k_ => ((P1_1_ k_ ∨ P1_2_ k_) ∨ w.heap.size ≤ k_) ∧ some k_ ≠ (v804 : Value).ownBlock) ho0 (fun k_ hk_ => ⟨Or.elim hk_.1 (fun hs_ => Or.elim hs_ (fun hs_ => (HO1_1.out.1 k_ (hs_).symm).1) (fun hs_ => (HO1_2.out.1 k_ (hs_).symm).1)) (fun hn_ => (.inr (Nat.le_trans (by first | exact HK.out.1 | exact (show Kept w _ (fun k_ => P1_1_ k_ ∨ P1_2_ k_) from by repeat (first | (with_reducible first | exact HK.out | apply Kept.alloc | apply Kept.drewN | apply Kept.drew | refine Kept.setCell ?_ (.inr GW796.out) _ | refine Kept.setCell ?_ (.inr GW797.out) _ | refine Kept.setCell ?_ (.inr GW798.out) _) | exact HK.out)).1) hn_))), hk_.2⟩))
 have n4_ := Aside0.mk (Kd.R_mono (ok' := fun k_ => ((P1_1_ k_ ∨ P1_2_ k_) ∨ w.heap.size ≤ k_) ∧ some k_ ≠ (v801 : Value).ownBlock) ho1 (fun k_ hk_ => ⟨Or.elim hk_.1 (fun hs_ => Or.elim hs_ (fun hs_ => (HO1_1.out.1 k_ (hs_).symm).1) (fun hs_ => (HO1_2.out.1 k_ (hs_).symm).1)) (fun hn_ => (.inr (Nat.le_trans (by first | exact HK.out.1 | exact (show Kept w _ (fun k_ => P1_1_ k_ ∨ P1_2_ k_) from by repeat (first | (with_reducible first | exact HK.out | apply Kept.alloc | apply Kept.drewN | apply Kept.drew | refine Kept.setCell ?_ (.inr GW796.out) _ | refine Kept.setCell ?_ (.inr GW797.out) _ | refine Kept.setCell ?_ (.inr GW798.out) _) | exact HK.out)).1) hn_))), hk_.2⟩))
 have n5_ := Aside0.mk (Kept.then_ (S := (fun k_ => P1_1_ k_ ∨ P1_2_ k_)) (by repeat (first | (with_reducible first | exact HK.out | apply Kept.alloc | apply Kept.drewN | apply Kept.drew | refine Kept.setCell ?_ (.inr GW796.out) _ | refine Kept.setCell ?_ (.inr GW797.out) _ | refine Kept.setCell ?_ (.inr GW798.out) _) | exact HK.out)) hkp (fun k_ hs_ => Or.elim hs_ (fun e_ => (fun e_ => (HO1_1.out.1 k_ e_.symm).1) e_) (fun e_ => (fun e_ => (HO1_2.out.1 k_ e_.symm).1) e_)))
 have n6_ := Aside0.mk (hb)
 clear BK796
 clear BK797
 clear BK798
 clear HK
 clear HB
 clear HO1_1
 clear HO1_2
 have BK796 := n0_
 have BK797 := n1_
 have BK798 := n2_
 have HO802 := n3_
 have HO805 := n4_
 have HK := n5_
 have HB := n6_
 clear n0_ n1_ n2_ n3_ n4_ n5_ n6_
 (try clear hb)
 (try clear hkp)
 (try clear ho0)
 (try clear ho1)
 obtain ⟨Ao12, co12, eo12⟩ := Kd.R_slice HO802.out
 (first | subst eo12 | (injection eo12 with f1_ f2_ f3_; have f4_ := f1_.symm; have f5_ := f3_.symm; clear f1_ f2_ f3_; subst f4_; subst f5_))
 obtain ⟨Ao13, co13, eo13⟩ := Kd.R_slice HO805.out
 (first | subst eo13 | (injection eo13 with f1_ f2_ f3_; have f4_ := f1_.symm; have f5_ := f3_.symm; clear f1_ f2_ f3_; subst f4_; subst f5_))
 refine hK.out _ _ ⟨(blk_cell BK796.out 0).trans rfl, (blk_cell BK796.out 1).trans rfl, (blk_cell BK796.out 2).trans rfl, (blk_cell BK797.out 0).trans rfl, (blk_cell BK797.out 1).trans rfl, (blk_cell BK797.out 2).trans rfl⟩ (fun hHeld => ?_)
 clear hK K
 refine norm_ (a' := ?_) ?_ ?_
 rotate_left
 ·
  show Act.put _ (some 7) _ = _
  simp only [Act.put, zz7, zz8, zz9, i64_w, i32_w]
  rfl
 refine one_ (i := 3) (N := some 8) #[true, true, true, true, false] rfl rfl (by kernel_rfl) (by decide) (fun K hK => ?_)
 refine goes_ Try.func84 (by kernel_rfl) rfl #[.agg #[.bool a0_0, .slice A0_1 l0_1.length c0_1, .slice A0_2 l0_2.length c0_2], .agg #[.bool t799, .slice Ao12 t800.length co12, .slice Ao13 t803.length co13]] (by rfl) rfl rfl (by (try simp only [zz4, zz5, zz6]); first | done | rfl | (simp only [zza, zzb]; rfl)) ?_
 with_reducible refine (spec_l02Add.calls k a0_0 _ _ l0_1 _ _ l0_2 t799 _ _ t800 _ _ t803 t806 t807 t810 _ ?side1 ?side2 ?side3 ?side4 ?side5 ?side6 ?side7 ?side8 A4.out).mono ?_
 (case side1 => exact Kd.C_kept_now HR0_1.out (by repeat (first | (with_reducible first | exact HK.out | apply Kept.alloc | apply Kept.drewN | apply Kept.drew | refine Kept.setCell ?_ (.inr GW796.out) _ | refine Kept.setCell ?_ (.inr GW797.out) _ | refine Kept.setCell ?_ (.inr GW798.out) _) | exact HK.out)))
 (case side2 => exact HC0_1.out)
 (case side3 => exact Kd.C_kept_now HR0_2.out (by repeat (first | (with_reducible first | exact HK.out | apply Kept.alloc | apply Kept.drewN | apply Kept.drew | refine Kept.setCell ?_ (.inr GW796.out) _ | refine Kept.setCell ?_ (.inr GW797.out) _ | refine Kept.setCell ?_ (.inr GW798.out) _) | exact HK.out)))
 (case side4 => exact HC0_2.out)
 (case side5 => repeat (first | exact (Kd.R_reads' HO802.out).2.2 | (with_reducible refine zzC1 ?_ _) | (with_reducible refine zzC2 ?_ _) | (with_reducible refine zzC3 ?_)))
 (case side6 => exact (Kd.R_reads' HO802.out).2.1)
 (case side7 => repeat (first | exact (Kd.R_reads' HO805.out).2.2 | (with_reducible refine zzC1 ?_ _) | (with_reducible refine zzC2 ?_ _) | (with_reducible refine zzC3 ?_)))
 (case side8 => exact (Kd.R_reads' HO805.out).2.1)
 rintro e w14 ⟨v808, v811, rfl, ho0, ho1, hb⟩
 refine ⟨_, rfl, ?_⟩
 have n0_ := Aside0.mk (Kd.R_mono (Kd.R_told (Kd.R_told (Kd.R_old (by (with_reducible repeat (first | apply zzR1 | apply zzR2 | apply zzR3)); exact HO802.out) hb) (Kd.R_base ho0)) (Kd.R_base ho1)) (fun _ h_ => h_.1))
 have n1_ := Aside0.mk (Kd.R_mono (Kd.R_told (Kd.R_told (Kd.R_old (by (with_reducible repeat (first | apply zzR1 | apply zzR2 | apply zzR3)); exact HO805.out) hb) (Kd.R_base ho0)) (Kd.R_base ho1)) (fun _ h_ => h_.1))
 have n2_ := Aside0.mk (Kd.R_lower (Kd.R_new' (Kd.R_new' (Kd.R_newM (M := fun k_ => ((P1_1_ k_ ∨ P1_2_ k_) ∨ w.heap.size ≤ k_)) ho0 (by first | exact HK.out.1 | exact (show Kept w _ (fun k_ => P1_1_ k_ ∨ P1_2_ k_) from by repeat (first | (with_reducible first | exact HK.out | apply Kept.alloc | apply Kept.drewN | apply Kept.drew | refine Kept.setCell ?_ (.inr GW796.out) _ | refine Kept.setCell ?_ (.inr GW797.out) _ | refine Kept.setCell ?_ (.inr GW798.out) _) | exact HK.out)).1) (fun k_ h_ => .inr h_)) (Kd.R_lt (by (with_reducible repeat (first | apply zzR1 | apply zzR2 | apply zzR3)); exact HO802.out))) (Kd.R_lt (by (with_reducible repeat (first | apply zzR1 | apply zzR2 | apply zzR3)); exact HO805.out))) (below_size (by repeat (first | (with_reducible first | exact HB.out | apply zzb1 | apply zzb2 | apply zzb3 | refine below_set ?_ GE796.out | refine below_set ?_ GE797.out | refine below_set ?_ GE798.out) | exact HB.out))))
 have n3_ := Aside0.mk (Kd.R_lower (Kd.R_new' (Kd.R_new' (Kd.R_newM (M := fun k_ => ((P1_1_ k_ ∨ P1_2_ k_) ∨ w.heap.size ≤ k_)) ho1 (by first | exact HK.out.1 | exact (show Kept w _ (fun k_ => P1_1_ k_ ∨ P1_2_ k_) from by repeat (first | (with_reducible first | exact HK.out | apply Kept.alloc | apply Kept.drewN | apply Kept.drew | refine Kept.setCell ?_ (.inr GW796.out) _ | refine Kept.setCell ?_ (.inr GW797.out) _ | refine Kept.setCell ?_ (.inr GW798.out) _) | exact HK.out)).1) (fun k_ h_ => .inr h_)) (Kd.R_lt (by (with_reducible repeat (first | apply zzR1 | apply zzR2 | apply zzR3)); exact HO802.out))) (Kd.R_lt (by (with_reducible repeat (first | apply zzR1 | apply zzR2 | apply zzR3)); exact HO805.out))) (below_size (by repeat (first | (with_reducible first | exact HB.out | apply zzb1 | apply zzb2 | apply zzb3 | refine below_set ?_ GE796.out | refine below_set ?_ GE797.out | refine below_set ?_ GE798.out) | exact HB.out))))
 have n4_ := Aside0.mk (blk_below (g := gb796) (o := .cells #[.bool a0_0, .slice A0_1 l0_1.length c0_1, .slice A0_2 l0_2.length c0_2] 24 (0, 0)) (by (with_reducible repeat (first | refine zzk1 ?_ _ | refine zzk2 ?_ | refine zzk3 ?_ _)); exact BK796.out) hb)
 have n5_ := Aside0.mk (blk_below (g := gb797) (o := .cells #[.bool a1_0, .slice Ao6 l1_1.length co6, .slice Ao7 l1_2.length co7] 24 (0, 0)) (by (with_reducible repeat (first | refine zzk1 ?_ _ | refine zzk2 ?_ | refine zzk3 ?_ _)); exact BK797.out) hb)
 have n6_ := Aside0.mk (blk_below (g := gb798) (o := .cells #[.bool false, .slice none 0 0, .slice none 0 0] 24 (0, 0)) (by (with_reducible repeat (first | refine zzk1 ?_ _ | refine zzk2 ?_ | refine zzk3 ?_ _)); exact BK798.out) hb)
 have n7_ := Aside0.mk (Kept.below (S := (fun k_ => P1_1_ k_ ∨ P1_2_ k_)) (by repeat (first | (with_reducible first | exact HK.out | apply Kept.alloc | apply Kept.drewN | apply Kept.drew | refine Kept.setCell ?_ (.inr GW796.out) _ | refine Kept.setCell ?_ (.inr GW797.out) _ | refine Kept.setCell ?_ (.inr GW798.out) _) | exact HK.out)) hb)
 have n8_ := Aside0.mk (below_step (by repeat (first | (with_reducible first | exact HB.out | apply zzb1 | apply zzb2 | apply zzb3 | refine below_set ?_ GE796.out | refine below_set ?_ GE797.out | refine below_set ?_ GE798.out) | exact HB.out)) hb)
 clear HO802
 clear HO805
 clear BK796
 clear BK797
 clear BK798
 clear HK
 clear HB
 have HO802 := n0_
 have HO805 := n1_
 have HO809 := n2_
 have HO812 := n3_
 have BK796 := n4_
 have BK797 := n5_
 have BK798 := n6_
 have HK := n7_
 have HB := n8_
 clear n0_ n1_ n2_ n3_ n4_ n5_ n6_ n7_ n8_
 (try clear hb)
 (try clear hb2)
 (try clear hk)
 (try clear hi)
 (try clear ho0)
 (try clear ho1)
 obtain ⟨Ao16, co16, eo16⟩ := Kd.R_slice HO809.out
 (first | subst eo16 | (injection eo16 with f1_ f2_ f3_; have f4_ := f1_.symm; have f5_ := f3_.symm; clear f1_ f2_ f3_; subst f4_; subst f5_))
 obtain ⟨Ao18, co18, eo18⟩ := Kd.R_slice HO812.out
 (first | subst eo18 | (injection eo18 with f1_ f2_ f3_; have f4_ := f1_.symm; have f5_ := f3_.symm; clear f1_ f2_ f3_; subst f4_; subst f5_))
 refine hK.out _ _ ⟨(blk_cell BK796.out 0).trans rfl, (blk_cell BK796.out 1).trans rfl, (blk_cell BK796.out 2).trans rfl, (blk_cell BK797.out 0).trans rfl, (blk_cell BK797.out 1).trans rfl, (blk_cell BK797.out 2).trans rfl⟩ (fun hHeld => ?_)
 clear hK K
 refine norm_ (a' := ?_) ?_ ?_
 rotate_left
 ·
  show Act.put _ (some 8) _ = _
  simp only [Act.put, zz7, zz8, zz9, i64_w, i32_w]
  rfl
 refine one_ (i := 4) (N := none) #[true, true, true, true, true] rfl rfl (by kernel_rfl) (by decide) (fun K hK => ?_)
 have hs15 : w14.cell? ⟨gb798, 0, none⟩ = some (.bool false) := (blk_cell BK798.out 0).trans rfl
 have hfs15 := blk_frozen BK798.out 0
 have hns15_0 := NB796_798.out
 have hns15_1 := NB797_798.out
 have hms15_0 := NB798_796.out
 have hms15_1 := NB798_797.out
 have hs17 : w14.cell? ⟨gb798, 1, none⟩ = some (.slice none 0 0) := (blk_cell BK798.out 1).trans rfl
 have hfs17 := blk_frozen BK798.out 1
 have hns17_0 := NB796_798.out
 have hns17_1 := NB797_798.out
 have hms17_0 := NB798_796.out
 have hms17_1 := NB798_797.out
 have hs19 : w14.cell? ⟨gb798, 2, none⟩ = some (.slice none 0 0) := (blk_cell BK798.out 2).trans rfl
 have hfs19 := blk_frozen BK798.out 2
 have hns19_0 := NB796_798.out
 have hns19_1 := NB797_798.out
 have hms19_0 := NB798_796.out
 have hms19_1 := NB798_797.out
 refine skip_ (w1 := ?_) (by rfl) rfl ?_ ?_
 rotate_left
 ·
  go_simp
  rfl
 refine hK.out _ _ ⟨((cell_far (p := ⟨gb798, _, none⟩) NB796_798.out _).trans (((cell_far (p := ⟨gb798, _, none⟩) NB796_798.out _).trans (((cell_far (p := ⟨gb798, _, none⟩) NB796_798.out _).trans (hHeld.1)))))), ((cell_far (p := ⟨gb798, _, none⟩) NB796_798.out _).trans (((cell_far (p := ⟨gb798, _, none⟩) NB796_798.out _).trans (((cell_far (p := ⟨gb798, _, none⟩) NB796_798.out _).trans (hHeld.2.1)))))), ((cell_far (p := ⟨gb798, _, none⟩) NB796_798.out _).trans (((cell_far (p := ⟨gb798, _, none⟩) NB796_798.out _).trans (((cell_far (p := ⟨gb798, _, none⟩) NB796_798.out _).trans (hHeld.2.2.1)))))), ((cell_far (p := ⟨gb798, _, none⟩) NB797_798.out _).trans (((cell_far (p := ⟨gb798, _, none⟩) NB797_798.out _).trans (((cell_far (p := ⟨gb798, _, none⟩) NB797_798.out _).trans (hHeld.2.2.2.1)))))), ((cell_far (p := ⟨gb798, _, none⟩) NB797_798.out _).trans (((cell_far (p := ⟨gb798, _, none⟩) NB797_798.out _).trans (((cell_far (p := ⟨gb798, _, none⟩) NB797_798.out _).trans (hHeld.2.2.2.2.1)))))), ((cell_far (p := ⟨gb798, _, none⟩) NB797_798.out _).trans (((cell_far (p := ⟨gb798, _, none⟩) NB797_798.out _).trans (((cell_far (p := ⟨gb798, _, none⟩) NB797_798.out _).trans (hHeld.2.2.2.2.2))))))⟩ (fun hHeld => ?_)
 clear hK K
 refine done_ (by kernel_rfl) ?_
 try go_wp2
 refine bodyPost_ret (results_cell_row rfl _ _ gb798 24 #[.bool t806, .slice Ao16 t807.length co16, .slice Ao18 t810.length co18] (0, 0) _ rfl (by (with_reducible repeat (first | refine zzk1 ?_ _ | refine zzk2 ?_ | refine zzk3 ?_ _)); refine blk_put (cs := #[.bool t806, .slice Ao16 t807.length co16, .slice none 0 0]) ?_ 2 _ rfl; (with_reducible repeat (first | refine zzk1 ?_ _ | refine zzk2 ?_ | refine zzk3 ?_ _)); refine blk_put (cs := #[.bool t806, .slice none 0 0, .slice none 0 0]) ?_ 1 _ rfl; (with_reducible repeat (first | refine zzk1 ?_ _ | refine zzk2 ?_ | refine zzk3 ?_ _)); refine blk_put (cs := #[.bool false, .slice none 0 0, .slice none 0 0]) ?_ 0 _ rfl; (with_reducible repeat (first | refine zzk1 ?_ _ | refine zzk2 ?_ | refine zzk3 ?_ _)); exact BK798.out) Try.underlying24 rfl (by kernel_rfl)) rfl ?_
 exact ⟨_, _, by first | rfl | (simp [errW_none, errW_some] <;> rfl) | (simp [*, errW_none, errW_some] <;> rfl), by (with_reducible repeat (first | apply zzR1 | apply zzR2 | apply zzR3)); exact Kd.R_mono (Kd.R_far (p := ⟨gb798, 2, none⟩) (Kd.R_far (p := ⟨gb798, 1, none⟩) (Kd.R_far (p := ⟨gb798, 0, none⟩) (Kd.R_types HO809.out BK798.out (by decide)) (fun _ hk => hk.2) (.bool t806)) (fun _ hk => hk.2) (.slice Ao16 t807.length co16)) (fun _ hk => hk.2) (.slice Ao18 t810.length co18)) (fun _ hk => ⟨hk.1.1.1.1, hk.1.1.1.2⟩), by (with_reducible repeat (first | apply zzR1 | apply zzR2 | apply zzR3)); exact Kd.R_mono (Kd.R_far (p := ⟨gb798, 2, none⟩) (Kd.R_far (p := ⟨gb798, 1, none⟩) (Kd.R_far (p := ⟨gb798, 0, none⟩) (Kd.R_types HO812.out BK798.out (by decide)) (fun _ hk => hk.2) (.bool t806)) (fun _ hk => hk.2) (.slice Ao16 t807.length co16)) (fun _ hk => hk.2) (.slice Ao18 t810.length co18)) (fun _ hk => ⟨hk.1.1.1.1, hk.1.1.1.2⟩), by repeat (first | (with_reducible first | exact HB.out | apply zzb1 | apply zzb2 | apply zzb3 | refine below_set ?_ GE796.out | refine below_set ?_ GE797.out | refine below_set ?_ GE798.out) | exact HB.out), by repeat (first | (with_reducible first | exact HK.out | apply Kept.alloc | apply Kept.drewN | apply Kept.drew | refine Kept.setCell ?_ (.inr GW796.out) _ | refine Kept.setCell ?_ (.inr GW797.out) _ | refine Kept.setCell ?_ (.inr GW798.out) _) | exact HK.out)⟩

def spec_l02Cmp.f (k : Nat) (a0_0 : Bool) (l0_1 : List Int) (l0_2 : List Int) (a1_0 : Bool) (l1_1 : List Int) (l1_2 : List Int) : Option (Int) := (spec_l02Sub.f k a0_0 l0_1 l0_2 a1_0 l1_1 l1_2).bind fun bt818 => ((spec_l02Sign.f bt818.1 bt818.2.1 bt818.2.2).bind fun t825 => (some t825))
theorem spec_l02Cmp.mono : ∀ a0 a1 a2 a3 a4 a5 k, LeO (spec_l02Cmp.f k a0 a1 a2 a3 a4 a5) (spec_l02Cmp.f (k + 1) a0 a1 a2 a3 a4 a5) := by
 intro a0 a1 a2 a3 a4 a5 k
 unfold spec_l02Cmp.f
 repeat' first
   | (with_reducible exact spec_l02Sub.mono _ _ _ _ _ _ _)
   | (with_reducible exact LeO.refl _)
   | (with_reducible exact LeO.none _)
   | (with_reducible refine LeO.ite ?_ ?_)
   | (with_reducible refine LeO.bind ?_ (fun _ => ?_))
   | exact spec_l02Sub.mono _ _ _ _ _ _ _
   | exact LeO.none _
   | refine LeO.ite ?_ ?_
   | refine LeO.bind ?_ (fun _ => ?_)
set_option maxHeartbeats 8000000 in
set_option maxRecDepth 100000 in
theorem spec_l02Cmp.calls (k : Nat) (a0_0 : Bool) (A0_1 : Option Addr) (c0_1 : Nat) (l0_1 : List Int) (A0_2 : Option Addr) (c0_2 : Nat) (l0_2 : List Int) (a1_0 : Bool) (P1_1_ : Nat → Prop) (u9000_ : Value) (l1_1 : List Int) (P1_2_ : Nat → Prop) (u9001_ : Value) (l1_2 : List Int) (r : Int) (w0 w : World) (hB : Below w0.heap.size w0 w) (hr0_1 : ∀ W_, Kept w W_ (fun k_ => P1_1_ k_ ∨ P1_2_ k_) → Kd.C (Kd.int .i64) W_ A0_1 l0_1.length l0_1) (hc0_1 : l0_1.length ≤ c0_1) (hr0_2 : ∀ W_, Kept w W_ (fun k_ => P1_1_ k_ ∨ P1_2_ k_) → Kd.C (Kd.int .i64) W_ A0_2 l0_2.length l0_2) (hc0_2 : l0_2.length ≤ c0_2) (ho1_1 : Kd.R (Kd.int .i64) 3 w w0.heap.size P1_1_ u9000_ l1_1) (hp1_1_1_2 : ∀ k_, P1_1_ k_ → ¬ P1_2_ k_) (ho1_2 : Kd.R (Kd.int .i64) 3 w w0.heap.size P1_2_ u9001_ l1_2) (hp1_2_1_1 : ∀ k_, P1_2_ k_ → ¬ P1_1_ k_) (h : spec_l02Cmp.f k a0_0 l0_1 l0_2 a1_0 l1_1 l1_2 = some r) :
  Calls Try.prog 68 #[.agg #[.bool a0_0, .slice A0_1 l0_1.length c0_1, .slice A0_2 l0_2.length c0_2], .agg #[.bool a1_0, u9000_, u9001_]] w fun e w' => e = .returned (.int .i64 r) ∧ Below w0.heap.size w0 w' ∧ Kept w w' (fun k_ => P1_1_ k_ ∨ P1_2_ k_) := by
 have hu24 := Try.underlying24
 have HR0_1 := Aside0.mk hr0_1
 have HC0_1 := Aside0.mk hc0_1
 clear hr0_1 hc0_1
 have HR0_2 := Aside0.mk hr0_2
 have HC0_2 := Aside0.mk hc0_2
 clear hr0_2 hc0_2
 have HO1_1 := Aside0.mk (show Kd.R (Kd.int .i64) 3 w w0.heap.size (fun k_ => ((P1_1_ k_ ∨ P1_2_ k_) ∨ w.heap.size ≤ k_) ∧ some k_ ≠ (u9001_ : Value).ownBlock) u9000_ l1_1 from Kd.R_mono ho1_1 (fun k_ hk => ⟨(.inl (.inl hk)), fun e_ => hp1_1_1_2 k_ hk (ho1_2.1 k_ e_.symm)⟩))
 have HO1_2 := Aside0.mk (show Kd.R (Kd.int .i64) 3 w w0.heap.size (fun k_ => ((P1_1_ k_ ∨ P1_2_ k_) ∨ w.heap.size ≤ k_) ∧ some k_ ≠ (u9000_ : Value).ownBlock) u9001_ l1_2 from Kd.R_mono ho1_2 (fun k_ hk => ⟨(.inl (.inr hk)), fun e_ => hp1_2_1_1 k_ hk (ho1_1.1 k_ e_.symm)⟩))
 have HK := Aside0.mk (Kept.refl w (fun k_ => P1_1_ k_ ∨ P1_2_ k_))
 have HW0 := Aside0.mk hB.size
 have HB := Aside0.mk hB
 clear hB
 have H : ((spec_l02Sub.f k a0_0 l0_1 l0_2 a1_0 l1_1 l1_2).bind fun bt818 => ((spec_l02Sign.f bt818.1 bt818.2.1 bt818.2.2).bind fun t825 => (some t825))) = some r := h
 clear h
 replace H := Option.bind_eq_some_iff.mp H
 obtain ⟨⟨t818, t819, t822⟩, A30, H⟩ := H
 replace H : ((spec_l02Sign.f t818 t819 t822).bind fun t825 => (some t825)) = some r := H
 have A3 := Aside0.mk A30
 clear A30
 replace H := Option.bind_eq_some_iff.mp H
 obtain ⟨t825, A40, H⟩ := H
 replace H : (some t825) = some r := H
 have A4 := Aside0.mk A40
 clear A40
 obtain rfl := Option.some.inj H
 go_enter Try.func68, Try.ntmps68
 go_wp2_with (first | ((with_reducible refine gate_dst (N := 2) rfl ?_); refine box_event ?hg (N := 2) ?hd (cs := #[.bool a0_0, .slice A0_1 l0_1.length c0_1, .slice A0_2 l0_2.length c0_2]) (t := 24) ?hr ?_; (case hd => rfl); (case hg => rfl); (case hr => first | (go_simp; done) | (go_simp; rfl)); intro gb816 hg w5 hbox hb; have n0_ := Aside0.mk (Kd.R_below (by (with_reducible repeat (first | apply zzR1 | apply zzR2 | apply zzR3)); exact HO1_1.out) hb); have n1_ := Aside0.mk (Kd.R_below (by (with_reducible repeat (first | apply zzR1 | apply zzR2 | apply zzR3)); exact HO1_2.out) hb); have n2_ := Aside0.mk (Kept.below (S := (fun k_ => P1_1_ k_ ∨ P1_2_ k_)) (by repeat (first | (with_reducible first | exact HK.out | apply Kept.alloc | apply Kept.drewN | apply Kept.drew) | exact HK.out)) hb); have n3_ := Aside0.mk (below_step (by repeat (first | (with_reducible first | exact HB.out | apply zzb1 | apply zzb2 | apply zzb3) | exact HB.out)) hb); have n4_ := Aside0.mk (hbox); have n5_ := Aside0.mk ((by rw [hg]; exact (by first | exact HK.out.1 | exact (show Kept w _ (fun k_ => P1_1_ k_ ∨ P1_2_ k_) from by repeat (first | (with_reducible first | exact HK.out | apply Kept.alloc | apply Kept.drewN | apply Kept.drew) | exact HK.out)).1) : w.heap.size ≤ gb816)); have n6_ := Aside0.mk ((by rw [hg]; exact (below_size (by repeat (first | (with_reducible first | exact HB.out | apply zzb1 | apply zzb2 | apply zzb3) | exact HB.out))) : w0.heap.size ≤ gb816)); clear HO1_1; clear HO1_2; clear HK; clear HB; have HO1_1 := n0_; have HO1_2 := n1_; have HK := n2_; have HB := n3_; have BK816 := n4_; have GW816 := n5_; have GE816 := n6_; clear n0_ n1_ n2_ n3_ n4_ n5_ n6_; clear hb hbox hg; obtain ⟨Ao6, co6, eo6⟩ := Kd.R_slice HO1_1.out; subst eo6; obtain ⟨Ao7, co7, eo7⟩ := Kd.R_slice HO1_2.out; subst eo7) | ((with_reducible refine gate_dst (N := 3) rfl ?_); refine box_event ?hg (N := 3) ?hd (cs := #[.bool a1_0, .slice Ao6 l1_1.length co6, .slice Ao7 l1_2.length co7]) (t := 24) ?hr ?_; (case hd => rfl); (case hg => rfl); (case hr => first | (go_simp; done) | (go_simp; rfl)); intro gb817 hg w8 hbox hb; have n0_ := Aside0.mk (Kd.R_below (by (with_reducible repeat (first | apply zzR1 | apply zzR2 | apply zzR3)); exact HO1_1.out) hb); have n1_ := Aside0.mk (Kd.R_below (by (with_reducible repeat (first | apply zzR1 | apply zzR2 | apply zzR3)); exact HO1_2.out) hb); have n2_ := Aside0.mk (blk_below (g := gb816) (o := .cells #[.bool a0_0, .slice A0_1 l0_1.length c0_1, .slice A0_2 l0_2.length c0_2] 24 (0, 0)) (by (with_reducible repeat (first | refine zzk1 ?_ _ | refine zzk2 ?_ | refine zzk3 ?_ _)); exact BK816.out) hb); have n3_ := Aside0.mk (Kept.below (S := (fun k_ => P1_1_ k_ ∨ P1_2_ k_)) (by repeat (first | (with_reducible first | exact HK.out | apply Kept.alloc | apply Kept.drewN | apply Kept.drew | refine Kept.setCell ?_ (.inr GW816.out) _) | exact HK.out)) hb); have n4_ := Aside0.mk (below_step (by repeat (first | (with_reducible first | exact HB.out | apply zzb1 | apply zzb2 | apply zzb3 | refine below_set ?_ GE816.out) | exact HB.out)) hb); have n5_ := Aside0.mk (hbox); have n6_ := Aside0.mk ((by rw [hg]; exact (by first | exact HK.out.1 | exact (show Kept w _ (fun k_ => P1_1_ k_ ∨ P1_2_ k_) from by repeat (first | (with_reducible first | exact HK.out | apply Kept.alloc | apply Kept.drewN | apply Kept.drew | refine Kept.setCell ?_ (.inr GW816.out) _) | exact HK.out)).1) : w.heap.size ≤ gb817)); have n7_ := Aside0.mk ((by rw [hg]; exact (below_size (by repeat (first | (with_reducible first | exact HB.out | apply zzb1 | apply zzb2 | apply zzb3 | refine below_set ?_ GE816.out) | exact HB.out))) : w0.heap.size ≤ gb817)); have n8_ := Aside0.mk ((by rw [hg]; exact Nat.ne_of_lt (blk_lt (g := gb816) (o := .cells #[.bool a0_0, .slice A0_1 l0_1.length c0_1, .slice A0_2 l0_2.length c0_2] 24 (0, 0)) (by (with_reducible repeat (first | refine zzk1 ?_ _ | refine zzk2 ?_ | refine zzk3 ?_ _)); exact BK816.out)) : gb816 ≠ gb817)); have n9_ := Aside0.mk ((by rw [hg]; exact Nat.ne_of_gt (blk_lt (g := gb816) (o := .cells #[.bool a0_0, .slice A0_1 l0_1.length c0_1, .slice A0_2 l0_2.length c0_2] 24 (0, 0)) (by (with_reducible repeat (first | refine zzk1 ?_ _ | refine zzk2 ?_ | refine zzk3 ?_ _)); exact BK816.out)) : gb817 ≠ gb816)); clear HO1_1; clear HO1_2; clear BK816; clear HK; clear HB; have HO1_1 := n0_; have HO1_2 := n1_; have BK816 := n2_; have HK := n3_; have HB := n4_; have BK817 := n5_; have GW817 := n6_; have GE817 := n7_; have NB816_817 := n8_; have NB817_816 := n9_; clear n0_ n1_ n2_ n3_ n4_ n5_ n6_ n7_ n8_ n9_; clear hb hbox hg; have hnb9 := NB816_817.out; have hnc9 := NB817_816.out; have hcz10_0 : w8.cell? ⟨gb816, 0, none⟩ = some (.bool a0_0) := (blk_cell BK816.out 0).trans rfl; have hcz10_1 : w8.cell? ⟨gb816, 1, none⟩ = some (.slice A0_1 l0_1.length c0_1) := (blk_cell BK816.out 1).trans rfl; have hcz10_2 : w8.cell? ⟨gb816, 2, none⟩ = some (.slice A0_2 l0_2.length c0_2) := (blk_cell BK816.out 2).trans rfl; have hfz10_0 := blk_frozen BK816.out 0; have hfz10_1 := blk_frozen BK816.out 1; have hfz10_2 := blk_frozen BK816.out 2; have hcz11_0 : w8.cell? ⟨gb817, 0, none⟩ = some (.bool a1_0) := (blk_cell BK817.out 0).trans rfl; have hcz11_1 : w8.cell? ⟨gb817, 1, none⟩ = some (.slice Ao6 l1_1.length co6) := (blk_cell BK817.out 1).trans rfl; have hcz11_2 : w8.cell? ⟨gb817, 2, none⟩ = some (.slice Ao7 l1_2.length co7) := (blk_cell BK817.out 2).trans rfl; have hfz11_0 := blk_frozen BK817.out 0; have hfz11_1 := blk_frozen BK817.out 1; have hfz11_2 := blk_frozen BK817.out 2) | ((with_reducible refine gate_callee (f := 86) rfl ?_); refine goesL_ (some 7) rfl rfl Try.func86 (by kernel_rfl) rfl #[.agg #[.bool a0_0, .slice A0_1 l0_1.length c0_1, .slice A0_2 l0_2.length c0_2], .agg #[.bool a1_0, .slice Ao6 l1_1.length co6, .slice Ao7 l1_2.length co7]] rfl (by (try simp only [zz4, zz5, zz6]); first | done | rfl | (simp only [zza, zzb]; rfl)) ?_; (with_reducible refine (spec_l02Sub.calls k a0_0 _ _ l0_1 _ _ l0_2 a1_0 (fun k_ => some k_ = (.slice Ao6 l1_1.length co6 : Value).ownBlock) (.slice Ao6 l1_1.length co6) l1_1 (fun k_ => some k_ = (.slice Ao7 l1_2.length co7 : Value).ownBlock) (.slice Ao7 l1_2.length co7) l1_2 t818 t819 t822 w0 _ ?side1 ?side2 ?side3 ?side4 ?side5 ?side6 ?side7 ?side8 ?side9 A3.out).mono ?_); (case side1 => repeat (first | (with_reducible first | exact HB.out | apply zzb1 | apply zzb2 | apply zzb3 | refine below_set ?_ GE816.out | refine below_set ?_ GE817.out) | exact HB.out)); (case side2 => exact Kd.C_kept_call HR0_1.out (by repeat (first | (with_reducible first | exact HK.out | apply Kept.alloc | apply Kept.drewN | apply Kept.drew | refine Kept.setCell ?_ (.inr GW816.out) _ | refine Kept.setCell ?_ (.inr GW817.out) _) | exact HK.out)) (fun k_ hs_ => Or.elim hs_ (fun e_ => (fun e_ => (HO1_1.out.1 k_ e_.symm).1) e_) (fun e_ => (fun e_ => (HO1_2.out.1 k_ e_.symm).1) e_))); (case side3 => exact HC0_1.out); (case side4 => exact Kd.C_kept_call HR0_2.out (by repeat (first | (with_reducible first | exact HK.out | apply Kept.alloc | apply Kept.drewN | apply Kept.drew | refine Kept.setCell ?_ (.inr GW816.out) _ | refine Kept.setCell ?_ (.inr GW817.out) _) | exact HK.out)) (fun k_ hs_ => Or.elim hs_ (fun e_ => (fun e_ => (HO1_1.out.1 k_ e_.symm).1) e_) (fun e_ => (fun e_ => (HO1_2.out.1 k_ e_.symm).1) e_))); (case side5 => exact HC0_2.out); (case side6 => exact Kd.R_tight rfl HO1_1.out); (case side7 => exact fun k_ e_ => (HO1_1.out.1 k_ e_.symm).2); (case side8 => exact Kd.R_tight rfl HO1_2.out); (case side9 => exact fun k_ e_ => (HO1_2.out.1 k_ e_.symm).2); rintro e w12 ⟨v820, v823, rfl, ho0, ho1, hb, hkp⟩; refine ⟨_, rfl, ?_⟩; have n0_ := Aside0.mk (blk_kept (by (with_reducible repeat (first | refine zzk1 ?_ _ | refine zzk2 ?_ | refine zzk3 ?_ _)); exact BK816.out) hkp (fun hs_ => Or.elim hs_ (fun e_ => (fun e_ => (Kd.R_ne HO1_1.out BK816.out (by decide)) e_) e_) (fun e_ => (fun e_ => (Kd.R_ne HO1_2.out BK816.out (by decide)) e_) e_))); have n1_ := Aside0.mk (blk_kept (by (with_reducible repeat (first | refine zzk1 ?_ _ | refine zzk2 ?_ | refine zzk3 ?_ _)); exact BK817.out) hkp (fun hs_ => Or.elim hs_ (fun e_ => (fun e_ => (Kd.R_ne HO1_1.out BK817.out (by decide)) e_) e_) (fun e_ => (fun e_ => (Kd.R_ne HO1_2.out BK817.out (by decide)) e_) e_))); have n2_ := Aside0.mk (Kd.R_mono (ok' := fun k_ => ((P1_1_ k_ ∨ P1_2_ k_) ∨ w.heap.size ≤ k_) ∧ some k_ ≠ (v823 : Value).ownBlock) ho0 (fun k_ hk_ => ⟨Or.elim hk_.1 (fun hs_ => Or.elim hs_ (fun hs_ => (HO1_1.out.1 k_ (hs_).symm).1) (fun hs_ => (HO1_2.out.1 k_ (hs_).symm).1)) (fun hn_ => (.inr (Nat.le_trans (by first | exact HK.out.1 | exact (show Kept w _ (fun k_ => P1_1_ k_ ∨ P1_2_ k_) from by repeat (first | (with_reducible first | exact HK.out | apply Kept.alloc | apply Kept.drewN | apply Kept.drew | refine Kept.setCell ?_ (.inr GW816.out) _ | refine Kept.setCell ?_ (.inr GW817.out) _) | exact HK.out)).1) hn_))), hk_.2⟩)); have n3_ := Aside0.mk (Kd.R_mono (ok' := fun k_ => ((P1_1_ k_ ∨ P1_2_ k_) ∨ w.heap.size ≤ k_) ∧ some k_ ≠ (v820 : Value).ownBlock) ho1 (fun k_ hk_ => ⟨Or.elim hk_.1 (fun hs_ => Or.elim hs_ (fun hs_ => (HO1_1.out.1 k_ (hs_).symm).1) (fun hs_ => (HO1_2.out.1 k_ (hs_).symm).1)) (fun hn_ => (.inr (Nat.le_trans (by first | exact HK.out.1 | exact (show Kept w _ (fun k_ => P1_1_ k_ ∨ P1_2_ k_) from by repeat (first | (with_reducible first | exact HK.out | apply Kept.alloc | apply Kept.drewN | apply Kept.drew | refine Kept.setCell ?_ (.inr GW816.out) _ | refine Kept.setCell ?_ (.inr GW817.out) _) | exact HK.out)).1) hn_))), hk_.2⟩)); have n4_ := Aside0.mk (Kept.then_ (S := (fun k_ => P1_1_ k_ ∨ P1_2_ k_)) (by repeat (first | (with_reducible first | exact HK.out | apply Kept.alloc | apply Kept.drewN | apply Kept.drew | refine Kept.setCell ?_ (.inr GW816.out) _ | refine Kept.setCell ?_ (.inr GW817.out) _) | exact HK.out)) hkp (fun k_ hs_ => Or.elim hs_ (fun e_ => (fun e_ => (HO1_1.out.1 k_ e_.symm).1) e_) (fun e_ => (fun e_ => (HO1_2.out.1 k_ e_.symm).1) e_))); have n5_ := Aside0.mk (hb); clear BK816; clear BK817; clear HK; clear HB; clear HO1_1; clear HO1_2; have BK816 := n0_; have BK817 := n1_; have HO821 := n2_; have HO824 := n3_; have HK := n4_; have HB := n5_; clear n0_ n1_ n2_ n3_ n4_ n5_; (try clear hb); (try clear hkp); (try clear ho0); (try clear ho1); obtain ⟨Ao13, co13, eo13⟩ := Kd.R_slice HO821.out; subst eo13; obtain ⟨Ao14, co14, eo14⟩ := Kd.R_slice HO824.out; subst eo14) | ((with_reducible refine gate_callee (f := 103) rfl ?_); refine goesL_ (some 8) rfl rfl Try.func103 (by kernel_rfl) rfl #[.agg #[.bool t818, .slice Ao13 t819.length co13, .slice Ao14 t822.length co14]] rfl (by (try simp only [zz4, zz5, zz6]); first | done | rfl | (simp only [zza, zzb]; rfl)) ?_; (with_reducible refine (spec_l02Sign.calls t818 _ _ t819 _ _ t822 t825 _ ?side1 ?side2 ?side3 ?side4 A4.out).mono ?_); (case side1 => repeat (first | exact (Kd.R_reads' HO821.out).2.2 | (with_reducible refine zzC1 ?_ _) | (with_reducible refine zzC2 ?_ _) | (with_reducible refine zzC3 ?_))); (case side2 => exact (Kd.R_reads' HO821.out).2.1); (case side3 => repeat (first | exact (Kd.R_reads' HO824.out).2.2 | (with_reducible refine zzC1 ?_ _) | (with_reducible refine zzC2 ?_ _) | (with_reducible refine zzC3 ?_))); (case side4 => exact (Kd.R_reads' HO824.out).2.1); rintro e w15 ⟨rfl, hb⟩; refine ⟨_, rfl, ?_⟩; have n0_ := Aside0.mk (Kd.R_below (by (with_reducible repeat (first | apply zzR1 | apply zzR2 | apply zzR3)); exact HO821.out) hb); have n1_ := Aside0.mk (Kd.R_below (by (with_reducible repeat (first | apply zzR1 | apply zzR2 | apply zzR3)); exact HO824.out) hb); have n2_ := Aside0.mk (blk_below (g := gb816) (o := .cells #[.bool a0_0, .slice A0_1 l0_1.length c0_1, .slice A0_2 l0_2.length c0_2] 24 (0, 0)) (by (with_reducible repeat (first | refine zzk1 ?_ _ | refine zzk2 ?_ | refine zzk3 ?_ _)); exact BK816.out) hb); have n3_ := Aside0.mk (blk_below (g := gb817) (o := .cells #[.bool a1_0, .slice Ao6 l1_1.length co6, .slice Ao7 l1_2.length co7] 24 (0, 0)) (by (with_reducible repeat (first | refine zzk1 ?_ _ | refine zzk2 ?_ | refine zzk3 ?_ _)); exact BK817.out) hb); have n4_ := Aside0.mk (Kept.below (S := (fun k_ => P1_1_ k_ ∨ P1_2_ k_)) (by repeat (first | (with_reducible first | exact HK.out | apply Kept.alloc | apply Kept.drewN | apply Kept.drew | refine Kept.setCell ?_ (.inr GW816.out) _ | refine Kept.setCell ?_ (.inr GW817.out) _) | exact HK.out)) hb); have n5_ := Aside0.mk (below_step (by repeat (first | (with_reducible first | exact HB.out | apply zzb1 | apply zzb2 | apply zzb3 | refine below_set ?_ GE816.out | refine below_set ?_ GE817.out) | exact HB.out)) hb); clear HO821; clear HO824; clear BK816; clear BK817; clear HK; clear HB; have HO821 := n0_; have HO824 := n1_; have BK816 := n2_; have BK817 := n3_; have HK := n4_; have HB := n5_; clear n0_ n1_ n2_ n3_ n4_ n5_; (try clear hb); (try clear hb2); (try clear hk); (try clear hi)))
 go_ret
 exact ⟨by first | rfl | (simp [errW_none, errW_some] <;> rfl) | (simp [*, errW_none, errW_some] <;> rfl), by repeat (first | (with_reducible first | exact HB.out | apply zzb1 | apply zzb2 | apply zzb3 | refine below_set ?_ GE816.out | refine below_set ?_ GE817.out) | exact HB.out), by repeat (first | (with_reducible first | exact HK.out | apply Kept.alloc | apply Kept.drewN | apply Kept.drew | refine Kept.setCell ?_ (.inr GW816.out) _ | refine Kept.setCell ?_ (.inr GW817.out) _) | exact HK.out)⟩

end Go.Proofs.Ytacdaijalkkogaa.Q
