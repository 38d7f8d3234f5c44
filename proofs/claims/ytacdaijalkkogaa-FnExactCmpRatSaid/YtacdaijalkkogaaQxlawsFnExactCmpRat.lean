-- written by a program of this claim's session (myprint.py) out of the translation; Lean checks it.
import Derived.Test.YtacdaijalkkogaaQx0
import Derived.Test.YtacdaijalkkogaaQxrlaw
import Derived.Test.YtacdaijalkkogaaQxCmpRat
namespace Go.Proofs.Ytacdaijalkkogaa.Q
open Go.RowKit Go.Proofs.YtacdaijalkkogaaW.PrintWords Go.Proofs.YtacdaijalkkogaaW.PrintLast Go.Proofs.YtacdaijalkkogaaW.PrintMore
attribute [local go_sem] max2_int min2_int max_two min_two max_three min_three max_four min_four
set_option linter.unusedVariables false
set_option linter.unusedSimpArgs false

def laws_FnExactCmpRat.j0 : Nat → Bool → Bool → List Int → List Int → Bool → List Int → List Int → Bool → List Int → List Int → Bool → List Int → List Int → Option (Bool)
 | 0, _, _, _, _, _, _, _, _, _, _, _, _, _ => none
 | k + 1, x47, x853000, x853001, x853002, x854000, x854001, x854002, x880000, x880001, x880002, x888000, x888001, x888002 => if x47 = true then (some false) else ((laws_toRat.f k x853000 x853001 x853002).bind fun bt890 => ((laws_eqRat.f k x880000 x880001 x880002 bt890.1 bt890.2.1 bt890.2.2).bind fun t897 => (if t897 = true then ((laws_toRat.f k x854000 x854001 x854002).bind fun bt898 => ((laws_eqRat.f k x888000 x888001 x888002 bt898.1 bt898.2.1 bt898.2.2).bind fun t905 => (if t905 = true then (some true) else (some false)))) else (some false))))
def laws_FnExactCmpRat.f (k : Nat) (a0_0 : Bool) (l0_1 : List Int) (l0_2 : List Int) (a1_0 : Bool) (l1_1 : List Int) (l1_2 : List Int) : Option (Bool) := (laws_szRat.f a0_0 l0_1 l0_2 1048576).bind fun t854 => (if t854 < 0 then (some true) else ((laws_szRat.f a1_0 l1_1 l1_2 t854).bind fun t855 => (if t855 < 0 then (some true) else ((laws_toRat.f k a0_0 l0_1 l0_2).bind fun bt856 => ((laws_toRat.f k a1_0 l1_1 l1_2).bind fun bt863 => ((spec_CmpRat.f k bt856.1 bt856.2.1 bt856.2.2 bt863.1 bt863.2.1 bt863.2.2).bind fun bt870 => ((laws_toRat.f k a0_0 l0_1 l0_2).bind fun bt872 => ((laws_toRat.f k a1_0 l1_1 l1_2).bind fun bt880 => ((impl_CmpRat.f k bt872.1 bt872.2.1 bt872.2.2 bt880.1 bt880.2.1 bt880.2.2).bind fun bt888 => (if bt888.1 = bt870.1 then (laws_FnExactCmpRat.j0 k (bt888.2 != bt870.2) a0_0 l0_1 l0_2 a1_0 l1_1 l1_2 bt872.1 bt872.2.1 bt872.2.2 bt880.1 bt880.2.1 bt880.2.2) else (laws_FnExactCmpRat.j0 k true a0_0 l0_1 l0_2 a1_0 l1_1 l1_2 bt872.1 bt872.2.1 bt872.2.2 bt880.1 bt880.2.1 bt880.2.2)))))))))))
theorem laws_FnExactCmpRat.mono_l : ∀ k, (∀ y0 y1 y2 y3 y4 y5 y6 y7 y8 y9 y10 y11 y12, LeO (laws_FnExactCmpRat.j0 k y0 y1 y2 y3 y4 y5 y6 y7 y8 y9 y10 y11 y12) (laws_FnExactCmpRat.j0 (k + 1) y0 y1 y2 y3 y4 y5 y6 y7 y8 y9 y10 y11 y12))
 | 0 => fun _ _ _ _ _ _ _ _ _ _ _ _ _ r h => by simp [laws_FnExactCmpRat.j0] at h
 | k + 1 => by
  have ih0 := laws_FnExactCmpRat.mono_l k
  ·
   intro y0 y1 y2 y3 y4 y5 y6 y7 y8 y9 y10 y11 y12
   unfold laws_FnExactCmpRat.j0
   repeat' first
   | (with_reducible exact ih0 _ _ _ _ _ _ _ _ _ _ _ _ _)
   | (with_reducible exact impl_CmpRat.mono _ _ _ _ _ _ _)
   | (with_reducible exact laws_eqRat.mono _ _ _ _ _ _ _)
   | (with_reducible exact laws_toRat.mono _ _ _ _)
   | (with_reducible exact spec_CmpRat.mono _ _ _ _ _ _ _)
   | (with_reducible exact LeO.refl _)
   | (with_reducible exact LeO.none _)
   | (with_reducible refine LeO.ite ?_ ?_)
   | (with_reducible refine LeO.bind ?_ (fun _ => ?_))
   | exact ih0 _ _ _ _ _ _ _ _ _ _ _ _ _
   | exact impl_CmpRat.mono _ _ _ _ _ _ _
   | exact laws_eqRat.mono _ _ _ _ _ _ _
   | exact laws_toRat.mono _ _ _ _
   | exact spec_CmpRat.mono _ _ _ _ _ _ _
   | exact LeO.none _
   | refine LeO.ite ?_ ?_
   | refine LeO.bind ?_ (fun _ => ?_)
theorem laws_FnExactCmpRat.mono : ∀ a0 a1 a2 a3 a4 a5 k, LeO (laws_FnExactCmpRat.f k a0 a1 a2 a3 a4 a5) (laws_FnExactCmpRat.f (k + 1) a0 a1 a2 a3 a4 a5) := by
 intro a0 a1 a2 a3 a4 a5 k
 have ih0 := laws_FnExactCmpRat.mono_l k
 unfold laws_FnExactCmpRat.f
 repeat' first
   | (with_reducible exact ih0 _ _ _ _ _ _ _ _ _ _ _ _ _)
   | (with_reducible exact impl_CmpRat.mono _ _ _ _ _ _ _)
   | (with_reducible exact laws_eqRat.mono _ _ _ _ _ _ _)
   | (with_reducible exact laws_toRat.mono _ _ _ _)
   | (with_reducible exact spec_CmpRat.mono _ _ _ _ _ _ _)
   | (with_reducible exact LeO.refl _)
   | (with_reducible exact LeO.none _)
   | (with_reducible refine LeO.ite ?_ ?_)
   | (with_reducible refine LeO.bind ?_ (fun _ => ?_))
   | exact ih0 _ _ _ _ _ _ _ _ _ _ _ _ _
   | exact impl_CmpRat.mono _ _ _ _ _ _ _
   | exact laws_eqRat.mono _ _ _ _ _ _ _
   | exact laws_toRat.mono _ _ _ _
   | exact spec_CmpRat.mono _ _ _ _ _ _ _
   | exact LeO.none _
   | refine LeO.ite ?_ ?_
   | refine LeO.bind ?_ (fun _ => ?_)
def laws_FnExactCmpRat.T8 : Bool × List (List Nat × List Nat) := (true, [([], []), ([0], [0]), ([], []), ([2, 1], [2]), ([1, 3, 3], [1, 3]), ([4], [4]), ([5], [5]), ([5], [5]), ([6, 4, 0, 1, 2, 3, 4, 5, 6], [6]), ([7, 8, 0, 1, 2, 3, 4, 5, 6, 7, 8], [7])])
def laws_FnExactCmpRat.B8 : List Nat := [0, 1, 0, 7, 15, 31, 63, 63, 127, 511]
theorem laws_FnExactCmpRat.tab8 : rtab .any (opsOf Try.f6 8) = laws_FnExactCmpRat.T8 := by kernel_rfl
theorem laws_FnExactCmpRat.bits8 : waitsOk laws_FnExactCmpRat.T8.2 laws_FnExactCmpRat.B8 = true := by kernel_rfl
set_option maxHeartbeats 8000000 in
set_option maxRecDepth 100000 in
theorem laws_FnExactCmpRat.calls (k : Nat) (a0_0 : Bool) (A0_1 : Option Addr) (c0_1 : Nat) (l0_1 : List Int) (A0_2 : Option Addr) (c0_2 : Nat) (l0_2 : List Int) (a1_0 : Bool) (A1_1 : Option Addr) (c1_1 : Nat) (l1_1 : List Int) (A1_2 : Option Addr) (c1_2 : Nat) (l1_2 : List Int) (r : Bool) (w : World) (hr0_1 : Kd.C (Kd.int .i64) w A0_1 l0_1.length l0_1) (hc0_1 : l0_1.length ≤ c0_1) (hr0_2 : Kd.C (Kd.int .i64) w A0_2 l0_2.length l0_2) (hc0_2 : l0_2.length ≤ c0_2) (hr1_1 : Kd.C (Kd.int .i64) w A1_1 l1_1.length l1_1) (hc1_1 : l1_1.length ≤ c1_1) (hr1_2 : Kd.C (Kd.int .i64) w A1_2 l1_2.length l1_2) (hc1_2 : l1_2.length ≤ c1_2) (h : laws_FnExactCmpRat.f k a0_0 l0_1 l0_2 a1_0 l1_1 l1_2 = some r) (hr_ : r = true) :
  Calls Try.prog 6 #[.agg #[.bool a0_0, .slice A0_1 l0_1.length c0_1, .slice A0_2 l0_2.length c0_2], .agg #[.bool a1_0, .slice A1_1 l1_1.length c1_1, .slice A1_2 l1_2.length c1_2]] w fun e w' => e = .returned (.bool r) ∧ Below w.heap.size w w' := by
 have hu30 := Try.underlying30
 have hu24 := Try.underlying24
 have HR0_1 := Aside0.mk hr0_1
 have HC0_1 := Aside0.mk hc0_1
 clear hr0_1 hc0_1
 have HR0_2 := Aside0.mk hr0_2
 have HC0_2 := Aside0.mk hc0_2
 clear hr0_2 hc0_2
 have HR1_1 := Aside0.mk hr1_1
 have HC1_1 := Aside0.mk hc1_1
 clear hr1_1 hc1_1
 have HR1_2 := Aside0.mk hr1_2
 have HC1_2 := Aside0.mk hc1_2
 clear hr1_2 hc1_2
 have HB := Aside0.mk (Below.refl w.heap.size w)
 have H : ((laws_szRat.f a0_0 l0_1 l0_2 1048576).bind fun t854 => (if t854 < 0 then (some true) else ((laws_szRat.f a1_0 l1_1 l1_2 t854).bind fun t855 => (if t855 < 0 then (some true) else ((laws_toRat.f k a0_0 l0_1 l0_2).bind fun bt856 => ((laws_toRat.f k a1_0 l1_1 l1_2).bind fun bt863 => ((spec_CmpRat.f k bt856.1 bt856.2.1 bt856.2.2 bt863.1 bt863.2.1 bt863.2.2).bind fun bt870 => ((laws_toRat.f k a0_0 l0_1 l0_2).bind fun bt872 => ((laws_toRat.f k a1_0 l1_1 l1_2).bind fun bt880 => ((impl_CmpRat.f k bt872.1 bt872.2.1 bt872.2.2 bt880.1 bt880.2.1 bt880.2.2).bind fun bt888 => (if bt888.1 = bt870.1 then (laws_FnExactCmpRat.j0 k (bt888.2 != bt870.2) a0_0 l0_1 l0_2 a1_0 l1_1 l1_2 bt872.1 bt872.2.1 bt872.2.2 bt880.1 bt880.2.1 bt880.2.2) else (laws_FnExactCmpRat.j0 k true a0_0 l0_1 l0_2 a1_0 l1_1 l1_2 bt872.1 bt872.2.1 bt872.2.2 bt880.1 bt880.2.1 bt880.2.2)))))))))))) = some r := h
 clear h
 replace H := Option.bind_eq_some_iff.mp H
 obtain ⟨t854, A30, H⟩ := H
 replace H : (if t854 < 0 then (some true) else ((laws_szRat.f a1_0 l1_1 l1_2 t854).bind fun t855 => (if t855 < 0 then (some true) else ((laws_toRat.f k a0_0 l0_1 l0_2).bind fun bt856 => ((laws_toRat.f k a1_0 l1_1 l1_2).bind fun bt863 => ((spec_CmpRat.f k bt856.1 bt856.2.1 bt856.2.2 bt863.1 bt863.2.1 bt863.2.2).bind fun bt870 => ((laws_toRat.f k a0_0 l0_1 l0_2).bind fun bt872 => ((laws_toRat.f k a1_0 l1_1 l1_2).bind fun bt880 => ((impl_CmpRat.f k bt872.1 bt872.2.1 bt872.2.2 bt880.1 bt880.2.1 bt880.2.2).bind fun bt888 => (if bt888.1 = bt870.1 then (laws_FnExactCmpRat.j0 k (bt888.2 != bt870.2) a0_0 l0_1 l0_2 a1_0 l1_1 l1_2 bt872.1 bt872.2.1 bt872.2.2 bt880.1 bt880.2.1 bt880.2.2) else (laws_FnExactCmpRat.j0 k true a0_0 l0_1 l0_2 a1_0 l1_1 l1_2 bt872.1 bt872.2.1 bt872.2.2 bt880.1 bt880.2.1 bt880.2.2))))))))))) = some r := H
 have A3 := Aside0.mk A30
 clear A30
 by_cases c4 : t854 < 0
 ·
  rw [if_pos c4] at H
  have c4b0 : decide (t854 < 0) = true := decide_eq_true c4
  clear c4
  obtain rfl := Option.some.inj H
  go_enter Try.func6, Try.ntmps6
  go_wp2_with (first | ((with_reducible refine gate_dst (N := 2) rfl ?_); refine box_event ?hg (N := 2) ?hd (cs := #[.bool a0_0, .slice A0_1 l0_1.length c0_1, .slice A0_2 l0_2.length c0_2]) (t := 30) ?hr ?_; (case hd => rfl); (case hg => rfl); (case hr => first | (go_simp; done) | (go_simp; rfl)); intro gb852 hg w5 hbox hb; have n0_ := Aside0.mk (below_step (by repeat (first | (with_reducible first | exact HB.out | apply zzb1 | apply zzb2 | apply zzb3) | exact HB.out)) hb); have n1_ := Aside0.mk (hbox); have n2_ := Aside0.mk ((by rw [hg]; exact (below_size (by repeat (first | (with_reducible first | exact HB.out | apply zzb1 | apply zzb2 | apply zzb3) | exact HB.out))) : w.heap.size ≤ gb852)); have n3_ := Aside0.mk ((by rw [hg]; exact (below_size (by repeat (first | (with_reducible first | exact HB.out | apply zzb1 | apply zzb2 | apply zzb3) | exact HB.out))) : w.heap.size ≤ gb852)); clear HB; have HB := n0_; have BK852 := n1_; have GW852 := n2_; have GE852 := n3_; clear n0_ n1_ n2_ n3_; clear hb hbox hg) | ((with_reducible refine gate_dst (N := 3) rfl ?_); refine box_event ?hg (N := 3) ?hd (cs := #[.bool a1_0, .slice A1_1 l1_1.length c1_1, .slice A1_2 l1_2.length c1_2]) (t := 30) ?hr ?_; (case hd => rfl); (case hg => rfl); (case hr => first | (go_simp; done) | (go_simp; rfl)); intro gb853 hg w6 hbox hb; have n0_ := Aside0.mk (blk_below (g := gb852) (o := .cells #[.bool a0_0, .slice A0_1 l0_1.length c0_1, .slice A0_2 l0_2.length c0_2] 30 (0, 0)) (by (with_reducible repeat (first | refine zzk1 ?_ _ | refine zzk2 ?_ | refine zzk3 ?_ _)); exact BK852.out) hb); have n1_ := Aside0.mk (below_step (by repeat (first | (with_reducible first | exact HB.out | apply zzb1 | apply zzb2 | apply zzb3 | refine below_set ?_ GE852.out) | exact HB.out)) hb); have n2_ := Aside0.mk (hbox); have n3_ := Aside0.mk ((by rw [hg]; exact (below_size (by repeat (first | (with_reducible first | exact HB.out | apply zzb1 | apply zzb2 | apply zzb3 | refine below_set ?_ GE852.out) | exact HB.out))) : w.heap.size ≤ gb853)); have n4_ := Aside0.mk ((by rw [hg]; exact (below_size (by repeat (first | (with_reducible first | exact HB.out | apply zzb1 | apply zzb2 | apply zzb3 | refine below_set ?_ GE852.out) | exact HB.out))) : w.heap.size ≤ gb853)); have n5_ := Aside0.mk ((by rw [hg]; exact Nat.ne_of_lt (blk_lt (g := gb852) (o := .cells #[.bool a0_0, .slice A0_1 l0_1.length c0_1, .slice A0_2 l0_2.length c0_2] 30 (0, 0)) (by (with_reducible repeat (first | refine zzk1 ?_ _ | refine zzk2 ?_ | refine zzk3 ?_ _)); exact BK852.out)) : gb852 ≠ gb853)); have n6_ := Aside0.mk ((by rw [hg]; exact Nat.ne_of_gt (blk_lt (g := gb852) (o := .cells #[.bool a0_0, .slice A0_1 l0_1.length c0_1, .slice A0_2 l0_2.length c0_2] 30 (0, 0)) (by (with_reducible repeat (first | refine zzk1 ?_ _ | refine zzk2 ?_ | refine zzk3 ?_ _)); exact BK852.out)) : gb853 ≠ gb852)); clear BK852; clear HB; have BK852 := n0_; have HB := n1_; have BK853 := n2_; have GW853 := n3_; have GE853 := n4_; have NB852_853 := n5_; have NB853_852 := n6_; clear n0_ n1_ n2_ n3_ n4_ n5_ n6_; clear hb hbox hg; have hnb7 := NB852_853.out; have hnc7 := NB853_852.out; have hcz8_0 : w6.cell? ⟨gb852, 0, none⟩ = some (.bool a0_0) := (blk_cell BK852.out 0).trans rfl; have hcz8_1 : w6.cell? ⟨gb852, 1, none⟩ = some (.slice A0_1 l0_1.length c0_1) := (blk_cell BK852.out 1).trans rfl; have hcz8_2 : w6.cell? ⟨gb852, 2, none⟩ = some (.slice A0_2 l0_2.length c0_2) := (blk_cell BK852.out 2).trans rfl; have hfz8_0 := blk_frozen BK852.out 0; have hfz8_1 := blk_frozen BK852.out 1; have hfz8_2 := blk_frozen BK852.out 2) | ((with_reducible refine gate_callee (f := 20) rfl ?_); refine goesL_ (some 14) rfl rfl Try.func20 (by kernel_rfl) rfl #[.agg #[.bool a0_0, .slice A0_1 l0_1.length c0_1, .slice A0_2 l0_2.length c0_2], .int .i64 1048576] rfl (by (try simp only [zz4, zz5, zz6]); first | done | rfl | (simp only [zza, zzb]; rfl)) ?_; (with_reducible refine (laws_szRat.calls a0_0 _ _ l0_1 _ _ l0_2 1048576 t854 _ ?side1 ?side2 ?side3 ?side4 A3.out).mono ?_); (case side1 => repeat (first | exact (Kd.C_below HR0_1.out HB.out) | (with_reducible refine zzC1 ?_ _) | (with_reducible refine zzC2 ?_ _) | (with_reducible refine zzC3 ?_))); (case side2 => exact HC0_1.out); (case side3 => repeat (first | exact (Kd.C_below HR0_2.out HB.out) | (with_reducible refine zzC1 ?_ _) | (with_reducible refine zzC2 ?_ _) | (with_reducible refine zzC3 ?_))); (case side4 => exact HC0_2.out); rintro e w9 ⟨rfl, hb⟩; refine ⟨_, rfl, ?_⟩; have n0_ := Aside0.mk (blk_below (g := gb852) (o := .cells #[.bool a0_0, .slice A0_1 l0_1.length c0_1, .slice A0_2 l0_2.length c0_2] 30 (0, 0)) (by (with_reducible repeat (first | refine zzk1 ?_ _ | refine zzk2 ?_ | refine zzk3 ?_ _)); exact BK852.out) hb); have n1_ := Aside0.mk (blk_below (g := gb853) (o := .cells #[.bool a1_0, .slice A1_1 l1_1.length c1_1, .slice A1_2 l1_2.length c1_2] 30 (0, 0)) (by (with_reducible repeat (first | refine zzk1 ?_ _ | refine zzk2 ?_ | refine zzk3 ?_ _)); exact BK853.out) hb); have n2_ := Aside0.mk (below_step (by repeat (first | (with_reducible first | exact HB.out | apply zzb1 | apply zzb2 | apply zzb3 | refine below_set ?_ GE852.out | refine below_set ?_ GE853.out) | exact HB.out)) hb); clear BK852; clear BK853; clear HB; have BK852 := n0_; have BK853 := n1_; have HB := n2_; clear n0_ n1_ n2_; (try clear hb); (try clear hb2); (try clear hk); (try clear hi)))
  go_ret
  exact ⟨by first | rfl | (simp [errW_none, errW_some] <;> rfl) | (simp [*, errW_none, errW_some] <;> rfl), by repeat (first | (with_reducible first | exact HB.out | apply zzb1 | apply zzb2 | apply zzb3 | refine below_set ?_ GE852.out | refine below_set ?_ GE853.out) | exact HB.out)⟩
 ·
  rw [if_neg c4] at H
  have c4b0 : decide (t854 < 0) = false := decide_eq_false c4
  clear c4
  replace H := Option.bind_eq_some_iff.mp H
  obtain ⟨t855, A100, H⟩ := H
  replace H : (if t855 < 0 then (some true) else ((laws_toRat.f k a0_0 l0_1 l0_2).bind fun bt856 => ((laws_toRat.f k a1_0 l1_1 l1_2).bind fun bt863 => ((spec_CmpRat.f k bt856.1 bt856.2.1 bt856.2.2 bt863.1 bt863.2.1 bt863.2.2).bind fun bt870 => ((laws_toRat.f k a0_0 l0_1 l0_2).bind fun bt872 => ((laws_toRat.f k a1_0 l1_1 l1_2).bind fun bt880 => ((impl_CmpRat.f k bt872.1 bt872.2.1 bt872.2.2 bt880.1 bt880.2.1 bt880.2.2).bind fun bt888 => (if bt888.1 = bt870.1 then (laws_FnExactCmpRat.j0 k (bt888.2 != bt870.2) a0_0 l0_1 l0_2 a1_0 l1_1 l1_2 bt872.1 bt872.2.1 bt872.2.2 bt880.1 bt880.2.1 bt880.2.2) else (laws_FnExactCmpRat.j0 k true a0_0 l0_1 l0_2 a1_0 l1_1 l1_2 bt872.1 bt872.2.1 bt872.2.2 bt880.1 bt880.2.1 bt880.2.2))))))))) = some r := H
  have A10 := Aside0.mk A100
  clear A100
  by_cases c11 : t855 < 0
  ·
   rw [if_pos c11] at H
   have c11b0 : decide (t855 < 0) = true := decide_eq_true c11
   clear c11
   obtain rfl := Option.some.inj H
   go_enter Try.func6, Try.ntmps6
   go_wp2_with (first | ((with_reducible refine gate_dst (N := 2) rfl ?_); refine box_event ?hg (N := 2) ?hd (cs := #[.bool a0_0, .slice A0_1 l0_1.length c0_1, .slice A0_2 l0_2.length c0_2]) (t := 30) ?hr ?_; (case hd => rfl); (case hg => rfl); (case hr => first | (go_simp; done) | (go_simp; rfl)); intro gb852 hg w12 hbox hb; have n0_ := Aside0.mk (below_step (by repeat (first | (with_reducible first | exact HB.out | apply zzb1 | apply zzb2 | apply zzb3) | exact HB.out)) hb); have n1_ := Aside0.mk (hbox); have n2_ := Aside0.mk ((by rw [hg]; exact (below_size (by repeat (first | (with_reducible first | exact HB.out | apply zzb1 | apply zzb2 | apply zzb3) | exact HB.out))) : w.heap.size ≤ gb852)); have n3_ := Aside0.mk ((by rw [hg]; exact (below_size (by repeat (first | (with_reducible first | exact HB.out | apply zzb1 | apply zzb2 | apply zzb3) | exact HB.out))) : w.heap.size ≤ gb852)); clear HB; have HB := n0_; have BK852 := n1_; have GW852 := n2_; have GE852 := n3_; clear n0_ n1_ n2_ n3_; clear hb hbox hg) | ((with_reducible refine gate_dst (N := 3) rfl ?_); refine box_event ?hg (N := 3) ?hd (cs := #[.bool a1_0, .slice A1_1 l1_1.length c1_1, .slice A1_2 l1_2.length c1_2]) (t := 30) ?hr ?_; (case hd => rfl); (case hg => rfl); (case hr => first | (go_simp; done) | (go_simp; rfl)); intro gb853 hg w13 hbox hb; have n0_ := Aside0.mk (blk_below (g := gb852) (o := .cells #[.bool a0_0, .slice A0_1 l0_1.length c0_1, .slice A0_2 l0_2.length c0_2] 30 (0, 0)) (by (with_reducible repeat (first | refine zzk1 ?_ _ | refine zzk2 ?_ | refine zzk3 ?_ _)); exact BK852.out) hb); have n1_ := Aside0.mk (below_step (by repeat (first | (with_reducible first | exact HB.out | apply zzb1 | apply zzb2 | apply zzb3 | refine below_set ?_ GE852.out) | exact HB.out)) hb); have n2_ := Aside0.mk (hbox); have n3_ := Aside0.mk ((by rw [hg]; exact (below_size (by repeat (first | (with_reducible first | exact HB.out | apply zzb1 | apply zzb2 | apply zzb3 | refine below_set ?_ GE852.out) | exact HB.out))) : w.heap.size ≤ gb853)); have n4_ := Aside0.mk ((by rw [hg]; exact (below_size (by repeat (first | (with_reducible first | exact HB.out | apply zzb1 | apply zzb2 | apply zzb3 | refine below_set ?_ GE852.out) | exact HB.out))) : w.heap.size ≤ gb853)); have n5_ := Aside0.mk ((by rw [hg]; exact Nat.ne_of_lt (blk_lt (g := gb852) (o := .cells #[.bool a0_0, .slice A0_1 l0_1.length c0_1, .slice A0_2 l0_2.length c0_2] 30 (0, 0)) (by (with_reducible repeat (first | refine zzk1 ?_ _ | refine zzk2 ?_ | refine zzk3 ?_ _)); exact BK852.out)) : gb852 ≠ gb853)); have n6_ := Aside0.mk ((by rw [hg]; exact Nat.ne_of_gt (blk_lt (g := gb852) (o := .cells #[.bool a0_0, .slice A0_1 l0_1.length c0_1, .slice A0_2 l0_2.length c0_2] 30 (0, 0)) (by (with_reducible repeat (first | refine zzk1 ?_ _ | refine zzk2 ?_ | refine zzk3 ?_ _)); exact BK852.out)) : gb853 ≠ gb852)); clear BK852; clear HB; have BK852 := n0_; have HB := n1_; have BK853 := n2_; have GW853 := n3_; have GE853 := n4_; have NB852_853 := n5_; have NB853_852 := n6_; clear n0_ n1_ n2_ n3_ n4_ n5_ n6_; clear hb hbox hg; have hnb14 := NB852_853.out; have hnc14 := NB853_852.out; have hcz15_0 : w13.cell? ⟨gb852, 0, none⟩ = some (.bool a0_0) := (blk_cell BK852.out 0).trans rfl; have hcz15_1 : w13.cell? ⟨gb852, 1, none⟩ = some (.slice A0_1 l0_1.length c0_1) := (blk_cell BK852.out 1).trans rfl; have hcz15_2 : w13.cell? ⟨gb852, 2, none⟩ = some (.slice A0_2 l0_2.length c0_2) := (blk_cell BK852.out 2).trans rfl; have hfz15_0 := blk_frozen BK852.out 0; have hfz15_1 := blk_frozen BK852.out 1; have hfz15_2 := blk_frozen BK852.out 2) | ((with_reducible refine gate_callee (f := 20) rfl ?_); refine goesL_ (some 14) rfl rfl Try.func20 (by kernel_rfl) rfl #[.agg #[.bool a0_0, .slice A0_1 l0_1.length c0_1, .slice A0_2 l0_2.length c0_2], .int .i64 1048576] rfl (by (try simp only [zz4, zz5, zz6]); first | done | rfl | (simp only [zza, zzb]; rfl)) ?_; (with_reducible refine (laws_szRat.calls a0_0 _ _ l0_1 _ _ l0_2 1048576 t854 _ ?side1 ?side2 ?side3 ?side4 A3.out).mono ?_); (case side1 => repeat (first | exact (Kd.C_below HR0_1.out HB.out) | (with_reducible refine zzC1 ?_ _) | (with_reducible refine zzC2 ?_ _) | (with_reducible refine zzC3 ?_))); (case side2 => exact HC0_1.out); (case side3 => repeat (first | exact (Kd.C_below HR0_2.out HB.out) | (with_reducible refine zzC1 ?_ _) | (with_reducible refine zzC2 ?_ _) | (with_reducible refine zzC3 ?_))); (case side4 => exact HC0_2.out); rintro e w16 ⟨rfl, hb⟩; refine ⟨_, rfl, ?_⟩; have n0_ := Aside0.mk (blk_below (g := gb852) (o := .cells #[.bool a0_0, .slice A0_1 l0_1.length c0_1, .slice A0_2 l0_2.length c0_2] 30 (0, 0)) (by (with_reducible repeat (first | refine zzk1 ?_ _ | refine zzk2 ?_ | refine zzk3 ?_ _)); exact BK852.out) hb); have n1_ := Aside0.mk (blk_below (g := gb853) (o := .cells #[.bool a1_0, .slice A1_1 l1_1.length c1_1, .slice A1_2 l1_2.length c1_2] 30 (0, 0)) (by (with_reducible repeat (first | refine zzk1 ?_ _ | refine zzk2 ?_ | refine zzk3 ?_ _)); exact BK853.out) hb); have n2_ := Aside0.mk (below_step (by repeat (first | (with_reducible first | exact HB.out | apply zzb1 | apply zzb2 | apply zzb3 | refine below_set ?_ GE852.out | refine below_set ?_ GE853.out) | exact HB.out)) hb); clear BK852; clear BK853; clear HB; have BK852 := n0_; have BK853 := n1_; have HB := n2_; clear n0_ n1_ n2_; (try clear hb); (try clear hb2); (try clear hk); (try clear hi); have hcz17_0 : w16.cell? ⟨gb853, 0, none⟩ = some (.bool a1_0) := (blk_cell BK853.out 0).trans rfl; have hcz17_1 : w16.cell? ⟨gb853, 1, none⟩ = some (.slice A1_1 l1_1.length c1_1) := (blk_cell BK853.out 1).trans rfl; have hcz17_2 : w16.cell? ⟨gb853, 2, none⟩ = some (.slice A1_2 l1_2.length c1_2) := (blk_cell BK853.out 2).trans rfl; have hfz17_0 := blk_frozen BK853.out 0; have hfz17_1 := blk_frozen BK853.out 1; have hfz17_2 := blk_frozen BK853.out 2) | ((with_reducible refine gate_callee (f := 20) rfl ?_); refine goesL_ (some 19) rfl rfl Try.func20 (by kernel_rfl) rfl #[.agg #[.bool a1_0, .slice A1_1 l1_1.length c1_1, .slice A1_2 l1_2.length c1_2], .int .i64 t854] rfl (by (try simp only [zz4, zz5, zz6]); first | done | rfl | (simp only [zza, zzb]; rfl)) ?_; (with_reducible refine (laws_szRat.calls a1_0 _ _ l1_1 _ _ l1_2 t854 t855 _ ?side1 ?side2 ?side3 ?side4 A10.out).mono ?_); (case side1 => repeat (first | exact (Kd.C_below HR1_1.out HB.out) | (with_reducible refine zzC1 ?_ _) | (with_reducible refine zzC2 ?_ _) | (with_reducible refine zzC3 ?_))); (case side2 => exact HC1_1.out); (case side3 => repeat (first | exact (Kd.C_below HR1_2.out HB.out) | (with_reducible refine zzC1 ?_ _) | (with_reducible refine zzC2 ?_ _) | (with_reducible refine zzC3 ?_))); (case side4 => exact HC1_2.out); rintro e w18 ⟨rfl, hb⟩; refine ⟨_, rfl, ?_⟩; have n0_ := Aside0.mk (blk_below (g := gb852) (o := .cells #[.bool a0_0, .slice A0_1 l0_1.length c0_1, .slice A0_2 l0_2.length c0_2] 30 (0, 0)) (by (with_reducible repeat (first | refine zzk1 ?_ _ | refine zzk2 ?_ | refine zzk3 ?_ _)); exact BK852.out) hb); have n1_ := Aside0.mk (blk_below (g := gb853) (o := .cells #[.bool a1_0, .slice A1_1 l1_1.length c1_1, .slice A1_2 l1_2.length c1_2] 30 (0, 0)) (by (with_reducible repeat (first | refine zzk1 ?_ _ | refine zzk2 ?_ | refine zzk3 ?_ _)); exact BK853.out) hb); have n2_ := Aside0.mk (below_step (by repeat (first | (with_reducible first | exact HB.out | apply zzb1 | apply zzb2 | apply zzb3 | refine below_set ?_ GE852.out | refine below_set ?_ GE853.out) | exact HB.out)) hb); clear BK852; clear BK853; clear HB; have BK852 := n0_; have BK853 := n1_; have HB := n2_; clear n0_ n1_ n2_; (try clear hb); (try clear hb2); (try clear hk); (try clear hi)))
   go_ret
   exact ⟨by first | rfl | (simp [errW_none, errW_some] <;> rfl) | (simp [*, errW_none, errW_some] <;> rfl), by repeat (first | (with_reducible first | exact HB.out | apply zzb1 | apply zzb2 | apply zzb3 | refine below_set ?_ GE852.out | refine below_set ?_ GE853.out) | exact HB.out)⟩
  ·
   rw [if_neg c11] at H
   have c11b0 : decide (t855 < 0) = false := decide_eq_false c11
   clear c11
   replace H := Option.bind_eq_some_iff.mp H
   obtain ⟨⟨t856, t857, t860⟩, A190, H⟩ := H
   replace H : ((laws_toRat.f k a1_0 l1_1 l1_2).bind fun bt863 => ((spec_CmpRat.f k t856 t857 t860 bt863.1 bt863.2.1 bt863.2.2).bind fun bt870 => ((laws_toRat.f k a0_0 l0_1 l0_2).bind fun bt872 => ((laws_toRat.f k a1_0 l1_1 l1_2).bind fun bt880 => ((impl_CmpRat.f k bt872.1 bt872.2.1 bt872.2.2 bt880.1 bt880.2.1 bt880.2.2).bind fun bt888 => (if bt888.1 = bt870.1 then (laws_FnExactCmpRat.j0 k (bt888.2 != bt870.2) a0_0 l0_1 l0_2 a1_0 l1_1 l1_2 bt872.1 bt872.2.1 bt872.2.2 bt880.1 bt880.2.1 bt880.2.2) else (laws_FnExactCmpRat.j0 k true a0_0 l0_1 l0_2 a1_0 l1_1 l1_2 bt872.1 bt872.2.1 bt872.2.2 bt880.1 bt880.2.1 bt880.2.2))))))) = some r := H
   have A19 := Aside0.mk A190
   clear A190
   replace H := Option.bind_eq_some_iff.mp H
   obtain ⟨⟨t863, t864, t867⟩, A200, H⟩ := H
   replace H : ((spec_CmpRat.f k t856 t857 t860 t863 t864 t867).bind fun bt870 => ((laws_toRat.f k a0_0 l0_1 l0_2).bind fun bt872 => ((laws_toRat.f k a1_0 l1_1 l1_2).bind fun bt880 => ((impl_CmpRat.f k bt872.1 bt872.2.1 bt872.2.2 bt880.1 bt880.2.1 bt880.2.2).bind fun bt888 => (if bt888.1 = bt870.1 then (laws_FnExactCmpRat.j0 k (bt888.2 != bt870.2) a0_0 l0_1 l0_2 a1_0 l1_1 l1_2 bt872.1 bt872.2.1 bt872.2.2 bt880.1 bt880.2.1 bt880.2.2) else (laws_FnExactCmpRat.j0 k true a0_0 l0_1 l0_2 a1_0 l1_1 l1_2 bt872.1 bt872.2.1 bt872.2.2 bt880.1 bt880.2.1 bt880.2.2)))))) = some r := H
   have A20 := Aside0.mk A200
   clear A200
   replace H := Option.bind_eq_some_iff.mp H
   obtain ⟨⟨t870, t871⟩, A210, H⟩ := H
   replace H : ((laws_toRat.f k a0_0 l0_1 l0_2).bind fun bt872 => ((laws_toRat.f k a1_0 l1_1 l1_2).bind fun bt880 => ((impl_CmpRat.f k bt872.1 bt872.2.1 bt872.2.2 bt880.1 bt880.2.1 bt880.2.2).bind fun bt888 => (if bt888.1 = t870 then (laws_FnExactCmpRat.j0 k (bt888.2 != t871) a0_0 l0_1 l0_2 a1_0 l1_1 l1_2 bt872.1 bt872.2.1 bt872.2.2 bt880.1 bt880.2.1 bt880.2.2) else (laws_FnExactCmpRat.j0 k true a0_0 l0_1 l0_2 a1_0 l1_1 l1_2 bt872.1 bt872.2.1 bt872.2.2 bt880.1 bt880.2.1 bt880.2.2))))) = some r := H
   have A21 := Aside0.mk A210
   clear A210
   replace H := Option.bind_eq_some_iff.mp H
   obtain ⟨⟨t872, t873, t876⟩, A220, H⟩ := H
   replace H : ((laws_toRat.f k a1_0 l1_1 l1_2).bind fun bt880 => ((impl_CmpRat.f k t872 t873 t876 bt880.1 bt880.2.1 bt880.2.2).bind fun bt888 => (if bt888.1 = t870 then (laws_FnExactCmpRat.j0 k (bt888.2 != t871) a0_0 l0_1 l0_2 a1_0 l1_1 l1_2 t872 t873 t876 bt880.1 bt880.2.1 bt880.2.2) else (laws_FnExactCmpRat.j0 k true a0_0 l0_1 l0_2 a1_0 l1_1 l1_2 t872 t873 t876 bt880.1 bt880.2.1 bt880.2.2)))) = some r := H
   have A22 := Aside0.mk A220
   clear A220
   replace H := Option.bind_eq_some_iff.mp H
   obtain ⟨⟨t880, t881, t884⟩, A230, H⟩ := H
   replace H : ((impl_CmpRat.f k t872 t873 t876 t880 t881 t884).bind fun bt888 => (if bt888.1 = t870 then (laws_FnExactCmpRat.j0 k (bt888.2 != t871) a0_0 l0_1 l0_2 a1_0 l1_1 l1_2 t872 t873 t876 t880 t881 t884) else (laws_FnExactCmpRat.j0 k true a0_0 l0_1 l0_2 a1_0 l1_1 l1_2 t872 t873 t876 t880 t881 t884))) = some r := H
   have A23 := Aside0.mk A230
   clear A230
   replace H := Option.bind_eq_some_iff.mp H
   obtain ⟨⟨t888, t889⟩, A240, H⟩ := H
   replace H : (if t888 = t870 then (laws_FnExactCmpRat.j0 k (t889 != t871) a0_0 l0_1 l0_2 a1_0 l1_1 l1_2 t872 t873 t876 t880 t881 t884) else (laws_FnExactCmpRat.j0 k true a0_0 l0_1 l0_2 a1_0 l1_1 l1_2 t872 t873 t876 t880 t881 t884)) = some r := H
   have A24 := Aside0.mk A240
   clear A240
   have HC25 := Aside0.mk H
   clear H
   go_enter Try.func6, Try.ntmps6
   try go_wp2_with (first | ((with_reducible refine gate_dst (N := 2) rfl ?_); refine box_event ?hg (N := 2) ?hd (cs := #[.bool a0_0, .slice A0_1 l0_1.length c0_1, .slice A0_2 l0_2.length c0_2]) (t := 30) ?hr ?_; (case hd => rfl); (case hg => rfl); (case hr => first | (go_simp; done) | (go_simp; rfl)); intro gb852 hg w26 hbox hb; have n0_ := Aside0.mk (below_step (by repeat (first | (with_reducible first | exact HB.out | apply zzb1 | apply zzb2 | apply zzb3) | exact HB.out)) hb); have n1_ := Aside0.mk (hbox); have n2_ := Aside0.mk ((by rw [hg]; exact (below_size (by repeat (first | (with_reducible first | exact HB.out | apply zzb1 | apply zzb2 | apply zzb3) | exact HB.out))) : w.heap.size ≤ gb852)); have n3_ := Aside0.mk ((by rw [hg]; exact (below_size (by repeat (first | (with_reducible first | exact HB.out | apply zzb1 | apply zzb2 | apply zzb3) | exact HB.out))) : w.heap.size ≤ gb852)); clear HB; have HB := n0_; have BK852 := n1_; have GW852 := n2_; have GE852 := n3_; clear n0_ n1_ n2_ n3_; clear hb hbox hg) | ((with_reducible refine gate_dst (N := 3) rfl ?_); refine box_event ?hg (N := 3) ?hd (cs := #[.bool a1_0, .slice A1_1 l1_1.length c1_1, .slice A1_2 l1_2.length c1_2]) (t := 30) ?hr ?_; (case hd => rfl); (case hg => rfl); (case hr => first | (go_simp; done) | (go_simp; rfl)); intro gb853 hg w27 hbox hb; have n0_ := Aside0.mk (blk_below (g := gb852) (o := .cells #[.bool a0_0, .slice A0_1 l0_1.length c0_1, .slice A0_2 l0_2.length c0_2] 30 (0, 0)) (by (with_reducible repeat (first | refine zzk1 ?_ _ | refine zzk2 ?_ | refine zzk3 ?_ _)); exact BK852.out) hb); have n1_ := Aside0.mk (below_step (by repeat (first | (with_reducible first | exact HB.out | apply zzb1 | apply zzb2 | apply zzb3 | refine below_set ?_ GE852.out) | exact HB.out)) hb); have n2_ := Aside0.mk (hbox); have n3_ := Aside0.mk ((by rw [hg]; exact (below_size (by repeat (first | (with_reducible first | exact HB.out | apply zzb1 | apply zzb2 | apply zzb3 | refine below_set ?_ GE852.out) | exact HB.out))) : w.heap.size ≤ gb853)); have n4_ := Aside0.mk ((by rw [hg]; exact (below_size (by repeat (first | (with_reducible first | exact HB.out | apply zzb1 | apply zzb2 | apply zzb3 | refine below_set ?_ GE852.out) | exact HB.out))) : w.heap.size ≤ gb853)); have n5_ := Aside0.mk ((by rw [hg]; exact Nat.ne_of_lt (blk_lt (g := gb852) (o := .cells #[.bool a0_0, .slice A0_1 l0_1.length c0_1, .slice A0_2 l0_2.length c0_2] 30 (0, 0)) (by (with_reducible repeat (first | refine zzk1 ?_ _ | refine zzk2 ?_ | refine zzk3 ?_ _)); exact BK852.out)) : gb852 ≠ gb853)); have n6_ := Aside0.mk ((by rw [hg]; exact Nat.ne_of_gt (blk_lt (g := gb852) (o := .cells #[.bool a0_0, .slice A0_1 l0_1.length c0_1, .slice A0_2 l0_2.length c0_2] 30 (0, 0)) (by (with_reducible repeat (first | refine zzk1 ?_ _ | refine zzk2 ?_ | refine zzk3 ?_ _)); exact BK852.out)) : gb853 ≠ gb852)); clear BK852; clear HB; have BK852 := n0_; have HB := n1_; have BK853 := n2_; have GW853 := n3_; have GE853 := n4_; have NB852_853 := n5_; have NB853_852 := n6_; clear n0_ n1_ n2_ n3_ n4_ n5_ n6_; clear hb hbox hg; have hnb28 := NB852_853.out; have hnc28 := NB853_852.out; have hcz29_0 : w27.cell? ⟨gb852, 0, none⟩ = some (.bool a0_0) := (blk_cell BK852.out 0).trans rfl; have hcz29_1 : w27.cell? ⟨gb852, 1, none⟩ = some (.slice A0_1 l0_1.length c0_1) := (blk_cell BK852.out 1).trans rfl; have hcz29_2 : w27.cell? ⟨gb852, 2, none⟩ = some (.slice A0_2 l0_2.length c0_2) := (blk_cell BK852.out 2).trans rfl; have hfz29_0 := blk_frozen BK852.out 0; have hfz29_1 := blk_frozen BK852.out 1; have hfz29_2 := blk_frozen BK852.out 2) | ((with_reducible refine gate_callee (f := 20) rfl ?_); refine goesL_ (some 14) rfl rfl Try.func20 (by kernel_rfl) rfl #[.agg #[.bool a0_0, .slice A0_1 l0_1.length c0_1, .slice A0_2 l0_2.length c0_2], .int .i64 1048576] rfl (by (try simp only [zz4, zz5, zz6]); first | done | rfl | (simp only [zza, zzb]; rfl)) ?_; (with_reducible refine (laws_szRat.calls a0_0 _ _ l0_1 _ _ l0_2 1048576 t854 _ ?side1 ?side2 ?side3 ?side4 A3.out).mono ?_); (case side1 => repeat (first | exact (Kd.C_below HR0_1.out HB.out) | (with_reducible refine zzC1 ?_ _) | (with_reducible refine zzC2 ?_ _) | (with_reducible refine zzC3 ?_))); (case side2 => exact HC0_1.out); (case side3 => repeat (first | exact (Kd.C_below HR0_2.out HB.out) | (with_reducible refine zzC1 ?_ _) | (with_reducible refine zzC2 ?_ _) | (with_reducible refine zzC3 ?_))); (case side4 => exact HC0_2.out); rintro e w30 ⟨rfl, hb⟩; refine ⟨_, rfl, ?_⟩; have n0_ := Aside0.mk (blk_below (g := gb852) (o := .cells #[.bool a0_0, .slice A0_1 l0_1.length c0_1, .slice A0_2 l0_2.length c0_2] 30 (0, 0)) (by (with_reducible repeat (first | refine zzk1 ?_ _ | refine zzk2 ?_ | refine zzk3 ?_ _)); exact BK852.out) hb); have n1_ := Aside0.mk (blk_below (g := gb853) (o := .cells #[.bool a1_0, .slice A1_1 l1_1.length c1_1, .slice A1_2 l1_2.length c1_2] 30 (0, 0)) (by (with_reducible repeat (first | refine zzk1 ?_ _ | refine zzk2 ?_ | refine zzk3 ?_ _)); exact BK853.out) hb); have n2_ := Aside0.mk (below_step (by repeat (first | (with_reducible first | exact HB.out | apply zzb1 | apply zzb2 | apply zzb3 | refine below_set ?_ GE852.out | refine below_set ?_ GE853.out) | exact HB.out)) hb); clear BK852; clear BK853; clear HB; have BK852 := n0_; have BK853 := n1_; have HB := n2_; clear n0_ n1_ n2_; (try clear hb); (try clear hb2); (try clear hk); (try clear hi); have hcz31_0 : w30.cell? ⟨gb853, 0, none⟩ = some (.bool a1_0) := (blk_cell BK853.out 0).trans rfl; have hcz31_1 : w30.cell? ⟨gb853, 1, none⟩ = some (.slice A1_1 l1_1.length c1_1) := (blk_cell BK853.out 1).trans rfl; have hcz31_2 : w30.cell? ⟨gb853, 2, none⟩ = some (.slice A1_2 l1_2.length c1_2) := (blk_cell BK853.out 2).trans rfl; have hfz31_0 := blk_frozen BK853.out 0; have hfz31_1 := blk_frozen BK853.out 1; have hfz31_2 := blk_frozen BK853.out 2) | ((with_reducible refine gate_callee (f := 20) rfl ?_); refine goesL_ (some 19) rfl rfl Try.func20 (by kernel_rfl) rfl #[.agg #[.bool a1_0, .slice A1_1 l1_1.length c1_1, .slice A1_2 l1_2.length c1_2], .int .i64 t854] rfl (by (try simp only [zz4, zz5, zz6]); first | done | rfl | (simp only [zza, zzb]; rfl)) ?_; (with_reducible refine (laws_szRat.calls a1_0 _ _ l1_1 _ _ l1_2 t854 t855 _ ?side1 ?side2 ?side3 ?side4 A10.out).mono ?_); (case side1 => repeat (first | exact (Kd.C_below HR1_1.out HB.out) | (with_reducible refine zzC1 ?_ _) | (with_reducible refine zzC2 ?_ _) | (with_reducible refine zzC3 ?_))); (case side2 => exact HC1_1.out); (case side3 => repeat (first | exact (Kd.C_below HR1_2.out HB.out) | (with_reducible refine zzC1 ?_ _) | (with_reducible refine zzC2 ?_ _) | (with_reducible refine zzC3 ?_))); (case side4 => exact HC1_2.out); rintro e w32 ⟨rfl, hb⟩; refine ⟨_, rfl, ?_⟩; have n0_ := Aside0.mk (blk_below (g := gb852) (o := .cells #[.bool a0_0, .slice A0_1 l0_1.length c0_1, .slice A0_2 l0_2.length c0_2] 30 (0, 0)) (by (with_reducible repeat (first | refine zzk1 ?_ _ | refine zzk2 ?_ | refine zzk3 ?_ _)); exact BK852.out) hb); have n1_ := Aside0.mk (blk_below (g := gb853) (o := .cells #[.bool a1_0, .slice A1_1 l1_1.length c1_1, .slice A1_2 l1_2.length c1_2] 30 (0, 0)) (by (with_reducible repeat (first | refine zzk1 ?_ _ | refine zzk2 ?_ | refine zzk3 ?_ _)); exact BK853.out) hb); have n2_ := Aside0.mk (below_step (by repeat (first | (with_reducible first | exact HB.out | apply zzb1 | apply zzb2 | apply zzb3 | refine below_set ?_ GE852.out | refine below_set ?_ GE853.out) | exact HB.out)) hb); clear BK852; clear BK853; clear HB; have BK852 := n0_; have BK853 := n1_; have HB := n2_; clear n0_ n1_ n2_; (try clear hb); (try clear hb2); (try clear hk); (try clear hi)))
   have n0_ := Aside0.mk (blk_drew BK852.out)
   have n1_ := Aside0.mk (blk_drew BK853.out)
   have n2_ := Aside0.mk (below_drew1 HB.out)
   clear BK852
   clear BK853
   clear HB
   have BK852 := n0_
   have BK853 := n1_
   have HB := n2_
   clear n0_ n1_ n2_
   refine start_ (n := 10) (S := fun w' => w'.cell? ⟨gb852, 0, none⟩ = some (.bool a0_0) ∧ w'.cell? ⟨gb852, 1, none⟩ = some (.slice A0_1 l0_1.length c0_1) ∧ w'.cell? ⟨gb852, 2, none⟩ = some (.slice A0_2 l0_2.length c0_2) ∧ w'.cell? ⟨gb853, 0, none⟩ = some (.bool a1_0) ∧ w'.cell? ⟨gb853, 1, none⟩ = some (.slice A1_1 l1_1.length c1_1) ∧ w'.cell? ⟨gb853, 2, none⟩ = some (.slice A1_2 l1_2.length c1_2)) (ds := []) #[false, false, false, false, false, false, false, false, false, false] (by kernel_rfl) rfl rfl ⟨(blk_cell BK852.out 0).trans rfl, (blk_cell BK852.out 1).trans rfl, (blk_cell BK852.out 2).trans rfl, (blk_cell BK853.out 0).trans rfl, (blk_cell BK853.out 1).trans rfl, (blk_cell BK853.out 2).trans rfl⟩ (fun hHeld => ?_); refine with_tabW laws_FnExactCmpRat.tab8 laws_FnExactCmpRat.bits8 (fun HT_ HW_ => ?_)
   generalize w32.drew = w33 at BK852 BK853 HB hHeld ⊢
   refine take_ (i := 0) (N := some 23) (v := ?_) (a' := ?_) #[true, false, false, false, false, false, false, false, false, false] rfl rfl (take_ofW HT_.out HW_.out (by kernel_rfl)) (fun _ _ _ h => h) (Or.inl ⟨by rfl, ?_⟩) hHeld ?_ ?_
   rotate_left
   ·
    rintro w' ⟨s0, s1, s2, s3, s4, s5⟩
    go_simp
    with_reducible rfl
   rotate_left
   ·
    simp only [Act.put, zz7, zz8, zz9, i64_w, i32_w]
    rfl
   refine take_ (i := 2) (N := some 25) (v := ?_) (a' := ?_) #[true, false, true, false, false, false, false, false, false, false] rfl rfl (take_ofW HT_.out HW_.out (by kernel_rfl)) (fun _ _ _ h => h) (Or.inl ⟨by rfl, ?_⟩) hHeld ?_ ?_
   rotate_left
   ·
    rintro w' ⟨s0, s1, s2, s3, s4, s5⟩
    go_simp
    with_reducible rfl
   rotate_left
   ·
    simp only [Act.put, zz7, zz8, zz9, i64_w, i32_w]
    rfl
   refine one_ (i := 1) (N := some 24) #[true, true, true, false, false, false, false, false, false, false] rfl rfl (one_of HT_.out (by kernel_rfl)) (by decide) (fun K hK => ?_)
   refine goes_ Try.func22 (by kernel_rfl) rfl #[.agg #[.bool a0_0, .slice A0_1 l0_1.length c0_1, .slice A0_2 l0_2.length c0_2]] (by rfl) rfl rfl (by (try simp only [zz4, zz5, zz6]); first | done | rfl | (simp only [zza, zzb]; rfl)) ?_
   with_reducible refine (laws_toRat.calls k a0_0 _ _ l0_1 _ _ l0_2 t856 t857 t860 _ ?side1 ?side2 ?side3 ?side4 A19.out).mono ?_
   (case side1 => repeat (first | exact (Kd.C_below HR0_1.out HB.out) | (with_reducible refine zzC1 ?_ _) | (with_reducible refine zzC2 ?_ _) | (with_reducible refine zzC3 ?_)))
   (case side2 => exact HC0_1.out)
   (case side3 => repeat (first | exact (Kd.C_below HR0_2.out HB.out) | (with_reducible refine zzC1 ?_ _) | (with_reducible refine zzC2 ?_ _) | (with_reducible refine zzC3 ?_)))
   (case side4 => exact HC0_2.out)
   rintro e w34 ⟨v858, v861, rfl, ho0, ho1, hb⟩
   refine ⟨_, rfl, ?_⟩
   have n0_ := Aside0.mk (Kd.R_lower ho0 (below_size (by repeat (first | (with_reducible first | exact HB.out | apply zzb1 | apply zzb2 | apply zzb3 | refine below_set ?_ GE852.out | refine below_set ?_ GE853.out) | exact HB.out))))
   have n1_ := Aside0.mk (Kd.R_lower ho1 (below_size (by repeat (first | (with_reducible first | exact HB.out | apply zzb1 | apply zzb2 | apply zzb3 | refine below_set ?_ GE852.out | refine below_set ?_ GE853.out) | exact HB.out))))
   have n2_ := Aside0.mk (blk_below (g := gb852) (o := .cells #[.bool a0_0, .slice A0_1 l0_1.length c0_1, .slice A0_2 l0_2.length c0_2] 30 (0, 0)) (by (with_reducible repeat (first | refine zzk1 ?_ _ | refine zzk2 ?_ | refine zzk3 ?_ _)); exact BK852.out) hb)
   have n3_ := Aside0.mk (blk_below (g := gb853) (o := .cells #[.bool a1_0, .slice A1_1 l1_1.length c1_1, .slice A1_2 l1_2.length c1_2] 30 (0, 0)) (by (with_reducible repeat (first | refine zzk1 ?_ _ | refine zzk2 ?_ | refine zzk3 ?_ _)); exact BK853.out) hb)
   have n4_ := Aside0.mk (below_step (by repeat (first | (with_reducible first | exact HB.out | apply zzb1 | apply zzb2 | apply zzb3 | refine below_set ?_ GE852.out | refine below_set ?_ GE853.out) | exact HB.out)) hb)
   clear BK852
   clear BK853
   clear HB
   have HO859 := n0_
   have HO862 := n1_
   have BK852 := n2_
   have BK853 := n3_
   have HB := n4_
   clear n0_ n1_ n2_ n3_ n4_
   (try clear hb)
   (try clear hb2)
   (try clear hk)
   (try clear hi)
   (try clear ho0)
   (try clear ho1)
   refine hK.out _ _ ⟨(blk_cell BK852.out 0).trans rfl, (blk_cell BK852.out 1).trans rfl, (blk_cell BK852.out 2).trans rfl, (blk_cell BK853.out 0).trans rfl, (blk_cell BK853.out 1).trans rfl, (blk_cell BK853.out 2).trans rfl⟩ (fun hHeld => ?_)
   clear hK K
   refine norm_ (a' := ?_) ?_ ?_
   rotate_left
   ·
    show Act.put _ (some 24) _ = _
    simp only [Act.put, zz7, zz8, zz9, i64_w, i32_w]
    rfl
   refine one_ (i := 3) (N := some 26) #[true, true, true, true, false, false, false, false, false, false] rfl rfl (one_of HT_.out (by kernel_rfl)) (by decide) (fun K hK => ?_)
   refine goes_ Try.func22 (by kernel_rfl) rfl #[.agg #[.bool a1_0, .slice A1_1 l1_1.length c1_1, .slice A1_2 l1_2.length c1_2]] (by rfl) rfl rfl (by (try simp only [zz4, zz5, zz6]); first | done | rfl | (simp only [zza, zzb]; rfl)) ?_
   with_reducible refine (laws_toRat.calls k a1_0 _ _ l1_1 _ _ l1_2 t863 t864 t867 _ ?side1 ?side2 ?side3 ?side4 A20.out).mono ?_
   (case side1 => repeat (first | exact (Kd.C_below HR1_1.out HB.out) | (with_reducible refine zzC1 ?_ _) | (with_reducible refine zzC2 ?_ _) | (with_reducible refine zzC3 ?_)))
   (case side2 => exact HC1_1.out)
   (case side3 => repeat (first | exact (Kd.C_below HR1_2.out HB.out) | (with_reducible refine zzC1 ?_ _) | (with_reducible refine zzC2 ?_ _) | (with_reducible refine zzC3 ?_)))
   (case side4 => exact HC1_2.out)
   rintro e w35 ⟨v865, v868, rfl, ho0, ho1, hb⟩
   refine ⟨_, rfl, ?_⟩
   have n0_ := Aside0.mk (Kd.R_mono (Kd.R_told (Kd.R_told (Kd.R_old (by (with_reducible repeat (first | apply zzR1 | apply zzR2 | apply zzR3)); exact HO859.out) hb) (Kd.R_base ho0)) (Kd.R_base ho1)) (fun _ h_ => h_.1))
   have n1_ := Aside0.mk (Kd.R_mono (Kd.R_told (Kd.R_told (Kd.R_old (by (with_reducible repeat (first | apply zzR1 | apply zzR2 | apply zzR3)); exact HO862.out) hb) (Kd.R_base ho0)) (Kd.R_base ho1)) (fun _ h_ => h_.1))
   have n2_ := Aside0.mk (Kd.R_lower (Kd.R_new' (Kd.R_new' ho0 (Kd.R_lt (by (with_reducible repeat (first | apply zzR1 | apply zzR2 | apply zzR3)); exact HO859.out))) (Kd.R_lt (by (with_reducible repeat (first | apply zzR1 | apply zzR2 | apply zzR3)); exact HO862.out))) (below_size (by repeat (first | (with_reducible first | exact HB.out | apply zzb1 | apply zzb2 | apply zzb3 | refine below_set ?_ GE852.out | refine below_set ?_ GE853.out) | exact HB.out))))
   have n3_ := Aside0.mk (Kd.R_lower (Kd.R_new' (Kd.R_new' ho1 (Kd.R_lt (by (with_reducible repeat (first | apply zzR1 | apply zzR2 | apply zzR3)); exact HO859.out))) (Kd.R_lt (by (with_reducible repeat (first | apply zzR1 | apply zzR2 | apply zzR3)); exact HO862.out))) (below_size (by repeat (first | (with_reducible first | exact HB.out | apply zzb1 | apply zzb2 | apply zzb3 | refine below_set ?_ GE852.out | refine below_set ?_ GE853.out) | exact HB.out))))
   have n4_ := Aside0.mk (blk_below (g := gb852) (o := .cells #[.bool a0_0, .slice A0_1 l0_1.length c0_1, .slice A0_2 l0_2.length c0_2] 30 (0, 0)) (by (with_reducible repeat (first | refine zzk1 ?_ _ | refine zzk2 ?_ | refine zzk3 ?_ _)); exact BK852.out) hb)
   have n5_ := Aside0.mk (blk_below (g := gb853) (o := .cells #[.bool a1_0, .slice A1_1 l1_1.length c1_1, .slice A1_2 l1_2.length c1_2] 30 (0, 0)) (by (with_reducible repeat (first | refine zzk1 ?_ _ | refine zzk2 ?_ | refine zzk3 ?_ _)); exact BK853.out) hb)
   have n6_ := Aside0.mk (below_step (by repeat (first | (with_reducible first | exact HB.out | apply zzb1 | apply zzb2 | apply zzb3 | refine below_set ?_ GE852.out | refine below_set ?_ GE853.out) | exact HB.out)) hb)
   clear HO859
   clear HO862
   clear BK852
   clear BK853
   clear HB
   have HO859 := n0_
   have HO862 := n1_
   have HO866 := n2_
   have HO869 := n3_
   have BK852 := n4_
   have BK853 := n5_
   have HB := n6_
   clear n0_ n1_ n2_ n3_ n4_ n5_ n6_
   (try clear hb)
   (try clear hb2)
   (try clear hk)
   (try clear hi)
   (try clear ho0)
   (try clear ho1)
   obtain ⟨Ao36, co36, eo36⟩ := Kd.R_slice HO859.out
   (first | subst eo36 | (injection eo36 with f1_ f2_ f3_; have f4_ := f1_.symm; have f5_ := f3_.symm; clear f1_ f2_ f3_; subst f4_; subst f5_))
   obtain ⟨Ao37, co37, eo37⟩ := Kd.R_slice HO862.out
   (first | subst eo37 | (injection eo37 with f1_ f2_ f3_; have f4_ := f1_.symm; have f5_ := f3_.symm; clear f1_ f2_ f3_; subst f4_; subst f5_))
   obtain ⟨Ao38, co38, eo38⟩ := Kd.R_slice HO866.out
   (first | subst eo38 | (injection eo38 with f1_ f2_ f3_; have f4_ := f1_.symm; have f5_ := f3_.symm; clear f1_ f2_ f3_; subst f4_; subst f5_))
   obtain ⟨Ao39, co39, eo39⟩ := Kd.R_slice HO869.out
   (first | subst eo39 | (injection eo39 with f1_ f2_ f3_; have f4_ := f1_.symm; have f5_ := f3_.symm; clear f1_ f2_ f3_; subst f4_; subst f5_))
   refine hK.out _ _ ⟨(blk_cell BK852.out 0).trans rfl, (blk_cell BK852.out 1).trans rfl, (blk_cell BK852.out 2).trans rfl, (blk_cell BK853.out 0).trans rfl, (blk_cell BK853.out 1).trans rfl, (blk_cell BK853.out 2).trans rfl⟩ (fun hHeld => ?_)
   clear hK K
   refine norm_ (a' := ?_) ?_ ?_
   rotate_left
   ·
    show Act.put _ (some 26) _ = _
    simp only [Act.put, zz7, zz8, zz9, i64_w, i32_w]
    rfl
   refine one_ (i := 4) (N := some 27) #[true, true, true, true, true, false, false, false, false, false] rfl rfl (one_of HT_.out (by kernel_rfl)) (by decide) (fun K hK => ?_)
   refine goes_ Try.func26 (by kernel_rfl) rfl #[.agg #[.bool t856, .slice Ao36 t857.length co36, .slice Ao37 t860.length co37], .agg #[.bool t863, .slice Ao38 t864.length co38, .slice Ao39 t867.length co39]] (by rfl) rfl rfl (by (try simp only [zz4, zz5, zz6]); first | done | rfl | (simp only [zza, zzb]; rfl)) ?_
   with_reducible refine (spec_CmpRat.calls k t856 _ _ t857 _ _ t860 t863 (fun k_ => some k_ = (.slice Ao38 t864.length co38 : Value).ownBlock) (.slice Ao38 t864.length co38) t864 (fun k_ => some k_ = (.slice Ao39 t867.length co39 : Value).ownBlock) (.slice Ao39 t867.length co39) t867 t870 t871 w _ ?side1 ?side2 ?side3 ?side4 ?side5 ?side6 ?side7 ?side8 ?side9 A21.out).mono ?_
   (case side1 => repeat (first | (with_reducible first | exact HB.out | apply zzb1 | apply zzb2 | apply zzb3 | refine below_set ?_ GE852.out | refine below_set ?_ GE853.out) | exact HB.out))
   (case side2 => exact Kd.C_kept_own (HO859.out) (fun k_ hk_ hs_ => Or.elim hs_ (fun e_ => (hk_.1.2) e_) (fun e_ => (hk_.2) e_)))
   (case side3 => exact (Kd.R_reads' HO859.out).2.1)
   (case side4 => exact Kd.C_kept_own (HO862.out) (fun k_ hk_ hs_ => Or.elim hs_ (fun e_ => (hk_.1.2) e_) (fun e_ => (hk_.2) e_)))
   (case side5 => exact (Kd.R_reads' HO862.out).2.1)
   (case side6 => exact Kd.R_tight rfl HO866.out)
   (case side7 => exact fun k_ e_ => (HO866.out.1 k_ e_.symm).1.1)
   (case side8 => exact Kd.R_tight rfl HO869.out)
   (case side9 => exact fun k_ e_ => (HO869.out.1 k_ e_.symm).1.1)
   rintro e w40 ⟨rfl, hb, hkp⟩
   refine ⟨_, rfl, ?_⟩
   have n0_ := Aside0.mk (blk_kept (by (with_reducible repeat (first | refine zzk1 ?_ _ | refine zzk2 ?_ | refine zzk3 ?_ _)); exact BK852.out) hkp (fun hs_ => Or.elim hs_ (fun e_ => (fun e_ => (Kd.R_ne HO866.out BK852.out (by decide)) e_) e_) (fun e_ => (fun e_ => (Kd.R_ne HO869.out BK852.out (by decide)) e_) e_)))
   have n1_ := Aside0.mk (blk_kept (by (with_reducible repeat (first | refine zzk1 ?_ _ | refine zzk2 ?_ | refine zzk3 ?_ _)); exact BK853.out) hkp (fun hs_ => Or.elim hs_ (fun e_ => (fun e_ => (Kd.R_ne HO866.out BK853.out (by decide)) e_) e_) (fun e_ => (fun e_ => (Kd.R_ne HO869.out BK853.out (by decide)) e_) e_)))
   have n2_ := Aside0.mk (Kd.R_mono (ok' := fun k_ => some k_ ≠ (.slice Ao37 t860.length co37 : Value).ownBlock) (Kd.R_keptB (HO859.out) hkp (fun k_ hk_ hs_ => Or.elim hs_ (fun e_ => (hk_.1.2) e_) (fun e_ => (hk_.2) e_))) (fun k_ hk_ => hk_.1.1.1))
   have n3_ := Aside0.mk (Kd.R_mono (ok' := fun k_ => some k_ ≠ (.slice Ao36 t857.length co36 : Value).ownBlock) (Kd.R_keptB (HO862.out) hkp (fun k_ hk_ hs_ => Or.elim hs_ (fun e_ => (hk_.1.2) e_) (fun e_ => (hk_.2) e_))) (fun k_ hk_ => hk_.1.1.1))
   have n4_ := Aside0.mk (hb)
   clear BK852
   clear BK853
   clear HO859
   clear HO862
   clear HB
   clear HO866
   clear HO869
   have BK852 := n0_
   have BK853 := n1_
   have HO859 := n2_
   have HO862 := n3_
   have HB := n4_
   clear n0_ n1_ n2_ n3_ n4_
   (try clear hb)
   (try clear hkp)
   refine hK.out _ _ ⟨(blk_cell BK852.out 0).trans rfl, (blk_cell BK852.out 1).trans rfl, (blk_cell BK852.out 2).trans rfl, (blk_cell BK853.out 0).trans rfl, (blk_cell BK853.out 1).trans rfl, (blk_cell BK853.out 2).trans rfl⟩ (fun hHeld => ?_)
   clear hK K
   refine norm_ (a' := ?_) ?_ ?_
   rotate_left
   ·
    show Act.put _ (some 27) _ = _
    simp only [Act.put, zz7, zz8, zz9, i64_w, i32_w]
    rfl
   refine pure_ (i := 5) (N := some 22) (v := ?_) (a' := ?_) #[true, true, true, true, true, true, false, false, false, false] rfl rfl (any_of HT_.out (by kernel_rfl)) (fun _ _ _ h => h) (Or.inl ⟨by rfl, ?_⟩) ?_ ?_
   rotate_left
   ·
    intro w'
    go_simp
    with_reducible rfl
   rotate_left
   ·
    simp only [Act.put, zz7, zz8, zz9, i64_w, i32_w]
    rfl
   refine pure_ (i := 6) (N := some 28) (v := ?_) (a' := ?_) #[true, true, true, true, true, true, true, false, false, false] rfl rfl (any_of HT_.out (by kernel_rfl)) (fun _ _ _ h => h) (Or.inl ⟨by rfl, ?_⟩) ?_ ?_
   rotate_left
   ·
    intro w'
    go_simp
    with_reducible rfl
   rotate_left
   ·
    simp only [Act.put, zz7, zz8, zz9, i64_w, i32_w]
    rfl
   refine pure_ (i := 7) (N := some 29) (v := ?_) (a' := ?_) #[true, true, true, true, true, true, true, true, false, false] rfl rfl (any_of HT_.out (by kernel_rfl)) (fun _ _ _ h => h) (Or.inl ⟨by rfl, ?_⟩) ?_ ?_
   rotate_left
   ·
    intro w'
    go_simp
    with_reducible rfl
   rotate_left
   ·
    simp only [Act.put, zz7, zz8, zz9, i64_w, i32_w]
    rfl
   refine pure_ (i := 8) (N := some 6) (v := ?_) (a' := ?_) #[true, true, true, true, true, true, true, true, true, false] rfl rfl (any_of HT_.out (by kernel_rfl)) (fun _ _ _ h => h) (Or.inl ⟨by rfl, ?_⟩) ?_ ?_
   rotate_left
   ·
    intro w'
    go_simp
    with_reducible rfl
   rotate_left
   ·
    simp only [Act.put, zz7, zz8, zz9, i64_w, i32_w]
    rfl
   refine pure_ (i := 9) (N := some 7) (v := ?_) (a' := ?_) #[true, true, true, true, true, true, true, true, true, true] rfl rfl (any_of HT_.out (by kernel_rfl)) (fun _ _ _ h => h) (Or.inl ⟨by rfl, ?_⟩) ?_ ?_
   rotate_left
   ·
    intro w'
    go_simp
    with_reducible rfl
   rotate_left
   ·
    simp only [Act.put, zz7, zz8, zz9, i64_w, i32_w]
    rfl
   refine done_ (done_of HT_.out (by kernel_rfl)) ?_
   have hcz41_0 : w40.cell? ⟨gb852, 0, none⟩ = some (.bool a0_0) := (blk_cell BK852.out 0).trans rfl
   have hcz41_1 : w40.cell? ⟨gb852, 1, none⟩ = some (.slice A0_1 l0_1.length c0_1) := (blk_cell BK852.out 1).trans rfl
   have hcz41_2 : w40.cell? ⟨gb852, 2, none⟩ = some (.slice A0_2 l0_2.length c0_2) := (blk_cell BK852.out 2).trans rfl
   have hfz41_0 := blk_frozen BK852.out 0
   have hfz41_1 := blk_frozen BK852.out 1
   have hfz41_2 := blk_frozen BK852.out 2
   go_upto_region 12 with (first | ((with_reducible refine gate_callee (f := 22) rfl ?_); refine goesL_ (some 31) rfl rfl Try.func22 (by kernel_rfl) rfl #[.agg #[.bool a0_0, .slice A0_1 l0_1.length c0_1, .slice A0_2 l0_2.length c0_2]] rfl (by (try simp only [zz4, zz5, zz6]); first | done | rfl | (simp only [zza, zzb]; rfl)) ?_; (with_reducible refine (laws_toRat.calls k a0_0 _ _ l0_1 _ _ l0_2 t872 t873 t876 _ ?side1 ?side2 ?side3 ?side4 A22.out).mono ?_); (case side1 => repeat (first | exact (Kd.C_below HR0_1.out HB.out) | (with_reducible refine zzC1 ?_ _) | (with_reducible refine zzC2 ?_ _) | (with_reducible refine zzC3 ?_))); (case side2 => exact HC0_1.out); (case side3 => repeat (first | exact (Kd.C_below HR0_2.out HB.out) | (with_reducible refine zzC1 ?_ _) | (with_reducible refine zzC2 ?_ _) | (with_reducible refine zzC3 ?_))); (case side4 => exact HC0_2.out); rintro e w42 ⟨v874, v877, rfl, ho0, ho1, hb⟩; refine ⟨_, rfl, ?_⟩; have n0_ := Aside0.mk (Kd.R_mono (Kd.R_told (Kd.R_told (Kd.R_old (by (with_reducible repeat (first | apply zzR1 | apply zzR2 | apply zzR3)); exact HO859.out) hb) (Kd.R_base ho0)) (Kd.R_base ho1)) (fun _ h_ => h_.1)); have n1_ := Aside0.mk (Kd.R_mono (Kd.R_told (Kd.R_told (Kd.R_old (by (with_reducible repeat (first | apply zzR1 | apply zzR2 | apply zzR3)); exact HO862.out) hb) (Kd.R_base ho0)) (Kd.R_base ho1)) (fun _ h_ => h_.1)); have n2_ := Aside0.mk (Kd.R_lower (Kd.R_new' (Kd.R_new' ho0 (Kd.R_lt (by (with_reducible repeat (first | apply zzR1 | apply zzR2 | apply zzR3)); exact HO859.out))) (Kd.R_lt (by (with_reducible repeat (first | apply zzR1 | apply zzR2 | apply zzR3)); exact HO862.out))) (below_size (by repeat (first | (with_reducible first | exact HB.out | apply zzb1 | apply zzb2 | apply zzb3 | refine below_set ?_ GE852.out | refine below_set ?_ GE853.out) | exact HB.out)))); have n3_ := Aside0.mk (Kd.R_lower (Kd.R_new' (Kd.R_new' ho1 (Kd.R_lt (by (with_reducible repeat (first | apply zzR1 | apply zzR2 | apply zzR3)); exact HO859.out))) (Kd.R_lt (by (with_reducible repeat (first | apply zzR1 | apply zzR2 | apply zzR3)); exact HO862.out))) (below_size (by repeat (first | (with_reducible first | exact HB.out | apply zzb1 | apply zzb2 | apply zzb3 | refine below_set ?_ GE852.out | refine below_set ?_ GE853.out) | exact HB.out)))); have n4_ := Aside0.mk (blk_below (g := gb852) (o := .cells #[.bool a0_0, .slice A0_1 l0_1.length c0_1, .slice A0_2 l0_2.length c0_2] 30 (0, 0)) (by (with_reducible repeat (first | refine zzk1 ?_ _ | refine zzk2 ?_ | refine zzk3 ?_ _)); exact BK852.out) hb); have n5_ := Aside0.mk (blk_below (g := gb853) (o := .cells #[.bool a1_0, .slice A1_1 l1_1.length c1_1, .slice A1_2 l1_2.length c1_2] 30 (0, 0)) (by (with_reducible repeat (first | refine zzk1 ?_ _ | refine zzk2 ?_ | refine zzk3 ?_ _)); exact BK853.out) hb); have n6_ := Aside0.mk (below_step (by repeat (first | (with_reducible first | exact HB.out | apply zzb1 | apply zzb2 | apply zzb3 | refine below_set ?_ GE852.out | refine below_set ?_ GE853.out) | exact HB.out)) hb); clear HO859; clear HO862; clear BK852; clear BK853; clear HB; have HO859 := n0_; have HO862 := n1_; have HO875 := n2_; have HO878 := n3_; have BK852 := n4_; have BK853 := n5_; have HB := n6_; clear n0_ n1_ n2_ n3_ n4_ n5_ n6_; (try clear hb); (try clear hb2); (try clear hk); (try clear hi); (try clear ho0); (try clear ho1)) | ((with_reducible refine gate_dst (N := 8) rfl ?_); refine box_event ?hg (N := 8) ?hd (cs := #[.bool false, .slice none 0 0, .slice none 0 0]) (t := 24) ?hr ?_; (case hd => rfl); (case hg => rfl); (case hr => first | (go_simp; done) | (go_simp; rfl)); intro gb879 hg w43 hbox hb; have n0_ := Aside0.mk (Kd.R_below (by (with_reducible repeat (first | apply zzR1 | apply zzR2 | apply zzR3)); exact HO859.out) hb); have n1_ := Aside0.mk (Kd.R_below (by (with_reducible repeat (first | apply zzR1 | apply zzR2 | apply zzR3)); exact HO862.out) hb); have n2_ := Aside0.mk (Kd.R_below (by (with_reducible repeat (first | apply zzR1 | apply zzR2 | apply zzR3)); exact HO875.out) hb); have n3_ := Aside0.mk (Kd.R_below (by (with_reducible repeat (first | apply zzR1 | apply zzR2 | apply zzR3)); exact HO878.out) hb); have n4_ := Aside0.mk (blk_below (g := gb852) (o := .cells #[.bool a0_0, .slice A0_1 l0_1.length c0_1, .slice A0_2 l0_2.length c0_2] 30 (0, 0)) (by (with_reducible repeat (first | refine zzk1 ?_ _ | refine zzk2 ?_ | refine zzk3 ?_ _)); exact BK852.out) hb); have n5_ := Aside0.mk (blk_below (g := gb853) (o := .cells #[.bool a1_0, .slice A1_1 l1_1.length c1_1, .slice A1_2 l1_2.length c1_2] 30 (0, 0)) (by (with_reducible repeat (first | refine zzk1 ?_ _ | refine zzk2 ?_ | refine zzk3 ?_ _)); exact BK853.out) hb); have n6_ := Aside0.mk (below_step (by repeat (first | (with_reducible first | exact HB.out | apply zzb1 | apply zzb2 | apply zzb3 | refine below_set ?_ GE852.out | refine below_set ?_ GE853.out) | exact HB.out)) hb); have n7_ := Aside0.mk (hbox); have n8_ := Aside0.mk ((by rw [hg]; exact (below_size (by repeat (first | (with_reducible first | exact HB.out | apply zzb1 | apply zzb2 | apply zzb3 | refine below_set ?_ GE852.out | refine below_set ?_ GE853.out) | exact HB.out))) : w.heap.size ≤ gb879)); have n9_ := Aside0.mk ((by rw [hg]; exact (below_size (by repeat (first | (with_reducible first | exact HB.out | apply zzb1 | apply zzb2 | apply zzb3 | refine below_set ?_ GE852.out | refine below_set ?_ GE853.out) | exact HB.out))) : w.heap.size ≤ gb879)); have n10_ := Aside0.mk ((by rw [hg]; exact Nat.ne_of_lt (blk_lt (g := gb852) (o := .cells #[.bool a0_0, .slice A0_1 l0_1.length c0_1, .slice A0_2 l0_2.length c0_2] 30 (0, 0)) (by (with_reducible repeat (first | refine zzk1 ?_ _ | refine zzk2 ?_ | refine zzk3 ?_ _)); exact BK852.out)) : gb852 ≠ gb879)); have n11_ := Aside0.mk ((by rw [hg]; exact Nat.ne_of_gt (blk_lt (g := gb852) (o := .cells #[.bool a0_0, .slice A0_1 l0_1.length c0_1, .slice A0_2 l0_2.length c0_2] 30 (0, 0)) (by (with_reducible repeat (first | refine zzk1 ?_ _ | refine zzk2 ?_ | refine zzk3 ?_ _)); exact BK852.out)) : gb879 ≠ gb852)); have n12_ := Aside0.mk ((by rw [hg]; exact Nat.ne_of_lt (blk_lt (g := gb853) (o := .cells #[.bool a1_0, .slice A1_1 l1_1.length c1_1, .slice A1_2 l1_2.length c1_2] 30 (0, 0)) (by (with_reducible repeat (first | refine zzk1 ?_ _ | refine zzk2 ?_ | refine zzk3 ?_ _)); exact BK853.out)) : gb853 ≠ gb879)); have n13_ := Aside0.mk ((by rw [hg]; exact Nat.ne_of_gt (blk_lt (g := gb853) (o := .cells #[.bool a1_0, .slice A1_1 l1_1.length c1_1, .slice A1_2 l1_2.length c1_2] 30 (0, 0)) (by (with_reducible repeat (first | refine zzk1 ?_ _ | refine zzk2 ?_ | refine zzk3 ?_ _)); exact BK853.out)) : gb879 ≠ gb853)); clear HO859; clear HO862; clear HO875; clear HO878; clear BK852; clear BK853; clear HB; have HO859 := n0_; have HO862 := n1_; have HO875 := n2_; have HO878 := n3_; have BK852 := n4_; have BK853 := n5_; have HB := n6_; have BK879 := n7_; have GW879 := n8_; have GE879 := n9_; have NB852_879 := n10_; have NB879_852 := n11_; have NB853_879 := n12_; have NB879_853 := n13_; clear n0_ n1_ n2_ n3_ n4_ n5_ n6_ n7_ n8_ n9_ n10_ n11_ n12_ n13_; clear hb hbox hg; have hnb44 := NB879_852.out; have hnc44 := NB852_879.out; have hnb45 := NB879_853.out; have hnc45 := NB853_879.out; have hcz46_0 : w43.cell? ⟨gb879, 0, none⟩ = some (.bool false) := (blk_cell BK879.out 0).trans rfl; have hcz46_1 : w43.cell? ⟨gb879, 1, none⟩ = some (.slice none 0 0) := (blk_cell BK879.out 1).trans rfl; have hcz46_2 : w43.cell? ⟨gb879, 2, none⟩ = some (.slice none 0 0) := (blk_cell BK879.out 2).trans rfl; have hfz46_0 := blk_frozen BK879.out 0; have hfz46_1 := blk_frozen BK879.out 1; have hfz46_2 := blk_frozen BK879.out 2; obtain ⟨Ao47, co47, eo47⟩ := Kd.R_slice HO875.out; subst eo47; obtain ⟨Ao48, co48, eo48⟩ := Kd.R_slice HO878.out; subst eo48; have hcz49_0 : w43.cell? ⟨gb853, 0, none⟩ = some (.bool a1_0) := (blk_cell BK853.out 0).trans rfl; have hcz49_1 : w43.cell? ⟨gb853, 1, none⟩ = some (.slice A1_1 l1_1.length c1_1) := (blk_cell BK853.out 1).trans rfl; have hcz49_2 : w43.cell? ⟨gb853, 2, none⟩ = some (.slice A1_2 l1_2.length c1_2) := (blk_cell BK853.out 2).trans rfl; have hfz49_0 := blk_frozen BK853.out 0; have hfz49_1 := blk_frozen BK853.out 1; have hfz49_2 := blk_frozen BK853.out 2) | ((with_reducible refine gate_callee (f := 22) rfl ?_); refine goesL_ (some 33) rfl rfl Try.func22 (by kernel_rfl) rfl #[.agg #[.bool a1_0, .slice A1_1 l1_1.length c1_1, .slice A1_2 l1_2.length c1_2]] rfl (by (try simp only [zz4, zz5, zz6]); first | done | rfl | (simp only [zza, zzb]; rfl)) ?_; (with_reducible refine (laws_toRat.calls k a1_0 _ _ l1_1 _ _ l1_2 t880 t881 t884 _ ?side1 ?side2 ?side3 ?side4 A23.out).mono ?_); (case side1 => exact Kd.C_below HR1_1.out (by repeat (first | (with_reducible first | exact HB.out | apply zzb1 | apply zzb2 | apply zzb3 | refine below_set ?_ GE852.out | refine below_set ?_ GE853.out | refine below_set ?_ GE879.out) | exact HB.out))); (case side2 => exact HC1_1.out); (case side3 => exact Kd.C_below HR1_2.out (by repeat (first | (with_reducible first | exact HB.out | apply zzb1 | apply zzb2 | apply zzb3 | refine below_set ?_ GE852.out | refine below_set ?_ GE853.out | refine below_set ?_ GE879.out) | exact HB.out))); (case side4 => exact HC1_2.out); rintro e w50 ⟨v882, v885, rfl, ho0, ho1, hb⟩; refine ⟨_, rfl, ?_⟩; have n0_ := Aside0.mk (Kd.R_mono (Kd.R_told (Kd.R_told (Kd.R_old (by (with_reducible repeat (first | apply zzR1 | apply zzR2 | apply zzR3)); exact (Kd.R_mono (Kd.R_far (p := ⟨gb879, 2, none⟩) (Kd.R_far (p := ⟨gb879, 1, none⟩) (Kd.R_far (p := ⟨gb879, 0, none⟩) (Kd.R_types HO859.out BK879.out (by decide)) (fun _ hk => hk.2) (.bool t872)) (fun _ hk => hk.2) (.slice Ao47 t873.length co47)) (fun _ hk => hk.2) (.slice Ao48 t876.length co48)) (fun _ h_ => h_.1))) hb) (Kd.R_base ho0)) (Kd.R_base ho1)) (fun _ h_ => h_.1)); have n1_ := Aside0.mk (Kd.R_mono (Kd.R_told (Kd.R_told (Kd.R_old (by (with_reducible repeat (first | apply zzR1 | apply zzR2 | apply zzR3)); exact (Kd.R_mono (Kd.R_far (p := ⟨gb879, 2, none⟩) (Kd.R_far (p := ⟨gb879, 1, none⟩) (Kd.R_far (p := ⟨gb879, 0, none⟩) (Kd.R_types HO862.out BK879.out (by decide)) (fun _ hk => hk.2) (.bool t872)) (fun _ hk => hk.2) (.slice Ao47 t873.length co47)) (fun _ hk => hk.2) (.slice Ao48 t876.length co48)) (fun _ h_ => h_.1))) hb) (Kd.R_base ho0)) (Kd.R_base ho1)) (fun _ h_ => h_.1)); have n2_ := Aside0.mk (Kd.R_mono (Kd.R_told (Kd.R_told (Kd.R_old (by (with_reducible repeat (first | apply zzR1 | apply zzR2 | apply zzR3)); exact (Kd.R_mono (Kd.R_far (p := ⟨gb879, 2, none⟩) (Kd.R_far (p := ⟨gb879, 1, none⟩) (Kd.R_far (p := ⟨gb879, 0, none⟩) (Kd.R_types HO875.out BK879.out (by decide)) (fun _ hk => hk.2) (.bool t872)) (fun _ hk => hk.2) (.slice Ao47 t873.length co47)) (fun _ hk => hk.2) (.slice Ao48 t876.length co48)) (fun _ h_ => h_.1))) hb) (Kd.R_base ho0)) (Kd.R_base ho1)) (fun _ h_ => h_.1)); have n3_ := Aside0.mk (Kd.R_mono (Kd.R_told (Kd.R_told (Kd.R_old (by (with_reducible repeat (first | apply zzR1 | apply zzR2 | apply zzR3)); exact (Kd.R_mono (Kd.R_far (p := ⟨gb879, 2, none⟩) (Kd.R_far (p := ⟨gb879, 1, none⟩) (Kd.R_far (p := ⟨gb879, 0, none⟩) (Kd.R_types HO878.out BK879.out (by decide)) (fun _ hk => hk.2) (.bool t872)) (fun _ hk => hk.2) (.slice Ao47 t873.length co47)) (fun _ hk => hk.2) (.slice Ao48 t876.length co48)) (fun _ h_ => h_.1))) hb) (Kd.R_base ho0)) (Kd.R_base ho1)) (fun _ h_ => h_.1)); have n4_ := Aside0.mk (Kd.R_lower (Kd.R_new' (Kd.R_new' (Kd.R_new' (Kd.R_new' ho0 (Kd.R_lt (by (with_reducible repeat (first | apply zzR1 | apply zzR2 | apply zzR3)); exact (Kd.R_mono (Kd.R_far (p := ⟨gb879, 2, none⟩) (Kd.R_far (p := ⟨gb879, 1, none⟩) (Kd.R_far (p := ⟨gb879, 0, none⟩) (Kd.R_types HO859.out BK879.out (by decide)) (fun _ hk => hk.2) (.bool t872)) (fun _ hk => hk.2) (.slice Ao47 t873.length co47)) (fun _ hk => hk.2) (.slice Ao48 t876.length co48)) (fun _ h_ => h_.1))))) (Kd.R_lt (by (with_reducible repeat (first | apply zzR1 | apply zzR2 | apply zzR3)); exact (Kd.R_mono (Kd.R_far (p := ⟨gb879, 2, none⟩) (Kd.R_far (p := ⟨gb879, 1, none⟩) (Kd.R_far (p := ⟨gb879, 0, none⟩) (Kd.R_types HO862.out BK879.out (by decide)) (fun _ hk => hk.2) (.bool t872)) (fun _ hk => hk.2) (.slice Ao47 t873.length co47)) (fun _ hk => hk.2) (.slice Ao48 t876.length co48)) (fun _ h_ => h_.1))))) (Kd.R_lt (by (with_reducible repeat (first | apply zzR1 | apply zzR2 | apply zzR3)); exact (Kd.R_mono (Kd.R_far (p := ⟨gb879, 2, none⟩) (Kd.R_far (p := ⟨gb879, 1, none⟩) (Kd.R_far (p := ⟨gb879, 0, none⟩) (Kd.R_types HO875.out BK879.out (by decide)) (fun _ hk => hk.2) (.bool t872)) (fun _ hk => hk.2) (.slice Ao47 t873.length co47)) (fun _ hk => hk.2) (.slice Ao48 t876.length co48)) (fun _ h_ => h_.1))))) (Kd.R_lt (by (with_reducible repeat (first | apply zzR1 | apply zzR2 | apply zzR3)); exact (Kd.R_mono (Kd.R_far (p := ⟨gb879, 2, none⟩) (Kd.R_far (p := ⟨gb879, 1, none⟩) (Kd.R_far (p := ⟨gb879, 0, none⟩) (Kd.R_types HO878.out BK879.out (by decide)) (fun _ hk => hk.2) (.bool t872)) (fun _ hk => hk.2) (.slice Ao47 t873.length co47)) (fun _ hk => hk.2) (.slice Ao48 t876.length co48)) (fun _ h_ => h_.1))))) (below_size (by repeat (first | (with_reducible first | exact HB.out | apply zzb1 | apply zzb2 | apply zzb3 | refine below_set ?_ GE852.out | refine below_set ?_ GE853.out | refine below_set ?_ GE879.out) | exact HB.out)))); have n5_ := Aside0.mk (Kd.R_lower (Kd.R_new' (Kd.R_new' (Kd.R_new' (Kd.R_new' ho1 (Kd.R_lt (by (with_reducible repeat (first | apply zzR1 | apply zzR2 | apply zzR3)); exact (Kd.R_mono (Kd.R_far (p := ⟨gb879, 2, none⟩) (Kd.R_far (p := ⟨gb879, 1, none⟩) (Kd.R_far (p := ⟨gb879, 0, none⟩) (Kd.R_types HO859.out BK879.out (by decide)) (fun _ hk => hk.2) (.bool t872)) (fun _ hk => hk.2) (.slice Ao47 t873.length co47)) (fun _ hk => hk.2) (.slice Ao48 t876.length co48)) (fun _ h_ => h_.1))))) (Kd.R_lt (by (with_reducible repeat (first | apply zzR1 | apply zzR2 | apply zzR3)); exact (Kd.R_mono (Kd.R_far (p := ⟨gb879, 2, none⟩) (Kd.R_far (p := ⟨gb879, 1, none⟩) (Kd.R_far (p := ⟨gb879, 0, none⟩) (Kd.R_types HO862.out BK879.out (by decide)) (fun _ hk => hk.2) (.bool t872)) (fun _ hk => hk.2) (.slice Ao47 t873.length co47)) (fun _ hk => hk.2) (.slice Ao48 t876.length co48)) (fun _ h_ => h_.1))))) (Kd.R_lt (by (with_reducible repeat (first | apply zzR1 | apply zzR2 | apply zzR3)); exact (Kd.R_mono (Kd.R_far (p := ⟨gb879, 2, none⟩) (Kd.R_far (p := ⟨gb879, 1, none⟩) (Kd.R_far (p := ⟨gb879, 0, none⟩) (Kd.R_types HO875.out BK879.out (by decide)) (fun _ hk => hk.2) (.bool t872)) (fun _ hk => hk.2) (.slice Ao47 t873.length co47)) (fun _ hk => hk.2) (.slice Ao48 t876.length co48)) (fun _ h_ => h_.1))))) (Kd.R_lt (by (with_reducible repeat (first | apply zzR1 | apply zzR2 | apply zzR3)); exact (Kd.R_mono (Kd.R_far (p := ⟨gb879, 2, none⟩) (Kd.R_far (p := ⟨gb879, 1, none⟩) (Kd.R_far (p := ⟨gb879, 0, none⟩) (Kd.R_types HO878.out BK879.out (by decide)) (fun _ hk => hk.2) (.bool t872)) (fun _ hk => hk.2) (.slice Ao47 t873.length co47)) (fun _ hk => hk.2) (.slice Ao48 t876.length co48)) (fun _ h_ => h_.1))))) (below_size (by repeat (first | (with_reducible first | exact HB.out | apply zzb1 | apply zzb2 | apply zzb3 | refine below_set ?_ GE852.out | refine below_set ?_ GE853.out | refine below_set ?_ GE879.out) | exact HB.out)))); have n6_ := Aside0.mk (blk_below (g := gb852) (o := .cells #[.bool a0_0, .slice A0_1 l0_1.length c0_1, .slice A0_2 l0_2.length c0_2] 30 (0, 0)) (by (with_reducible repeat (first | refine zzk1 ?_ _ | refine zzk2 ?_ | refine zzk3 ?_ _)); refine blk_far ?_ NB852_879.out _; (with_reducible repeat (first | refine zzk1 ?_ _ | refine zzk2 ?_ | refine zzk3 ?_ _)); refine blk_far ?_ NB852_879.out _; (with_reducible repeat (first | refine zzk1 ?_ _ | refine zzk2 ?_ | refine zzk3 ?_ _)); refine blk_far ?_ NB852_879.out _; (with_reducible repeat (first | refine zzk1 ?_ _ | refine zzk2 ?_ | refine zzk3 ?_ _)); exact BK852.out) hb); have n7_ := Aside0.mk (blk_below (g := gb853) (o := .cells #[.bool a1_0, .slice A1_1 l1_1.length c1_1, .slice A1_2 l1_2.length c1_2] 30 (0, 0)) (by (with_reducible repeat (first | refine zzk1 ?_ _ | refine zzk2 ?_ | refine zzk3 ?_ _)); refine blk_far ?_ NB853_879.out _; (with_reducible repeat (first | refine zzk1 ?_ _ | refine zzk2 ?_ | refine zzk3 ?_ _)); refine blk_far ?_ NB853_879.out _; (with_reducible repeat (first | refine zzk1 ?_ _ | refine zzk2 ?_ | refine zzk3 ?_ _)); refine blk_far ?_ NB853_879.out _; (with_reducible repeat (first | refine zzk1 ?_ _ | refine zzk2 ?_ | refine zzk3 ?_ _)); exact BK853.out) hb); have n8_ := Aside0.mk (blk_below (g := gb879) (o := .cells #[.bool t872, .slice Ao47 t873.length co47, .slice Ao48 t876.length co48] 24 (0, 0)) (by (with_reducible repeat (first | refine zzk1 ?_ _ | refine zzk2 ?_ | refine zzk3 ?_ _)); refine blk_put (cs := #[.bool t872, .slice Ao47 t873.length co47, .slice none 0 0]) ?_ 2 _ rfl; (with_reducible repeat (first | refine zzk1 ?_ _ | refine zzk2 ?_ | refine zzk3 ?_ _)); refine blk_put (cs := #[.bool t872, .slice none 0 0, .slice none 0 0]) ?_ 1 _ rfl; (with_reducible repeat (first | refine zzk1 ?_ _ | refine zzk2 ?_ | refine zzk3 ?_ _)); refine blk_put (cs := #[.bool false, .slice none 0 0, .slice none 0 0]) ?_ 0 _ rfl; (with_reducible repeat (first | refine zzk1 ?_ _ | refine zzk2 ?_ | refine zzk3 ?_ _)); exact BK879.out) hb); have n9_ := Aside0.mk (below_step (by repeat (first | (with_reducible first | exact HB.out | apply zzb1 | apply zzb2 | apply zzb3 | refine below_set ?_ GE852.out | refine below_set ?_ GE853.out | refine below_set ?_ GE879.out) | exact HB.out)) hb); clear HO859; clear HO862; clear HO875; clear HO878; clear BK852; clear BK853; clear BK879; clear HB; have HO859 := n0_; have HO862 := n1_; have HO875 := n2_; have HO878 := n3_; have HO883 := n4_; have HO886 := n5_; have BK852 := n6_; have BK853 := n7_; have BK879 := n8_; have HB := n9_; clear n0_ n1_ n2_ n3_ n4_ n5_ n6_ n7_ n8_ n9_; (try clear hb); (try clear hb2); (try clear hk); (try clear hi); (try clear ho0); (try clear ho1)) | ((with_reducible refine gate_dst (N := 9) rfl ?_); refine box_event ?hg (N := 9) ?hd (cs := #[.bool false, .slice none 0 0, .slice none 0 0]) (t := 24) ?hr ?_; (case hd => rfl); (case hg => rfl); (case hr => first | (go_simp; done) | (go_simp; rfl)); intro gb887 hg w51 hbox hb; have n0_ := Aside0.mk (Kd.R_below (by (with_reducible repeat (first | apply zzR1 | apply zzR2 | apply zzR3)); exact HO859.out) hb); have n1_ := Aside0.mk (Kd.R_below (by (with_reducible repeat (first | apply zzR1 | apply zzR2 | apply zzR3)); exact HO862.out) hb); have n2_ := Aside0.mk (Kd.R_below (by (with_reducible repeat (first | apply zzR1 | apply zzR2 | apply zzR3)); exact HO875.out) hb); have n3_ := Aside0.mk (Kd.R_below (by (with_reducible repeat (first | apply zzR1 | apply zzR2 | apply zzR3)); exact HO878.out) hb); have n4_ := Aside0.mk (Kd.R_below (by (with_reducible repeat (first | apply zzR1 | apply zzR2 | apply zzR3)); exact HO883.out) hb); have n5_ := Aside0.mk (Kd.R_below (by (with_reducible repeat (first | apply zzR1 | apply zzR2 | apply zzR3)); exact HO886.out) hb); have n6_ := Aside0.mk (blk_below (g := gb852) (o := .cells #[.bool a0_0, .slice A0_1 l0_1.length c0_1, .slice A0_2 l0_2.length c0_2] 30 (0, 0)) (by (with_reducible repeat (first | refine zzk1 ?_ _ | refine zzk2 ?_ | refine zzk3 ?_ _)); exact BK852.out) hb); have n7_ := Aside0.mk (blk_below (g := gb853) (o := .cells #[.bool a1_0, .slice A1_1 l1_1.length c1_1, .slice A1_2 l1_2.length c1_2] 30 (0, 0)) (by (with_reducible repeat (first | refine zzk1 ?_ _ | refine zzk2 ?_ | refine zzk3 ?_ _)); exact BK853.out) hb); have n8_ := Aside0.mk (blk_below (g := gb879) (o := .cells #[.bool t872, .slice Ao47 t873.length co47, .slice Ao48 t876.length co48] 24 (0, 0)) (by (with_reducible repeat (first | refine zzk1 ?_ _ | refine zzk2 ?_ | refine zzk3 ?_ _)); exact BK879.out) hb); have n9_ := Aside0.mk (below_step (by repeat (first | (with_reducible first | exact HB.out | apply zzb1 | apply zzb2 | apply zzb3 | refine below_set ?_ GE852.out | refine below_set ?_ GE853.out | refine below_set ?_ GE879.out) | exact HB.out)) hb); have n10_ := Aside0.mk (hbox); have n11_ := Aside0.mk ((by rw [hg]; exact (below_size (by repeat (first | (with_reducible first | exact HB.out | apply zzb1 | apply zzb2 | apply zzb3 | refine below_set ?_ GE852.out | refine below_set ?_ GE853.out | refine below_set ?_ GE879.out) | exact HB.out))) : w.heap.size ≤ gb887)); have n12_ := Aside0.mk ((by rw [hg]; exact (below_size (by repeat (first | (with_reducible first | exact HB.out | apply zzb1 | apply zzb2 | apply zzb3 | refine below_set ?_ GE852.out | refine below_set ?_ GE853.out | refine below_set ?_ GE879.out) | exact HB.out))) : w.heap.size ≤ gb887)); have n13_ := Aside0.mk ((by rw [hg]; exact Nat.ne_of_lt (blk_lt (g := gb852) (o := .cells #[.bool a0_0, .slice A0_1 l0_1.length c0_1, .slice A0_2 l0_2.length c0_2] 30 (0, 0)) (by (with_reducible repeat (first | refine zzk1 ?_ _ | refine zzk2 ?_ | refine zzk3 ?_ _)); exact BK852.out)) : gb852 ≠ gb887)); have n14_ := Aside0.mk ((by rw [hg]; exact Nat.ne_of_gt (blk_lt (g := gb852) (o := .cells #[.bool a0_0, .slice A0_1 l0_1.length c0_1, .slice A0_2 l0_2.length c0_2] 30 (0, 0)) (by (with_reducible repeat (first | refine zzk1 ?_ _ | refine zzk2 ?_ | refine zzk3 ?_ _)); exact BK852.out)) : gb887 ≠ gb852)); have n15_ := Aside0.mk ((by rw [hg]; exact Nat.ne_of_lt (blk_lt (g := gb853) (o := .cells #[.bool a1_0, .slice A1_1 l1_1.length c1_1, .slice A1_2 l1_2.length c1_2] 30 (0, 0)) (by (with_reducible repeat (first | refine zzk1 ?_ _ | refine zzk2 ?_ | refine zzk3 ?_ _)); exact BK853.out)) : gb853 ≠ gb887)); have n16_ := Aside0.mk ((by rw [hg]; exact Nat.ne_of_gt (blk_lt (g := gb853) (o := .cells #[.bool a1_0, .slice A1_1 l1_1.length c1_1, .slice A1_2 l1_2.length c1_2] 30 (0, 0)) (by (with_reducible repeat (first | refine zzk1 ?_ _ | refine zzk2 ?_ | refine zzk3 ?_ _)); exact BK853.out)) : gb887 ≠ gb853)); have n17_ := Aside0.mk ((by rw [hg]; exact Nat.ne_of_lt (blk_lt (g := gb879) (o := .cells #[.bool t872, .slice Ao47 t873.length co47, .slice Ao48 t876.length co48] 24 (0, 0)) (by (with_reducible repeat (first | refine zzk1 ?_ _ | refine zzk2 ?_ | refine zzk3 ?_ _)); exact BK879.out)) : gb879 ≠ gb887)); have n18_ := Aside0.mk ((by rw [hg]; exact Nat.ne_of_gt (blk_lt (g := gb879) (o := .cells #[.bool t872, .slice Ao47 t873.length co47, .slice Ao48 t876.length co48] 24 (0, 0)) (by (with_reducible repeat (first | refine zzk1 ?_ _ | refine zzk2 ?_ | refine zzk3 ?_ _)); exact BK879.out)) : gb887 ≠ gb879)); clear HO859; clear HO862; clear HO875; clear HO878; clear HO883; clear HO886; clear BK852; clear BK853; clear BK879; clear HB; have HO859 := n0_; have HO862 := n1_; have HO875 := n2_; have HO878 := n3_; have HO883 := n4_; have HO886 := n5_; have BK852 := n6_; have BK853 := n7_; have BK879 := n8_; have HB := n9_; have BK887 := n10_; have GW887 := n11_; have GE887 := n12_; have NB852_887 := n13_; have NB887_852 := n14_; have NB853_887 := n15_; have NB887_853 := n16_; have NB879_887 := n17_; have NB887_879 := n18_; clear n0_ n1_ n2_ n3_ n4_ n5_ n6_ n7_ n8_ n9_ n10_ n11_ n12_ n13_ n14_ n15_ n16_ n17_ n18_; clear hb hbox hg; have hnb52 := NB887_852.out; have hnc52 := NB852_887.out; have hnb53 := NB887_853.out; have hnc53 := NB853_887.out; have hnb54 := NB887_879.out; have hnc54 := NB879_887.out; have hcz55_0 : w51.cell? ⟨gb887, 0, none⟩ = some (.bool false) := (blk_cell BK887.out 0).trans rfl; have hcz55_1 : w51.cell? ⟨gb887, 1, none⟩ = some (.slice none 0 0) := (blk_cell BK887.out 1).trans rfl; have hcz55_2 : w51.cell? ⟨gb887, 2, none⟩ = some (.slice none 0 0) := (blk_cell BK887.out 2).trans rfl; have hfz55_0 := blk_frozen BK887.out 0; have hfz55_1 := blk_frozen BK887.out 1; have hfz55_2 := blk_frozen BK887.out 2; obtain ⟨Ao56, co56, eo56⟩ := Kd.R_slice HO883.out; subst eo56; obtain ⟨Ao57, co57, eo57⟩ := Kd.R_slice HO886.out; subst eo57) | ((with_reducible refine gate_store (t := 24) (p := 9) rfl ?_); refine store_event (t := 24) (p := 9) (v := ?vo_w58) (w1 := (((w51.setCell ⟨gb887, 0, none⟩ (.bool t880)).setCell ⟨gb887, 1, none⟩ (.slice Ao56 t881.length co56)).setCell ⟨gb887, 2, none⟩ (.slice Ao57 t884.length co57))) ?hg ?ho ?hn ?hr ?_; (case ho => rfl); (case hg => rfl); (case hn => rfl); (case hr => first | (go_simp; done) | (go_simp; rfl)); intro w58 hw; have n0_ : Aside0 (Kd.R (Kd.int .i64) 3 w58 w.heap.size (fun k_ => some k_ ≠ (.slice Ao37 t860.length co37 : Value).ownBlock ∧ some k_ ≠ (.slice Ao47 t873.length co47 : Value).ownBlock ∧ some k_ ≠ (.slice Ao48 t876.length co48 : Value).ownBlock ∧ some k_ ≠ (.slice Ao56 t881.length co56 : Value).ownBlock ∧ some k_ ≠ (.slice Ao57 t884.length co57 : Value).ownBlock) (.slice Ao36 t857.length co36) t857) := ⟨(by rw [hw]; exact (by (with_reducible repeat (first | apply zzR1 | apply zzR2 | apply zzR3)); exact Kd.R_mono (Kd.R_far (p := ⟨gb887, 2, none⟩) (Kd.R_far (p := ⟨gb887, 1, none⟩) (Kd.R_far (p := ⟨gb887, 0, none⟩) (Kd.R_types HO859.out BK887.out (by decide)) (fun _ hk => hk.2) (.bool t880)) (fun _ hk => hk.2) (.slice Ao56 t881.length co56)) (fun _ hk => hk.2) (.slice Ao57 t884.length co57)) (fun _ hk => ⟨hk.1.1.1.1.1, ⟨hk.1.1.1.1.2, ⟨hk.1.1.1.2, ⟨hk.1.1.2, hk.1.2⟩⟩⟩⟩)))⟩; have n1_ : Aside0 (Kd.R (Kd.int .i64) 3 w58 w.heap.size (fun k_ => some k_ ≠ (.slice Ao36 t857.length co36 : Value).ownBlock ∧ some k_ ≠ (.slice Ao47 t873.length co47 : Value).ownBlock ∧ some k_ ≠ (.slice Ao48 t876.length co48 : Value).ownBlock ∧ some k_ ≠ (.slice Ao56 t881.length co56 : Value).ownBlock ∧ some k_ ≠ (.slice Ao57 t884.length co57 : Value).ownBlock) (.slice Ao37 t860.length co37) t860) := ⟨(by rw [hw]; exact (by (with_reducible repeat (first | apply zzR1 | apply zzR2 | apply zzR3)); exact Kd.R_mono (Kd.R_far (p := ⟨gb887, 2, none⟩) (Kd.R_far (p := ⟨gb887, 1, none⟩) (Kd.R_far (p := ⟨gb887, 0, none⟩) (Kd.R_types HO862.out BK887.out (by decide)) (fun _ hk => hk.2) (.bool t880)) (fun _ hk => hk.2) (.slice Ao56 t881.length co56)) (fun _ hk => hk.2) (.slice Ao57 t884.length co57)) (fun _ hk => ⟨hk.1.1.1.1.1, ⟨hk.1.1.1.1.2, ⟨hk.1.1.1.2, ⟨hk.1.1.2, hk.1.2⟩⟩⟩⟩)))⟩; have n2_ : Aside0 (Kd.R (Kd.int .i64) 3 w58 w.heap.size (fun k_ => some k_ ≠ (.slice Ao36 t857.length co36 : Value).ownBlock ∧ some k_ ≠ (.slice Ao37 t860.length co37 : Value).ownBlock ∧ some k_ ≠ (.slice Ao48 t876.length co48 : Value).ownBlock ∧ some k_ ≠ (.slice Ao56 t881.length co56 : Value).ownBlock ∧ some k_ ≠ (.slice Ao57 t884.length co57 : Value).ownBlock) (.slice Ao47 t873.length co47) t873) := ⟨(by rw [hw]; exact (by (with_reducible repeat (first | apply zzR1 | apply zzR2 | apply zzR3)); exact Kd.R_mono (Kd.R_far (p := ⟨gb887, 2, none⟩) (Kd.R_far (p := ⟨gb887, 1, none⟩) (Kd.R_far (p := ⟨gb887, 0, none⟩) (Kd.R_types HO875.out BK887.out (by decide)) (fun _ hk => hk.2) (.bool t880)) (fun _ hk => hk.2) (.slice Ao56 t881.length co56)) (fun _ hk => hk.2) (.slice Ao57 t884.length co57)) (fun _ hk => ⟨hk.1.1.1.1.2, ⟨hk.1.1.1.2, ⟨hk.1.1.1.1.1, ⟨hk.1.1.2, hk.1.2⟩⟩⟩⟩)))⟩; have n3_ : Aside0 (Kd.R (Kd.int .i64) 3 w58 w.heap.size (fun k_ => some k_ ≠ (.slice Ao36 t857.length co36 : Value).ownBlock ∧ some k_ ≠ (.slice Ao37 t860.length co37 : Value).ownBlock ∧ some k_ ≠ (.slice Ao47 t873.length co47 : Value).ownBlock ∧ some k_ ≠ (.slice Ao56 t881.length co56 : Value).ownBlock ∧ some k_ ≠ (.slice Ao57 t884.length co57 : Value).ownBlock) (.slice Ao48 t876.length co48) t876) := ⟨(by rw [hw]; exact (by (with_reducible repeat (first | apply zzR1 | apply zzR2 | apply zzR3)); exact Kd.R_mono (Kd.R_far (p := ⟨gb887, 2, none⟩) (Kd.R_far (p := ⟨gb887, 1, none⟩) (Kd.R_far (p := ⟨gb887, 0, none⟩) (Kd.R_types HO878.out BK887.out (by decide)) (fun _ hk => hk.2) (.bool t880)) (fun _ hk => hk.2) (.slice Ao56 t881.length co56)) (fun _ hk => hk.2) (.slice Ao57 t884.length co57)) (fun _ hk => ⟨hk.1.1.1.1.2, ⟨hk.1.1.1.2, ⟨hk.1.1.1.1.1, ⟨hk.1.1.2, hk.1.2⟩⟩⟩⟩)))⟩; have n4_ : Aside0 (Kd.R (Kd.int .i64) 3 w58 w.heap.size (fun k_ => some k_ ≠ (.slice Ao36 t857.length co36 : Value).ownBlock ∧ some k_ ≠ (.slice Ao37 t860.length co37 : Value).ownBlock ∧ some k_ ≠ (.slice Ao47 t873.length co47 : Value).ownBlock ∧ some k_ ≠ (.slice Ao48 t876.length co48 : Value).ownBlock ∧ some k_ ≠ (.slice Ao57 t884.length co57 : Value).ownBlock) (.slice Ao56 t881.length co56) t881) := ⟨(by rw [hw]; exact (by (with_reducible repeat (first | apply zzR1 | apply zzR2 | apply zzR3)); exact Kd.R_mono (Kd.R_far (p := ⟨gb887, 2, none⟩) (Kd.R_far (p := ⟨gb887, 1, none⟩) (Kd.R_far (p := ⟨gb887, 0, none⟩) (Kd.R_types HO883.out BK887.out (by decide)) (fun _ hk => hk.2) (.bool t880)) (fun _ hk => hk.2) (.slice Ao56 t881.length co56)) (fun _ hk => hk.2) (.slice Ao57 t884.length co57)) (fun _ hk => ⟨hk.1.1.1.1.2, ⟨hk.1.1.1.2, ⟨hk.1.1.2, ⟨hk.1.2, hk.1.1.1.1.1⟩⟩⟩⟩)))⟩; have n5_ : Aside0 (Kd.R (Kd.int .i64) 3 w58 w.heap.size (fun k_ => some k_ ≠ (.slice Ao36 t857.length co36 : Value).ownBlock ∧ some k_ ≠ (.slice Ao37 t860.length co37 : Value).ownBlock ∧ some k_ ≠ (.slice Ao47 t873.length co47 : Value).ownBlock ∧ some k_ ≠ (.slice Ao48 t876.length co48 : Value).ownBlock ∧ some k_ ≠ (.slice Ao56 t881.length co56 : Value).ownBlock) (.slice Ao57 t884.length co57) t884) := ⟨(by rw [hw]; exact (by (with_reducible repeat (first | apply zzR1 | apply zzR2 | apply zzR3)); exact Kd.R_mono (Kd.R_far (p := ⟨gb887, 2, none⟩) (Kd.R_far (p := ⟨gb887, 1, none⟩) (Kd.R_far (p := ⟨gb887, 0, none⟩) (Kd.R_types HO886.out BK887.out (by decide)) (fun _ hk => hk.2) (.bool t880)) (fun _ hk => hk.2) (.slice Ao56 t881.length co56)) (fun _ hk => hk.2) (.slice Ao57 t884.length co57)) (fun _ hk => ⟨hk.1.1.1.1.2, ⟨hk.1.1.1.2, ⟨hk.1.1.2, ⟨hk.1.2, hk.1.1.1.1.1⟩⟩⟩⟩)))⟩; have n6_ : Aside0 (w58.heap[gb852]? = some (.cells #[.bool a0_0, .slice A0_1 l0_1.length c0_1, .slice A0_2 l0_2.length c0_2] 30 (0, 0))) := ⟨(by rw [hw]; exact (by (with_reducible repeat (first | refine zzk1 ?_ _ | refine zzk2 ?_ | refine zzk3 ?_ _)); refine blk_far ?_ NB852_887.out _; (with_reducible repeat (first | refine zzk1 ?_ _ | refine zzk2 ?_ | refine zzk3 ?_ _)); refine blk_far ?_ NB852_887.out _; (with_reducible repeat (first | refine zzk1 ?_ _ | refine zzk2 ?_ | refine zzk3 ?_ _)); refine blk_far ?_ NB852_887.out _; (with_reducible repeat (first | refine zzk1 ?_ _ | refine zzk2 ?_ | refine zzk3 ?_ _)); exact BK852.out))⟩; have n7_ : Aside0 (w58.heap[gb853]? = some (.cells #[.bool a1_0, .slice A1_1 l1_1.length c1_1, .slice A1_2 l1_2.length c1_2] 30 (0, 0))) := ⟨(by rw [hw]; exact (by (with_reducible repeat (first | refine zzk1 ?_ _ | refine zzk2 ?_ | refine zzk3 ?_ _)); refine blk_far ?_ NB853_887.out _; (with_reducible repeat (first | refine zzk1 ?_ _ | refine zzk2 ?_ | refine zzk3 ?_ _)); refine blk_far ?_ NB853_887.out _; (with_reducible repeat (first | refine zzk1 ?_ _ | refine zzk2 ?_ | refine zzk3 ?_ _)); refine blk_far ?_ NB853_887.out _; (with_reducible repeat (first | refine zzk1 ?_ _ | refine zzk2 ?_ | refine zzk3 ?_ _)); exact BK853.out))⟩; have n8_ : Aside0 (w58.heap[gb879]? = some (.cells #[.bool t872, .slice Ao47 t873.length co47, .slice Ao48 t876.length co48] 24 (0, 0))) := ⟨(by rw [hw]; exact (by (with_reducible repeat (first | refine zzk1 ?_ _ | refine zzk2 ?_ | refine zzk3 ?_ _)); refine blk_far ?_ NB879_887.out _; (with_reducible repeat (first | refine zzk1 ?_ _ | refine zzk2 ?_ | refine zzk3 ?_ _)); refine blk_far ?_ NB879_887.out _; (with_reducible repeat (first | refine zzk1 ?_ _ | refine zzk2 ?_ | refine zzk3 ?_ _)); refine blk_far ?_ NB879_887.out _; (with_reducible repeat (first | refine zzk1 ?_ _ | refine zzk2 ?_ | refine zzk3 ?_ _)); exact BK879.out))⟩; have n9_ : Aside0 (w58.heap[gb887]? = some (.cells #[.bool t880, .slice Ao56 t881.length co56, .slice Ao57 t884.length co57] 24 (0, 0))) := ⟨(by rw [hw]; exact (by (with_reducible repeat (first | refine zzk1 ?_ _ | refine zzk2 ?_ | refine zzk3 ?_ _)); refine blk_put (cs := #[.bool t880, .slice Ao56 t881.length co56, .slice none 0 0]) ?_ 2 _ rfl; (with_reducible repeat (first | refine zzk1 ?_ _ | refine zzk2 ?_ | refine zzk3 ?_ _)); refine blk_put (cs := #[.bool t880, .slice none 0 0, .slice none 0 0]) ?_ 1 _ rfl; (with_reducible repeat (first | refine zzk1 ?_ _ | refine zzk2 ?_ | refine zzk3 ?_ _)); refine blk_put (cs := #[.bool false, .slice none 0 0, .slice none 0 0]) ?_ 0 _ rfl; (with_reducible repeat (first | refine zzk1 ?_ _ | refine zzk2 ?_ | refine zzk3 ?_ _)); exact BK887.out))⟩; have n10_ : Aside0 (Below w.heap.size w w58) := ⟨(by rw [hw]; exact (by repeat (first | (with_reducible first | exact HB.out | apply zzb1 | apply zzb2 | apply zzb3 | refine below_set ?_ GE852.out | refine below_set ?_ GE853.out | refine below_set ?_ GE879.out | refine below_set ?_ GE887.out) | exact HB.out)))⟩; clear hw; clear HO859; clear HO862; clear HO875; clear HO878; clear HO883; clear HO886; clear BK852; clear BK853; clear BK879; clear BK887; clear HB; have HO859 := n0_; have HO862 := n1_; have HO875 := n2_; have HO878 := n3_; have HO883 := n4_; have HO886 := n5_; have BK852 := n6_; have BK853 := n7_; have BK879 := n8_; have BK887 := n9_; have HB := n10_; clear n0_ n1_ n2_ n3_ n4_ n5_ n6_ n7_ n8_ n9_ n10_; have hcz59_0 : w58.cell? ⟨gb879, 0, none⟩ = some (.bool t872) := (blk_cell BK879.out 0).trans rfl; have hcz59_1 : w58.cell? ⟨gb879, 1, none⟩ = some (.slice Ao47 t873.length co47) := (blk_cell BK879.out 1).trans rfl; have hcz59_2 : w58.cell? ⟨gb879, 2, none⟩ = some (.slice Ao48 t876.length co48) := (blk_cell BK879.out 2).trans rfl; have hfz59_0 := blk_frozen BK879.out 0; have hfz59_1 := blk_frozen BK879.out 1; have hfz59_2 := blk_frozen BK879.out 2; have hcz60_0 : w58.cell? ⟨gb887, 0, none⟩ = some (.bool t880) := (blk_cell BK887.out 0).trans rfl; have hcz60_1 : w58.cell? ⟨gb887, 1, none⟩ = some (.slice Ao56 t881.length co56) := (blk_cell BK887.out 1).trans rfl; have hcz60_2 : w58.cell? ⟨gb887, 2, none⟩ = some (.slice Ao57 t884.length co57) := (blk_cell BK887.out 2).trans rfl; have hfz60_0 := blk_frozen BK887.out 0; have hfz60_1 := blk_frozen BK887.out 1; have hfz60_2 := blk_frozen BK887.out 2) | ((with_reducible refine gate_callee (f := 27) rfl ?_); refine goesL_ (some 37) rfl rfl Try.func27 (by kernel_rfl) rfl #[.agg #[.bool t872, .slice Ao47 t873.length co47, .slice Ao48 t876.length co48], .agg #[.bool t880, .slice Ao56 t881.length co56, .slice Ao57 t884.length co57]] rfl (by (try simp only [zz4, zz5, zz6]); first | done | rfl | (simp only [zza, zzb]; rfl)) ?_; (with_reducible refine (impl_CmpRat.calls k t872 (fun k_ => some k_ = (.slice Ao47 t873.length co47 : Value).ownBlock) _ _ t873 (fun k_ => some k_ = (.slice Ao48 t876.length co48 : Value).ownBlock) _ _ t876 t880 (fun k_ => some k_ = (.slice Ao56 t881.length co56 : Value).ownBlock) _ _ t881 (fun k_ => some k_ = (.slice Ao57 t884.length co57 : Value).ownBlock) _ _ t884 t888 t889 _ ?side1 ?side2 ?side3 ?side4 A24.out).mono ?_); (case side1 => exact Kd.R_V (Kd.R_tight rfl (Kd.R_types (Kd.R_types (Kd.R_types (Kd.R_types (HO875.out) BK852.out (by decide)) BK853.out (by decide)) BK879.out (by decide)) BK887.out (by decide)))); (case side2 => exact Kd.R_V (Kd.R_tight rfl (Kd.R_types (Kd.R_types (Kd.R_types (Kd.R_types (HO878.out) BK852.out (by decide)) BK853.out (by decide)) BK879.out (by decide)) BK887.out (by decide)))); (case side3 => exact Kd.R_V (Kd.R_tight rfl (Kd.R_types (Kd.R_types (Kd.R_types (Kd.R_types (HO883.out) BK852.out (by decide)) BK853.out (by decide)) BK879.out (by decide)) BK887.out (by decide)))); (case side4 => exact Kd.R_V (Kd.R_tight rfl (Kd.R_types (Kd.R_types (Kd.R_types (Kd.R_types (HO886.out) BK852.out (by decide)) BK853.out (by decide)) BK879.out (by decide)) BK887.out (by decide)))); rintro e w61 ⟨rfl, hb⟩; refine ⟨_, rfl, ?_⟩; have n0_ := Aside0.mk (Kd.R_below (by (with_reducible repeat (first | apply zzR1 | apply zzR2 | apply zzR3)); exact HO859.out) hb); have n1_ := Aside0.mk (Kd.R_below (by (with_reducible repeat (first | apply zzR1 | apply zzR2 | apply zzR3)); exact HO862.out) hb); have n2_ := Aside0.mk (Kd.R_below (by (with_reducible repeat (first | apply zzR1 | apply zzR2 | apply zzR3)); exact HO875.out) hb); have n3_ := Aside0.mk (Kd.R_below (by (with_reducible repeat (first | apply zzR1 | apply zzR2 | apply zzR3)); exact HO878.out) hb); have n4_ := Aside0.mk (Kd.R_below (by (with_reducible repeat (first | apply zzR1 | apply zzR2 | apply zzR3)); exact HO883.out) hb); have n5_ := Aside0.mk (Kd.R_below (by (with_reducible repeat (first | apply zzR1 | apply zzR2 | apply zzR3)); exact HO886.out) hb); have n6_ := Aside0.mk (blk_below (g := gb852) (o := .cells #[.bool a0_0, .slice A0_1 l0_1.length c0_1, .slice A0_2 l0_2.length c0_2] 30 (0, 0)) (by (with_reducible repeat (first | refine zzk1 ?_ _ | refine zzk2 ?_ | refine zzk3 ?_ _)); exact BK852.out) hb); have n7_ := Aside0.mk (blk_below (g := gb853) (o := .cells #[.bool a1_0, .slice A1_1 l1_1.length c1_1, .slice A1_2 l1_2.length c1_2] 30 (0, 0)) (by (with_reducible repeat (first | refine zzk1 ?_ _ | refine zzk2 ?_ | refine zzk3 ?_ _)); exact BK853.out) hb); have n8_ := Aside0.mk (blk_below (g := gb879) (o := .cells #[.bool t872, .slice Ao47 t873.length co47, .slice Ao48 t876.length co48] 24 (0, 0)) (by (with_reducible repeat (first | refine zzk1 ?_ _ | refine zzk2 ?_ | refine zzk3 ?_ _)); exact BK879.out) hb); have n9_ := Aside0.mk (blk_below (g := gb887) (o := .cells #[.bool t880, .slice Ao56 t881.length co56, .slice Ao57 t884.length co57] 24 (0, 0)) (by (with_reducible repeat (first | refine zzk1 ?_ _ | refine zzk2 ?_ | refine zzk3 ?_ _)); exact BK887.out) hb); have n10_ := Aside0.mk (below_step (by repeat (first | (with_reducible first | exact HB.out | apply zzb1 | apply zzb2 | apply zzb3 | refine below_set ?_ GE852.out | refine below_set ?_ GE853.out | refine below_set ?_ GE879.out | refine below_set ?_ GE887.out) | exact HB.out)) hb); clear HO859; clear HO862; clear HO875; clear HO878; clear HO883; clear HO886; clear BK852; clear BK853; clear BK879; clear BK887; clear HB; have HO859 := n0_; have HO862 := n1_; have HO875 := n2_; have HO878 := n3_; have HO883 := n4_; have HO886 := n5_; have BK852 := n6_; have BK853 := n7_; have BK879 := n8_; have BK887 := n9_; have HB := n10_; clear n0_ n1_ n2_ n3_ n4_ n5_ n6_ n7_ n8_ n9_ n10_; (try clear hb); (try clear hb2); (try clear hk); (try clear hi)))
   (try simp only [Act.put, zz7, zz8, zz9])
   go_cut [47] (fun v47 wc => ∃ (kq : Nat) (x47_24 : Bool), v47 = .bool x47_24 ∧ Aside0 (laws_FnExactCmpRat.j0 kq x47_24 a0_0 l0_1 l0_2 a1_0 l1_1 l1_2 t872 t873 t876 t880 t881 t884 = some r) ∧ Aside0 (kq ≤ k) ∧ Aside0 (Kd.R (Kd.int .i64) 3 wc w.heap.size (fun k_ => some k_ ≠ ((.slice Ao48 t876.length co48) : Value).ownBlock ∧ some k_ ≠ ((.slice Ao56 t881.length co56) : Value).ownBlock ∧ some k_ ≠ ((.slice Ao57 t884.length co57) : Value).ownBlock) (.slice Ao47 t873.length co47) t873) ∧ Aside0 (Kd.R (Kd.int .i64) 3 wc w.heap.size (fun k_ => some k_ ≠ ((.slice Ao47 t873.length co47) : Value).ownBlock ∧ some k_ ≠ ((.slice Ao56 t881.length co56) : Value).ownBlock ∧ some k_ ≠ ((.slice Ao57 t884.length co57) : Value).ownBlock) (.slice Ao48 t876.length co48) t876) ∧ Aside0 (Kd.R (Kd.int .i64) 3 wc w.heap.size (fun k_ => some k_ ≠ ((.slice Ao47 t873.length co47) : Value).ownBlock ∧ some k_ ≠ ((.slice Ao48 t876.length co48) : Value).ownBlock ∧ some k_ ≠ ((.slice Ao57 t884.length co57) : Value).ownBlock) (.slice Ao56 t881.length co56) t881) ∧ Aside0 (Kd.R (Kd.int .i64) 3 wc w.heap.size (fun k_ => some k_ ≠ ((.slice Ao47 t873.length co47) : Value).ownBlock ∧ some k_ ≠ ((.slice Ao48 t876.length co48) : Value).ownBlock ∧ some k_ ≠ ((.slice Ao56 t881.length co56) : Value).ownBlock) (.slice Ao57 t884.length co57) t884) ∧ Aside0 (wc.heap[gb852]? = some (.cells #[.bool a0_0, (.slice A0_1 l0_1.length c0_1), (.slice A0_2 l0_2.length c0_2)] 30 (0, 0))) ∧ Aside0 (wc.heap[gb853]? = some (.cells #[.bool a1_0, (.slice A1_1 l1_1.length c1_1), (.slice A1_2 l1_2.length c1_2)] 30 (0, 0))) ∧ Aside0 (wc.heap[gb879]? = some (.cells #[.bool t872, (.slice Ao47 t873.length co47), (.slice Ao48 t876.length co48)] 24 (0, 0))) ∧ Aside0 (wc.heap[gb887]? = some (.cells #[.bool t880, (.slice Ao56 t881.length co56), (.slice Ao57 t884.length co57)] 24 (0, 0))) ∧ Aside0 (Below w.heap.size w wc))
   case first =>
    have H := HC25.out
    clear HC25
    by_cases c62 : t888 = t870
    ·
     rw [if_pos c62] at H
     have c62b0 : (t888 == t870) = true := beq_iff_eq.mpr c62
     have c62b1 : (t888 != t870) = false := bne_eq_false_iff_eq.mpr c62
     clear c62
     (first | rw [c62b0] | (simp only [i64_w, i32_w]; rw [c62b0]) | skip)
     have H' := Aside0.mk H
     clear H
     go_wp2
     go_meet
     case rel => exact ⟨_, ((t889 != t871)), (by first | rfl | (simp; done) | (simp [*]; done)), H', ⟨by first | omega | exact Nat.le_refl _⟩, ⟨by (with_reducible repeat (first | apply zzR1 | apply zzR2 | apply zzR3)); exact Kd.R_mono HO875.out (fun _ hk => ⟨hk.2.2.1, ⟨hk.2.2.2.1, hk.2.2.2.2⟩⟩)⟩, ⟨by (with_reducible repeat (first | apply zzR1 | apply zzR2 | apply zzR3)); exact Kd.R_mono HO878.out (fun _ hk => ⟨hk.2.2.1, ⟨hk.2.2.2.1, hk.2.2.2.2⟩⟩)⟩, ⟨by (with_reducible repeat (first | apply zzR1 | apply zzR2 | apply zzR3)); exact Kd.R_mono HO883.out (fun _ hk => ⟨hk.2.2.1, ⟨hk.2.2.2.1, hk.2.2.2.2⟩⟩)⟩, ⟨by (with_reducible repeat (first | apply zzR1 | apply zzR2 | apply zzR3)); exact Kd.R_mono HO886.out (fun _ hk => ⟨hk.2.2.1, ⟨hk.2.2.2.1, hk.2.2.2.2⟩⟩)⟩, ⟨by (with_reducible repeat (first | refine zzk1 ?_ _ | refine zzk2 ?_ | refine zzk3 ?_ _)); exact BK852.out⟩, ⟨by (with_reducible repeat (first | refine zzk1 ?_ _ | refine zzk2 ?_ | refine zzk3 ?_ _)); exact BK853.out⟩, ⟨by (with_reducible repeat (first | refine zzk1 ?_ _ | refine zzk2 ?_ | refine zzk3 ?_ _)); exact BK879.out⟩, ⟨by (with_reducible repeat (first | refine zzk1 ?_ _ | refine zzk2 ?_ | refine zzk3 ?_ _)); exact BK887.out⟩, ⟨by repeat (first | (with_reducible first | exact HB.out | apply zzb1 | apply zzb2 | apply zzb3 | refine below_set ?_ GE852.out | refine below_set ?_ GE853.out | refine below_set ?_ GE879.out | refine below_set ?_ GE887.out) | exact HB.out)⟩⟩
    ·
     rw [if_neg c62] at H
     have c62b0 : (t888 == t870) = false := beq_eq_false_iff_ne.mpr c62
     have c62b1 : (t888 != t870) = true := bne_iff_ne.mpr c62
     (first | rw [c62b0] | (simp only [i64_w, i32_w]; rw [c62b0]) | skip)
     have H' := Aside0.mk H
     clear H
     go_wp2
     go_meet
     case rel => exact ⟨_, (true), (by first | rfl | (simp; done) | (simp [*]; done)), H', ⟨by first | omega | exact Nat.le_refl _⟩, ⟨by (with_reducible repeat (first | apply zzR1 | apply zzR2 | apply zzR3)); exact Kd.R_mono HO875.out (fun _ hk => ⟨hk.2.2.1, ⟨hk.2.2.2.1, hk.2.2.2.2⟩⟩)⟩, ⟨by (with_reducible repeat (first | apply zzR1 | apply zzR2 | apply zzR3)); exact Kd.R_mono HO878.out (fun _ hk => ⟨hk.2.2.1, ⟨hk.2.2.2.1, hk.2.2.2.2⟩⟩)⟩, ⟨by (with_reducible repeat (first | apply zzR1 | apply zzR2 | apply zzR3)); exact Kd.R_mono HO883.out (fun _ hk => ⟨hk.2.2.1, ⟨hk.2.2.2.1, hk.2.2.2.2⟩⟩)⟩, ⟨by (with_reducible repeat (first | apply zzR1 | apply zzR2 | apply zzR3)); exact Kd.R_mono HO886.out (fun _ hk => ⟨hk.2.2.1, ⟨hk.2.2.2.1, hk.2.2.2.2⟩⟩)⟩, ⟨by (with_reducible repeat (first | refine zzk1 ?_ _ | refine zzk2 ?_ | refine zzk3 ?_ _)); exact BK852.out⟩, ⟨by (with_reducible repeat (first | refine zzk1 ?_ _ | refine zzk2 ?_ | refine zzk3 ?_ _)); exact BK853.out⟩, ⟨by (with_reducible repeat (first | refine zzk1 ?_ _ | refine zzk2 ?_ | refine zzk3 ?_ _)); exact BK879.out⟩, ⟨by (with_reducible repeat (first | refine zzk1 ?_ _ | refine zzk2 ?_ | refine zzk3 ?_ _)); exact BK887.out⟩, ⟨by repeat (first | (with_reducible first | exact HB.out | apply zzb1 | apply zzb2 | apply zzb3 | refine below_set ?_ GE852.out | refine below_set ?_ GE853.out | refine below_set ?_ GE879.out | refine below_set ?_ GE887.out) | exact HB.out)⟩⟩
   case rest =>
    clear HC25
    try clear c1
    try clear c2
    try clear p2
    try clear c4
    try clear c4b0
    try clear c5
    try clear c6
    try clear c7
    try clear c11
    try clear c11b0
    try clear c14
    try clear c20
    try clear c22
    try clear c26
    try clear c27
    try clear c28
    try clear c44
    try clear c45
    try clear c52
    try clear c53
    try clear c54
    try clear c62
    try clear c62b0
    try clear c62b1
    try clear hcz15_0
    try clear hcz15_1
    try clear hcz15_2
    try clear hcz17_0
    try clear hcz17_1
    try clear hcz17_2
    try clear hcz29_0
    try clear hcz29_1
    try clear hcz29_2
    try clear hcz31_0
    try clear hcz31_1
    try clear hcz31_2
    try clear hcz41_0
    try clear hcz41_1
    try clear hcz41_2
    try clear hcz46_0
    try clear hcz46_1
    try clear hcz46_2
    try clear hcz49_0
    try clear hcz49_1
    try clear hcz49_2
    try clear hcz55_0
    try clear hcz55_1
    try clear hcz55_2
    try clear hcz59_0
    try clear hcz59_1
    try clear hcz59_2
    try clear hcz60_0
    try clear hcz60_1
    try clear hcz60_2
    try clear hcz8_0
    try clear hcz8_1
    try clear hcz8_2
    try clear hfz15_0
    try clear hfz15_1
    try clear hfz15_2
    try clear hfz17_0
    try clear hfz17_1
    try clear hfz17_2
    try clear hfz29_0
    try clear hfz29_1
    try clear hfz29_2
    try clear hfz31_0
    try clear hfz31_1
    try clear hfz31_2
    try clear hfz41_0
    try clear hfz41_1
    try clear hfz41_2
    try clear hfz46_0
    try clear hfz46_1
    try clear hfz46_2
    try clear hfz49_0
    try clear hfz49_1
    try clear hfz49_2
    try clear hfz55_0
    try clear hfz55_1
    try clear hfz55_2
    try clear hfz59_0
    try clear hfz59_1
    try clear hfz59_2
    try clear hfz60_0
    try clear hfz60_1
    try clear hfz60_2
    try clear hfz8_0
    try clear hfz8_1
    try clear hfz8_2
    obtain ⟨kq, x47_24, rfl, HA, HJ24, HO_880001, HO_880002, HO_888001, HO_888002, BK852, BK853, BK879, BK887, HB⟩ := hcut
    cases kq with
    | zero => exact absurd HA.out (by simp [laws_FnExactCmpRat.j0])
    | succ kj24 =>
     have H := HA.out
     clear HA
     simp only [laws_FnExactCmpRat.j0] at H
     by_cases c63 : x47_24 = true
     ·
      subst c63
      have H1 : (some false) = some r := by rw [if_pos rfl] at H; exact H
      clear H
      have H := H1
      clear H1
      obtain rfl := Option.some.inj H
      exact absurd hr_ (by decide)
     ·
      replace c63 := Bool.eq_false_iff.mpr c63
      subst c63
      have H1 : ((laws_toRat.f kj24 a0_0 l0_1 l0_2).bind fun bt890 => ((laws_eqRat.f kj24 t872 t873 t876 bt890.1 bt890.2.1 bt890.2.2).bind fun t897 => (if t897 = true then ((laws_toRat.f kj24 a1_0 l1_1 l1_2).bind fun bt898 => ((laws_eqRat.f kj24 t880 t881 t884 bt898.1 bt898.2.1 bt898.2.2).bind fun t905 => (if t905 = true then (some true) else (some false)))) else (some false)))) = some r := by rw [if_neg (show ¬ (false = true) by decide)] at H; exact H
      clear H
      have H := H1
      clear H1
      replace H := Option.bind_eq_some_iff.mp H
      obtain ⟨⟨t890, t891, t894⟩, A640, H⟩ := H
      replace H : ((laws_eqRat.f kj24 t872 t873 t876 t890 t891 t894).bind fun t897 => (if t897 = true then ((laws_toRat.f kj24 a1_0 l1_1 l1_2).bind fun bt898 => ((laws_eqRat.f kj24 t880 t881 t884 bt898.1 bt898.2.1 bt898.2.2).bind fun t905 => (if t905 = true then (some true) else (some false)))) else (some false))) = some r := H
      have A64 := Aside0.mk A640
      clear A640
      replace H := Option.bind_eq_some_iff.mp H
      obtain ⟨t897, A650, H⟩ := H
      replace H : (if t897 = true then ((laws_toRat.f kj24 a1_0 l1_1 l1_2).bind fun bt898 => ((laws_eqRat.f kj24 t880 t881 t884 bt898.1 bt898.2.1 bt898.2.2).bind fun t905 => (if t905 = true then (some true) else (some false)))) else (some false)) = some r := H
      have A65 := Aside0.mk A650
      clear A650
      by_cases c66 : t897 = true
      ·
       subst c66
       have H1 : ((laws_toRat.f kj24 a1_0 l1_1 l1_2).bind fun bt898 => ((laws_eqRat.f kj24 t880 t881 t884 bt898.1 bt898.2.1 bt898.2.2).bind fun t905 => (if t905 = true then (some true) else (some false)))) = some r := by rw [if_pos rfl] at H; exact H
       clear H
       have H := H1
       clear H1
       replace H := Option.bind_eq_some_iff.mp H
       obtain ⟨⟨t898, t899, t902⟩, A670, H⟩ := H
       replace H : ((laws_eqRat.f kj24 t880 t881 t884 t898 t899 t902).bind fun t905 => (if t905 = true then (some true) else (some false))) = some r := H
       have A67 := Aside0.mk A670
       clear A670
       replace H := Option.bind_eq_some_iff.mp H
       obtain ⟨t905, A680, H⟩ := H
       replace H : (if t905 = true then (some true) else (some false)) = some r := H
       have A68 := Aside0.mk A680
       clear A680
       by_cases c69 : t905 = true
       ·
        subst c69
        have H1 : (some true) = some r := by rw [if_pos rfl] at H; exact H
        clear H
        have H := H1
        clear H1
        obtain rfl := Option.some.inj H
        try go_wp2
        have n0_ := Aside0.mk (Kd.R_drew HO_880001.out)
        have n1_ := Aside0.mk (Kd.R_drew HO_880002.out)
        have n2_ := Aside0.mk (Kd.R_drew HO_888001.out)
        have n3_ := Aside0.mk (Kd.R_drew HO_888002.out)
        have n4_ := Aside0.mk (blk_drew BK852.out)
        have n5_ := Aside0.mk (blk_drew BK853.out)
        have n6_ := Aside0.mk (blk_drew BK879.out)
        have n7_ := Aside0.mk (blk_drew BK887.out)
        have n8_ := Aside0.mk (below_drew1 HB.out)
        clear HO_880001
        clear HO_880002
        clear HO_888001
        clear HO_888002
        clear BK852
        clear BK853
        clear BK879
        clear BK887
        clear HB
        have HO_880001 := n0_
        have HO_880002 := n1_
        have HO_888001 := n2_
        have HO_888002 := n3_
        have BK852 := n4_
        have BK853 := n5_
        have BK879 := n6_
        have BK887 := n7_
        have HB := n8_
        clear n0_ n1_ n2_ n3_ n4_ n5_ n6_ n7_ n8_
        refine start_ (n := 5) (S := fun w' => w'.cell? ⟨gb879, 0, none⟩ = some (.bool t872) ∧ w'.cell? ⟨gb879, 1, none⟩ = some (.slice Ao47 t873.length co47) ∧ w'.cell? ⟨gb879, 2, none⟩ = some (.slice Ao48 t876.length co48) ∧ w'.cell? ⟨gb852, 0, none⟩ = some (.bool a0_0) ∧ w'.cell? ⟨gb852, 1, none⟩ = some (.slice A0_1 l0_1.length c0_1) ∧ w'.cell? ⟨gb852, 2, none⟩ = some (.slice A0_2 l0_2.length c0_2)) (ds := []) #[false, false, false, false, false] (by kernel_rfl) rfl rfl ⟨(blk_cell BK879.out 0).trans rfl, (blk_cell BK879.out 1).trans rfl, (blk_cell BK879.out 2).trans rfl, (blk_cell BK852.out 0).trans rfl, (blk_cell BK852.out 1).trans rfl, (blk_cell BK852.out 2).trans rfl⟩ (fun hHeld => ?_)
        generalize wc.drew = w70 at HO_880001 HO_880002 HO_888001 HO_888002 BK852 BK853 BK879 BK887 HB hHeld ⊢
        refine take_ (i := 0) (N := some 48) (v := ?_) (a' := ?_) #[true, false, false, false, false] rfl rfl (by kernel_rfl) (fun _ _ _ h => h) (Or.inl ⟨by rfl, ?_⟩) hHeld ?_ ?_
        rotate_left
        ·
         rintro w' ⟨s0, s1, s2, s3, s4, s5⟩
         go_simp
         with_reducible rfl
        rotate_left
        ·
         simp only [Act.put, zz7, zz8, zz9, i64_w, i32_w]
         rfl
        refine take_ (i := 1) (N := some 49) (v := ?_) (a' := ?_) #[true, true, false, false, false] rfl rfl (by kernel_rfl) (fun _ _ _ h => h) (Or.inl ⟨by rfl, ?_⟩) hHeld ?_ ?_
        rotate_left
        ·
         rintro w' ⟨s0, s1, s2, s3, s4, s5⟩
         go_simp
         with_reducible rfl
        rotate_left
        ·
         simp only [Act.put, zz7, zz8, zz9, i64_w, i32_w]
         rfl
        refine one_ (i := 2) (N := some 50) #[true, true, true, false, false] rfl rfl (by kernel_rfl) (by decide) (fun K hK => ?_)
        refine goes_ Try.func22 (by kernel_rfl) rfl #[.agg #[.bool a0_0, .slice A0_1 l0_1.length c0_1, .slice A0_2 l0_2.length c0_2]] (by rfl) rfl rfl (by (try simp only [zz4, zz5, zz6]); first | done | rfl | (simp only [zza, zzb]; rfl)) ?_
        with_reducible refine (laws_toRat.calls kj24 a0_0 _ _ l0_1 _ _ l0_2 t890 t891 t894 _ ?side1 ?side2 ?side3 ?side4 A64.out).mono ?_
        (case side1 => repeat (first | exact (Kd.C_below HR0_1.out HB.out) | (with_reducible refine zzC1 ?_ _) | (with_reducible refine zzC2 ?_ _) | (with_reducible refine zzC3 ?_)))
        (case side2 => exact HC0_1.out)
        (case side3 => repeat (first | exact (Kd.C_below HR0_2.out HB.out) | (with_reducible refine zzC1 ?_ _) | (with_reducible refine zzC2 ?_ _) | (with_reducible refine zzC3 ?_)))
        (case side4 => exact HC0_2.out)
        rintro e w71 ⟨v892, v895, rfl, ho0, ho1, hb⟩
        refine ⟨_, rfl, ?_⟩
        have n0_ := Aside0.mk (Kd.R_mono (Kd.R_told (Kd.R_told (Kd.R_old (by (with_reducible repeat (first | apply zzR1 | apply zzR2 | apply zzR3)); exact HO_880001.out) hb) (Kd.R_base ho0)) (Kd.R_base ho1)) (fun _ h_ => h_.1))
        have n1_ := Aside0.mk (Kd.R_mono (Kd.R_told (Kd.R_told (Kd.R_old (by (with_reducible repeat (first | apply zzR1 | apply zzR2 | apply zzR3)); exact HO_880002.out) hb) (Kd.R_base ho0)) (Kd.R_base ho1)) (fun _ h_ => h_.1))
        have n2_ := Aside0.mk (Kd.R_mono (Kd.R_told (Kd.R_told (Kd.R_old (by (with_reducible repeat (first | apply zzR1 | apply zzR2 | apply zzR3)); exact HO_888001.out) hb) (Kd.R_base ho0)) (Kd.R_base ho1)) (fun _ h_ => h_.1))
        have n3_ := Aside0.mk (Kd.R_mono (Kd.R_told (Kd.R_told (Kd.R_old (by (with_reducible repeat (first | apply zzR1 | apply zzR2 | apply zzR3)); exact HO_888002.out) hb) (Kd.R_base ho0)) (Kd.R_base ho1)) (fun _ h_ => h_.1))
        have n4_ := Aside0.mk (Kd.R_lower (Kd.R_new' (Kd.R_new' (Kd.R_new' (Kd.R_new' ho0 (Kd.R_lt (by (with_reducible repeat (first | apply zzR1 | apply zzR2 | apply zzR3)); exact HO_880001.out))) (Kd.R_lt (by (with_reducible repeat (first | apply zzR1 | apply zzR2 | apply zzR3)); exact HO_880002.out))) (Kd.R_lt (by (with_reducible repeat (first | apply zzR1 | apply zzR2 | apply zzR3)); exact HO_888001.out))) (Kd.R_lt (by (with_reducible repeat (first | apply zzR1 | apply zzR2 | apply zzR3)); exact HO_888002.out))) (below_size (by repeat (first | (with_reducible first | exact HB.out | apply zzb1 | apply zzb2 | apply zzb3 | refine below_set ?_ GE852.out | refine below_set ?_ GE853.out | refine below_set ?_ GE879.out | refine below_set ?_ GE887.out) | exact HB.out))))
        have n5_ := Aside0.mk (Kd.R_lower (Kd.R_new' (Kd.R_new' (Kd.R_new' (Kd.R_new' ho1 (Kd.R_lt (by (with_reducible repeat (first | apply zzR1 | apply zzR2 | apply zzR3)); exact HO_880001.out))) (Kd.R_lt (by (with_reducible repeat (first | apply zzR1 | apply zzR2 | apply zzR3)); exact HO_880002.out))) (Kd.R_lt (by (with_reducible repeat (first | apply zzR1 | apply zzR2 | apply zzR3)); exact HO_888001.out))) (Kd.R_lt (by (with_reducible repeat (first | apply zzR1 | apply zzR2 | apply zzR3)); exact HO_888002.out))) (below_size (by repeat (first | (with_reducible first | exact HB.out | apply zzb1 | apply zzb2 | apply zzb3 | refine below_set ?_ GE852.out | refine below_set ?_ GE853.out | refine below_set ?_ GE879.out | refine below_set ?_ GE887.out) | exact HB.out))))
        have n6_ := Aside0.mk (blk_below (g := gb852) (o := .cells #[.bool a0_0, .slice A0_1 l0_1.length c0_1, .slice A0_2 l0_2.length c0_2] 30 (0, 0)) (by (with_reducible repeat (first | refine zzk1 ?_ _ | refine zzk2 ?_ | refine zzk3 ?_ _)); exact BK852.out) hb)
        have n7_ := Aside0.mk (blk_below (g := gb853) (o := .cells #[.bool a1_0, .slice A1_1 l1_1.length c1_1, .slice A1_2 l1_2.length c1_2] 30 (0, 0)) (by (with_reducible repeat (first | refine zzk1 ?_ _ | refine zzk2 ?_ | refine zzk3 ?_ _)); exact BK853.out) hb)
        have n8_ := Aside0.mk (blk_below (g := gb879) (o := .cells #[.bool t872, .slice Ao47 t873.length co47, .slice Ao48 t876.length co48] 24 (0, 0)) (by (with_reducible repeat (first | refine zzk1 ?_ _ | refine zzk2 ?_ | refine zzk3 ?_ _)); exact BK879.out) hb)
        have n9_ := Aside0.mk (blk_below (g := gb887) (o := .cells #[.bool t880, .slice Ao56 t881.length co56, .slice Ao57 t884.length co57] 24 (0, 0)) (by (with_reducible repeat (first | refine zzk1 ?_ _ | refine zzk2 ?_ | refine zzk3 ?_ _)); exact BK887.out) hb)
        have n10_ := Aside0.mk (below_step (by repeat (first | (with_reducible first | exact HB.out | apply zzb1 | apply zzb2 | apply zzb3 | refine below_set ?_ GE852.out | refine below_set ?_ GE853.out | refine below_set ?_ GE879.out | refine below_set ?_ GE887.out) | exact HB.out)) hb)
        clear HO_880001
        clear HO_880002
        clear HO_888001
        clear HO_888002
        clear BK852
        clear BK853
        clear BK879
        clear BK887
        clear HB
        have HO_880001 := n0_
        have HO_880002 := n1_
        have HO_888001 := n2_
        have HO_888002 := n3_
        have HO893 := n4_
        have HO896 := n5_
        have BK852 := n6_
        have BK853 := n7_
        have BK879 := n8_
        have BK887 := n9_
        have HB := n10_
        clear n0_ n1_ n2_ n3_ n4_ n5_ n6_ n7_ n8_ n9_ n10_
        (try clear hb)
        (try clear hb2)
        (try clear hk)
        (try clear hi)
        (try clear ho0)
        (try clear ho1)
        obtain ⟨Ao72, co72, eo72⟩ := Kd.R_slice HO893.out
        (first | subst eo72 | (injection eo72 with f1_ f2_ f3_; have f4_ := f1_.symm; have f5_ := f3_.symm; clear f1_ f2_ f3_; subst f4_; subst f5_))
        obtain ⟨Ao73, co73, eo73⟩ := Kd.R_slice HO896.out
        (first | subst eo73 | (injection eo73 with f1_ f2_ f3_; have f4_ := f1_.symm; have f5_ := f3_.symm; clear f1_ f2_ f3_; subst f4_; subst f5_))
        refine hK.out _ _ ⟨(blk_cell BK879.out 0).trans rfl, (blk_cell BK879.out 1).trans rfl, (blk_cell BK879.out 2).trans rfl, (blk_cell BK852.out 0).trans rfl, (blk_cell BK852.out 1).trans rfl, (blk_cell BK852.out 2).trans rfl⟩ (fun hHeld => ?_)
        clear hK K
        refine norm_ (a' := ?_) ?_ ?_
        rotate_left
        ·
         show Act.put _ (some 50) _ = _
         simp only [Act.put, zz7, zz8, zz9, i64_w, i32_w]
         rfl
        refine one_ (i := 3) (N := some 51) #[true, true, true, true, false] rfl rfl (by kernel_rfl) (by decide) (fun K hK => ?_)
        refine goes_ Try.func17 (by kernel_rfl) rfl #[.agg #[.bool t872, .slice Ao47 t873.length co47, .slice Ao48 t876.length co48], .agg #[.bool t890, .slice Ao72 t891.length co72, .slice Ao73 t894.length co73]] (by rfl) rfl rfl (by (try simp only [zz4, zz5, zz6]); first | done | rfl | (simp only [zza, zzb]; rfl)) ?_
        with_reducible refine (laws_eqRat.calls kj24 t872 _ _ t873 _ _ t876 t890 _ _ t891 _ _ t894 true _ ?side1 ?side2 ?side3 ?side4 ?side5 ?side6 ?side7 ?side8 A65.out).mono ?_
        (case side1 => repeat (first | exact (Kd.R_reads' HO_880001.out).2.2 | (with_reducible refine zzC1 ?_ _) | (with_reducible refine zzC2 ?_ _) | (with_reducible refine zzC3 ?_)))
        (case side2 => exact (Kd.R_reads' HO_880001.out).2.1)
        (case side3 => repeat (first | exact (Kd.R_reads' HO_880002.out).2.2 | (with_reducible refine zzC1 ?_ _) | (with_reducible refine zzC2 ?_ _) | (with_reducible refine zzC3 ?_)))
        (case side4 => exact (Kd.R_reads' HO_880002.out).2.1)
        (case side5 => repeat (first | exact (Kd.R_reads' HO893.out).2.2 | (with_reducible refine zzC1 ?_ _) | (with_reducible refine zzC2 ?_ _) | (with_reducible refine zzC3 ?_)))
        (case side6 => exact (Kd.R_reads' HO893.out).2.1)
        (case side7 => repeat (first | exact (Kd.R_reads' HO896.out).2.2 | (with_reducible refine zzC1 ?_ _) | (with_reducible refine zzC2 ?_ _) | (with_reducible refine zzC3 ?_)))
        (case side8 => exact (Kd.R_reads' HO896.out).2.1)
        rintro e w74 ⟨rfl, hb⟩
        refine ⟨_, rfl, ?_⟩
        have n0_ := Aside0.mk (Kd.R_below (by (with_reducible repeat (first | apply zzR1 | apply zzR2 | apply zzR3)); exact HO_880001.out) hb)
        have n1_ := Aside0.mk (Kd.R_below (by (with_reducible repeat (first | apply zzR1 | apply zzR2 | apply zzR3)); exact HO_880002.out) hb)
        have n2_ := Aside0.mk (Kd.R_below (by (with_reducible repeat (first | apply zzR1 | apply zzR2 | apply zzR3)); exact HO_888001.out) hb)
        have n3_ := Aside0.mk (Kd.R_below (by (with_reducible repeat (first | apply zzR1 | apply zzR2 | apply zzR3)); exact HO_888002.out) hb)
        have n4_ := Aside0.mk (Kd.R_below (by (with_reducible repeat (first | apply zzR1 | apply zzR2 | apply zzR3)); exact HO893.out) hb)
        have n5_ := Aside0.mk (Kd.R_below (by (with_reducible repeat (first | apply zzR1 | apply zzR2 | apply zzR3)); exact HO896.out) hb)
        have n6_ := Aside0.mk (blk_below (g := gb852) (o := .cells #[.bool a0_0, .slice A0_1 l0_1.length c0_1, .slice A0_2 l0_2.length c0_2] 30 (0, 0)) (by (with_reducible repeat (first | refine zzk1 ?_ _ | refine zzk2 ?_ | refine zzk3 ?_ _)); exact BK852.out) hb)
        have n7_ := Aside0.mk (blk_below (g := gb853) (o := .cells #[.bool a1_0, .slice A1_1 l1_1.length c1_1, .slice A1_2 l1_2.length c1_2] 30 (0, 0)) (by (with_reducible repeat (first | refine zzk1 ?_ _ | refine zzk2 ?_ | refine zzk3 ?_ _)); exact BK853.out) hb)
        have n8_ := Aside0.mk (blk_below (g := gb879) (o := .cells #[.bool t872, .slice Ao47 t873.length co47, .slice Ao48 t876.length co48] 24 (0, 0)) (by (with_reducible repeat (first | refine zzk1 ?_ _ | refine zzk2 ?_ | refine zzk3 ?_ _)); exact BK879.out) hb)
        have n9_ := Aside0.mk (blk_below (g := gb887) (o := .cells #[.bool t880, .slice Ao56 t881.length co56, .slice Ao57 t884.length co57] 24 (0, 0)) (by (with_reducible repeat (first | refine zzk1 ?_ _ | refine zzk2 ?_ | refine zzk3 ?_ _)); exact BK887.out) hb)
        have n10_ := Aside0.mk (below_step (by repeat (first | (with_reducible first | exact HB.out | apply zzb1 | apply zzb2 | apply zzb3 | refine below_set ?_ GE852.out | refine below_set ?_ GE853.out | refine below_set ?_ GE879.out | refine below_set ?_ GE887.out) | exact HB.out)) hb)
        clear HO_880001
        clear HO_880002
        clear HO_888001
        clear HO_888002
        clear HO893
        clear HO896
        clear BK852
        clear BK853
        clear BK879
        clear BK887
        clear HB
        have HO_880001 := n0_
        have HO_880002 := n1_
        have HO_888001 := n2_
        have HO_888002 := n3_
        have HO893 := n4_
        have HO896 := n5_
        have BK852 := n6_
        have BK853 := n7_
        have BK879 := n8_
        have BK887 := n9_
        have HB := n10_
        clear n0_ n1_ n2_ n3_ n4_ n5_ n6_ n7_ n8_ n9_ n10_
        (try clear hb)
        (try clear hb2)
        (try clear hk)
        (try clear hi)
        refine hK.out _ _ ⟨(blk_cell BK879.out 0).trans rfl, (blk_cell BK879.out 1).trans rfl, (blk_cell BK879.out 2).trans rfl, (blk_cell BK852.out 0).trans rfl, (blk_cell BK852.out 1).trans rfl, (blk_cell BK852.out 2).trans rfl⟩ (fun hHeld => ?_)
        clear hK K
        refine norm_ (a' := ?_) ?_ ?_
        rotate_left
        ·
         show Act.put _ (some 51) _ = _
         simp only [Act.put, zz7, zz8, zz9, i64_w, i32_w]
         rfl
        refine pure_ (i := 4) (N := some 52) (v := ?_) (a' := ?_) #[true, true, true, true, true] rfl rfl (by kernel_rfl) (fun _ _ _ h => h) (Or.inl ⟨by rfl, ?_⟩) ?_ ?_
        rotate_left
        ·
         intro w'
         go_simp
         with_reducible rfl
        rotate_left
        ·
         simp only [Act.put, zz7, zz8, zz9, i64_w, i32_w]
         rfl
        refine done_ (by kernel_rfl) ?_
        try go_wp2
        have n0_ := Aside0.mk (Kd.R_drew HO_880001.out)
        have n1_ := Aside0.mk (Kd.R_drew HO_880002.out)
        have n2_ := Aside0.mk (Kd.R_drew HO_888001.out)
        have n3_ := Aside0.mk (Kd.R_drew HO_888002.out)
        have n4_ := Aside0.mk (Kd.R_drew HO893.out)
        have n5_ := Aside0.mk (Kd.R_drew HO896.out)
        have n6_ := Aside0.mk (blk_drew BK852.out)
        have n7_ := Aside0.mk (blk_drew BK853.out)
        have n8_ := Aside0.mk (blk_drew BK879.out)
        have n9_ := Aside0.mk (blk_drew BK887.out)
        have n10_ := Aside0.mk (below_drew1 HB.out)
        clear HO_880001
        clear HO_880002
        clear HO_888001
        clear HO_888002
        clear HO893
        clear HO896
        clear BK852
        clear BK853
        clear BK879
        clear BK887
        clear HB
        have HO_880001 := n0_
        have HO_880002 := n1_
        have HO_888001 := n2_
        have HO_888002 := n3_
        have HO893 := n4_
        have HO896 := n5_
        have BK852 := n6_
        have BK853 := n7_
        have BK879 := n8_
        have BK887 := n9_
        have HB := n10_
        clear n0_ n1_ n2_ n3_ n4_ n5_ n6_ n7_ n8_ n9_ n10_
        refine start_ (n := 5) (S := fun w' => w'.cell? ⟨gb887, 0, none⟩ = some (.bool t880) ∧ w'.cell? ⟨gb887, 1, none⟩ = some (.slice Ao56 t881.length co56) ∧ w'.cell? ⟨gb887, 2, none⟩ = some (.slice Ao57 t884.length co57) ∧ w'.cell? ⟨gb853, 0, none⟩ = some (.bool a1_0) ∧ w'.cell? ⟨gb853, 1, none⟩ = some (.slice A1_1 l1_1.length c1_1) ∧ w'.cell? ⟨gb853, 2, none⟩ = some (.slice A1_2 l1_2.length c1_2)) (ds := []) #[false, false, false, false, false] (by kernel_rfl) rfl rfl ⟨(blk_cell BK887.out 0).trans rfl, (blk_cell BK887.out 1).trans rfl, (blk_cell BK887.out 2).trans rfl, (blk_cell BK853.out 0).trans rfl, (blk_cell BK853.out 1).trans rfl, (blk_cell BK853.out 2).trans rfl⟩ (fun hHeld => ?_)
        generalize w74.drew = w75 at HO_880001 HO_880002 HO_888001 HO_888002 HO893 HO896 BK852 BK853 BK879 BK887 HB hHeld ⊢
        refine take_ (i := 0) (N := some 53) (v := ?_) (a' := ?_) #[true, false, false, false, false] rfl rfl (by kernel_rfl) (fun _ _ _ h => h) (Or.inl ⟨by rfl, ?_⟩) hHeld ?_ ?_
        rotate_left
        ·
         rintro w' ⟨s0, s1, s2, s3, s4, s5⟩
         go_simp
         with_reducible rfl
        rotate_left
        ·
         simp only [Act.put, zz7, zz8, zz9, i64_w, i32_w]
         rfl
        refine take_ (i := 1) (N := some 54) (v := ?_) (a' := ?_) #[true, true, false, false, false] rfl rfl (by kernel_rfl) (fun _ _ _ h => h) (Or.inl ⟨by rfl, ?_⟩) hHeld ?_ ?_
        rotate_left
        ·
         rintro w' ⟨s0, s1, s2, s3, s4, s5⟩
         go_simp
         with_reducible rfl
        rotate_left
        ·
         simp only [Act.put, zz7, zz8, zz9, i64_w, i32_w]
         rfl
        refine one_ (i := 2) (N := some 55) #[true, true, true, false, false] rfl rfl (by kernel_rfl) (by decide) (fun K hK => ?_)
        refine goes_ Try.func22 (by kernel_rfl) rfl #[.agg #[.bool a1_0, .slice A1_1 l1_1.length c1_1, .slice A1_2 l1_2.length c1_2]] (by rfl) rfl rfl (by (try simp only [zz4, zz5, zz6]); first | done | rfl | (simp only [zza, zzb]; rfl)) ?_
        with_reducible refine (laws_toRat.calls kj24 a1_0 _ _ l1_1 _ _ l1_2 t898 t899 t902 _ ?side1 ?side2 ?side3 ?side4 A67.out).mono ?_
        (case side1 => repeat (first | exact (Kd.C_below HR1_1.out HB.out) | (with_reducible refine zzC1 ?_ _) | (with_reducible refine zzC2 ?_ _) | (with_reducible refine zzC3 ?_)))
        (case side2 => exact HC1_1.out)
        (case side3 => repeat (first | exact (Kd.C_below HR1_2.out HB.out) | (with_reducible refine zzC1 ?_ _) | (with_reducible refine zzC2 ?_ _) | (with_reducible refine zzC3 ?_)))
        (case side4 => exact HC1_2.out)
        rintro e w76 ⟨v900, v903, rfl, ho0, ho1, hb⟩
        refine ⟨_, rfl, ?_⟩
        have n0_ := Aside0.mk (Kd.R_mono (Kd.R_told (Kd.R_told (Kd.R_old (by (with_reducible repeat (first | apply zzR1 | apply zzR2 | apply zzR3)); exact HO_880001.out) hb) (Kd.R_base ho0)) (Kd.R_base ho1)) (fun _ h_ => h_.1))
        have n1_ := Aside0.mk (Kd.R_mono (Kd.R_told (Kd.R_told (Kd.R_old (by (with_reducible repeat (first | apply zzR1 | apply zzR2 | apply zzR3)); exact HO_880002.out) hb) (Kd.R_base ho0)) (Kd.R_base ho1)) (fun _ h_ => h_.1))
        have n2_ := Aside0.mk (Kd.R_mono (Kd.R_told (Kd.R_told (Kd.R_old (by (with_reducible repeat (first | apply zzR1 | apply zzR2 | apply zzR3)); exact HO_888001.out) hb) (Kd.R_base ho0)) (Kd.R_base ho1)) (fun _ h_ => h_.1))
        have n3_ := Aside0.mk (Kd.R_mono (Kd.R_told (Kd.R_told (Kd.R_old (by (with_reducible repeat (first | apply zzR1 | apply zzR2 | apply zzR3)); exact HO_888002.out) hb) (Kd.R_base ho0)) (Kd.R_base ho1)) (fun _ h_ => h_.1))
        have n4_ := Aside0.mk (Kd.R_mono (Kd.R_told (Kd.R_told (Kd.R_old (by (with_reducible repeat (first | apply zzR1 | apply zzR2 | apply zzR3)); exact HO893.out) hb) (Kd.R_base ho0)) (Kd.R_base ho1)) (fun _ h_ => h_.1))
        have n5_ := Aside0.mk (Kd.R_mono (Kd.R_told (Kd.R_told (Kd.R_old (by (with_reducible repeat (first | apply zzR1 | apply zzR2 | apply zzR3)); exact HO896.out) hb) (Kd.R_base ho0)) (Kd.R_base ho1)) (fun _ h_ => h_.1))
        have n6_ := Aside0.mk (Kd.R_lower (Kd.R_new' (Kd.R_new' (Kd.R_new' (Kd.R_new' (Kd.R_new' (Kd.R_new' ho0 (Kd.R_lt (by (with_reducible repeat (first | apply zzR1 | apply zzR2 | apply zzR3)); exact HO_880001.out))) (Kd.R_lt (by (with_reducible repeat (first | apply zzR1 | apply zzR2 | apply zzR3)); exact HO_880002.out))) (Kd.R_lt (by (with_reducible repeat (first | apply zzR1 | apply zzR2 | apply zzR3)); exact HO_888001.out))) (Kd.R_lt (by (with_reducible repeat (first | apply zzR1 | apply zzR2 | apply zzR3)); exact HO_888002.out))) (Kd.R_lt (by (with_reducible repeat (first | apply zzR1 | apply zzR2 | apply zzR3)); exact HO893.out))) (Kd.R_lt (by (with_reducible repeat (first | apply zzR1 | apply zzR2 | apply zzR3)); exact HO896.out))) (below_size (by repeat (first | (with_reducible first | exact HB.out | apply zzb1 | apply zzb2 | apply zzb3 | refine below_set ?_ GE852.out | refine below_set ?_ GE853.out | refine below_set ?_ GE879.out | refine below_set ?_ GE887.out) | exact HB.out))))
        have n7_ := Aside0.mk (Kd.R_lower (Kd.R_new' (Kd.R_new' (Kd.R_new' (Kd.R_new' (Kd.R_new' (Kd.R_new' ho1 (Kd.R_lt (by (with_reducible repeat (first | apply zzR1 | apply zzR2 | apply zzR3)); exact HO_880001.out))) (Kd.R_lt (by (with_reducible repeat (first | apply zzR1 | apply zzR2 | apply zzR3)); exact HO_880002.out))) (Kd.R_lt (by (with_reducible repeat (first | apply zzR1 | apply zzR2 | apply zzR3)); exact HO_888001.out))) (Kd.R_lt (by (with_reducible repeat (first | apply zzR1 | apply zzR2 | apply zzR3)); exact HO_888002.out))) (Kd.R_lt (by (with_reducible repeat (first | apply zzR1 | apply zzR2 | apply zzR3)); exact HO893.out))) (Kd.R_lt (by (with_reducible repeat (first | apply zzR1 | apply zzR2 | apply zzR3)); exact HO896.out))) (below_size (by repeat (first | (with_reducible first | exact HB.out | apply zzb1 | apply zzb2 | apply zzb3 | refine below_set ?_ GE852.out | refine below_set ?_ GE853.out | refine below_set ?_ GE879.out | refine below_set ?_ GE887.out) | exact HB.out))))
        have n8_ := Aside0.mk (blk_below (g := gb852) (o := .cells #[.bool a0_0, .slice A0_1 l0_1.length c0_1, .slice A0_2 l0_2.length c0_2] 30 (0, 0)) (by (with_reducible repeat (first | refine zzk1 ?_ _ | refine zzk2 ?_ | refine zzk3 ?_ _)); exact BK852.out) hb)
        have n9_ := Aside0.mk (blk_below (g := gb853) (o := .cells #[.bool a1_0, .slice A1_1 l1_1.length c1_1, .slice A1_2 l1_2.length c1_2] 30 (0, 0)) (by (with_reducible repeat (first | refine zzk1 ?_ _ | refine zzk2 ?_ | refine zzk3 ?_ _)); exact BK853.out) hb)
        have n10_ := Aside0.mk (blk_below (g := gb879) (o := .cells #[.bool t872, .slice Ao47 t873.length co47, .slice Ao48 t876.length co48] 24 (0, 0)) (by (with_reducible repeat (first | refine zzk1 ?_ _ | refine zzk2 ?_ | refine zzk3 ?_ _)); exact BK879.out) hb)
        have n11_ := Aside0.mk (blk_below (g := gb887) (o := .cells #[.bool t880, .slice Ao56 t881.length co56, .slice Ao57 t884.length co57] 24 (0, 0)) (by (with_reducible repeat (first | refine zzk1 ?_ _ | refine zzk2 ?_ | refine zzk3 ?_ _)); exact BK887.out) hb)
        have n12_ := Aside0.mk (below_step (by repeat (first | (with_reducible first | exact HB.out | apply zzb1 | apply zzb2 | apply zzb3 | refine below_set ?_ GE852.out | refine below_set ?_ GE853.out | refine below_set ?_ GE879.out | refine below_set ?_ GE887.out) | exact HB.out)) hb)
        clear HO_880001
        clear HO_880002
        clear HO_888001
        clear HO_888002
        clear HO893
        clear HO896
        clear BK852
        clear BK853
        clear BK879
        clear BK887
        clear HB
        have HO_880001 := n0_
        have HO_880002 := n1_
        have HO_888001 := n2_
        have HO_888002 := n3_
        have HO893 := n4_
        have HO896 := n5_
        have HO901 := n6_
        have HO904 := n7_
        have BK852 := n8_
        have BK853 := n9_
        have BK879 := n10_
        have BK887 := n11_
        have HB := n12_
        clear n0_ n1_ n2_ n3_ n4_ n5_ n6_ n7_ n8_ n9_ n10_ n11_ n12_
        (try clear hb)
        (try clear hb2)
        (try clear hk)
        (try clear hi)
        (try clear ho0)
        (try clear ho1)
        obtain ⟨Ao77, co77, eo77⟩ := Kd.R_slice HO901.out
        (first | subst eo77 | (injection eo77 with f1_ f2_ f3_; have f4_ := f1_.symm; have f5_ := f3_.symm; clear f1_ f2_ f3_; subst f4_; subst f5_))
        obtain ⟨Ao78, co78, eo78⟩ := Kd.R_slice HO904.out
        (first | subst eo78 | (injection eo78 with f1_ f2_ f3_; have f4_ := f1_.symm; have f5_ := f3_.symm; clear f1_ f2_ f3_; subst f4_; subst f5_))
        refine hK.out _ _ ⟨(blk_cell BK887.out 0).trans rfl, (blk_cell BK887.out 1).trans rfl, (blk_cell BK887.out 2).trans rfl, (blk_cell BK853.out 0).trans rfl, (blk_cell BK853.out 1).trans rfl, (blk_cell BK853.out 2).trans rfl⟩ (fun hHeld => ?_)
        clear hK K
        refine norm_ (a' := ?_) ?_ ?_
        rotate_left
        ·
         show Act.put _ (some 55) _ = _
         simp only [Act.put, zz7, zz8, zz9, i64_w, i32_w]
         rfl
        refine one_ (i := 3) (N := some 56) #[true, true, true, true, false] rfl rfl (by kernel_rfl) (by decide) (fun K hK => ?_)
        refine goes_ Try.func17 (by kernel_rfl) rfl #[.agg #[.bool t880, .slice Ao56 t881.length co56, .slice Ao57 t884.length co57], .agg #[.bool t898, .slice Ao77 t899.length co77, .slice Ao78 t902.length co78]] (by rfl) rfl rfl (by (try simp only [zz4, zz5, zz6]); first | done | rfl | (simp only [zza, zzb]; rfl)) ?_
        with_reducible refine (laws_eqRat.calls kj24 t880 _ _ t881 _ _ t884 t898 _ _ t899 _ _ t902 true _ ?side1 ?side2 ?side3 ?side4 ?side5 ?side6 ?side7 ?side8 A68.out).mono ?_
        (case side1 => repeat (first | exact (Kd.R_reads' HO_888001.out).2.2 | (with_reducible refine zzC1 ?_ _) | (with_reducible refine zzC2 ?_ _) | (with_reducible refine zzC3 ?_)))
        (case side2 => exact (Kd.R_reads' HO_888001.out).2.1)
        (case side3 => repeat (first | exact (Kd.R_reads' HO_888002.out).2.2 | (with_reducible refine zzC1 ?_ _) | (with_reducible refine zzC2 ?_ _) | (with_reducible refine zzC3 ?_)))
        (case side4 => exact (Kd.R_reads' HO_888002.out).2.1)
        (case side5 => repeat (first | exact (Kd.R_reads' HO901.out).2.2 | (with_reducible refine zzC1 ?_ _) | (with_reducible refine zzC2 ?_ _) | (with_reducible refine zzC3 ?_)))
        (case side6 => exact (Kd.R_reads' HO901.out).2.1)
        (case side7 => repeat (first | exact (Kd.R_reads' HO904.out).2.2 | (with_reducible refine zzC1 ?_ _) | (with_reducible refine zzC2 ?_ _) | (with_reducible refine zzC3 ?_)))
        (case side8 => exact (Kd.R_reads' HO904.out).2.1)
        rintro e w79 ⟨rfl, hb⟩
        refine ⟨_, rfl, ?_⟩
        have n0_ := Aside0.mk (Kd.R_below (by (with_reducible repeat (first | apply zzR1 | apply zzR2 | apply zzR3)); exact HO_880001.out) hb)
        have n1_ := Aside0.mk (Kd.R_below (by (with_reducible repeat (first | apply zzR1 | apply zzR2 | apply zzR3)); exact HO_880002.out) hb)
        have n2_ := Aside0.mk (Kd.R_below (by (with_reducible repeat (first | apply zzR1 | apply zzR2 | apply zzR3)); exact HO_888001.out) hb)
        have n3_ := Aside0.mk (Kd.R_below (by (with_reducible repeat (first | apply zzR1 | apply zzR2 | apply zzR3)); exact HO_888002.out) hb)
        have n4_ := Aside0.mk (Kd.R_below (by (with_reducible repeat (first | apply zzR1 | apply zzR2 | apply zzR3)); exact HO893.out) hb)
        have n5_ := Aside0.mk (Kd.R_below (by (with_reducible repeat (first | apply zzR1 | apply zzR2 | apply zzR3)); exact HO896.out) hb)
        have n6_ := Aside0.mk (Kd.R_below (by (with_reducible repeat (first | apply zzR1 | apply zzR2 | apply zzR3)); exact HO901.out) hb)
        have n7_ := Aside0.mk (Kd.R_below (by (with_reducible repeat (first | apply zzR1 | apply zzR2 | apply zzR3)); exact HO904.out) hb)
        have n8_ := Aside0.mk (blk_below (g := gb852) (o := .cells #[.bool a0_0, .slice A0_1 l0_1.length c0_1, .slice A0_2 l0_2.length c0_2] 30 (0, 0)) (by (with_reducible repeat (first | refine zzk1 ?_ _ | refine zzk2 ?_ | refine zzk3 ?_ _)); exact BK852.out) hb)
        have n9_ := Aside0.mk (blk_below (g := gb853) (o := .cells #[.bool a1_0, .slice A1_1 l1_1.length c1_1, .slice A1_2 l1_2.length c1_2] 30 (0, 0)) (by (with_reducible repeat (first | refine zzk1 ?_ _ | refine zzk2 ?_ | refine zzk3 ?_ _)); exact BK853.out) hb)
        have n10_ := Aside0.mk (blk_below (g := gb879) (o := .cells #[.bool t872, .slice Ao47 t873.length co47, .slice Ao48 t876.length co48] 24 (0, 0)) (by (with_reducible repeat (first | refine zzk1 ?_ _ | refine zzk2 ?_ | refine zzk3 ?_ _)); exact BK879.out) hb)
        have n11_ := Aside0.mk (blk_below (g := gb887) (o := .cells #[.bool t880, .slice Ao56 t881.length co56, .slice Ao57 t884.length co57] 24 (0, 0)) (by (with_reducible repeat (first | refine zzk1 ?_ _ | refine zzk2 ?_ | refine zzk3 ?_ _)); exact BK887.out) hb)
        have n12_ := Aside0.mk (below_step (by repeat (first | (with_reducible first | exact HB.out | apply zzb1 | apply zzb2 | apply zzb3 | refine below_set ?_ GE852.out | refine below_set ?_ GE853.out | refine below_set ?_ GE879.out | refine below_set ?_ GE887.out) | exact HB.out)) hb)
        clear HO_880001
        clear HO_880002
        clear HO_888001
        clear HO_888002
        clear HO893
        clear HO896
        clear HO901
        clear HO904
        clear BK852
        clear BK853
        clear BK879
        clear BK887
        clear HB
        have HO_880001 := n0_
        have HO_880002 := n1_
        have HO_888001 := n2_
        have HO_888002 := n3_
        have HO893 := n4_
        have HO896 := n5_
        have HO901 := n6_
        have HO904 := n7_
        have BK852 := n8_
        have BK853 := n9_
        have BK879 := n10_
        have BK887 := n11_
        have HB := n12_
        clear n0_ n1_ n2_ n3_ n4_ n5_ n6_ n7_ n8_ n9_ n10_ n11_ n12_
        (try clear hb)
        (try clear hb2)
        (try clear hk)
        (try clear hi)
        refine hK.out _ _ ⟨(blk_cell BK887.out 0).trans rfl, (blk_cell BK887.out 1).trans rfl, (blk_cell BK887.out 2).trans rfl, (blk_cell BK853.out 0).trans rfl, (blk_cell BK853.out 1).trans rfl, (blk_cell BK853.out 2).trans rfl⟩ (fun hHeld => ?_)
        clear hK K
        refine norm_ (a' := ?_) ?_ ?_
        rotate_left
        ·
         show Act.put _ (some 56) _ = _
         simp only [Act.put, zz7, zz8, zz9, i64_w, i32_w]
         rfl
        refine pure_ (i := 4) (N := some 57) (v := ?_) (a' := ?_) #[true, true, true, true, true] rfl rfl (by kernel_rfl) (fun _ _ _ h => h) (Or.inl ⟨by rfl, ?_⟩) ?_ ?_
        rotate_left
        ·
         intro w'
         go_simp
         with_reducible rfl
        rotate_left
        ·
         simp only [Act.put, zz7, zz8, zz9, i64_w, i32_w]
         rfl
        refine done_ (by kernel_rfl) ?_
        try go_wp2
        go_ret
        exact ⟨by first | rfl | (simp [errW_none, errW_some] <;> rfl) | (simp [*, errW_none, errW_some] <;> rfl), by repeat (first | (with_reducible first | exact HB.out | apply zzb1 | apply zzb2 | apply zzb3 | refine below_set ?_ GE852.out | refine below_set ?_ GE853.out | refine below_set ?_ GE879.out | refine below_set ?_ GE887.out) | exact HB.out)⟩
       ·
        replace c69 := Bool.eq_false_iff.mpr c69
        subst c69
        have H1 : (some false) = some r := by rw [if_neg (show ¬ (false = true) by decide)] at H; exact H
        clear H
        have H := H1
        clear H1
        obtain rfl := Option.some.inj H
        exact absurd hr_ (by decide)
      ·
       replace c66 := Bool.eq_false_iff.mpr c66
       subst c66
       have H1 : (some false) = some r := by rw [if_neg (show ¬ (false = true) by decide)] at H; exact H
       clear H
       have H := H1
       clear H1
       obtain rfl := Option.some.inj H
       exact absurd hr_ (by decide)

def laws_FnExactCmpRat.Pure : Prop := ∀ (a0_0 : Bool) (l0_1 : List Int) (l0_2 : List Int) (a1_0 : Bool) (l1_1 : List Int) (l1_2 : List Int), (True ∧ (l0_1.length ≤ maxLen ∧ ∀ y0_ ∈ l0_1, (Lit.int .i64 y0_).wf = true) ∧ (l0_2.length ≤ maxLen ∧ ∀ y0_ ∈ l0_2, (Lit.int .i64 y0_).wf = true)) → (True ∧ (l1_1.length ≤ maxLen ∧ ∀ y0_ ∈ l1_1, (Lit.int .i64 y0_).wf = true) ∧ (l1_2.length ≤ maxLen ∧ ∀ y0_ ∈ l1_2, (Lit.int .i64 y0_).wf = true)) → ∃ k, laws_FnExactCmpRat.f k a0_0 l0_1 l0_2 a1_0 l1_1 l1_2 = some true

end Go.Proofs.Ytacdaijalkkogaa.Q
