-- written by a program of this claim's session (myprint.py) out of the translation; Lean checks it.
import Derived.Test.YtacdaijalkkogaaQx0
import Derived.Test.YtacdaijalkkogaaQxcmp
import Derived.Test.YtacdaijalkkogaaQxadd
import Derived.Test.YtacdaijalkkogaaQxsub
import Derived.Test.YtacdaijalkkogaaQxrk
import Derived.Test.YtacdaijalkkogaaQxrmk
import Derived.Test.YtacdaijalkkogaaQxmul
import Derived.Test.YtacdaijalkkogaaQxrim
namespace Go.Proofs.Ytacdaijalkkogaa.Q
open Go.RowKit Go.Proofs.YtacdaijalkkogaaW.PrintWords Go.Proofs.YtacdaijalkkogaaW.PrintLast Go.Proofs.YtacdaijalkkogaaW.PrintMore
attribute [local go_sem] max2_int min2_int max_two min_two max_three min_three max_four min_four
set_option linter.unusedVariables false
set_option linter.unusedSimpArgs false

def impl_Rat_cmp.f (k : Nat) (a0_0 : Bool) (l0_1 : List Int) (l0_2 : List Int) (a1_0 : Bool) (l1_1 : List Int) (l1_2 : List Int) : Option (Int) := (impl_Rat_sign.f a0_0 l0_1 l0_2).bind fun t834 => ((impl_Rat_sign.f a1_0 l1_1 l1_2).bind fun t835 => (if t834 = t835 then ((impl_natMul.f k l0_1 l1_2).bind fun t838 => ((impl_natMul.f k l1_1 l0_2).bind fun t841 => ((impl_natCmp.f t838 t841).bind fun t844 => (if a0_0 = true then (some (wrap64 (-t844))) else (some t844))))) else ((impl_Rat_sign.f a0_0 l0_1 l0_2).bind fun t836 => ((impl_Rat_sign.f a1_0 l1_1 l1_2).bind fun t837 => (some (wrap64 (t836 - t837)))))))
theorem impl_Rat_cmp.mono : ∀ a0 a1 a2 a3 a4 a5 k, LeO (impl_Rat_cmp.f k a0 a1 a2 a3 a4 a5) (impl_Rat_cmp.f (k + 1) a0 a1 a2 a3 a4 a5) := by
 intro a0 a1 a2 a3 a4 a5 k
 unfold impl_Rat_cmp.f
 repeat' first
   | (with_reducible exact impl_natMul.mono _ _ _)
   | (with_reducible exact LeO.refl _)
   | (with_reducible exact LeO.none _)
   | (with_reducible refine LeO.ite ?_ ?_)
   | (with_reducible refine LeO.bind ?_ (fun _ => ?_))
   | exact impl_natMul.mono _ _ _
   | exact LeO.none _
   | refine LeO.ite ?_ ?_
   | refine LeO.bind ?_ (fun _ => ?_)
def impl_Rat_cmp.T3 : Bool × List (List Nat × List Nat) := (true, [([], []), ([0], [0]), ([], []), ([2], [2]), ([1, 3], [1, 3]), ([], []), ([5], [5]), ([], []), ([7], [7]), ([6, 8, 4], [6, 8]), ([4, 9, 9], [4, 9]), ([10, 10, 0, 1, 2, 3, 4, 5, 6, 7, 8, 9, 10], [10])])
def impl_Rat_cmp.B3 : List Nat := [0, 1, 0, 4, 15, 0, 32, 0, 128, 511, 1023, 2047]
theorem impl_Rat_cmp.tab3 : rtab .any (opsOf Try.f69 3) = impl_Rat_cmp.T3 := by kernel_rfl
theorem impl_Rat_cmp.bits3 : waitsOk impl_Rat_cmp.T3.2 impl_Rat_cmp.B3 = true := by kernel_rfl
set_option maxHeartbeats 8000000 in
set_option maxRecDepth 100000 in
theorem impl_Rat_cmp.calls (k : Nat) (a0_0 : Bool) (A0_1 : Option Addr) (c0_1 : Nat) (l0_1 : List Int) (A0_2 : Option Addr) (c0_2 : Nat) (l0_2 : List Int) (a1_0 : Bool) (A1_1 : Option Addr) (c1_1 : Nat) (l1_1 : List Int) (A1_2 : Option Addr) (c1_2 : Nat) (l1_2 : List Int) (r : Int) (w : World) (hr0_1 : Kd.C (Kd.int .i64) w A0_1 l0_1.length l0_1) (hc0_1 : l0_1.length ≤ c0_1) (hr0_2 : Kd.C (Kd.int .i64) w A0_2 l0_2.length l0_2) (hc0_2 : l0_2.length ≤ c0_2) (hr1_1 : Kd.C (Kd.int .i64) w A1_1 l1_1.length l1_1) (hc1_1 : l1_1.length ≤ c1_1) (hr1_2 : Kd.C (Kd.int .i64) w A1_2 l1_2.length l1_2) (hc1_2 : l1_2.length ≤ c1_2) (h : impl_Rat_cmp.f k a0_0 l0_1 l0_2 a1_0 l1_1 l1_2 = some r) :
  Calls Try.prog 69 #[.agg #[.bool a0_0, .slice A0_1 l0_1.length c0_1, .slice A0_2 l0_2.length c0_2], .agg #[.bool a1_0, .slice A1_1 l1_1.length c1_1, .slice A1_2 l1_2.length c1_2]] w fun e w' => e = .returned (.int .i64 r) ∧ Below w.heap.size w w' := by
 have hu24 := Try.underlying24
 have HR0_1 := Aside0.mk hr0_1
 have HC0_1 := Aside0.mk hc0_1
 clear hr0_1 hc0_1
 have HR0_2 := Aside0.mk hr0_2
 have HC0_2 := Aside0.mk hc0_2
 clear hr0_2 hc0_2
 have HR1_1 := Aside0.mk hr1_1
 have HC1_1 := Aside0.mk hc1_1
 clear hr1_1 hc1_1
 have HR1_2 := Aside0.mk hr1_2
 have HC1_2 := Aside0.mk hc1_2
 clear hr1_2 hc1_2
 have HB := Aside0.mk (Below.refl w.heap.size w)
 have H : ((impl_Rat_sign.f a0_0 l0_1 l0_2).bind fun t834 => ((impl_Rat_sign.f a1_0 l1_1 l1_2).bind fun t835 => (if t834 = t835 then ((impl_natMul.f k l0_1 l1_2).bind fun t838 => ((impl_natMul.f k l1_1 l0_2).bind fun t841 => ((impl_natCmp.f t838 t841).bind fun t844 => (if a0_0 = true then (some (wrap64 (-t844))) else (some t844))))) else ((impl_Rat_sign.f a0_0 l0_1 l0_2).bind fun t836 => ((impl_Rat_sign.f a1_0 l1_1 l1_2).bind fun t837 => (some (wrap64 (t836 - t837)))))))) = some r := h
 clear h
 replace H := Option.bind_eq_some_iff.mp H
 obtain ⟨t834, A30, H⟩ := H
 replace H : ((impl_Rat_sign.f a1_0 l1_1 l1_2).bind fun t835 => (if t834 = t835 then ((impl_natMul.f k l0_1 l1_2).bind fun t838 => ((impl_natMul.f k l1_1 l0_2).bind fun t841 => ((impl_natCmp.f t838 t841).bind fun t844 => (if a0_0 = true then (some (wrap64 (-t844))) else (some t844))))) else ((impl_Rat_sign.f a0_0 l0_1 l0_2).bind fun t836 => ((impl_Rat_sign.f a1_0 l1_1 l1_2).bind fun t837 => (some (wrap64 (t836 - t837))))))) = some r := H
 have A3 := Aside0.mk A30
 clear A30
 replace H := Option.bind_eq_some_iff.mp H
 obtain ⟨t835, A40, H⟩ := H
 replace H : (if t834 = t835 then ((impl_natMul.f k l0_1 l1_2).bind fun t838 => ((impl_natMul.f k l1_1 l0_2).bind fun t841 => ((impl_natCmp.f t838 t841).bind fun t844 => (if a0_0 = true then (some (wrap64 (-t844))) else (some t844))))) else ((impl_Rat_sign.f a0_0 l0_1 l0_2).bind fun t836 => ((impl_Rat_sign.f a1_0 l1_1 l1_2).bind fun t837 => (some (wrap64 (t836 - t837)))))) = some r := H
 have A4 := Aside0.mk A40
 clear A40
 by_cases c5 : t834 = t835
 ·
  rw [if_pos c5] at H
  have c5b0 : (t834 == t835) = true := beq_iff_eq.mpr c5
  have c5b1 : (t834 != t835) = false := bne_eq_false_iff_eq.mpr c5
  clear c5
  replace H := Option.bind_eq_some_iff.mp H
  obtain ⟨t838, A60, H⟩ := H
  replace H : ((impl_natMul.f k l1_1 l0_2).bind fun t841 => ((impl_natCmp.f t838 t841).bind fun t844 => (if a0_0 = true then (some (wrap64 (-t844))) else (some t844)))) = some r := H
  have A6 := Aside0.mk A60
  clear A60
  replace H := Option.bind_eq_some_iff.mp H
  obtain ⟨t841, A70, H⟩ := H
  replace H : ((impl_natCmp.f t838 t841).bind fun t844 => (if a0_0 = true then (some (wrap64 (-t844))) else (some t844))) = some r := H
  have A7 := Aside0.mk A70
  clear A70
  replace H := Option.bind_eq_some_iff.mp H
  obtain ⟨t844, A80, H⟩ := H
  replace H : (if a0_0 = true then (some (wrap64 (-t844))) else (some t844)) = some r := H
  have A8 := Aside0.mk A80
  clear A80
  by_cases c9 : a0_0 = true
  ·
   subst c9
   have H1 : (some (wrap64 (-t844))) = some r := by rw [if_pos rfl] at H; exact H
   clear H
   have H := H1
   clear H1
   obtain rfl := Option.some.inj H
   go_enter Try.func69, Try.ntmps69
   try go_wp2_with (first | ((with_reducible refine gate_dst (N := 2) rfl ?_); refine box_event ?hg (N := 2) ?hd (cs := #[.bool true, .slice A0_1 l0_1.length c0_1, .slice A0_2 l0_2.length c0_2]) (t := 24) ?hr ?_; (case hd => rfl); (case hg => rfl); (case hr => first | (go_simp; done) | (go_simp; rfl)); intro gb832 hg w10 hbox hb; have n0_ := Aside0.mk (below_step (by repeat (first | (with_reducible first | exact HB.out | apply zzb1 | apply zzb2 | apply zzb3) | exact HB.out)) hb); have n1_ := Aside0.mk (hbox); have n2_ := Aside0.mk ((by rw [hg]; exact (below_size (by repeat (first | (with_reducible first | exact HB.out | apply zzb1 | apply zzb2 | apply zzb3) | exact HB.out))) : w.heap.size ≤ gb832)); have n3_ := Aside0.mk ((by rw [hg]; exact (below_size (by repeat (first | (with_reducible first | exact HB.out | apply zzb1 | apply zzb2 | apply zzb3) | exact HB.out))) : w.heap.size ≤ gb832)); clear HB; have HB := n0_; have BK832 := n1_; have GW832 := n2_; have GE832 := n3_; clear n0_ n1_ n2_ n3_; clear hb hbox hg) | ((with_reducible refine gate_dst (N := 3) rfl ?_); refine box_event ?hg (N := 3) ?hd (cs := #[.bool a1_0, .slice A1_1 l1_1.length c1_1, .slice A1_2 l1_2.length c1_2]) (t := 24) ?hr ?_; (case hd => rfl); (case hg => rfl); (case hr => first | (go_simp; done) | (go_simp; rfl)); intro gb833 hg w11 hbox hb; have n0_ := Aside0.mk (blk_below (g := gb832) (o := .cells #[.bool true, .slice A0_1 l0_1.length c0_1, .slice A0_2 l0_2.length c0_2] 24 (0, 0)) (by (with_reducible repeat (first | refine zzk1 ?_ _ | refine zzk2 ?_ | refine zzk3 ?_ _)); exact BK832.out) hb); have n1_ := Aside0.mk (below_step (by repeat (first | (with_reducible first | exact HB.out | apply zzb1 | apply zzb2 | apply zzb3 | refine below_set ?_ GE832.out) | exact HB.out)) hb); have n2_ := Aside0.mk (hbox); have n3_ := Aside0.mk ((by rw [hg]; exact (below_size (by repeat (first | (with_reducible first | exact HB.out | apply zzb1 | apply zzb2 | apply zzb3 | refine below_set ?_ GE832.out) | exact HB.out))) : w.heap.size ≤ gb833)); have n4_ := Aside0.mk ((by rw [hg]; exact (below_size (by repeat (first | (with_reducible first | exact HB.out | apply zzb1 | apply zzb2 | apply zzb3 | refine below_set ?_ GE832.out) | exact HB.out))) : w.heap.size ≤ gb833)); have n5_ := Aside0.mk ((by rw [hg]; exact Nat.ne_of_lt (blk_lt (g := gb832) (o := .cells #[.bool true, .slice A0_1 l0_1.length c0_1, .slice A0_2 l0_2.length c0_2] 24 (0, 0)) (by (with_reducible repeat (first | refine zzk1 ?_ _ | refine zzk2 ?_ | refine zzk3 ?_ _)); exact BK832.out)) : gb832 ≠ gb833)); have n6_ := Aside0.mk ((by rw [hg]; exact Nat.ne_of_gt (blk_lt (g := gb832) (o := .cells #[.bool true, .slice A0_1 l0_1.length c0_1, .slice A0_2 l0_2.length c0_2] 24 (0, 0)) (by (with_reducible repeat (first | refine zzk1 ?_ _ | refine zzk2 ?_ | refine zzk3 ?_ _)); exact BK832.out)) : gb833 ≠ gb832)); clear BK832; clear HB; have BK832 := n0_; have HB := n1_; have BK833 := n2_; have GW833 := n3_; have GE833 := n4_; have NB832_833 := n5_; have NB833_832 := n6_; clear n0_ n1_ n2_ n3_ n4_ n5_ n6_; clear hb hbox hg))
   have n0_ := Aside0.mk (blk_drew BK832.out)
   have n1_ := Aside0.mk (blk_drew BK833.out)
   have n2_ := Aside0.mk (below_drew1 HB.out)
   clear BK832
   clear BK833
   clear HB
   have BK832 := n0_
   have BK833 := n1_
   have HB := n2_
   clear n0_ n1_ n2_
   refine start_ (n := 5) (S := fun w' => w'.cell? ⟨gb832, 0, none⟩ = some (.bool true) ∧ w'.cell? ⟨gb832, 1, none⟩ = some (.slice A0_1 l0_1.length c0_1) ∧ w'.cell? ⟨gb832, 2, none⟩ = some (.slice A0_2 l0_2.length c0_2) ∧ w'.cell? ⟨gb833, 0, none⟩ = some (.bool a1_0) ∧ w'.cell? ⟨gb833, 1, none⟩ = some (.slice A1_1 l1_1.length c1_1) ∧ w'.cell? ⟨gb833, 2, none⟩ = some (.slice A1_2 l1_2.length c1_2)) (ds := []) #[false, false, false, false, false] (by kernel_rfl) rfl rfl ⟨(blk_cell BK832.out 0).trans rfl, (blk_cell BK832.out 1).trans rfl, (blk_cell BK832.out 2).trans rfl, (blk_cell BK833.out 0).trans rfl, (blk_cell BK833.out 1).trans rfl, (blk_cell BK833.out 2).trans rfl⟩ (fun hHeld => ?_)
   generalize w11.drew = w12 at BK832 BK833 HB hHeld ⊢
   refine take_ (i := 0) (N := some 6) (v := ?_) (a' := ?_) #[true, false, false, false, false] rfl rfl (by kernel_rfl) (fun _ _ _ h => h) (Or.inl ⟨by rfl, ?_⟩) hHeld ?_ ?_
   rotate_left
   ·
    rintro w' ⟨s0, s1, s2, s3, s4, s5⟩
    go_simp
    with_reducible rfl
   rotate_left
   ·
    simp only [Act.put, zz7, zz8, zz9, i64_w, i32_w]
    rfl
   refine take_ (i := 2) (N := some 8) (v := ?_) (a' := ?_) #[true, false, true, false, false] rfl rfl (by kernel_rfl) (fun _ _ _ h => h) (Or.inl ⟨by rfl, ?_⟩) hHeld ?_ ?_
   rotate_left
   ·
    rintro w' ⟨s0, s1, s2, s3, s4, s5⟩
    go_simp
    with_reducible rfl
   rotate_left
   ·
    simp only [Act.put, zz7, zz8, zz9, i64_w, i32_w]
    rfl
   refine one_ (i := 1) (N := some 7) #[true, true, true, false, false] rfl rfl (by kernel_rfl) (by decide) (fun K hK => ?_)
   refine goes_ Try.func104 (by kernel_rfl) rfl #[.agg #[.bool true, .slice A0_1 l0_1.length c0_1, .slice A0_2 l0_2.length c0_2]] (by rfl) rfl rfl (by (try simp only [zz4, zz5, zz6]); first | done | rfl | (simp only [zza, zzb]; rfl)) ?_
   with_reducible refine (impl_Rat_sign.calls true _ _ l0_1 _ _ l0_2 t834 _ ?side1 ?side2 ?side3 ?side4 A3.out).mono ?_
   (case side1 => repeat (first | exact (Kd.C_below HR0_1.out HB.out) | (with_reducible refine zzC1 ?_ _) | (with_reducible refine zzC2 ?_ _) | (with_reducible refine zzC3 ?_)))
   (case side2 => exact HC0_1.out)
   (case side3 => repeat (first | exact (Kd.C_below HR0_2.out HB.out) | (with_reducible refine zzC1 ?_ _) | (with_reducible refine zzC2 ?_ _) | (with_reducible refine zzC3 ?_)))
   (case side4 => exact HC0_2.out)
   rintro e w13 ⟨rfl, hb⟩
   refine ⟨_, rfl, ?_⟩
   have n0_ := Aside0.mk (blk_below (g := gb832) (o := .cells #[.bool true, .slice A0_1 l0_1.length c0_1, .slice A0_2 l0_2.length c0_2] 24 (0, 0)) (by (with_reducible repeat (first | refine zzk1 ?_ _ | refine zzk2 ?_ | refine zzk3 ?_ _)); exact BK832.out) hb)
   have n1_ := Aside0.mk (blk_below (g := gb833) (o := .cells #[.bool a1_0, .slice A1_1 l1_1.length c1_1, .slice A1_2 l1_2.length c1_2] 24 (0, 0)) (by (with_reducible repeat (first | refine zzk1 ?_ _ | refine zzk2 ?_ | refine zzk3 ?_ _)); exact BK833.out) hb)
   have n2_ := Aside0.mk (below_step (by repeat (first | (with_reducible first | exact HB.out | apply zzb1 | apply zzb2 | apply zzb3 | refine below_set ?_ GE832.out | refine below_set ?_ GE833.out) | exact HB.out)) hb)
   clear BK832
   clear BK833
   clear HB
   have BK832 := n0_
   have BK833 := n1_
   have HB := n2_
   clear n0_ n1_ n2_
   (try clear hb)
   (try clear hb2)
   (try clear hk)
   (try clear hi)
   refine hK.out _ _ ⟨(blk_cell BK832.out 0).trans rfl, (blk_cell BK832.out 1).trans rfl, (blk_cell BK832.out 2).trans rfl, (blk_cell BK833.out 0).trans rfl, (blk_cell BK833.out 1).trans rfl, (blk_cell BK833.out 2).trans rfl⟩ (fun hHeld => ?_)
   clear hK K
   refine norm_ (a' := ?_) ?_ ?_
   rotate_left
   ·
    show Act.put _ (some 7) _ = _
    simp only [Act.put, zz7, zz8, zz9, i64_w, i32_w]
    rfl
   refine one_ (i := 3) (N := some 9) #[true, true, true, true, false] rfl rfl (by kernel_rfl) (by decide) (fun K hK => ?_)
   refine goes_ Try.func104 (by kernel_rfl) rfl #[.agg #[.bool a1_0, .slice A1_1 l1_1.length c1_1, .slice A1_2 l1_2.length c1_2]] (by rfl) rfl rfl (by (try simp only [zz4, zz5, zz6]); first | done | rfl | (simp only [zza, zzb]; rfl)) ?_
   with_reducible refine (impl_Rat_sign.calls a1_0 _ _ l1_1 _ _ l1_2 t835 _ ?side1 ?side2 ?side3 ?side4 A4.out).mono ?_
   (case side1 => repeat (first | exact (Kd.C_below HR1_1.out HB.out) | (with_reducible refine zzC1 ?_ _) | (with_reducible refine zzC2 ?_ _) | (with_reducible refine zzC3 ?_)))
   (case side2 => exact HC1_1.out)
   (case side3 => repeat (first | exact (Kd.C_below HR1_2.out HB.out) | (with_reducible refine zzC1 ?_ _) | (with_reducible refine zzC2 ?_ _) | (with_reducible refine zzC3 ?_)))
   (case side4 => exact HC1_2.out)
   rintro e w14 ⟨rfl, hb⟩
   refine ⟨_, rfl, ?_⟩
   have n0_ := Aside0.mk (blk_below (g := gb832) (o := .cells #[.bool true, .slice A0_1 l0_1.length c0_1, .slice A0_2 l0_2.length c0_2] 24 (0, 0)) (by (with_reducible repeat (first | refine zzk1 ?_ _ | refine zzk2 ?_ | refine zzk3 ?_ _)); exact BK832.out) hb)
   have n1_ := Aside0.mk (blk_below (g := gb833) (o := .cells #[.bool a1_0, .slice A1_1 l1_1.length c1_1, .slice A1_2 l1_2.length c1_2] 24 (0, 0)) (by (with_reducible repeat (first | refine zzk1 ?_ _ | refine zzk2 ?_ | refine zzk3 ?_ _)); exact BK833.out) hb)
   have n2_ := Aside0.mk (below_step (by repeat (first | (with_reducible first | exact HB.out | apply zzb1 | apply zzb2 | apply zzb3 | refine below_set ?_ GE832.out | refine below_set ?_ GE833.out) | exact HB.out)) hb)
   clear BK832
   clear BK833
   clear HB
   have BK832 := n0_
   have BK833 := n1_
   have HB := n2_
   clear n0_ n1_ n2_
   (try clear hb)
   (try clear hb2)
   (try clear hk)
   (try clear hi)
   refine hK.out _ _ ⟨(blk_cell BK832.out 0).trans rfl, (blk_cell BK832.out 1).trans rfl, (blk_cell BK832.out 2).trans rfl, (blk_cell BK833.out 0).trans rfl, (blk_cell BK833.out 1).trans rfl, (blk_cell BK833.out 2).trans rfl⟩ (fun hHeld => ?_)
   clear hK K
   refine norm_ (a' := ?_) ?_ ?_
   rotate_left
   ·
    show Act.put _ (some 9) _ = _
    simp only [Act.put, zz7, zz8, zz9, i64_w, i32_w]
    rfl
   refine pure_ (i := 4) (N := some 10) (v := ?_) (a' := ?_) #[true, true, true, true, true] rfl rfl (by kernel_rfl) (fun _ _ _ h => h) (Or.inl ⟨by rfl, ?_⟩) ?_ ?_
   rotate_left
   ·
    intro w'
    go_simp
    with_reducible rfl
   rotate_left
   ·
    simp only [Act.put, zz7, zz8, zz9, i64_w, i32_w]
    rfl
   refine done_ (by kernel_rfl) ?_
   try go_wp2
   have n0_ := Aside0.mk (blk_drew BK832.out)
   have n1_ := Aside0.mk (blk_drew BK833.out)
   have n2_ := Aside0.mk (below_drew1 HB.out)
   clear BK832
   clear BK833
   clear HB
   have BK832 := n0_
   have BK833 := n1_
   have HB := n2_
   clear n0_ n1_ n2_
   refine start_ (n := 12) (S := fun w' => w'.cell? ⟨gb832, 0, none⟩ = some (.bool true) ∧ w'.cell? ⟨gb832, 1, none⟩ = some (.slice A0_1 l0_1.length c0_1) ∧ w'.cell? ⟨gb832, 2, none⟩ = some (.slice A0_2 l0_2.length c0_2) ∧ w'.cell? ⟨gb833, 0, none⟩ = some (.bool a1_0) ∧ w'.cell? ⟨gb833, 1, none⟩ = some (.slice A1_1 l1_1.length c1_1) ∧ w'.cell? ⟨gb833, 2, none⟩ = some (.slice A1_2 l1_2.length c1_2)) (ds := []) #[false, false, false, false, false, false, false, false, false, false, false, false] (by kernel_rfl) rfl rfl ⟨(blk_cell BK832.out 0).trans rfl, (blk_cell BK832.out 1).trans rfl, (blk_cell BK832.out 2).trans rfl, (blk_cell BK833.out 0).trans rfl, (blk_cell BK833.out 1).trans rfl, (blk_cell BK833.out 2).trans rfl⟩ (fun hHeld => ?_); refine with_tabW impl_Rat_cmp.tab3 impl_Rat_cmp.bits3 (fun HT_ HW_ => ?_)
   generalize w14.drew = w15 at BK832 BK833 HB hHeld ⊢
   refine pure_ (i := 0) (N := some 16) (v := ?_) (a' := ?_) #[true, false, false, false, false, false, false, false, false, false, false, false] rfl rfl (any_of HT_.out (by kernel_rfl)) (fun _ _ _ h => h) (Or.inl ⟨by rfl, ?_⟩) ?_ ?_
   rotate_left
   ·
    intro w'
    go_simp
    with_reducible rfl
   rotate_left
   ·
    simp only [Act.put, zz7, zz8, zz9, i64_w, i32_w]
    rfl
   refine pure_ (i := 2) (N := some 18) (v := ?_) (a' := ?_) #[true, false, true, false, false, false, false, false, false, false, false, false] rfl rfl (any_of HT_.out (by kernel_rfl)) (fun _ _ _ h => h) (Or.inl ⟨by rfl, ?_⟩) ?_ ?_
   rotate_left
   ·
    intro w'
    go_simp
    with_reducible rfl
   rotate_left
   ·
    simp only [Act.put, zz7, zz8, zz9, i64_w, i32_w]
    rfl
   refine pure_ (i := 5) (N := some 21) (v := ?_) (a' := ?_) #[true, false, true, false, false, true, false, false, false, false, false, false] rfl rfl (any_of HT_.out (by kernel_rfl)) (fun _ _ _ h => h) (Or.inl ⟨by rfl, ?_⟩) ?_ ?_
   rotate_left
   ·
    intro w'
    go_simp
    with_reducible rfl
   rotate_left
   ·
    simp only [Act.put, zz7, zz8, zz9, i64_w, i32_w]
    rfl
   refine pure_ (i := 7) (N := some 23) (v := ?_) (a' := ?_) #[true, false, true, false, false, true, false, true, false, false, false, false] rfl rfl (any_of HT_.out (by kernel_rfl)) (fun _ _ _ h => h) (Or.inl ⟨by rfl, ?_⟩) ?_ ?_
   rotate_left
   ·
    intro w'
    go_simp
    with_reducible rfl
   rotate_left
   ·
    simp only [Act.put, zz7, zz8, zz9, i64_w, i32_w]
    rfl
   refine take_ (i := 1) (N := some 17) (v := ?_) (a' := ?_) #[true, true, true, false, false, true, false, true, false, false, false, false] rfl rfl (take_ofW HT_.out HW_.out (by kernel_rfl)) (fun _ _ _ h => h) (Or.inl ⟨by rfl, ?_⟩) hHeld ?_ ?_
   rotate_left
   ·
    rintro w' ⟨s0, s1, s2, s3, s4, s5⟩
    go_simp
    with_reducible rfl
   rotate_left
   ·
    simp only [Act.put, zz7, zz8, zz9, i64_w, i32_w]
    rfl
   refine take_ (i := 3) (N := some 19) (v := ?_) (a' := ?_) #[true, true, true, true, false, true, false, true, false, false, false, false] rfl rfl (take_ofW HT_.out HW_.out (by kernel_rfl)) (fun _ _ _ h => h) (Or.inl ⟨by rfl, ?_⟩) hHeld ?_ ?_
   rotate_left
   ·
    rintro w' ⟨s0, s1, s2, s3, s4, s5⟩
    go_simp
    with_reducible rfl
   rotate_left
   ·
    simp only [Act.put, zz7, zz8, zz9, i64_w, i32_w]
    rfl
   refine take_ (i := 6) (N := some 22) (v := ?_) (a' := ?_) #[true, true, true, true, false, true, true, true, false, false, false, false] rfl rfl (take_ofW HT_.out HW_.out (by kernel_rfl)) (fun _ _ _ h => h) (Or.inl ⟨by rfl, ?_⟩) hHeld ?_ ?_
   rotate_left
   ·
    rintro w' ⟨s0, s1, s2, s3, s4, s5⟩
    go_simp
    with_reducible rfl
   rotate_left
   ·
    simp only [Act.put, zz7, zz8, zz9, i64_w, i32_w]
    rfl
   refine take_ (i := 8) (N := some 24) (v := ?_) (a' := ?_) #[true, true, true, true, false, true, true, true, true, false, false, false] rfl rfl (take_ofW HT_.out HW_.out (by kernel_rfl)) (fun _ _ _ h => h) (Or.inl ⟨by rfl, ?_⟩) hHeld ?_ ?_
   rotate_left
   ·
    rintro w' ⟨s0, s1, s2, s3, s4, s5⟩
    go_simp
    with_reducible rfl
   rotate_left
   ·
    simp only [Act.put, zz7, zz8, zz9, i64_w, i32_w]
    rfl
   refine one_ (i := 4) (N := some 20) #[true, true, true, true, true, true, true, true, true, false, false, false] rfl rfl (one_of HT_.out (by kernel_rfl)) (by decide) (fun K hK => ?_)
   refine goes_ Try.func95 (by kernel_rfl) rfl #[.slice A0_1 l0_1.length c0_1, .slice A1_2 l1_2.length c1_2] (by rfl) rfl rfl (by (try simp only [zz4, zz5, zz6]); first | done | rfl | (simp only [zza, zzb]; rfl)) ?_
   with_reducible refine (impl_natMul.calls k _ _ l0_1 _ _ l1_2 t838 _ ?side1 ?side2 ?side3 ?side4 A6.out).mono ?_
   (case side1 => repeat (first | exact (Kd.C_below HR0_1.out HB.out) | (with_reducible refine zzC1 ?_ _) | (with_reducible refine zzC2 ?_ _) | (with_reducible refine zzC3 ?_)))
   (case side2 => exact HC0_1.out)
   (case side3 => repeat (first | exact (Kd.C_below HR1_2.out HB.out) | (with_reducible refine zzC1 ?_ _) | (with_reducible refine zzC2 ?_ _) | (with_reducible refine zzC3 ?_)))
   (case side4 => exact HC1_2.out)
   rintro e w16 ⟨v839, rfl, ho0, hb⟩
   refine ⟨_, rfl, ?_⟩
   have n0_ := Aside0.mk (Kd.R_lower ho0 (below_size (by repeat (first | (with_reducible first | exact HB.out | apply zzb1 | apply zzb2 | apply zzb3 | refine below_set ?_ GE832.out | refine below_set ?_ GE833.out) | exact HB.out))))
   have n1_ := Aside0.mk (blk_below (g := gb832) (o := .cells #[.bool true, .slice A0_1 l0_1.length c0_1, .slice A0_2 l0_2.length c0_2] 24 (0, 0)) (by (with_reducible repeat (first | refine zzk1 ?_ _ | refine zzk2 ?_ | refine zzk3 ?_ _)); exact BK832.out) hb)
   have n2_ := Aside0.mk (blk_below (g := gb833) (o := .cells #[.bool a1_0, .slice A1_1 l1_1.length c1_1, .slice A1_2 l1_2.length c1_2] 24 (0, 0)) (by (with_reducible repeat (first | refine zzk1 ?_ _ | refine zzk2 ?_ | refine zzk3 ?_ _)); exact BK833.out) hb)
   have n3_ := Aside0.mk (below_step (by repeat (first | (with_reducible first | exact HB.out | apply zzb1 | apply zzb2 | apply zzb3 | refine below_set ?_ GE832.out | refine below_set ?_ GE833.out) | exact HB.out)) hb)
   clear BK832
   clear BK833
   clear HB
   have HO840 := n0_
   have BK832 := n1_
   have BK833 := n2_
   have HB := n3_
   clear n0_ n1_ n2_ n3_
   (try clear hb)
   (try clear hb2)
   (try clear hk)
   (try clear hi)
   (try clear ho0)
   refine hK.out _ _ ⟨(blk_cell BK832.out 0).trans rfl, (blk_cell BK832.out 1).trans rfl, (blk_cell BK832.out 2).trans rfl, (blk_cell BK833.out 0).trans rfl, (blk_cell BK833.out 1).trans rfl, (blk_cell BK833.out 2).trans rfl⟩ (fun hHeld => ?_)
   clear hK K
   refine norm_ (a' := ?_) ?_ ?_
   rotate_left
   ·
    show Act.put _ (some 20) _ = _
    simp only [Act.put, zz7, zz8, zz9, i64_w, i32_w]
    rfl
   refine one_ (i := 9) (N := some 25) #[true, true, true, true, true, true, true, true, true, true, false, false] rfl rfl (one_of HT_.out (by kernel_rfl)) (by decide) (fun K hK => ?_)
   refine goes_ Try.func95 (by kernel_rfl) rfl #[.slice A1_1 l1_1.length c1_1, .slice A0_2 l0_2.length c0_2] (by rfl) rfl rfl (by (try simp only [zz4, zz5, zz6]); first | done | rfl | (simp only [zza, zzb]; rfl)) ?_
   with_reducible refine (impl_natMul.calls k _ _ l1_1 _ _ l0_2 t841 _ ?side1 ?side2 ?side3 ?side4 A7.out).mono ?_
   (case side1 => repeat (first | exact (Kd.C_below HR1_1.out HB.out) | (with_reducible refine zzC1 ?_ _) | (with_reducible refine zzC2 ?_ _) | (with_reducible refine zzC3 ?_)))
   (case side2 => exact HC1_1.out)
   (case side3 => repeat (first | exact (Kd.C_below HR0_2.out HB.out) | (with_reducible refine zzC1 ?_ _) | (with_reducible refine zzC2 ?_ _) | (with_reducible refine zzC3 ?_)))
   (case side4 => exact HC0_2.out)
   rintro e w17 ⟨v842, rfl, ho0, hb⟩
   refine ⟨_, rfl, ?_⟩
   have n0_ := Aside0.mk (Kd.R_elder' (by (with_reducible repeat (first | apply zzR1 | apply zzR2 | apply zzR3)); exact HO840.out) (Kd.R_base ho0) hb)
   have n1_ := Aside0.mk (Kd.R_lower (Kd.R_new' ho0 (Kd.R_lt (by (with_reducible repeat (first | apply zzR1 | apply zzR2 | apply zzR3)); exact HO840.out))) (below_size (by repeat (first | (with_reducible first | exact HB.out | apply zzb1 | apply zzb2 | apply zzb3 | refine below_set ?_ GE832.out | refine below_set ?_ GE833.out) | exact HB.out))))
   have n2_ := Aside0.mk (blk_below (g := gb832) (o := .cells #[.bool true, .slice A0_1 l0_1.length c0_1, .slice A0_2 l0_2.length c0_2] 24 (0, 0)) (by (with_reducible repeat (first | refine zzk1 ?_ _ | refine zzk2 ?_ | refine zzk3 ?_ _)); exact BK832.out) hb)
   have n3_ := Aside0.mk (blk_below (g := gb833) (o := .cells #[.bool a1_0, .slice A1_1 l1_1.length c1_1, .slice A1_2 l1_2.length c1_2] 24 (0, 0)) (by (with_reducible repeat (first | refine zzk1 ?_ _ | refine zzk2 ?_ | refine zzk3 ?_ _)); exact BK833.out) hb)
   have n4_ := Aside0.mk (below_step (by repeat (first | (with_reducible first | exact HB.out | apply zzb1 | apply zzb2 | apply zzb3 | refine below_set ?_ GE832.out | refine below_set ?_ GE833.out) | exact HB.out)) hb)
   clear HO840
   clear BK832
   clear BK833
   clear HB
   have HO840 := n0_
   have HO843 := n1_
   have BK832 := n2_
   have BK833 := n3_
   have HB := n4_
   clear n0_ n1_ n2_ n3_ n4_
   (try clear hb)
   (try clear hb2)
   (try clear hk)
   (try clear hi)
   (try clear ho0)
   obtain ⟨Ao18, co18, eo18⟩ := Kd.R_slice HO840.out
   (first | subst eo18 | (injection eo18 with f1_ f2_ f3_; have f4_ := f1_.symm; have f5_ := f3_.symm; clear f1_ f2_ f3_; subst f4_; subst f5_))
   obtain ⟨Ao19, co19, eo19⟩ := Kd.R_slice HO843.out
   (first | subst eo19 | (injection eo19 with f1_ f2_ f3_; have f4_ := f1_.symm; have f5_ := f3_.symm; clear f1_ f2_ f3_; subst f4_; subst f5_))
   refine hK.out _ _ ⟨(blk_cell BK832.out 0).trans rfl, (blk_cell BK832.out 1).trans rfl, (blk_cell BK832.out 2).trans rfl, (blk_cell BK833.out 0).trans rfl, (blk_cell BK833.out 1).trans rfl, (blk_cell BK833.out 2).trans rfl⟩ (fun hHeld => ?_)
   clear hK K
   refine norm_ (a' := ?_) ?_ ?_
   rotate_left
   ·
    show Act.put _ (some 25) _ = _
    simp only [Act.put, zz7, zz8, zz9, i64_w, i32_w]
    rfl
   refine one_ (i := 10) (N := some 26) #[true, true, true, true, true, true, true, true, true, true, true, false] rfl rfl (one_of HT_.out (by kernel_rfl)) (by decide) (fun K hK => ?_)
   refine goes_ Try.func60 (by kernel_rfl) rfl #[.slice Ao18 t838.length co18, .slice Ao19 t841.length co19] (by rfl) rfl rfl (by (try simp only [zz4, zz5, zz6]); first | done | rfl | (simp only [zza, zzb]; rfl)) ?_
   with_reducible refine (impl_natCmp.calls _ _ t838 _ _ t841 t844 _ ?side1 ?side2 ?side3 ?side4 A8.out).mono ?_
   (case side1 => repeat (first | exact (Kd.R_reads' HO840.out).2.2 | (with_reducible refine zzC1 ?_ _) | (with_reducible refine zzC2 ?_ _) | (with_reducible refine zzC3 ?_)))
   (case side2 => exact (Kd.R_reads' HO840.out).2.1)
   (case side3 => repeat (first | exact (Kd.R_reads' HO843.out).2.2 | (with_reducible refine zzC1 ?_ _) | (with_reducible refine zzC2 ?_ _) | (with_reducible refine zzC3 ?_)))
   (case side4 => exact (Kd.R_reads' HO843.out).2.1)
   rintro e w20 ⟨rfl, hb⟩
   refine ⟨_, rfl, ?_⟩
   have n0_ := Aside0.mk (Kd.R_below (by (with_reducible repeat (first | apply zzR1 | apply zzR2 | apply zzR3)); exact HO840.out) hb)
   have n1_ := Aside0.mk (Kd.R_below (by (with_reducible repeat (first | apply zzR1 | apply zzR2 | apply zzR3)); exact HO843.out) hb)
   have n2_ := Aside0.mk (blk_below (g := gb832) (o := .cells #[.bool true, .slice A0_1 l0_1.length c0_1, .slice A0_2 l0_2.length c0_2] 24 (0, 0)) (by (with_reducible repeat (first | refine zzk1 ?_ _ | refine zzk2 ?_ | refine zzk3 ?_ _)); exact BK832.out) hb)
   have n3_ := Aside0.mk (blk_below (g := gb833) (o := .cells #[.bool a1_0, .slice A1_1 l1_1.length c1_1, .slice A1_2 l1_2.length c1_2] 24 (0, 0)) (by (with_reducible repeat (first | refine zzk1 ?_ _ | refine zzk2 ?_ | refine zzk3 ?_ _)); exact BK833.out) hb)
   have n4_ := Aside0.mk (below_step (by repeat (first | (with_reducible first | exact HB.out | apply zzb1 | apply zzb2 | apply zzb3 | refine below_set ?_ GE832.out | refine below_set ?_ GE833.out) | exact HB.out)) hb)
   clear HO840
   clear HO843
   clear BK832
   clear BK833
   clear HB
   have HO840 := n0_
   have HO843 := n1_
   have BK832 := n2_
   have BK833 := n3_
   have HB := n4_
   clear n0_ n1_ n2_ n3_ n4_
   (try clear hb)
   (try clear hb2)
   (try clear hk)
   (try clear hi)
   refine hK.out _ _ ⟨(blk_cell BK832.out 0).trans rfl, (blk_cell BK832.out 1).trans rfl, (blk_cell BK832.out 2).trans rfl, (blk_cell BK833.out 0).trans rfl, (blk_cell BK833.out 1).trans rfl, (blk_cell BK833.out 2).trans rfl⟩ (fun hHeld => ?_)
   clear hK K
   refine norm_ (a' := ?_) ?_ ?_
   rotate_left
   ·
    show Act.put _ (some 26) _ = _
    simp only [Act.put, zz7, zz8, zz9, i64_w, i32_w]
    rfl
   refine pure_ (i := 11) (N := some 5) (v := ?_) (a' := ?_) #[true, true, true, true, true, true, true, true, true, true, true, true] rfl rfl (any_of HT_.out (by kernel_rfl)) (fun _ _ _ h => h) (Or.inl ⟨by rfl, ?_⟩) ?_ ?_
   rotate_left
   ·
    intro w'
    go_simp
    with_reducible rfl
   rotate_left
   ·
    simp only [Act.put, zz7, zz8, zz9, i64_w, i32_w]
    rfl
   refine done_ (done_of HT_.out (by kernel_rfl)) ?_
   have hnb21 := NB832_833.out
   have hnc21 := NB833_832.out
   have hcz22_0 : w20.cell? ⟨gb832, 0, none⟩ = some (.bool true) := (blk_cell BK832.out 0).trans rfl
   have hcz22_1 : w20.cell? ⟨gb832, 1, none⟩ = some (.slice A0_1 l0_1.length c0_1) := (blk_cell BK832.out 1).trans rfl
   have hcz22_2 : w20.cell? ⟨gb832, 2, none⟩ = some (.slice A0_2 l0_2.length c0_2) := (blk_cell BK832.out 2).trans rfl
   have hfz22_0 := blk_frozen BK832.out 0
   have hfz22_1 := blk_frozen BK832.out 1
   have hfz22_2 := blk_frozen BK832.out 2
   try go_wp2
   go_ret
   exact ⟨by first | rfl | (simp [errW_none, errW_some] <;> rfl) | (simp [*, errW_none, errW_some] <;> rfl), by repeat (first | (with_reducible first | exact HB.out | apply zzb1 | apply zzb2 | apply zzb3 | refine below_set ?_ GE832.out | refine below_set ?_ GE833.out) | exact HB.out)⟩
  ·
   replace c9 := Bool.eq_false_iff.mpr c9
   subst c9
   have H1 : (some t844) = some r := by rw [if_neg (show ¬ (false = true) by decide)] at H; exact H
   clear H
   have H := H1
   clear H1
   obtain rfl := Option.some.inj H
   go_enter Try.func69, Try.ntmps69
   try go_wp2_with (first | ((with_reducible refine gate_dst (N := 2) rfl ?_); refine box_event ?hg (N := 2) ?hd (cs := #[.bool false, .slice A0_1 l0_1.length c0_1, .slice A0_2 l0_2.length c0_2]) (t := 24) ?hr ?_; (case hd => rfl); (case hg => rfl); (case hr => first | (go_simp; done) | (go_simp; rfl)); intro gb832 hg w23 hbox hb; have n0_ := Aside0.mk (below_step (by repeat (first | (with_reducible first | exact HB.out | apply zzb1 | apply zzb2 | apply zzb3) | exact HB.out)) hb); have n1_ := Aside0.mk (hbox); have n2_ := Aside0.mk ((by rw [hg]; exact (below_size (by repeat (first | (with_reducible first | exact HB.out | apply zzb1 | apply zzb2 | apply zzb3) | exact HB.out))) : w.heap.size ≤ gb832)); have n3_ := Aside0.mk ((by rw [hg]; exact (below_size (by repeat (first | (with_reducible first | exact HB.out | apply zzb1 | apply zzb2 | apply zzb3) | exact HB.out))) : w.heap.size ≤ gb832)); clear HB; have HB := n0_; have BK832 := n1_; have GW832 := n2_; have GE832 := n3_; clear n0_ n1_ n2_ n3_; clear hb hbox hg) | ((with_reducible refine gate_dst (N := 3) rfl ?_); refine box_event ?hg (N := 3) ?hd (cs := #[.bool a1_0, .slice A1_1 l1_1.length c1_1, .slice A1_2 l1_2.length c1_2]) (t := 24) ?hr ?_; (case hd => rfl); (case hg => rfl); (case hr => first | (go_simp; done) | (go_simp; rfl)); intro gb833 hg w24 hbox hb; have n0_ := Aside0.mk (blk_below (g := gb832) (o := .cells #[.bool false, .slice A0_1 l0_1.length c0_1, .slice A0_2 l0_2.length c0_2] 24 (0, 0)) (by (with_reducible repeat (first | refine zzk1 ?_ _ | refine zzk2 ?_ | refine zzk3 ?_ _)); exact BK832.out) hb); have n1_ := Aside0.mk (below_step (by repeat (first | (with_reducible first | exact HB.out | apply zzb1 | apply zzb2 | apply zzb3 | refine below_set ?_ GE832.out) | exact HB.out)) hb); have n2_ := Aside0.mk (hbox); have n3_ := Aside0.mk ((by rw [hg]; exact (below_size (by repeat (first | (with_reducible first | exact HB.out | apply zzb1 | apply zzb2 | apply zzb3 | refine below_set ?_ GE832.out) | exact HB.out))) : w.heap.size ≤ gb833)); have n4_ := Aside0.mk ((by rw [hg]; exact (below_size (by repeat (first | (with_reducible first | exact HB.out | apply zzb1 | apply zzb2 | apply zzb3 | refine below_set ?_ GE832.out) | exact HB.out))) : w.heap.size ≤ gb833)); have n5_ := Aside0.mk ((by rw [hg]; exact Nat.ne_of_lt (blk_lt (g := gb832) (o := .cells #[.bool false, .slice A0_1 l0_1.length c0_1, .slice A0_2 l0_2.length c0_2] 24 (0, 0)) (by (with_reducible repeat (first | refine zzk1 ?_ _ | refine zzk2 ?_ | refine zzk3 ?_ _)); exact BK832.out)) : gb832 ≠ gb833)); have n6_ := Aside0.mk ((by rw [hg]; exact Nat.ne_of_gt (blk_lt (g := gb832) (o := .cells #[.bool false, .slice A0_1 l0_1.length c0_1, .slice A0_2 l0_2.length c0_2] 24 (0, 0)) (by (with_reducible repeat (first | refine zzk1 ?_ _ | refine zzk2 ?_ | refine zzk3 ?_ _)); exact BK832.out)) : gb833 ≠ gb832)); clear BK832; clear HB; have BK832 := n0_; have HB := n1_; have BK833 := n2_; have GW833 := n3_; have GE833 := n4_; have NB832_833 := n5_; have NB833_832 := n6_; clear n0_ n1_ n2_ n3_ n4_ n5_ n6_; clear hb hbox hg))
   have n0_ := Aside0.mk (blk_drew BK832.out)
   have n1_ := Aside0.mk (blk_drew BK833.out)
   have n2_ := Aside0.mk (below_drew1 HB.out)
   clear BK832
   clear BK833
   clear HB
   have BK832 := n0_
   have BK833 := n1_
   have HB := n2_
   clear n0_ n1_ n2_
   refine start_ (n := 5) (S := fun w' => w'.cell? ⟨gb832, 0, none⟩ = some (.bool false) ∧ w'.cell? ⟨gb832, 1, none⟩ = some (.slice A0_1 l0_1.length c0_1) ∧ w'.cell? ⟨gb832, 2, none⟩ = some (.slice A0_2 l0_2.length c0_2) ∧ w'.cell? ⟨gb833, 0, none⟩ = some (.bool a1_0) ∧ w'.cell? ⟨gb833, 1, none⟩ = some (.slice A1_1 l1_1.length c1_1) ∧ w'.cell? ⟨gb833, 2, none⟩ = some (.slice A1_2 l1_2.length c1_2)) (ds := []) #[false, false, false, false, false] (by kernel_rfl) rfl rfl ⟨(blk_cell BK832.out 0).trans rfl, (blk_cell BK832.out 1).trans rfl, (blk_cell BK832.out 2).trans rfl, (blk_cell BK833.out 0).trans rfl, (blk_cell BK833.out 1).trans rfl, (blk_cell BK833.out 2).trans rfl⟩ (fun hHeld => ?_)
   generalize w24.drew = w25 at BK832 BK833 HB hHeld ⊢
   refine take_ (i := 0) (N := some 6) (v := ?_) (a' := ?_) #[true, false, false, false, false] rfl rfl (by kernel_rfl) (fun _ _ _ h => h) (Or.inl ⟨by rfl, ?_⟩) hHeld ?_ ?_
   rotate_left
   ·
    rintro w' ⟨s0, s1, s2, s3, s4, s5⟩
    go_simp
    with_reducible rfl
   rotate_left
   ·
    simp only [Act.put, zz7, zz8, zz9, i64_w, i32_w]
    rfl
   refine take_ (i := 2) (N := some 8) (v := ?_) (a' := ?_) #[true, false, true, false, false] rfl rfl (by kernel_rfl) (fun _ _ _ h => h) (Or.inl ⟨by rfl, ?_⟩) hHeld ?_ ?_
   rotate_left
   ·
    rintro w' ⟨s0, s1, s2, s3, s4, s5⟩
    go_simp
    with_reducible rfl
   rotate_left
   ·
    simp only [Act.put, zz7, zz8, zz9, i64_w, i32_w]
    rfl
   refine one_ (i := 1) (N := some 7) #[true, true, true, false, false] rfl rfl (by kernel_rfl) (by decide) (fun K hK => ?_)
   refine goes_ Try.func104 (by kernel_rfl) rfl #[.agg #[.bool false, .slice A0_1 l0_1.length c0_1, .slice A0_2 l0_2.length c0_2]] (by rfl) rfl rfl (by (try simp only [zz4, zz5, zz6]); first | done | rfl | (simp only [zza, zzb]; rfl)) ?_
   with_reducible refine (impl_Rat_sign.calls false _ _ l0_1 _ _ l0_2 t834 _ ?side1 ?side2 ?side3 ?side4 A3.out).mono ?_
   (case side1 => repeat (first | exact (Kd.C_below HR0_1.out HB.out) | (with_reducible refine zzC1 ?_ _) | (with_reducible refine zzC2 ?_ _) | (with_reducible refine zzC3 ?_)))
   (case side2 => exact HC0_1.out)
   (case side3 => repeat (first | exact (Kd.C_below HR0_2.out HB.out) | (with_reducible refine zzC1 ?_ _) | (with_reducible refine zzC2 ?_ _) | (with_reducible refine zzC3 ?_)))
   (case side4 => exact HC0_2.out)
   rintro e w26 ⟨rfl, hb⟩
   refine ⟨_, rfl, ?_⟩
   have n0_ := Aside0.mk (blk_below (g := gb832) (o := .cells #[.bool false, .slice A0_1 l0_1.length c0_1, .slice A0_2 l0_2.length c0_2] 24 (0, 0)) (by (with_reducible repeat (first | refine zzk1 ?_ _ | refine zzk2 ?_ | refine zzk3 ?_ _)); exact BK832.out) hb)
   have n1_ := Aside0.mk (blk_below (g := gb833) (o := .cells #[.bool a1_0, .slice A1_1 l1_1.length c1_1, .slice A1_2 l1_2.length c1_2] 24 (0, 0)) (by (with_reducible repeat (first | refine zzk1 ?_ _ | refine zzk2 ?_ | refine zzk3 ?_ _)); exact BK833.out) hb)
   have n2_ := Aside0.mk (below_step (by repeat (first | (with_reducible first | exact HB.out | apply zzb1 | apply zzb2 | apply zzb3 | refine below_set ?_ GE832.out | refine below_set ?_ GE833.out) | exact HB.out)) hb)
   clear BK832
   clear BK833
   clear HB
   have BK832 := n0_
   have BK833 := n1_
   have HB := n2_
   clear n0_ n1_ n2_
   (try clear hb)
   (try clear hb2)
   (try clear hk)
   (try clear hi)
   refine hK.out _ _ ⟨(blk_cell BK832.out 0).trans rfl, (blk_cell BK832.out 1).trans rfl, (blk_cell BK832.out 2).trans rfl, (blk_cell BK833.out 0).trans rfl, (blk_cell BK833.out 1).trans rfl, (blk_cell BK833.out 2).trans rfl⟩ (fun hHeld => ?_)
   clear hK K
   refine norm_ (a' := ?_) ?_ ?_
   rotate_left
   ·
    show Act.put _ (some 7) _ = _
    simp only [Act.put, zz7, zz8, zz9, i64_w, i32_w]
    rfl
   refine one_ (i := 3) (N := some 9) #[true, true, true, true, false] rfl rfl (by kernel_rfl) (by decide) (fun K hK => ?_)
   refine goes_ Try.func104 (by kernel_rfl) rfl #[.agg #[.bool a1_0, .slice A1_1 l1_1.length c1_1, .slice A1_2 l1_2.length c1_2]] (by rfl) rfl rfl (by (try simp only [zz4, zz5, zz6]); first | done | rfl | (simp only [zza, zzb]; rfl)) ?_
   with_reducible refine (impl_Rat_sign.calls a1_0 _ _ l1_1 _ _ l1_2 t835 _ ?side1 ?side2 ?side3 ?side4 A4.out).mono ?_
   (case side1 => repeat (first | exact (Kd.C_below HR1_1.out HB.out) | (with_reducible refine zzC1 ?_ _) | (with_reducible refine zzC2 ?_ _) | (with_reducible refine zzC3 ?_)))
   (case side2 => exact HC1_1.out)
   (case side3 => repeat (first | exact (Kd.C_below HR1_2.out HB.out) | (with_reducible refine zzC1 ?_ _) | (with_reducible refine zzC2 ?_ _) | (with_reducible refine zzC3 ?_)))
   (case side4 => exact HC1_2.out)
   rintro e w27 ⟨rfl, hb⟩
   refine ⟨_, rfl, ?_⟩
   have n0_ := Aside0.mk (blk_below (g := gb832) (o := .cells #[.bool false, .slice A0_1 l0_1.length c0_1, .slice A0_2 l0_2.length c0_2] 24 (0, 0)) (by (with_reducible repeat (first | refine zzk1 ?_ _ | refine zzk2 ?_ | refine zzk3 ?_ _)); exact BK832.out) hb)
   have n1_ := Aside0.mk (blk_below (g := gb833) (o := .cells #[.bool a1_0, .slice A1_1 l1_1.length c1_1, .slice A1_2 l1_2.length c1_2] 24 (0, 0)) (by (with_reducible repeat (first | refine zzk1 ?_ _ | refine zzk2 ?_ | refine zzk3 ?_ _)); exact BK833.out) hb)
   have n2_ := Aside0.mk (below_step (by repeat (first | (with_reducible first | exact HB.out | apply zzb1 | apply zzb2 | apply zzb3 | refine below_set ?_ GE832.out | refine below_set ?_ GE833.out) | exact HB.out)) hb)
   clear BK832
   clear BK833
   clear HB
   have BK832 := n0_
   have BK833 := n1_
   have HB := n2_
   clear n0_ n1_ n2_
   (try clear hb)
   (try clear hb2)
   (try clear hk)
   (try clear hi)
   refine hK.out _ _ ⟨(blk_cell BK832.out 0).trans rfl, (blk_cell BK832.out 1).trans rfl, (blk_cell BK832.out 2).trans rfl, (blk_cell BK833.out 0).trans rfl, (blk_cell BK833.out 1).trans rfl, (blk_cell BK833.out 2).trans rfl⟩ (fun hHeld => ?_)
   clear hK K
   refine norm_ (a' := ?_) ?_ ?_
   rotate_left
   ·
    show Act.put _ (some 9) _ = _
    simp only [Act.put, zz7, zz8, zz9, i64_w, i32_w]
    rfl
   refine pure_ (i := 4) (N := some 10) (v := ?_) (a' := ?_) #[true, true, true, true, true] rfl rfl (by kernel_rfl) (fun _ _ _ h => h) (Or.inl ⟨by rfl, ?_⟩) ?_ ?_
   rotate_left
   ·
    intro w'
    go_simp
    with_reducible rfl
   rotate_left
   ·
    simp only [Act.put, zz7, zz8, zz9, i64_w, i32_w]
    rfl
   refine done_ (by kernel_rfl) ?_
   try go_wp2
   have n0_ := Aside0.mk (blk_drew BK832.out)
   have n1_ := Aside0.mk (blk_drew BK833.out)
   have n2_ := Aside0.mk (below_drew1 HB.out)
   clear BK832
   clear BK833
   clear HB
   have BK832 := n0_
   have BK833 := n1_
   have HB := n2_
   clear n0_ n1_ n2_
   refine start_ (n := 12) (S := fun w' => w'.cell? ⟨gb832, 0, none⟩ = some (.bool false) ∧ w'.cell? ⟨gb832, 1, none⟩ = some (.slice A0_1 l0_1.length c0_1) ∧ w'.cell? ⟨gb832, 2, none⟩ = some (.slice A0_2 l0_2.length c0_2) ∧ w'.cell? ⟨gb833, 0, none⟩ = some (.bool a1_0) ∧ w'.cell? ⟨gb833, 1, none⟩ = some (.slice A1_1 l1_1.length c1_1) ∧ w'.cell? ⟨gb833, 2, none⟩ = some (.slice A1_2 l1_2.length c1_2)) (ds := []) #[false, false, false, false, false, false, false, false, false, false, false, false] (by kernel_rfl) rfl rfl ⟨(blk_cell BK832.out 0).trans rfl, (blk_cell BK832.out 1).trans rfl, (blk_cell BK832.out 2).trans rfl, (blk_cell BK833.out 0).trans rfl, (blk_cell BK833.out 1).trans rfl, (blk_cell BK833.out 2).trans rfl⟩ (fun hHeld => ?_); refine with_tabW impl_Rat_cmp.tab3 impl_Rat_cmp.bits3 (fun HT_ HW_ => ?_)
   generalize w27.drew = w28 at BK832 BK833 HB hHeld ⊢
   refine pure_ (i := 0) (N := some 16) (v := ?_) (a' := ?_) #[true, false, false, false, false, false, false, false, false, false, false, false] rfl rfl (any_of HT_.out (by kernel_rfl)) (fun _ _ _ h => h) (Or.inl ⟨by rfl, ?_⟩) ?_ ?_
   rotate_left
   ·
    intro w'
    go_simp
    with_reducible rfl
   rotate_left
   ·
    simp only [Act.put, zz7, zz8, zz9, i64_w, i32_w]
    rfl
   refine pure_ (i := 2) (N := some 18) (v := ?_) (a' := ?_) #[true, false, true, false, false, false, false, false, false, false, false, false] rfl rfl (any_of HT_.out (by kernel_rfl)) (fun _ _ _ h => h) (Or.inl ⟨by rfl, ?_⟩) ?_ ?_
   rotate_left
   ·
    intro w'
    go_simp
    with_reducible rfl
   rotate_left
   ·
    simp only [Act.put, zz7, zz8, zz9, i64_w, i32_w]
    rfl
   refine pure_ (i := 5) (N := some 21) (v := ?_) (a' := ?_) #[true, false, true, false, false, true, false, false, false, false, false, false] rfl rfl (any_of HT_.out (by kernel_rfl)) (fun _ _ _ h => h) (Or.inl ⟨by rfl, ?_⟩) ?_ ?_
   rotate_left
   ·
    intro w'
    go_simp
    with_reducible rfl
   rotate_left
   ·
    simp only [Act.put, zz7, zz8, zz9, i64_w, i32_w]
    rfl
   refine pure_ (i := 7) (N := some 23) (v := ?_) (a' := ?_) #[true, false, true, false, false, true, false, true, false, false, false, false] rfl rfl (any_of HT_.out (by kernel_rfl)) (fun _ _ _ h => h) (Or.inl ⟨by rfl, ?_⟩) ?_ ?_
   rotate_left
   ·
    intro w'
    go_simp
    with_reducible rfl
   rotate_left
   ·
    simp only [Act.put, zz7, zz8, zz9, i64_w, i32_w]
    rfl
   refine take_ (i := 1) (N := some 17) (v := ?_) (a' := ?_) #[true, true, true, false, false, true, false, true, false, false, false, false] rfl rfl (take_ofW HT_.out HW_.out (by kernel_rfl)) (fun _ _ _ h => h) (Or.inl ⟨by rfl, ?_⟩) hHeld ?_ ?_
   rotate_left
   ·
    rintro w' ⟨s0, s1, s2, s3, s4, s5⟩
    go_simp
    with_reducible rfl
   rotate_left
   ·
    simp only [Act.put, zz7, zz8, zz9, i64_w, i32_w]
    rfl
   refine take_ (i := 3) (N := some 19) (v := ?_) (a' := ?_) #[true, true, true, true, false, true, false, true, false, false, false, false] rfl rfl (take_ofW HT_.out HW_.out (by kernel_rfl)) (fun _ _ _ h => h) (Or.inl ⟨by rfl, ?_⟩) hHeld ?_ ?_
   rotate_left
   ·
    rintro w' ⟨s0, s1, s2, s3, s4, s5⟩
    go_simp
    with_reducible rfl
   rotate_left
   ·
    simp only [Act.put, zz7, zz8, zz9, i64_w, i32_w]
    rfl
   refine take_ (i := 6) (N := some 22) (v := ?_) (a' := ?_) #[true, true, true, true, false, true, true, true, false, false, false, false] rfl rfl (take_ofW HT_.out HW_.out (by kernel_rfl)) (fun _ _ _ h => h) (Or.inl ⟨by rfl, ?_⟩) hHeld ?_ ?_
   rotate_left
   ·
    rintro w' ⟨s0, s1, s2, s3, s4, s5⟩
    go_simp
    with_reducible rfl
   rotate_left
   ·
    simp only [Act.put, zz7, zz8, zz9, i64_w, i32_w]
    rfl
   refine take_ (i := 8) (N := some 24) (v := ?_) (a' := ?_) #[true, true, true, true, false, true, true, true, true, false, false, false] rfl rfl (take_ofW HT_.out HW_.out (by kernel_rfl)) (fun _ _ _ h => h) (Or.inl ⟨by rfl, ?_⟩) hHeld ?_ ?_
   rotate_left
   ·
    rintro w' ⟨s0, s1, s2, s3, s4, s5⟩
    go_simp
    with_reducible rfl
   rotate_left
   ·
    simp only [Act.put, zz7, zz8, zz9, i64_w, i32_w]
    rfl
   refine one_ (i := 4) (N := some 20) #[true, true, true, true, true, true, true, true, true, false, false, false] rfl rfl (one_of HT_.out (by kernel_rfl)) (by decide) (fun K hK => ?_)
   refine goes_ Try.func95 (by kernel_rfl) rfl #[.slice A0_1 l0_1.length c0_1, .slice A1_2 l1_2.length c1_2] (by rfl) rfl rfl (by (try simp only [zz4, zz5, zz6]); first | done | rfl | (simp only [zza, zzb]; rfl)) ?_
   with_reducible refine (impl_natMul.calls k _ _ l0_1 _ _ l1_2 t838 _ ?side1 ?side2 ?side3 ?side4 A6.out).mono ?_
   (case side1 => repeat (first | exact (Kd.C_below HR0_1.out HB.out) | (with_reducible refine zzC1 ?_ _) | (with_reducible refine zzC2 ?_ _) | (with_reducible refine zzC3 ?_)))
   (case side2 => exact HC0_1.out)
   (case side3 => repeat (first | exact (Kd.C_below HR1_2.out HB.out) | (with_reducible refine zzC1 ?_ _) | (with_reducible refine zzC2 ?_ _) | (with_reducible refine zzC3 ?_)))
   (case side4 => exact HC1_2.out)
   rintro e w29 ⟨v839, rfl, ho0, hb⟩
   refine ⟨_, rfl, ?_⟩
   have n0_ := Aside0.mk (Kd.R_lower ho0 (below_size (by repeat (first | (with_reducible first | exact HB.out | apply zzb1 | apply zzb2 | apply zzb3 | refine below_set ?_ GE832.out | refine below_set ?_ GE833.out) | exact HB.out))))
   have n1_ := Aside0.mk (blk_below (g := gb832) (o := .cells #[.bool false, .slice A0_1 l0_1.length c0_1, .slice A0_2 l0_2.length c0_2] 24 (0, 0)) (by (with_reducible repeat (first | refine zzk1 ?_ _ | refine zzk2 ?_ | refine zzk3 ?_ _)); exact BK832.out) hb)
   have n2_ := Aside0.mk (blk_below (g := gb833) (o := .cells #[.bool a1_0, .slice A1_1 l1_1.length c1_1, .slice A1_2 l1_2.length c1_2] 24 (0, 0)) (by (with_reducible repeat (first | refine zzk1 ?_ _ | refine zzk2 ?_ | refine zzk3 ?_ _)); exact BK833.out) hb)
   have n3_ := Aside0.mk (below_step (by repeat (first | (with_reducible first | exact HB.out | apply zzb1 | apply zzb2 | apply zzb3 | refine below_set ?_ GE832.out | refine below_set ?_ GE833.out) | exact HB.out)) hb)
   clear BK832
   clear BK833
   clear HB
   have HO840 := n0_
   have BK832 := n1_
   have BK833 := n2_
   have HB := n3_
   clear n0_ n1_ n2_ n3_
   (try clear hb)
   (try clear hb2)
   (try clear hk)
   (try clear hi)
   (try clear ho0)
   refine hK.out _ _ ⟨(blk_cell BK832.out 0).trans rfl, (blk_cell BK832.out 1).trans rfl, (blk_cell BK832.out 2).trans rfl, (blk_cell BK833.out 0).trans rfl, (blk_cell BK833.out 1).trans rfl, (blk_cell BK833.out 2).trans rfl⟩ (fun hHeld => ?_)
   clear hK K
   refine norm_ (a' := ?_) ?_ ?_
   rotate_left
   ·
    show Act.put _ (some 20) _ = _
    simp only [Act.put, zz7, zz8, zz9, i64_w, i32_w]
    rfl
   refine one_ (i := 9) (N := some 25) #[true, true, true, true, true, true, true, true, true, true, false, false] rfl rfl (one_of HT_.out (by kernel_rfl)) (by decide) (fun K hK => ?_)
   refine goes_ Try.func95 (by kernel_rfl) rfl #[.slice A1_1 l1_1.length c1_1, .slice A0_2 l0_2.length c0_2] (by rfl) rfl rfl (by (try simp only [zz4, zz5, zz6]); first | done | rfl | (simp only [zza, zzb]; rfl)) ?_
   with_reducible refine (impl_natMul.calls k _ _ l1_1 _ _ l0_2 t841 _ ?side1 ?side2 ?side3 ?side4 A7.out).mono ?_
   (case side1 => repeat (first | exact (Kd.C_below HR1_1.out HB.out) | (with_reducible refine zzC1 ?_ _) | (with_reducible refine zzC2 ?_ _) | (with_reducible refine zzC3 ?_)))
   (case side2 => exact HC1_1.out)
   (case side3 => repeat (first | exact (Kd.C_below HR0_2.out HB.out) | (with_reducible refine zzC1 ?_ _) | (with_reducible refine zzC2 ?_ _) | (with_reducible refine zzC3 ?_)))
   (case side4 => exact HC0_2.out)
   rintro e w30 ⟨v842, rfl, ho0, hb⟩
   refine ⟨_, rfl, ?_⟩
   have n0_ := Aside0.mk (Kd.R_elder' (by (with_reducible repeat (first | apply zzR1 | apply zzR2 | apply zzR3)); exact HO840.out) (Kd.R_base ho0) hb)
   have n1_ := Aside0.mk (Kd.R_lower (Kd.R_new' ho0 (Kd.R_lt (by (with_reducible repeat (first | apply zzR1 | apply zzR2 | apply zzR3)); exact HO840.out))) (below_size (by repeat (first | (with_reducible first | exact HB.out | apply zzb1 | apply zzb2 | apply zzb3 | refine below_set ?_ GE832.out | refine below_set ?_ GE833.out) | exact HB.out))))
   have n2_ := Aside0.mk (blk_below (g := gb832) (o := .cells #[.bool false, .slice A0_1 l0_1.length c0_1, .slice A0_2 l0_2.length c0_2] 24 (0, 0)) (by (with_reducible repeat (first | refine zzk1 ?_ _ | refine zzk2 ?_ | refine zzk3 ?_ _)); exact BK832.out) hb)
   have n3_ := Aside0.mk (blk_below (g := gb833) (o := .cells #[.bool a1_0, .slice A1_1 l1_1.length c1_1, .slice A1_2 l1_2.length c1_2] 24 (0, 0)) (by (with_reducible repeat (first | refine zzk1 ?_ _ | refine zzk2 ?_ | refine zzk3 ?_ _)); exact BK833.out) hb)
   have n4_ := Aside0.mk (below_step (by repeat (first | (with_reducible first | exact HB.out | apply zzb1 | apply zzb2 | apply zzb3 | refine below_set ?_ GE832.out | refine below_set ?_ GE833.out) | exact HB.out)) hb)
   clear HO840
   clear BK832
   clear BK833
   clear HB
   have HO840 := n0_
   have HO843 := n1_
   have BK832 := n2_
   have BK833 := n3_
   have HB := n4_
   clear n0_ n1_ n2_ n3_ n4_
   (try clear hb)
   (try clear hb2)
   (try clear hk)
   (try clear hi)
   (try clear ho0)
   obtain ⟨Ao31, co31, eo31⟩ := Kd.R_slice HO840.out
   (first | subst eo31 | (injection eo31 with f1_ f2_ f3_; have f4_ := f1_.symm; have f5_ := f3_.symm; clear f1_ f2_ f3_; subst f4_; subst f5_))
   obtain ⟨Ao32, co32, eo32⟩ := Kd.R_slice HO843.out
   (first | subst eo32 | (injection eo32 with f1_ f2_ f3_; have f4_ := f1_.symm; have f5_ := f3_.symm; clear f1_ f2_ f3_; subst f4_; subst f5_))
   refine hK.out _ _ ⟨(blk_cell BK832.out 0).trans rfl, (blk_cell BK832.out 1).trans rfl, (blk_cell BK832.out 2).trans rfl, (blk_cell BK833.out 0).trans rfl, (blk_cell BK833.out 1).trans rfl, (blk_cell BK833.out 2).trans rfl⟩ (fun hHeld => ?_)
   clear hK K
   refine norm_ (a' := ?_) ?_ ?_
   rotate_left
   ·
    show Act.put _ (some 25) _ = _
    simp only [Act.put, zz7, zz8, zz9, i64_w, i32_w]
    rfl
   refine one_ (i := 10) (N := some 26) #[true, true, true, true, true, true, true, true, true, true, true, false] rfl rfl (one_of HT_.out (by kernel_rfl)) (by decide) (fun K hK => ?_)
   refine goes_ Try.func60 (by kernel_rfl) rfl #[.slice Ao31 t838.length co31, .slice Ao32 t841.length co32] (by rfl) rfl rfl (by (try simp only [zz4, zz5, zz6]); first | done | rfl | (simp only [zza, zzb]; rfl)) ?_
   with_reducible refine (impl_natCmp.calls _ _ t838 _ _ t841 t844 _ ?side1 ?side2 ?side3 ?side4 A8.out).mono ?_
   (case side1 => repeat (first | exact (Kd.R_reads' HO840.out).2.2 | (with_reducible refine zzC1 ?_ _) | (with_reducible refine zzC2 ?_ _) | (with_reducible refine zzC3 ?_)))
   (case side2 => exact (Kd.R_reads' HO840.out).2.1)
   (case side3 => repeat (first | exact (Kd.R_reads' HO843.out).2.2 | (with_reducible refine zzC1 ?_ _) | (with_reducible refine zzC2 ?_ _) | (with_reducible refine zzC3 ?_)))
   (case side4 => exact (Kd.R_reads' HO843.out).2.1)
   rintro e w33 ⟨rfl, hb⟩
   refine ⟨_, rfl, ?_⟩
   have n0_ := Aside0.mk (Kd.R_below (by (with_reducible repeat (first | apply zzR1 | apply zzR2 | apply zzR3)); exact HO840.out) hb)
   have n1_ := Aside0.mk (Kd.R_below (by (with_reducible repeat (first | apply zzR1 | apply zzR2 | apply zzR3)); exact HO843.out) hb)
   have n2_ := Aside0.mk (blk_below (g := gb832) (o := .cells #[.bool false, .slice A0_1 l0_1.length c0_1, .slice A0_2 l0_2.length c0_2] 24 (0, 0)) (by (with_reducible repeat (first | refine zzk1 ?_ _ | refine zzk2 ?_ | refine zzk3 ?_ _)); exact BK832.out) hb)
   have n3_ := Aside0.mk (blk_below (g := gb833) (o := .cells #[.bool a1_0, .slice A1_1 l1_1.length c1_1, .slice A1_2 l1_2.length c1_2] 24 (0, 0)) (by (with_reducible repeat (first | refine zzk1 ?_ _ | refine zzk2 ?_ | refine zzk3 ?_ _)); exact BK833.out) hb)
   have n4_ := Aside0.mk (below_step (by repeat (first | (with_reducible first | exact HB.out | apply zzb1 | apply zzb2 | apply zzb3 | refine below_set ?_ GE832.out | refine below_set ?_ GE833.out) | exact HB.out)) hb)
   clear HO840
   clear HO843
   clear BK832
   clear BK833
   clear HB
   have HO840 := n0_
   have HO843 := n1_
   have BK832 := n2_
   have BK833 := n3_
   have HB := n4_
   clear n0_ n1_ n2_ n3_ n4_
   (try clear hb)
   (try clear hb2)
   (try clear hk)
   (try clear hi)
   refine hK.out _ _ ⟨(blk_cell BK832.out 0).trans rfl, (blk_cell BK832.out 1).trans rfl, (blk_cell BK832.out 2).trans rfl, (blk_cell BK833.out 0).trans rfl, (blk_cell BK833.out 1).trans rfl, (blk_cell BK833.out 2).trans rfl⟩ (fun hHeld => ?_)
   clear hK K
   refine norm_ (a' := ?_) ?_ ?_
   rotate_left
   ·
    show Act.put _ (some 26) _ = _
    simp only [Act.put, zz7, zz8, zz9, i64_w, i32_w]
    rfl
   refine pure_ (i := 11) (N := some 5) (v := ?_) (a' := ?_) #[true, true, true, true, true, true, true, true, true, true, true, true] rfl rfl (any_of HT_.out (by kernel_rfl)) (fun _ _ _ h => h) (Or.inl ⟨by rfl, ?_⟩) ?_ ?_
   rotate_left
   ·
    intro w'
    go_simp
    with_reducible rfl
   rotate_left
   ·
    simp only [Act.put, zz7, zz8, zz9, i64_w, i32_w]
    rfl
   refine done_ (done_of HT_.out (by kernel_rfl)) ?_
   have hnb34 := NB832_833.out
   have hnc34 := NB833_832.out
   have hcz35_0 : w33.cell? ⟨gb832, 0, none⟩ = some (.bool false) := (blk_cell BK832.out 0).trans rfl
   have hcz35_1 : w33.cell? ⟨gb832, 1, none⟩ = some (.slice A0_1 l0_1.length c0_1) := (blk_cell BK832.out 1).trans rfl
   have hcz35_2 : w33.cell? ⟨gb832, 2, none⟩ = some (.slice A0_2 l0_2.length c0_2) := (blk_cell BK832.out 2).trans rfl
   have hfz35_0 := blk_frozen BK832.out 0
   have hfz35_1 := blk_frozen BK832.out 1
   have hfz35_2 := blk_frozen BK832.out 2
   try go_wp2
   go_ret
   exact ⟨by first | rfl | (simp [errW_none, errW_some] <;> rfl) | (simp [*, errW_none, errW_some] <;> rfl), by repeat (first | (with_reducible first | exact HB.out | apply zzb1 | apply zzb2 | apply zzb3 | refine below_set ?_ GE832.out | refine below_set ?_ GE833.out) | exact HB.out)⟩
 ·
  rw [if_neg c5] at H
  have c5b0 : (t834 == t835) = false := beq_eq_false_iff_ne.mpr c5
  have c5b1 : (t834 != t835) = true := bne_iff_ne.mpr c5
  replace H := Option.bind_eq_some_iff.mp H
  obtain ⟨t836, A360, H⟩ := H
  replace H : ((impl_Rat_sign.f a1_0 l1_1 l1_2).bind fun t837 => (some (wrap64 (t836 - t837)))) = some r := H
  have A36 := Aside0.mk A360
  clear A360
  replace H := Option.bind_eq_some_iff.mp H
  obtain ⟨t837, A370, H⟩ := H
  replace H : (some (wrap64 (t836 - t837))) = some r := H
  have A37 := Aside0.mk A370
  clear A370
  obtain rfl := Option.some.inj H
  go_enter Try.func69, Try.ntmps69
  try go_wp2_with (first | ((with_reducible refine gate_dst (N := 2) rfl ?_); refine box_event ?hg (N := 2) ?hd (cs := #[.bool a0_0, .slice A0_1 l0_1.length c0_1, .slice A0_2 l0_2.length c0_2]) (t := 24) ?hr ?_; (case hd => rfl); (case hg => rfl); (case hr => first | (go_simp; done) | (go_simp; rfl)); intro gb832 hg w38 hbox hb; have n0_ := Aside0.mk (below_step (by repeat (first | (with_reducible first | exact HB.out | apply zzb1 | apply zzb2 | apply zzb3) | exact HB.out)) hb); have n1_ := Aside0.mk (hbox); have n2_ := Aside0.mk ((by rw [hg]; exact (below_size (by repeat (first | (with_reducible first | exact HB.out | apply zzb1 | apply zzb2 | apply zzb3) | exact HB.out))) : w.heap.size ≤ gb832)); have n3_ := Aside0.mk ((by rw [hg]; exact (below_size (by repeat (first | (with_reducible first | exact HB.out | apply zzb1 | apply zzb2 | apply zzb3) | exact HB.out))) : w.heap.size ≤ gb832)); clear HB; have HB := n0_; have BK832 := n1_; have GW832 := n2_; have GE832 := n3_; clear n0_ n1_ n2_ n3_; clear hb hbox hg) | ((with_reducible refine gate_dst (N := 3) rfl ?_); refine box_event ?hg (N := 3) ?hd (cs := #[.bool a1_0, .slice A1_1 l1_1.length c1_1, .slice A1_2 l1_2.length c1_2]) (t := 24) ?hr ?_; (case hd => rfl); (case hg => rfl); (case hr => first | (go_simp; done) | (go_simp; rfl)); intro gb833 hg w39 hbox hb; have n0_ := Aside0.mk (blk_below (g := gb832) (o := .cells #[.bool a0_0, .slice A0_1 l0_1.length c0_1, .slice A0_2 l0_2.length c0_2] 24 (0, 0)) (by (with_reducible repeat (first | refine zzk1 ?_ _ | refine zzk2 ?_ | refine zzk3 ?_ _)); exact BK832.out) hb); have n1_ := Aside0.mk (below_step (by repeat (first | (with_reducible first | exact HB.out | apply zzb1 | apply zzb2 | apply zzb3 | refine below_set ?_ GE832.out) | exact HB.out)) hb); have n2_ := Aside0.mk (hbox); have n3_ := Aside0.mk ((by rw [hg]; exact (below_size (by repeat (first | (with_reducible first | exact HB.out | apply zzb1 | apply zzb2 | apply zzb3 | refine below_set ?_ GE832.out) | exact HB.out))) : w.heap.size ≤ gb833)); have n4_ := Aside0.mk ((by rw [hg]; exact (below_size (by repeat (first | (with_reducible first | exact HB.out | apply zzb1 | apply zzb2 | apply zzb3 | refine below_set ?_ GE832.out) | exact HB.out))) : w.heap.size ≤ gb833)); have n5_ := Aside0.mk ((by rw [hg]; exact Nat.ne_of_lt (blk_lt (g := gb832) (o := .cells #[.bool a0_0, .slice A0_1 l0_1.length c0_1, .slice A0_2 l0_2.length c0_2] 24 (0, 0)) (by (with_reducible repeat (first | refine zzk1 ?_ _ | refine zzk2 ?_ | refine zzk3 ?_ _)); exact BK832.out)) : gb832 ≠ gb833)); have n6_ := Aside0.mk ((by rw [hg]; exact Nat.ne_of_gt (blk_lt (g := gb832) (o := .cells #[.bool a0_0, .slice A0_1 l0_1.length c0_1, .slice A0_2 l0_2.length c0_2] 24 (0, 0)) (by (with_reducible repeat (first | refine zzk1 ?_ _ | refine zzk2 ?_ | refine zzk3 ?_ _)); exact BK832.out)) : gb833 ≠ gb832)); clear BK832; clear HB; have BK832 := n0_; have HB := n1_; have BK833 := n2_; have GW833 := n3_; have GE833 := n4_; have NB832_833 := n5_; have NB833_832 := n6_; clear n0_ n1_ n2_ n3_ n4_ n5_ n6_; clear hb hbox hg))
  have n0_ := Aside0.mk (blk_drew BK832.out)
  have n1_ := Aside0.mk (blk_drew BK833.out)
  have n2_ := Aside0.mk (below_drew1 HB.out)
  clear BK832
  clear BK833
  clear HB
  have BK832 := n0_
  have BK833 := n1_
  have HB := n2_
  clear n0_ n1_ n2_
  refine start_ (n := 5) (S := fun w' => w'.cell? ⟨gb832, 0, none⟩ = some (.bool a0_0) ∧ w'.cell? ⟨gb832, 1, none⟩ = some (.slice A0_1 l0_1.length c0_1) ∧ w'.cell? ⟨gb832, 2, none⟩ = some (.slice A0_2 l0_2.length c0_2) ∧ w'.cell? ⟨gb833, 0, none⟩ = some (.bool a1_0) ∧ w'.cell? ⟨gb833, 1, none⟩ = some (.slice A1_1 l1_1.length c1_1) ∧ w'.cell? ⟨gb833, 2, none⟩ = some (.slice A1_2 l1_2.length c1_2)) (ds := []) #[false, false, false, false, false] (by kernel_rfl) rfl rfl ⟨(blk_cell BK832.out 0).trans rfl, (blk_cell BK832.out 1).trans rfl, (blk_cell BK832.out 2).trans rfl, (blk_cell BK833.out 0).trans rfl, (blk_cell BK833.out 1).trans rfl, (blk_cell BK833.out 2).trans rfl⟩ (fun hHeld => ?_)
  generalize w39.drew = w40 at BK832 BK833 HB hHeld ⊢
  refine take_ (i := 0) (N := some 6) (v := ?_) (a' := ?_) #[true, false, false, false, false] rfl rfl (by kernel_rfl) (fun _ _ _ h => h) (Or.inl ⟨by rfl, ?_⟩) hHeld ?_ ?_
  rotate_left
  ·
   rintro w' ⟨s0, s1, s2, s3, s4, s5⟩
   go_simp
   with_reducible rfl
  rotate_left
  ·
   simp only [Act.put, zz7, zz8, zz9, i64_w, i32_w]
   rfl
  refine take_ (i := 2) (N := some 8) (v := ?_) (a' := ?_) #[true, false, true, false, false] rfl rfl (by kernel_rfl) (fun _ _ _ h => h) (Or.inl ⟨by rfl, ?_⟩) hHeld ?_ ?_
  rotate_left
  ·
   rintro w' ⟨s0, s1, s2, s3, s4, s5⟩
   go_simp
   with_reducible rfl
  rotate_left
  ·
   simp only [Act.put, zz7, zz8, zz9, i64_w, i32_w]
   rfl
  refine one_ (i := 1) (N := some 7) #[true, true, true, false, false] rfl rfl (by kernel_rfl) (by decide) (fun K hK => ?_)
  refine goes_ Try.func104 (by kernel_rfl) rfl #[.agg #[.bool a0_0, .slice A0_1 l0_1.length c0_1, .slice A0_2 l0_2.length c0_2]] (by rfl) rfl rfl (by (try simp only [zz4, zz5, zz6]); first | done | rfl | (simp only [zza, zzb]; rfl)) ?_
  with_reducible refine (impl_Rat_sign.calls a0_0 _ _ l0_1 _ _ l0_2 t834 _ ?side1 ?side2 ?side3 ?side4 A3.out).mono ?_
  (case side1 => repeat (first | exact (Kd.C_below HR0_1.out HB.out) | (with_reducible refine zzC1 ?_ _) | (with_reducible refine zzC2 ?_ _) | (with_reducible refine zzC3 ?_)))
  (case side2 => exact HC0_1.out)
  (case side3 => repeat (first | exact (Kd.C_below HR0_2.out HB.out) | (with_reducible refine zzC1 ?_ _) | (with_reducible refine zzC2 ?_ _) | (with_reducible refine zzC3 ?_)))
  (case side4 => exact HC0_2.out)
  rintro e w41 ⟨rfl, hb⟩
  refine ⟨_, rfl, ?_⟩
  have n0_ := Aside0.mk (blk_below (g := gb832) (o := .cells #[.bool a0_0, .slice A0_1 l0_1.length c0_1, .slice A0_2 l0_2.length c0_2] 24 (0, 0)) (by (with_reducible repeat (first | refine zzk1 ?_ _ | refine zzk2 ?_ | refine zzk3 ?_ _)); exact BK832.out) hb)
  have n1_ := Aside0.mk (blk_below (g := gb833) (o := .cells #[.bool a1_0, .slice A1_1 l1_1.length c1_1, .slice A1_2 l1_2.length c1_2] 24 (0, 0)) (by (with_reducible repeat (first | refine zzk1 ?_ _ | refine zzk2 ?_ | refine zzk3 ?_ _)); exact BK833.out) hb)
  have n2_ := Aside0.mk (below_step (by repeat (first | (with_reducible first | exact HB.out | apply zzb1 | apply zzb2 | apply zzb3 | refine below_set ?_ GE832.out | refine below_set ?_ GE833.out) | exact HB.out)) hb)
  clear BK832
  clear BK833
  clear HB
  have BK832 := n0_
  have BK833 := n1_
  have HB := n2_
  clear n0_ n1_ n2_
  (try clear hb)
  (try clear hb2)
  (try clear hk)
  (try clear hi)
  refine hK.out _ _ ⟨(blk_cell BK832.out 0).trans rfl, (blk_cell BK832.out 1).trans rfl, (blk_cell BK832.out 2).trans rfl, (blk_cell BK833.out 0).trans rfl, (blk_cell BK833.out 1).trans rfl, (blk_cell BK833.out 2).trans rfl⟩ (fun hHeld => ?_)
  clear hK K
  refine norm_ (a' := ?_) ?_ ?_
  rotate_left
  ·
   show Act.put _ (some 7) _ = _
   simp only [Act.put, zz7, zz8, zz9, i64_w, i32_w]
   rfl
  refine one_ (i := 3) (N := some 9) #[true, true, true, true, false] rfl rfl (by kernel_rfl) (by decide) (fun K hK => ?_)
  refine goes_ Try.func104 (by kernel_rfl) rfl #[.agg #[.bool a1_0, .slice A1_1 l1_1.length c1_1, .slice A1_2 l1_2.length c1_2]] (by rfl) rfl rfl (by (try simp only [zz4, zz5, zz6]); first | done | rfl | (simp only [zza, zzb]; rfl)) ?_
  with_reducible refine (impl_Rat_sign.calls a1_0 _ _ l1_1 _ _ l1_2 t835 _ ?side1 ?side2 ?side3 ?side4 A4.out).mono ?_
  (case side1 => repeat (first | exact (Kd.C_below HR1_1.out HB.out) | (with_reducible refine zzC1 ?_ _) | (with_reducible refine zzC2 ?_ _) | (with_reducible refine zzC3 ?_)))
  (case side2 => exact HC1_1.out)
  (case side3 => repeat (first | exact (Kd.C_below HR1_2.out HB.out) | (with_reducible refine zzC1 ?_ _) | (with_reducible refine zzC2 ?_ _) | (with_reducible refine zzC3 ?_)))
  (case side4 => exact HC1_2.out)
  rintro e w42 ⟨rfl, hb⟩
  refine ⟨_, rfl, ?_⟩
  have n0_ := Aside0.mk (blk_below (g := gb832) (o := .cells #[.bool a0_0, .slice A0_1 l0_1.length c0_1, .slice A0_2 l0_2.length c0_2] 24 (0, 0)) (by (with_reducible repeat (first | refine zzk1 ?_ _ | refine zzk2 ?_ | refine zzk3 ?_ _)); exact BK832.out) hb)
  have n1_ := Aside0.mk (blk_below (g := gb833) (o := .cells #[.bool a1_0, .slice A1_1 l1_1.length c1_1, .slice A1_2 l1_2.length c1_2] 24 (0, 0)) (by (with_reducible repeat (first | refine zzk1 ?_ _ | refine zzk2 ?_ | refine zzk3 ?_ _)); exact BK833.out) hb)
  have n2_ := Aside0.mk (below_step (by repeat (first | (with_reducible first | exact HB.out | apply zzb1 | apply zzb2 | apply zzb3 | refine below_set ?_ GE832.out | refine below_set ?_ GE833.out) | exact HB.out)) hb)
  clear BK832
  clear BK833
  clear HB
  have BK832 := n0_
  have BK833 := n1_
  have HB := n2_
  clear n0_ n1_ n2_
  (try clear hb)
  (try clear hb2)
  (try clear hk)
  (try clear hi)
  refine hK.out _ _ ⟨(blk_cell BK832.out 0).trans rfl, (blk_cell BK832.out 1).trans rfl, (blk_cell BK832.out 2).trans rfl, (blk_cell BK833.out 0).trans rfl, (blk_cell BK833.out 1).trans rfl, (blk_cell BK833.out 2).trans rfl⟩ (fun hHeld => ?_)
  clear hK K
  refine norm_ (a' := ?_) ?_ ?_
  rotate_left
  ·
   show Act.put _ (some 9) _ = _
   simp only [Act.put, zz7, zz8, zz9, i64_w, i32_w]
   rfl
  refine pure_ (i := 4) (N := some 10) (v := ?_) (a' := ?_) #[true, true, true, true, true] rfl rfl (by kernel_rfl) (fun _ _ _ h => h) (Or.inl ⟨by rfl, ?_⟩) ?_ ?_
  rotate_left
  ·
   intro w'
   go_simp
   with_reducible rfl
  rotate_left
  ·
   simp only [Act.put, zz7, zz8, zz9, i64_w, i32_w]
   rfl
  refine done_ (by kernel_rfl) ?_
  try go_wp2
  have n0_ := Aside0.mk (blk_drew BK832.out)
  have n1_ := Aside0.mk (blk_drew BK833.out)
  have n2_ := Aside0.mk (below_drew1 HB.out)
  clear BK832
  clear BK833
  clear HB
  have BK832 := n0_
  have BK833 := n1_
  have HB := n2_
  clear n0_ n1_ n2_
  refine start_ (n := 6) (S := fun w' => w'.cell? ⟨gb832, 0, none⟩ = some (.bool a0_0) ∧ w'.cell? ⟨gb832, 1, none⟩ = some (.slice A0_1 l0_1.length c0_1) ∧ w'.cell? ⟨gb832, 2, none⟩ = some (.slice A0_2 l0_2.length c0_2) ∧ w'.cell? ⟨gb833, 0, none⟩ = some (.bool a1_0) ∧ w'.cell? ⟨gb833, 1, none⟩ = some (.slice A1_1 l1_1.length c1_1) ∧ w'.cell? ⟨gb833, 2, none⟩ = some (.slice A1_2 l1_2.length c1_2)) (ds := []) #[false, false, false, false, false, false] (by kernel_rfl) rfl rfl ⟨(blk_cell BK832.out 0).trans rfl, (blk_cell BK832.out 1).trans rfl, (blk_cell BK832.out 2).trans rfl, (blk_cell BK833.out 0).trans rfl, (blk_cell BK833.out 1).trans rfl, (blk_cell BK833.out 2).trans rfl⟩ (fun hHeld => ?_)
  generalize w42.drew = w43 at BK832 BK833 HB hHeld ⊢
  refine take_ (i := 0) (N := some 11) (v := ?_) (a' := ?_) #[true, false, false, false, false, false] rfl rfl (by kernel_rfl) (fun _ _ _ h => h) (Or.inl ⟨by rfl, ?_⟩) hHeld ?_ ?_
  rotate_left
  ·
   rintro w' ⟨s0, s1, s2, s3, s4, s5⟩
   go_simp
   with_reducible rfl
  rotate_left
  ·
   simp only [Act.put, zz7, zz8, zz9, i64_w, i32_w]
   rfl
  refine take_ (i := 2) (N := some 13) (v := ?_) (a' := ?_) #[true, false, true, false, false, false] rfl rfl (by kernel_rfl) (fun _ _ _ h => h) (Or.inl ⟨by rfl, ?_⟩) hHeld ?_ ?_
  rotate_left
  ·
   rintro w' ⟨s0, s1, s2, s3, s4, s5⟩
   go_simp
   with_reducible rfl
  rotate_left
  ·
   simp only [Act.put, zz7, zz8, zz9, i64_w, i32_w]
   rfl
  refine one_ (i := 1) (N := some 12) #[true, true, true, false, false, false] rfl rfl (by kernel_rfl) (by decide) (fun K hK => ?_)
  refine goes_ Try.func104 (by kernel_rfl) rfl #[.agg #[.bool a0_0, .slice A0_1 l0_1.length c0_1, .slice A0_2 l0_2.length c0_2]] (by rfl) rfl rfl (by (try simp only [zz4, zz5, zz6]); first | done | rfl | (simp only [zza, zzb]; rfl)) ?_
  with_reducible refine (impl_Rat_sign.calls a0_0 _ _ l0_1 _ _ l0_2 t836 _ ?side1 ?side2 ?side3 ?side4 A36.out).mono ?_
  (case side1 => repeat (first | exact (Kd.C_below HR0_1.out HB.out) | (with_reducible refine zzC1 ?_ _) | (with_reducible refine zzC2 ?_ _) | (with_reducible refine zzC3 ?_)))
  (case side2 => exact HC0_1.out)
  (case side3 => repeat (first | exact (Kd.C_below HR0_2.out HB.out) | (with_reducible refine zzC1 ?_ _) | (with_reducible refine zzC2 ?_ _) | (with_reducible refine zzC3 ?_)))
  (case side4 => exact HC0_2.out)
  rintro e w44 ⟨rfl, hb⟩
  refine ⟨_, rfl, ?_⟩
  have n0_ := Aside0.mk (blk_below (g := gb832) (o := .cells #[.bool a0_0, .slice A0_1 l0_1.length c0_1, .slice A0_2 l0_2.length c0_2] 24 (0, 0)) (by (with_reducible repeat (first | refine zzk1 ?_ _ | refine zzk2 ?_ | refine zzk3 ?_ _)); exact BK832.out) hb)
  have n1_ := Aside0.mk (blk_below (g := gb833) (o := .cells #[.bool a1_0, .slice A1_1 l1_1.length c1_1, .slice A1_2 l1_2.length c1_2] 24 (0, 0)) (by (with_reducible repeat (first | refine zzk1 ?_ _ | refine zzk2 ?_ | refine zzk3 ?_ _)); exact BK833.out) hb)
  have n2_ := Aside0.mk (below_step (by repeat (first | (with_reducible first | exact HB.out | apply zzb1 | apply zzb2 | apply zzb3 | refine below_set ?_ GE832.out | refine below_set ?_ GE833.out) | exact HB.out)) hb)
  clear BK832
  clear BK833
  clear HB
  have BK832 := n0_
  have BK833 := n1_
  have HB := n2_
  clear n0_ n1_ n2_
  (try clear hb)
  (try clear hb2)
  (try clear hk)
  (try clear hi)
  refine hK.out _ _ ⟨(blk_cell BK832.out 0).trans rfl, (blk_cell BK832.out 1).trans rfl, (blk_cell BK832.out 2).trans rfl, (blk_cell BK833.out 0).trans rfl, (blk_cell BK833.out 1).trans rfl, (blk_cell BK833.out 2).trans rfl⟩ (fun hHeld => ?_)
  clear hK K
  refine norm_ (a' := ?_) ?_ ?_
  rotate_left
  ·
   show Act.put _ (some 12) _ = _
   simp only [Act.put, zz7, zz8, zz9, i64_w, i32_w]
   rfl
  refine one_ (i := 3) (N := some 14) #[true, true, true, true, false, false] rfl rfl (by kernel_rfl) (by decide) (fun K hK => ?_)
  refine goes_ Try.func104 (by kernel_rfl) rfl #[.agg #[.bool a1_0, .slice A1_1 l1_1.length c1_1, .slice A1_2 l1_2.length c1_2]] (by rfl) rfl rfl (by (try simp only [zz4, zz5, zz6]); first | done | rfl | (simp only [zza, zzb]; rfl)) ?_
  with_reducible refine (impl_Rat_sign.calls a1_0 _ _ l1_1 _ _ l1_2 t837 _ ?side1 ?side2 ?side3 ?side4 A37.out).mono ?_
  (case side1 => repeat (first | exact (Kd.C_below HR1_1.out HB.out) | (with_reducible refine zzC1 ?_ _) | (with_reducible refine zzC2 ?_ _) | (with_reducible refine zzC3 ?_)))
  (case side2 => exact HC1_1.out)
  (case side3 => repeat (first | exact (Kd.C_below HR1_2.out HB.out) | (with_reducible refine zzC1 ?_ _) | (with_reducible refine zzC2 ?_ _) | (with_reducible refine zzC3 ?_)))
  (case side4 => exact HC1_2.out)
  rintro e w45 ⟨rfl, hb⟩
  refine ⟨_, rfl, ?_⟩
  have n0_ := Aside0.mk (blk_below (g := gb832) (o := .cells #[.bool a0_0, .slice A0_1 l0_1.length c0_1, .slice A0_2 l0_2.length c0_2] 24 (0, 0)) (by (with_reducible repeat (first | refine zzk1 ?_ _ | refine zzk2 ?_ | refine zzk3 ?_ _)); exact BK832.out) hb)
  have n1_ := Aside0.mk (blk_below (g := gb833) (o := .cells #[.bool a1_0, .slice A1_1 l1_1.length c1_1, .slice A1_2 l1_2.length c1_2] 24 (0, 0)) (by (with_reducible repeat (first | refine zzk1 ?_ _ | refine zzk2 ?_ | refine zzk3 ?_ _)); exact BK833.out) hb)
  have n2_ := Aside0.mk (below_step (by repeat (first | (with_reducible first | exact HB.out | apply zzb1 | apply zzb2 | apply zzb3 | refine below_set ?_ GE832.out | refine below_set ?_ GE833.out) | exact HB.out)) hb)
  clear BK832
  clear BK833
  clear HB
  have BK832 := n0_
  have BK833 := n1_
  have HB := n2_
  clear n0_ n1_ n2_
  (try clear hb)
  (try clear hb2)
  (try clear hk)
  (try clear hi)
  refine hK.out _ _ ⟨(blk_cell BK832.out 0).trans rfl, (blk_cell BK832.out 1).trans rfl, (blk_cell BK832.out 2).trans rfl, (blk_cell BK833.out 0).trans rfl, (blk_cell BK833.out 1).trans rfl, (blk_cell BK833.out 2).trans rfl⟩ (fun hHeld => ?_)
  clear hK K
  refine norm_ (a' := ?_) ?_ ?_
  rotate_left
  ·
   show Act.put _ (some 14) _ = _
   simp only [Act.put, zz7, zz8, zz9, i64_w, i32_w]
   rfl
  refine pure_ (i := 4) (N := some 15) (v := ?_) (a' := ?_) #[true, true, true, true, true, false] rfl rfl (by kernel_rfl) (fun _ _ _ h => h) (Or.inl ⟨by rfl, ?_⟩) ?_ ?_
  rotate_left
  ·
   intro w'
   go_simp
   with_reducible rfl
  rotate_left
  ·
   simp only [Act.put, zz7, zz8, zz9, i64_w, i32_w]
   rfl
  refine pure_ (i := 5) (N := some 4) (v := ?_) (a' := ?_) #[true, true, true, true, true, true] rfl rfl (by kernel_rfl) (fun _ _ _ h => h) (Or.inl ⟨by rfl, ?_⟩) ?_ ?_
  rotate_left
  ·
   intro w'
   go_simp
   with_reducible rfl
  rotate_left
  ·
   simp only [Act.put, zz7, zz8, zz9, i64_w, i32_w]
   rfl
  refine done_ (by kernel_rfl) ?_
  try go_wp2
  go_ret
  exact ⟨by first | rfl | (simp [errW_none, errW_some] <;> rfl) | (simp [*, errW_none, errW_some] <;> rfl), by repeat (first | (with_reducible first | exact HB.out | apply zzb1 | apply zzb2 | apply zzb3 | refine below_set ?_ GE832.out | refine below_set ?_ GE833.out) | exact HB.out)⟩

end Go.Proofs.Ytacdaijalkkogaa.Q
