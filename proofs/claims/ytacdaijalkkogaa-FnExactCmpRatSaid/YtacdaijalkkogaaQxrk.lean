-- written by a program of this claim's session (myprint.py) out of the translation; Lean checks it.
import Derived.Test.YtacdaijalkkogaaQx0
import Derived.Test.YtacdaijalkkogaaQxcmp
import Derived.Test.YtacdaijalkkogaaQxgcd
import Derived.Test.YtacdaijalkkogaaQxbase
namespace Go.Proofs.Ytacdaijalkkogaa.Q
open Go.RowKit Go.Proofs.YtacdaijalkkogaaW.PrintWords Go.Proofs.YtacdaijalkkogaaW.PrintLast Go.Proofs.YtacdaijalkkogaaW.PrintMore
attribute [local go_sem] max2_int min2_int max_two min_two max_three min_three max_four min_four
set_option linter.unusedVariables false
set_option linter.unusedSimpArgs false

def impl_one.f  : Option (List Int) := some (([1] : List Int))
set_option maxHeartbeats 8000000 in
set_option maxRecDepth 100000 in
theorem impl_one.calls  (r : List Int) (w : World) (h : impl_one.f  = some r) :
  Calls Try.prog 62 #[] w fun e w' => ∃ v0_ : Value, e = .returned (v0_) ∧ Kd.R (Kd.int .i64) 3 w' w.heap.size (fun _ => True) v0_ r ∧ Below w.heap.size w w' := by
 have HB := Aside0.mk (Below.refl w.heap.size w)
 have H : (some (([1] : List Int))) = some r := h
 clear h
 obtain ⟨y138, hy138⟩ : ∃ y_ : List Int, y_ = (([1] : List Int)) := ⟨_, rfl⟩
 replace H : (some y138) = some r := by first | (rw [hy138]; with_reducible exact H) | (have H2_ := (Option.bind_some _ _).symm.trans H; rw [hy138]; with_reducible exact H2_) | (have H2_ := (Option.bind_some _ _).symm.trans H; with_reducible exact H2_) | with_reducible exact H | (rw [hy138]; exact H) | exact H
 have Ny138 := Aside0.mk hy138
 clear hy138
 obtain rfl := Option.some.inj H
 go_enter Try.func62, Try.ntmps62
 go_wp2_with (first | ((with_reducible refine gate_dst (N := 1) rfl ?_); refine Kd.R_lit (Kd.int .i64) _ 3 ?hg (N := 1) ?hd (xs := ([1] : List Int)) (inner := [.int .i64 1]) (ok := fun _ => True) (okp := fun _ => True) ?hr ?hp (fun _ hk => hk) trivial (Below.refl _ _) (Nat.le_refl _) (by simp) ?_; (case hd => rfl); (case hg => rfl); (case hr => first | (go_simp; done) | (go_simp; rfl)); (case hp => exact (Reps.one (show Kd.M (Kd.int .i64) _ _ _ 1 [.int .i64 1] from rfl) (Reps.none _ _))); intro v139 w1 ho2 hb hg_ hnew_; clear hg_ hnew_; (first | rw [← Ny138.out] at ho2 | (simp only [Int.reduceToNat] at ho2; rw [← Ny138.out] at ho2)); have n0_ := Aside0.mk (Kd.R_lower ho2 (below_size (by repeat (first | (with_reducible first | exact HB.out | apply zzb1 | apply zzb2 | apply zzb3) | exact HB.out)))); have n1_ := Aside0.mk (below_step (by repeat (first | (with_reducible first | exact HB.out | apply zzb1 | apply zzb2 | apply zzb3) | exact HB.out)) hb); clear HB; have HO140 := n0_; have HB := n1_; clear n0_ n1_; clear hb ho2))
 go_ret
 exact ⟨_, by first | rfl | (simp [errW_none, errW_some] <;> rfl) | (simp [*, errW_none, errW_some] <;> rfl), by (with_reducible repeat (first | apply zzR1 | apply zzR2 | apply zzR3)); exact HO140.out, by repeat (first | (with_reducible first | exact HB.out | apply zzb1 | apply zzb2 | apply zzb3) | exact HB.out)⟩

def impl_Rat_isZero.f (a0_0 : Bool) (l0_1 : List Int) (l0_2 : List Int) : Option (Bool) := some ((l0_1.length : Int) == 0)
set_option maxHeartbeats 8000000 in
set_option maxRecDepth 100000 in
theorem impl_Rat_isZero.calls (a0_0 : Bool) (A0_1 : Option Addr) (c0_1 : Nat) (l0_1 : List Int) (A0_2 : Option Addr) (c0_2 : Nat) (l0_2 : List Int) (r : Bool) (w : World) (hr0_1 : Kd.C (Kd.int .i64) w A0_1 l0_1.length l0_1) (hc0_1 : l0_1.length ≤ c0_1) (hr0_2 : Kd.C (Kd.int .i64) w A0_2 l0_2.length l0_2) (hc0_2 : l0_2.length ≤ c0_2) (h : impl_Rat_isZero.f a0_0 l0_1 l0_2 = some r) :
  Calls Try.prog 59 #[.agg #[.bool a0_0, .slice A0_1 l0_1.length c0_1, .slice A0_2 l0_2.length c0_2]] w fun e w' => e = .returned (.bool r) ∧ Below w.heap.size w w' := by
 have hu24 := Try.underlying24
 have HR0_1 := Aside0.mk hr0_1
 have HC0_1 := Aside0.mk hc0_1
 clear hr0_1 hc0_1
 have HR0_2 := Aside0.mk hr0_2
 have HC0_2 := Aside0.mk hc0_2
 clear hr0_2 hc0_2
 have HB := Aside0.mk (Below.refl w.heap.size w)
 have H : (some ((l0_1.length : Int) == 0)) = some r := h
 clear h
 obtain rfl := Option.some.inj H
 go_enter Try.func59, Try.ntmps59
 go_wp2_with (first | ((with_reducible refine gate_dst (N := 1) rfl ?_); refine box_event ?hg (N := 1) ?hd (cs := #[.bool a0_0, .slice A0_1 l0_1.length c0_1, .slice A0_2 l0_2.length c0_2]) (t := 24) ?hr ?_; (case hd => rfl); (case hg => rfl); (case hr => first | (go_simp; done) | (go_simp; rfl)); intro gb252 hg w2 hbox hb; have n0_ := Aside0.mk (below_step (by repeat (first | (with_reducible first | exact HB.out | apply zzb1 | apply zzb2 | apply zzb3) | exact HB.out)) hb); have n1_ := Aside0.mk (hbox); have n2_ := Aside0.mk ((by rw [hg]; exact (below_size (by repeat (first | (with_reducible first | exact HB.out | apply zzb1 | apply zzb2 | apply zzb3) | exact HB.out))) : w.heap.size ≤ gb252)); have n3_ := Aside0.mk ((by rw [hg]; exact (below_size (by repeat (first | (with_reducible first | exact HB.out | apply zzb1 | apply zzb2 | apply zzb3) | exact HB.out))) : w.heap.size ≤ gb252)); clear HB; have HB := n0_; have BK252 := n1_; have GW252 := n2_; have GE252 := n3_; clear n0_ n1_ n2_ n3_; clear hb hbox hg; have hcz3_0 : w2.cell? ⟨gb252, 0, none⟩ = some (.bool a0_0) := (blk_cell BK252.out 0).trans rfl; have hcz3_1 : w2.cell? ⟨gb252, 1, none⟩ = some (.slice A0_1 l0_1.length c0_1) := (blk_cell BK252.out 1).trans rfl; have hcz3_2 : w2.cell? ⟨gb252, 2, none⟩ = some (.slice A0_2 l0_2.length c0_2) := (blk_cell BK252.out 2).trans rfl; have hfz3_0 := blk_frozen BK252.out 0; have hfz3_1 := blk_frozen BK252.out 1; have hfz3_2 := blk_frozen BK252.out 2))
 go_ret
 exact ⟨by first | rfl | (simp [errW_none, errW_some] <;> rfl) | (simp [*, errW_none, errW_some] <;> rfl), by repeat (first | (with_reducible first | exact HB.out | apply zzb1 | apply zzb2 | apply zzb3 | refine below_set ?_ GE252.out) | exact HB.out)⟩

def impl_RatOK.j0 : Nat → Bool → Bool → List Int → List Int → Option (Bool)
 | 0, _, _, _, _ => none
 | k + 1, x26, x302000, x302001, x302002 => if x26 = true then (some false) else ((impl_natGcd.f k x302001 x302002).bind fun t305 => ((impl_one.f).bind fun t308 => ((impl_natCmp.f t305 t308).bind fun t311 => (some (t311 == 0)))))
def impl_RatOK.f (k : Nat) (a0_0 : Bool) (l0_1 : List Int) (l0_2 : List Int) : Option (Bool) := (impl_NatOK.f l0_1).bind fun t302 => (if t302 = true then ((impl_NatOK.f l0_2).bind fun t303 => (if t303 = true then (if (l0_2.length : Int) = 0 then (impl_RatOK.j0 k true a0_0 l0_1 l0_2) else (if a0_0 = true then ((impl_Rat_isZero.f a0_0 l0_1 l0_2).bind fun t304 => (impl_RatOK.j0 k t304 a0_0 l0_1 l0_2)) else (impl_RatOK.j0 k false a0_0 l0_1 l0_2))) else (impl_RatOK.j0 k true a0_0 l0_1 l0_2))) else (impl_RatOK.j0 k true a0_0 l0_1 l0_2))
theorem impl_RatOK.mono_l : ∀ k, (∀ y0 y1 y2 y3, LeO (impl_RatOK.j0 k y0 y1 y2 y3) (impl_RatOK.j0 (k + 1) y0 y1 y2 y3))
 | 0 => fun _ _ _ _ r h => by simp [impl_RatOK.j0] at h
 | k + 1 => by
  have ih0 := impl_RatOK.mono_l k
  ·
   intro y0 y1 y2 y3
   unfold impl_RatOK.j0
   repeat' first
   | (with_reducible exact ih0 _ _ _ _)
   | (with_reducible exact impl_natGcd.mono _ _ _)
   | (with_reducible exact LeO.refl _)
   | (with_reducible exact LeO.none _)
   | (with_reducible refine LeO.ite ?_ ?_)
   | (with_reducible refine LeO.bind ?_ (fun _ => ?_))
   | exact ih0 _ _ _ _
   | exact impl_natGcd.mono _ _ _
   | exact LeO.none _
   | refine LeO.ite ?_ ?_
   | refine LeO.bind ?_ (fun _ => ?_)
theorem impl_RatOK.mono : ∀ a0 a1 a2 k, LeO (impl_RatOK.f k a0 a1 a2) (impl_RatOK.f (k + 1) a0 a1 a2) := by
 intro a0 a1 a2 k
 have ih0 := impl_RatOK.mono_l k
 unfold impl_RatOK.f
 repeat' first
   | (with_reducible exact ih0 _ _ _ _)
   | (with_reducible exact impl_natGcd.mono _ _ _)
   | (with_reducible exact LeO.refl _)
   | (with_reducible exact LeO.none _)
   | (with_reducible refine LeO.ite ?_ ?_)
   | (with_reducible refine LeO.bind ?_ (fun _ => ?_))
   | exact ih0 _ _ _ _
   | exact impl_natGcd.mono _ _ _
   | exact LeO.none _
   | refine LeO.ite ?_ ?_
   | refine LeO.bind ?_ (fun _ => ?_)
set_option maxHeartbeats 8000000 in
set_option maxRecDepth 100000 in
theorem impl_RatOK.calls (k : Nat) (a0_0 : Bool) (A0_1 : Option Addr) (c0_1 : Nat) (l0_1 : List Int) (A0_2 : Option Addr) (c0_2 : Nat) (l0_2 : List Int) (r : Bool) (w : World) (hr0_1 : Kd.C (Kd.int .i64) w A0_1 l0_1.length l0_1) (hc0_1 : l0_1.length ≤ c0_1) (hr0_2 : Kd.C (Kd.int .i64) w A0_2 l0_2.length l0_2) (hc0_2 : l0_2.length ≤ c0_2) (h : impl_RatOK.f k a0_0 l0_1 l0_2 = some r) :
  Calls Try.prog 23 #[.agg #[.bool a0_0, .slice A0_1 l0_1.length c0_1, .slice A0_2 l0_2.length c0_2]] w fun e w' => e = .returned (.bool r) ∧ Below w.heap.size w w' := by
 have hu24 := Try.underlying24
 have HR0_1 := Aside0.mk hr0_1
 have HC0_1 := Aside0.mk hc0_1
 clear hr0_1 hc0_1
 have HR0_2 := Aside0.mk hr0_2
 have HC0_2 := Aside0.mk hc0_2
 clear hr0_2 hc0_2
 have HB := Aside0.mk (Below.refl w.heap.size w)
 have H : ((impl_NatOK.f l0_1).bind fun t302 => (if t302 = true then ((impl_NatOK.f l0_2).bind fun t303 => (if t303 = true then (if (l0_2.length : Int) = 0 then (impl_RatOK.j0 k true a0_0 l0_1 l0_2) else (if a0_0 = true then ((impl_Rat_isZero.f a0_0 l0_1 l0_2).bind fun t304 => (impl_RatOK.j0 k t304 a0_0 l0_1 l0_2)) else (impl_RatOK.j0 k false a0_0 l0_1 l0_2))) else (impl_RatOK.j0 k true a0_0 l0_1 l0_2))) else (impl_RatOK.j0 k true a0_0 l0_1 l0_2))) = some r := h
 clear h
 have HC2 := Aside0.mk H
 clear H
 go_enter Try.func23, Try.ntmps23
 go_upto_region 1 with (first | ((with_reducible refine gate_dst (N := 1) rfl ?_); (try (refine gate_guard (by rfl) ?_; dsimp only)); refine box_event ?hg (N := 1) ?hd (cs := #[.bool a0_0, .slice A0_1 l0_1.length c0_1, .slice A0_2 l0_2.length c0_2]) (t := 24) ?hr ?_; (case hd => rfl); (case hg => rfl); (case hr => first | (go_simp; done) | (go_simp; rfl)); intro gb301 hg w3 hbox hb; have n0_ := Aside0.mk (below_step (by repeat (first | (with_reducible first | exact HB.out | apply zzb1 | apply zzb2 | apply zzb3) | exact HB.out)) hb); have n1_ := Aside0.mk (hbox); have n2_ := Aside0.mk ((by rw [hg]; exact (below_size (by repeat (first | (with_reducible first | exact HB.out | apply zzb1 | apply zzb2 | apply zzb3) | exact HB.out))) : w.heap.size ≤ gb301)); have n3_ := Aside0.mk ((by rw [hg]; exact (below_size (by repeat (first | (with_reducible first | exact HB.out | apply zzb1 | apply zzb2 | apply zzb3) | exact HB.out))) : w.heap.size ≤ gb301)); clear HB; have HB := n0_; have BK301 := n1_; have GW301 := n2_; have GE301 := n3_; clear n0_ n1_ n2_ n3_; clear hb hbox hg))
 (try simp only [Act.put, zz7, zz8, zz9])
 go_cut [26] (fun v26 wc => ∃ (kq : Nat) (x26_1 : Bool), v26 = .bool x26_1 ∧ Aside0 (impl_RatOK.j0 kq x26_1 a0_0 l0_1 l0_2 = some r) ∧ Aside0 (kq ≤ k) ∧ Aside0 (wc.heap[gb301]? = some (.cells #[.bool a0_0, (.slice A0_1 l0_1.length c0_1), (.slice A0_2 l0_2.length c0_2)] 24 (0, 0))) ∧ Aside0 (Below w.heap.size w wc))
 case first =>
  have H := HC2.out
  clear HC2
  replace H := Option.bind_eq_some_iff.mp H
  obtain ⟨t302, A40, H⟩ := H
  replace H : (if t302 = true then ((impl_NatOK.f l0_2).bind fun t303 => (if t303 = true then (if (l0_2.length : Int) = 0 then (impl_RatOK.j0 k true a0_0 l0_1 l0_2) else (if a0_0 = true then ((impl_Rat_isZero.f a0_0 l0_1 l0_2).bind fun t304 => (impl_RatOK.j0 k t304 a0_0 l0_1 l0_2)) else (impl_RatOK.j0 k false a0_0 l0_1 l0_2))) else (impl_RatOK.j0 k true a0_0 l0_1 l0_2))) else (impl_RatOK.j0 k true a0_0 l0_1 l0_2)) = some r := H
  have A4 := Aside0.mk A40
  clear A40
  by_cases c5 : t302 = true
  ·
   subst c5
   have H1 : ((impl_NatOK.f l0_2).bind fun t303 => (if t303 = true then (if (l0_2.length : Int) = 0 then (impl_RatOK.j0 k true a0_0 l0_1 l0_2) else (if a0_0 = true then ((impl_Rat_isZero.f a0_0 l0_1 l0_2).bind fun t304 => (impl_RatOK.j0 k t304 a0_0 l0_1 l0_2)) else (impl_RatOK.j0 k false a0_0 l0_1 l0_2))) else (impl_RatOK.j0 k true a0_0 l0_1 l0_2))) = some r := by rw [if_pos rfl] at H; exact H
   clear H
   have H := H1
   clear H1
   replace H := Option.bind_eq_some_iff.mp H
   obtain ⟨t303, A60, H⟩ := H
   replace H : (if t303 = true then (if (l0_2.length : Int) = 0 then (impl_RatOK.j0 k true a0_0 l0_1 l0_2) else (if a0_0 = true then ((impl_Rat_isZero.f a0_0 l0_1 l0_2).bind fun t304 => (impl_RatOK.j0 k t304 a0_0 l0_1 l0_2)) else (impl_RatOK.j0 k false a0_0 l0_1 l0_2))) else (impl_RatOK.j0 k true a0_0 l0_1 l0_2)) = some r := H
   have A6 := Aside0.mk A60
   clear A60
   by_cases c7 : t303 = true
   ·
    subst c7
    have H1 : (if (l0_2.length : Int) = 0 then (impl_RatOK.j0 k true a0_0 l0_1 l0_2) else (if a0_0 = true then ((impl_Rat_isZero.f a0_0 l0_1 l0_2).bind fun t304 => (impl_RatOK.j0 k t304 a0_0 l0_1 l0_2)) else (impl_RatOK.j0 k false a0_0 l0_1 l0_2))) = some r := by rw [if_pos rfl] at H; exact H
    clear H
    have H := H1
    clear H1
    by_cases c8 : (l0_2.length : Int) = 0
    ·
     rw [if_pos c8] at H
     have c8b0 : ((l0_2.length : Int) == 0) = true := beq_iff_eq.mpr c8
     have c8b1 : ((l0_2.length : Int) != 0) = false := bne_eq_false_iff_eq.mpr c8
     clear c8
     (first | rw [c8b0] | (simp only [i64_w, i32_w]; rw [c8b0]) | skip)
     have H' := Aside0.mk H
     clear H
     have hcz9_0 : w3.cell? ⟨gb301, 0, none⟩ = some (.bool a0_0) := (blk_cell BK301.out 0).trans rfl
     have hcz9_1 : w3.cell? ⟨gb301, 1, none⟩ = some (.slice A0_1 l0_1.length c0_1) := (blk_cell BK301.out 1).trans rfl
     have hcz9_2 : w3.cell? ⟨gb301, 2, none⟩ = some (.slice A0_2 l0_2.length c0_2) := (blk_cell BK301.out 2).trans rfl
     have hfz9_0 := blk_frozen BK301.out 0
     have hfz9_1 := blk_frozen BK301.out 1
     have hfz9_2 := blk_frozen BK301.out 2
     go_wp2_with (first | ((with_reducible refine gate_callee (f := 58) rfl ?_); refine goesL_ (some 5) rfl rfl Try.func58 (by kernel_rfl) rfl #[.slice A0_1 l0_1.length c0_1] rfl (by (try simp only [zz4, zz5, zz6]); first | done | rfl | (simp only [zza, zzb]; rfl)) ?_; (with_reducible refine (impl_NatOK.calls _ _ l0_1 true _ ?side1 ?side2 A4.out).mono ?_); (case side1 => repeat (first | exact (Kd.C_below HR0_1.out HB.out) | (with_reducible refine zzC1 ?_ _) | (with_reducible refine zzC2 ?_ _) | (with_reducible refine zzC3 ?_))); (case side2 => exact HC0_1.out); rintro e w' ⟨rfl, ⟨nd, rfl⟩⟩; refine ⟨_, rfl, ?_⟩) | (go_at_call 58; (with_reducible refine (impl_NatOK.calls _ _ l0_2 true _ ?side1 ?side2 A6.out).mono ?_); (case side1 => repeat (first | exact (Kd.C_below HR0_2.out (by repeat (first | (with_reducible first | exact HB.out | apply zzb1 | apply zzb2 | apply zzb3 | refine below_set ?_ GE301.out) | exact HB.out))) | (with_reducible refine zzC1 ?_ _) | (with_reducible refine zzC2 ?_ _) | (with_reducible refine zzC3 ?_))); (case side2 => exact HC0_2.out); rintro e w' ⟨rfl, ⟨nd, rfl⟩⟩))
     go_meet
     case rel => exact ⟨_, (true), (by first | rfl | (simp; done) | (simp [*]; done)), H', ⟨by first | omega | exact Nat.le_refl _⟩, ⟨by (with_reducible repeat (first | refine zzk1 ?_ _ | refine zzk2 ?_ | refine zzk3 ?_ _)); exact BK301.out⟩, ⟨by repeat (first | (with_reducible first | exact HB.out | apply zzb1 | apply zzb2 | apply zzb3 | refine below_set ?_ GE301.out) | exact HB.out)⟩⟩
    ·
     rw [if_neg c8] at H
     have c8b0 : ((l0_2.length : Int) == 0) = false := beq_eq_false_iff_ne.mpr c8
     have c8b1 : ((l0_2.length : Int) != 0) = true := bne_iff_ne.mpr c8
     have c8b2 : ¬ (l0_2 = []) := fun h_ => c8 (by rw [h_]; rfl)
     (first | rw [c8b0] | (simp only [i64_w, i32_w]; rw [c8b0]) | skip)
     by_cases c10 : a0_0 = true
     ·
      subst c10
      have H1 : ((impl_Rat_isZero.f true l0_1 l0_2).bind fun t304 => (impl_RatOK.j0 k t304 true l0_1 l0_2)) = some r := by rw [if_pos rfl] at H; exact H
      clear H
      have H := H1
      clear H1
      replace H := Option.bind_eq_some_iff.mp H
      obtain ⟨t304, A110, H⟩ := H
      replace H : (impl_RatOK.j0 k t304 true l0_1 l0_2) = some r := H
      have A11 := Aside0.mk A110
      clear A110
      have H' := Aside0.mk H
      clear H
      have hcz12_0 : w3.cell? ⟨gb301, 0, none⟩ = some (.bool true) := (blk_cell BK301.out 0).trans rfl
      have hcz12_1 : w3.cell? ⟨gb301, 1, none⟩ = some (.slice A0_1 l0_1.length c0_1) := (blk_cell BK301.out 1).trans rfl
      have hcz12_2 : w3.cell? ⟨gb301, 2, none⟩ = some (.slice A0_2 l0_2.length c0_2) := (blk_cell BK301.out 2).trans rfl
      have hfz12_0 := blk_frozen BK301.out 0
      have hfz12_1 := blk_frozen BK301.out 1
      have hfz12_2 := blk_frozen BK301.out 2
      go_wp2_with (first | ((with_reducible refine gate_callee (f := 58) rfl ?_); refine goesL_ (some 5) rfl rfl Try.func58 (by kernel_rfl) rfl #[.slice A0_1 l0_1.length c0_1] rfl (by (try simp only [zz4, zz5, zz6]); first | done | rfl | (simp only [zza, zzb]; rfl)) ?_; (with_reducible refine (impl_NatOK.calls _ _ l0_1 true _ ?side1 ?side2 A4.out).mono ?_); (case side1 => repeat (first | exact (Kd.C_below HR0_1.out HB.out) | (with_reducible refine zzC1 ?_ _) | (with_reducible refine zzC2 ?_ _) | (with_reducible refine zzC3 ?_))); (case side2 => exact HC0_1.out); rintro e w' ⟨rfl, ⟨nd, rfl⟩⟩; refine ⟨_, rfl, ?_⟩) | (go_at_call 58; (with_reducible refine (impl_NatOK.calls _ _ l0_2 true _ ?side1 ?side2 A6.out).mono ?_); (case side1 => repeat (first | exact (Kd.C_below HR0_2.out (by repeat (first | (with_reducible first | exact HB.out | apply zzb1 | apply zzb2 | apply zzb3 | refine below_set ?_ GE301.out) | exact HB.out))) | (with_reducible refine zzC1 ?_ _) | (with_reducible refine zzC2 ?_ _) | (with_reducible refine zzC3 ?_))); (case side2 => exact HC0_2.out); rintro e w' ⟨rfl, ⟨nd, rfl⟩⟩) | (go_at_call 59; (with_reducible refine (impl_Rat_isZero.calls true _ _ l0_1 _ _ l0_2 t304 _ ?side1 ?side2 ?side3 ?side4 A11.out).mono ?_); (case side1 => repeat (first | exact (Kd.C_below HR0_1.out (by repeat (first | (with_reducible first | exact HB.out | apply zzb1 | apply zzb2 | apply zzb3 | refine below_set ?_ GE301.out) | exact HB.out))) | (with_reducible refine zzC1 ?_ _) | (with_reducible refine zzC2 ?_ _) | (with_reducible refine zzC3 ?_))); (case side2 => exact HC0_1.out); (case side3 => repeat (first | exact (Kd.C_below HR0_2.out (by repeat (first | (with_reducible first | exact HB.out | apply zzb1 | apply zzb2 | apply zzb3 | refine below_set ?_ GE301.out) | exact HB.out))) | (with_reducible refine zzC1 ?_ _) | (with_reducible refine zzC2 ?_ _) | (with_reducible refine zzC3 ?_))); (case side4 => exact HC0_2.out); rintro e w13 ⟨rfl, hb⟩; have n0_ := Aside0.mk (blk_below (g := gb301) (o := .cells #[.bool true, .slice A0_1 l0_1.length c0_1, .slice A0_2 l0_2.length c0_2] 24 (0, 0)) (by (with_reducible repeat (first | refine zzk1 ?_ _ | refine zzk2 ?_ | refine zzk3 ?_ _)); exact BK301.out) hb); have n1_ := Aside0.mk (below_step (by repeat (first | (with_reducible first | exact HB.out | apply zzb1 | apply zzb2 | apply zzb3 | refine below_set ?_ GE301.out) | exact HB.out)) hb); clear BK301; clear HB; have BK301 := n0_; have HB := n1_; clear n0_ n1_; (try clear hb); (try clear hb2); (try clear hk); (try clear hi)))
      go_meet
      case rel => exact ⟨_, (t304), (by first | rfl | (simp; done) | (simp [*]; done)), H', ⟨by first | omega | exact Nat.le_refl _⟩, ⟨by (with_reducible repeat (first | refine zzk1 ?_ _ | refine zzk2 ?_ | refine zzk3 ?_ _)); exact BK301.out⟩, ⟨by repeat (first | (with_reducible first | exact HB.out | apply zzb1 | apply zzb2 | apply zzb3 | refine below_set ?_ GE301.out) | exact HB.out)⟩⟩
     ·
      replace c10 := Bool.eq_false_iff.mpr c10
      subst c10
      have H1 : (impl_RatOK.j0 k false false l0_1 l0_2) = some r := by rw [if_neg (show ¬ (false = true) by decide)] at H; exact H
      clear H
      have H := H1
      clear H1
      have H' := Aside0.mk H
      clear H
      have hcz14_0 : w3.cell? ⟨gb301, 0, none⟩ = some (.bool false) := (blk_cell BK301.out 0).trans rfl
      have hcz14_1 : w3.cell? ⟨gb301, 1, none⟩ = some (.slice A0_1 l0_1.length c0_1) := (blk_cell BK301.out 1).trans rfl
      have hcz14_2 : w3.cell? ⟨gb301, 2, none⟩ = some (.slice A0_2 l0_2.length c0_2) := (blk_cell BK301.out 2).trans rfl
      have hfz14_0 := blk_frozen BK301.out 0
      have hfz14_1 := blk_frozen BK301.out 1
      have hfz14_2 := blk_frozen BK301.out 2
      go_wp2_with (first | ((with_reducible refine gate_callee (f := 58) rfl ?_); refine goesL_ (some 5) rfl rfl Try.func58 (by kernel_rfl) rfl #[.slice A0_1 l0_1.length c0_1] rfl (by (try simp only [zz4, zz5, zz6]); first | done | rfl | (simp only [zza, zzb]; rfl)) ?_; (with_reducible refine (impl_NatOK.calls _ _ l0_1 true _ ?side1 ?side2 A4.out).mono ?_); (case side1 => repeat (first | exact (Kd.C_below HR0_1.out HB.out) | (with_reducible refine zzC1 ?_ _) | (with_reducible refine zzC2 ?_ _) | (with_reducible refine zzC3 ?_))); (case side2 => exact HC0_1.out); rintro e w' ⟨rfl, ⟨nd, rfl⟩⟩; refine ⟨_, rfl, ?_⟩) | (go_at_call 58; (with_reducible refine (impl_NatOK.calls _ _ l0_2 true _ ?side1 ?side2 A6.out).mono ?_); (case side1 => repeat (first | exact (Kd.C_below HR0_2.out (by repeat (first | (with_reducible first | exact HB.out | apply zzb1 | apply zzb2 | apply zzb3 | refine below_set ?_ GE301.out) | exact HB.out))) | (with_reducible refine zzC1 ?_ _) | (with_reducible refine zzC2 ?_ _) | (with_reducible refine zzC3 ?_))); (case side2 => exact HC0_2.out); rintro e w' ⟨rfl, ⟨nd, rfl⟩⟩))
      go_meet
      case rel => exact ⟨_, (false), (by first | rfl | (simp; done) | (simp [*]; done)), H', ⟨by first | omega | exact Nat.le_refl _⟩, ⟨by (with_reducible repeat (first | refine zzk1 ?_ _ | refine zzk2 ?_ | refine zzk3 ?_ _)); exact BK301.out⟩, ⟨by repeat (first | (with_reducible first | exact HB.out | apply zzb1 | apply zzb2 | apply zzb3 | refine below_set ?_ GE301.out) | exact HB.out)⟩⟩
   ·
    replace c7 := Bool.eq_false_iff.mpr c7
    subst c7
    have H1 : (impl_RatOK.j0 k true a0_0 l0_1 l0_2) = some r := by rw [if_neg (show ¬ (false = true) by decide)] at H; exact H
    clear H
    have H := H1
    clear H1
    have H' := Aside0.mk H
    clear H
    have hcz15_0 : w3.cell? ⟨gb301, 0, none⟩ = some (.bool a0_0) := (blk_cell BK301.out 0).trans rfl
    have hcz15_1 : w3.cell? ⟨gb301, 1, none⟩ = some (.slice A0_1 l0_1.length c0_1) := (blk_cell BK301.out 1).trans rfl
    have hcz15_2 : w3.cell? ⟨gb301, 2, none⟩ = some (.slice A0_2 l0_2.length c0_2) := (blk_cell BK301.out 2).trans rfl
    have hfz15_0 := blk_frozen BK301.out 0
    have hfz15_1 := blk_frozen BK301.out 1
    have hfz15_2 := blk_frozen BK301.out 2
    go_wp2_with (first | ((with_reducible refine gate_callee (f := 58) rfl ?_); refine goesL_ (some 5) rfl rfl Try.func58 (by kernel_rfl) rfl #[.slice A0_1 l0_1.length c0_1] rfl (by (try simp only [zz4, zz5, zz6]); first | done | rfl | (simp only [zza, zzb]; rfl)) ?_; (with_reducible refine (impl_NatOK.calls _ _ l0_1 true _ ?side1 ?side2 A4.out).mono ?_); (case side1 => repeat (first | exact (Kd.C_below HR0_1.out HB.out) | (with_reducible refine zzC1 ?_ _) | (with_reducible refine zzC2 ?_ _) | (with_reducible refine zzC3 ?_))); (case side2 => exact HC0_1.out); rintro e w' ⟨rfl, ⟨nd, rfl⟩⟩; refine ⟨_, rfl, ?_⟩) | (go_at_call 58; (with_reducible refine (impl_NatOK.calls _ _ l0_2 false _ ?side1 ?side2 A6.out).mono ?_); (case side1 => repeat (first | exact (Kd.C_below HR0_2.out (by repeat (first | (with_reducible first | exact HB.out | apply zzb1 | apply zzb2 | apply zzb3 | refine below_set ?_ GE301.out) | exact HB.out))) | (with_reducible refine zzC1 ?_ _) | (with_reducible refine zzC2 ?_ _) | (with_reducible refine zzC3 ?_))); (case side2 => exact HC0_2.out); rintro e w' ⟨rfl, ⟨nd, rfl⟩⟩))
    go_meet
    case rel => exact ⟨_, (true), (by first | rfl | (simp; done) | (simp [*]; done)), H', ⟨by first | omega | exact Nat.le_refl _⟩, ⟨by (with_reducible repeat (first | refine zzk1 ?_ _ | refine zzk2 ?_ | refine zzk3 ?_ _)); exact BK301.out⟩, ⟨by repeat (first | (with_reducible first | exact HB.out | apply zzb1 | apply zzb2 | apply zzb3 | refine below_set ?_ GE301.out) | exact HB.out)⟩⟩
  ·
   replace c5 := Bool.eq_false_iff.mpr c5
   subst c5
   have H1 : (impl_RatOK.j0 k true a0_0 l0_1 l0_2) = some r := by rw [if_neg (show ¬ (false = true) by decide)] at H; exact H
   clear H
   have H := H1
   clear H1
   have H' := Aside0.mk H
   clear H
   have hcz16_0 : w3.cell? ⟨gb301, 0, none⟩ = some (.bool a0_0) := (blk_cell BK301.out 0).trans rfl
   have hcz16_1 : w3.cell? ⟨gb301, 1, none⟩ = some (.slice A0_1 l0_1.length c0_1) := (blk_cell BK301.out 1).trans rfl
   have hcz16_2 : w3.cell? ⟨gb301, 2, none⟩ = some (.slice A0_2 l0_2.length c0_2) := (blk_cell BK301.out 2).trans rfl
   have hfz16_0 := blk_frozen BK301.out 0
   have hfz16_1 := blk_frozen BK301.out 1
   have hfz16_2 := blk_frozen BK301.out 2
   go_wp2_with (first | ((with_reducible refine gate_callee (f := 58) rfl ?_); refine goesL_ (some 5) rfl rfl Try.func58 (by kernel_rfl) rfl #[.slice A0_1 l0_1.length c0_1] rfl (by (try simp only [zz4, zz5, zz6]); first | done | rfl | (simp only [zza, zzb]; rfl)) ?_; (with_reducible refine (impl_NatOK.calls _ _ l0_1 false _ ?side1 ?side2 A4.out).mono ?_); (case side1 => repeat (first | exact (Kd.C_below HR0_1.out HB.out) | (with_reducible refine zzC1 ?_ _) | (with_reducible refine zzC2 ?_ _) | (with_reducible refine zzC3 ?_))); (case side2 => exact HC0_1.out); rintro e w' ⟨rfl, ⟨nd, rfl⟩⟩; refine ⟨_, rfl, ?_⟩))
   go_meet
   case rel => exact ⟨_, (true), (by first | rfl | (simp; done) | (simp [*]; done)), H', ⟨by first | omega | exact Nat.le_refl _⟩, ⟨by (with_reducible repeat (first | refine zzk1 ?_ _ | refine zzk2 ?_ | refine zzk3 ?_ _)); exact BK301.out⟩, ⟨by repeat (first | (with_reducible first | exact HB.out | apply zzb1 | apply zzb2 | apply zzb3 | refine below_set ?_ GE301.out) | exact HB.out)⟩⟩
 case rest =>
  clear HC2
  try clear c1
  try clear c2
  try clear p2
  try clear c5
  try clear c7
  try clear c8
  try clear c8b0
  try clear c8b1
  try clear c8b2
  try clear c10
  try clear hcz12_0
  try clear hcz12_1
  try clear hcz12_2
  try clear hcz14_0
  try clear hcz14_1
  try clear hcz14_2
  try clear hcz15_0
  try clear hcz15_1
  try clear hcz15_2
  try clear hcz16_0
  try clear hcz16_1
  try clear hcz16_2
  try clear hcz9_0
  try clear hcz9_1
  try clear hcz9_2
  try clear hfz12_0
  try clear hfz12_1
  try clear hfz12_2
  try clear hfz14_0
  try clear hfz14_1
  try clear hfz14_2
  try clear hfz15_0
  try clear hfz15_1
  try clear hfz15_2
  try clear hfz16_0
  try clear hfz16_1
  try clear hfz16_2
  try clear hfz9_0
  try clear hfz9_1
  try clear hfz9_2
  obtain ⟨kq, x26_1, rfl, HA, HJ1, BK301, HB⟩ := hcut
  cases kq with
  | zero => exact absurd HA.out (by simp [impl_RatOK.j0])
  | succ kj1 =>
   have H := HA.out
   clear HA
   simp only [impl_RatOK.j0] at H
   by_cases c17 : x26_1 = true
   ·
    subst c17
    have H1 : (some false) = some r := by rw [if_pos rfl] at H; exact H
    clear H
    have H := H1
    clear H1
    obtain rfl := Option.some.inj H
    go_wp2
    go_ret
    exact ⟨by first | rfl | (simp [errW_none, errW_some] <;> rfl) | (simp [*, errW_none, errW_some] <;> rfl), by repeat (first | (with_reducible first | exact HB.out | apply zzb1 | apply zzb2 | apply zzb3 | refine below_set ?_ GE301.out) | exact HB.out)⟩
   ·
    replace c17 := Bool.eq_false_iff.mpr c17
    subst c17
    have H1 : ((impl_natGcd.f kj1 l0_1 l0_2).bind fun t305 => ((impl_one.f).bind fun t308 => ((impl_natCmp.f t305 t308).bind fun t311 => (some (t311 == 0))))) = some r := by rw [if_neg (show ¬ (false = true) by decide)] at H; exact H
    clear H
    have H := H1
    clear H1
    replace H := Option.bind_eq_some_iff.mp H
    obtain ⟨t305, A180, H⟩ := H
    replace H : ((impl_one.f).bind fun t308 => ((impl_natCmp.f t305 t308).bind fun t311 => (some (t311 == 0)))) = some r := H
    have A18 := Aside0.mk A180
    clear A180
    replace H := Option.bind_eq_some_iff.mp H
    obtain ⟨t308, A190, H⟩ := H
    replace H : ((impl_natCmp.f t305 t308).bind fun t311 => (some (t311 == 0))) = some r := H
    have A19 := Aside0.mk A190
    clear A190
    replace H := Option.bind_eq_some_iff.mp H
    obtain ⟨t311, A200, H⟩ := H
    replace H : (some (t311 == 0)) = some r := H
    have A20 := Aside0.mk A200
    clear A200
    obtain rfl := Option.some.inj H
    have hcz21_0 : wc.cell? ⟨gb301, 0, none⟩ = some (.bool a0_0) := (blk_cell BK301.out 0).trans rfl
    have hcz21_1 : wc.cell? ⟨gb301, 1, none⟩ = some (.slice A0_1 l0_1.length c0_1) := (blk_cell BK301.out 1).trans rfl
    have hcz21_2 : wc.cell? ⟨gb301, 2, none⟩ = some (.slice A0_2 l0_2.length c0_2) := (blk_cell BK301.out 2).trans rfl
    have hfz21_0 := blk_frozen BK301.out 0
    have hfz21_1 := blk_frozen BK301.out 1
    have hfz21_2 := blk_frozen BK301.out 2
    go_wp2_with (first | ((with_reducible refine gate_callee (f := 61) rfl ?_); refine goesL_ (some 31) rfl rfl Try.func61 (by kernel_rfl) rfl #[.slice A0_1 l0_1.length c0_1, .slice A0_2 l0_2.length c0_2] rfl (by (try simp only [zz4, zz5, zz6]); first | done | rfl | (simp only [zza, zzb]; rfl)) ?_; (with_reducible refine (impl_natGcd.calls kj1 (fun k_ => k_ < w.heap.size) _ _ l0_1 (fun k_ => k_ < w.heap.size) _ _ l0_2 t305 _ ?side1 ?side2 A18.out).mono ?_); (case side1 => exact Kd.V_mk HC0_1.out (Kd.F_below (Kd.C_F (Kd.heap_int .i64) HR0_1.out) (by repeat (first | (with_reducible first | exact HB.out | apply zzb1 | apply zzb2 | apply zzb3 | refine below_set ?_ GE301.out) | exact HB.out)))); (case side2 => exact Kd.V_mk HC0_2.out (Kd.F_below (Kd.C_F (Kd.heap_int .i64) HR0_2.out) (by repeat (first | (with_reducible first | exact HB.out | apply zzb1 | apply zzb2 | apply zzb3 | refine below_set ?_ GE301.out) | exact HB.out)))); rintro e w22 ⟨v306, rfl, ho0, hb⟩; refine ⟨_, rfl, ?_⟩; have n0_ := Aside0.mk (Kd.V_lower (Kd.V_mono (ok' := fun k_ => k_ ≠ gb301) ho0 (fun k_ hk_ => Or.elim hk_ (fun hs_ => Or.elim hs_ (fun hs_ => fun e_ => Nat.not_le.2 hs_ (by rw [e_]; exact GW301.out)) (fun hs_ => fun e_ => Nat.not_le.2 hs_ (by rw [e_]; exact GW301.out))) (fun hn_ => (Kd.freshB (g := gb301) (o := .cells #[.bool a0_0, .slice A0_1 l0_1.length c0_1, .slice A0_2 l0_2.length c0_2] 24 (0, 0)) (by (with_reducible repeat (first | refine zzk1 ?_ _ | refine zzk2 ?_ | refine zzk3 ?_ _)); exact BK301.out) k_ hn_)))) (below_size (by repeat (first | (with_reducible first | exact HB.out | apply zzb1 | apply zzb2 | apply zzb3 | refine below_set ?_ GE301.out) | exact HB.out)))); have n1_ := Aside0.mk (blk_below (g := gb301) (o := .cells #[.bool a0_0, .slice A0_1 l0_1.length c0_1, .slice A0_2 l0_2.length c0_2] 24 (0, 0)) (by (with_reducible repeat (first | refine zzk1 ?_ _ | refine zzk2 ?_ | refine zzk3 ?_ _)); exact BK301.out) hb); have n2_ := Aside0.mk (below_step (by repeat (first | (with_reducible first | exact HB.out | apply zzb1 | apply zzb2 | apply zzb3 | refine below_set ?_ GE301.out) | exact HB.out)) hb); clear BK301; clear HB; have HO307 := n0_; have BK301 := n1_; have HB := n2_; clear n0_ n1_ n2_; (try clear hb); (try clear hb2); (try clear hk); (try clear hi); (try clear ho0)) | ((with_reducible refine gate_callee (f := 62) rfl ?_); refine goesL_ (some 32) rfl rfl Try.func62 (by kernel_rfl) rfl #[] rfl (by (try simp only [zz4, zz5, zz6]); first | done | rfl | (simp only [zza, zzb]; rfl)) ?_; (with_reducible refine (impl_one.calls  t308 _ A19.out).mono ?_); rintro e w23 ⟨v309, rfl, ho0, hb⟩; refine ⟨_, rfl, ?_⟩; have n0_ := Aside0.mk (Kd.V_elder' (by (with_reducible repeat (first | apply Kd.V_alloc | apply Kd.V_drewN | apply Kd.V_drew)); exact HO307.out) (Kd.R_base ho0) hb); have n1_ := Aside0.mk (Kd.R_lower ho0 (below_size (by repeat (first | (with_reducible first | exact HB.out | apply zzb1 | apply zzb2 | apply zzb3 | refine below_set ?_ GE301.out) | exact HB.out)))); have n2_ := Aside0.mk (blk_below (g := gb301) (o := .cells #[.bool a0_0, .slice A0_1 l0_1.length c0_1, .slice A0_2 l0_2.length c0_2] 24 (0, 0)) (by (with_reducible repeat (first | refine zzk1 ?_ _ | refine zzk2 ?_ | refine zzk3 ?_ _)); exact BK301.out) hb); have n3_ := Aside0.mk (below_step (by repeat (first | (with_reducible first | exact HB.out | apply zzb1 | apply zzb2 | apply zzb3 | refine below_set ?_ GE301.out) | exact HB.out)) hb); clear HO307; clear BK301; clear HB; have HO307 := n0_; have HO310 := n1_; have BK301 := n2_; have HB := n3_; clear n0_ n1_ n2_ n3_; (try clear hb); (try clear hb2); (try clear hk); (try clear hi); (try clear ho0); obtain ⟨Ao24, co24, eo24⟩ := Kd.V_slice HO307.out; subst eo24; obtain ⟨Ao25, co25, eo25⟩ := Kd.R_slice HO310.out; subst eo25) | ((with_reducible refine gate_callee (f := 60) rfl ?_); refine goesL_ (some 33) rfl rfl Try.func60 (by kernel_rfl) rfl #[.slice Ao24 t305.length co24, .slice Ao25 t308.length co25] rfl (by (try simp only [zz4, zz5, zz6]); first | done | rfl | (simp only [zza, zzb]; rfl)) ?_; (with_reducible refine (impl_natCmp.calls _ _ t305 _ _ t308 t311 _ ?side1 ?side2 ?side3 ?side4 A20.out).mono ?_); (case side1 => repeat (first | exact (Kd.V_reads' HO307.out).2.2 | (with_reducible refine zzC1 ?_ _) | (with_reducible refine zzC2 ?_ _) | (with_reducible refine zzC3 ?_))); (case side2 => exact (Kd.V_reads' HO307.out).2.1); (case side3 => repeat (first | exact (Kd.R_reads' HO310.out).2.2 | (with_reducible refine zzC1 ?_ _) | (with_reducible refine zzC2 ?_ _) | (with_reducible refine zzC3 ?_))); (case side4 => exact (Kd.R_reads' HO310.out).2.1); rintro e w26 ⟨rfl, hb⟩; refine ⟨_, rfl, ?_⟩; have n0_ := Aside0.mk (Kd.V_below (by (with_reducible repeat (first | apply Kd.V_alloc | apply Kd.V_drewN | apply Kd.V_drew)); exact HO307.out) hb); have n1_ := Aside0.mk (Kd.R_below (by (with_reducible repeat (first | apply zzR1 | apply zzR2 | apply zzR3)); exact HO310.out) hb); have n2_ := Aside0.mk (blk_below (g := gb301) (o := .cells #[.bool a0_0, .slice A0_1 l0_1.length c0_1, .slice A0_2 l0_2.length c0_2] 24 (0, 0)) (by (with_reducible repeat (first | refine zzk1 ?_ _ | refine zzk2 ?_ | refine zzk3 ?_ _)); exact BK301.out) hb); have n3_ := Aside0.mk (below_step (by repeat (first | (with_reducible first | exact HB.out | apply zzb1 | apply zzb2 | apply zzb3 | refine below_set ?_ GE301.out) | exact HB.out)) hb); clear HO307; clear HO310; clear BK301; clear HB; have HO307 := n0_; have HO310 := n1_; have BK301 := n2_; have HB := n3_; clear n0_ n1_ n2_ n3_; (try clear hb); (try clear hb2); (try clear hk); (try clear hi)))
    go_ret
    exact ⟨by first | rfl | (simp [errW_none, errW_some] <;> rfl) | (simp [*, errW_none, errW_some] <;> rfl), by repeat (first | (with_reducible first | exact HB.out | apply zzb1 | apply zzb2 | apply zzb3 | refine below_set ?_ GE301.out) | exact HB.out)⟩

def impl_ratsCode_1.f (k : Nat) (a0_0 : Bool) (l0_1 : List Int) (l0_2 : List Int) : Option (Bool) := (impl_RatOK.f k a0_0 l0_1 l0_2).bind fun t313 => (some (!t313))
theorem impl_ratsCode_1.mono : ∀ a0 a1 a2 k, LeO (impl_ratsCode_1.f k a0 a1 a2) (impl_ratsCode_1.f (k + 1) a0 a1 a2) := by
 intro a0 a1 a2 k
 unfold impl_ratsCode_1.f
 repeat' first
   | (with_reducible exact impl_RatOK.mono _ _ _ _)
   | (with_reducible exact LeO.refl _)
   | (with_reducible exact LeO.none _)
   | (with_reducible refine LeO.ite ?_ ?_)
   | (with_reducible refine LeO.bind ?_ (fun _ => ?_))
   | exact impl_RatOK.mono _ _ _ _
   | exact LeO.none _
   | refine LeO.ite ?_ ?_
   | refine LeO.bind ?_ (fun _ => ?_)
set_option maxHeartbeats 8000000 in
set_option maxRecDepth 100000 in
theorem impl_ratsCode_1.calls (k : Nat) (a0_0 : Bool) (A0_1 : Option Addr) (c0_1 : Nat) (l0_1 : List Int) (A0_2 : Option Addr) (c0_2 : Nat) (l0_2 : List Int) (r : Bool) (w : World) (hr0_1 : Kd.C (Kd.int .i64) w A0_1 l0_1.length l0_1) (hc0_1 : l0_1.length ≤ c0_1) (hr0_2 : Kd.C (Kd.int .i64) w A0_2 l0_2.length l0_2) (hc0_2 : l0_2.length ≤ c0_2) (h : impl_ratsCode_1.f k a0_0 l0_1 l0_2 = some r) :
  Calls Try.prog 101 #[.agg #[.bool a0_0, .slice A0_1 l0_1.length c0_1, .slice A0_2 l0_2.length c0_2]] w fun e w' => e = .returned (.bool r) ∧ Below w.heap.size w w' := by
 have hu24 := Try.underlying24
 have HR0_1 := Aside0.mk hr0_1
 have HC0_1 := Aside0.mk hc0_1
 clear hr0_1 hc0_1
 have HR0_2 := Aside0.mk hr0_2
 have HC0_2 := Aside0.mk hc0_2
 clear hr0_2 hc0_2
 have HB := Aside0.mk (Below.refl w.heap.size w)
 have H : ((impl_RatOK.f k a0_0 l0_1 l0_2).bind fun t313 => (some (!t313))) = some r := h
 clear h
 replace H := Option.bind_eq_some_iff.mp H
 obtain ⟨t313, A20, H⟩ := H
 replace H : (some (!t313)) = some r := H
 have A2 := Aside0.mk A20
 clear A20
 obtain rfl := Option.some.inj H
 go_enter Try.func101, Try.ntmps101
 go_wp2_with (first | ((with_reducible refine gate_dst (N := 1) rfl ?_); refine box_event ?hg (N := 1) ?hd (cs := #[.bool a0_0, .slice A0_1 l0_1.length c0_1, .slice A0_2 l0_2.length c0_2]) (t := 24) ?hr ?_; (case hd => rfl); (case hg => rfl); (case hr => first | (go_simp; done) | (go_simp; rfl)); intro gb312 hg w3 hbox hb; have n0_ := Aside0.mk (below_step (by repeat (first | (with_reducible first | exact HB.out | apply zzb1 | apply zzb2 | apply zzb3) | exact HB.out)) hb); have n1_ := Aside0.mk (hbox); have n2_ := Aside0.mk ((by rw [hg]; exact (below_size (by repeat (first | (with_reducible first | exact HB.out | apply zzb1 | apply zzb2 | apply zzb3) | exact HB.out))) : w.heap.size ≤ gb312)); have n3_ := Aside0.mk ((by rw [hg]; exact (below_size (by repeat (first | (with_reducible first | exact HB.out | apply zzb1 | apply zzb2 | apply zzb3) | exact HB.out))) : w.heap.size ≤ gb312)); clear HB; have HB := n0_; have BK312 := n1_; have GW312 := n2_; have GE312 := n3_; clear n0_ n1_ n2_ n3_; clear hb hbox hg; have hcz4_0 : w3.cell? ⟨gb312, 0, none⟩ = some (.bool a0_0) := (blk_cell BK312.out 0).trans rfl; have hcz4_1 : w3.cell? ⟨gb312, 1, none⟩ = some (.slice A0_1 l0_1.length c0_1) := (blk_cell BK312.out 1).trans rfl; have hcz4_2 : w3.cell? ⟨gb312, 2, none⟩ = some (.slice A0_2 l0_2.length c0_2) := (blk_cell BK312.out 2).trans rfl; have hfz4_0 := blk_frozen BK312.out 0; have hfz4_1 := blk_frozen BK312.out 1; have hfz4_2 := blk_frozen BK312.out 2) | ((with_reducible refine gate_callee (f := 23) rfl ?_); refine goesL_ (some 4) rfl rfl Try.func23 (by kernel_rfl) rfl #[.agg #[.bool a0_0, .slice A0_1 l0_1.length c0_1, .slice A0_2 l0_2.length c0_2]] rfl (by (try simp only [zz4, zz5, zz6]); first | done | rfl | (simp only [zza, zzb]; rfl)) ?_; (with_reducible refine (impl_RatOK.calls k a0_0 _ _ l0_1 _ _ l0_2 t313 _ ?side1 ?side2 ?side3 ?side4 A2.out).mono ?_); (case side1 => repeat (first | exact (Kd.C_below HR0_1.out HB.out) | (with_reducible refine zzC1 ?_ _) | (with_reducible refine zzC2 ?_ _) | (with_reducible refine zzC3 ?_))); (case side2 => exact HC0_1.out); (case side3 => repeat (first | exact (Kd.C_below HR0_2.out HB.out) | (with_reducible refine zzC1 ?_ _) | (with_reducible refine zzC2 ?_ _) | (with_reducible refine zzC3 ?_))); (case side4 => exact HC0_2.out); rintro e w5 ⟨rfl, hb⟩; refine ⟨_, rfl, ?_⟩; have n0_ := Aside0.mk (blk_below (g := gb312) (o := .cells #[.bool a0_0, .slice A0_1 l0_1.length c0_1, .slice A0_2 l0_2.length c0_2] 24 (0, 0)) (by (with_reducible repeat (first | refine zzk1 ?_ _ | refine zzk2 ?_ | refine zzk3 ?_ _)); exact BK312.out) hb); have n1_ := Aside0.mk (below_step (by repeat (first | (with_reducible first | exact HB.out | apply zzb1 | apply zzb2 | apply zzb3 | refine below_set ?_ GE312.out) | exact HB.out)) hb); clear BK312; clear HB; have BK312 := n0_; have HB := n1_; clear n0_ n1_; (try clear hb); (try clear hb2); (try clear hk); (try clear hi)))
 go_ret
 exact ⟨by first | rfl | (simp [errW_none, errW_some] <;> rfl) | (simp [*, errW_none, errW_some] <;> rfl), by repeat (first | (with_reducible first | exact HB.out | apply zzb1 | apply zzb2 | apply zzb3 | refine below_set ?_ GE312.out) | exact HB.out)⟩

def spec_RatOK.j0 : Nat → Bool → Bool → List Int → List Int → Option (Bool)
 | 0, _, _, _, _ => none
 | k + 1, x28, x565000, x565001, x565002 => if x28 = true then (some false) else ((spec_l01Gcd.f k x565001 x565002).bind fun t567 => ((spec_l01Cmp.f k t567 (([1] : List Int))).bind fun t573 => (some (t573 == 0))))
def spec_RatOK.f (k : Nat) (a0_0 : Bool) (l0_1 : List Int) (l0_2 : List Int) : Option (Bool) := (spec_NatOK.f k l0_1).bind fun t565 => (if t565 = true then ((spec_NatOK.f k l0_2).bind fun t566 => (if t566 = true then (if (l0_2.length : Int) = 0 then (spec_RatOK.j0 k true a0_0 l0_1 l0_2) else (if (l0_1.length : Int) = 0 then (spec_RatOK.j0 k a0_0 a0_0 l0_1 l0_2) else (spec_RatOK.j0 k false a0_0 l0_1 l0_2))) else (spec_RatOK.j0 k true a0_0 l0_1 l0_2))) else (spec_RatOK.j0 k true a0_0 l0_1 l0_2))
theorem spec_RatOK.mono_l : ∀ k, (∀ y0 y1 y2 y3, LeO (spec_RatOK.j0 k y0 y1 y2 y3) (spec_RatOK.j0 (k + 1) y0 y1 y2 y3))
 | 0 => fun _ _ _ _ r h => by simp [spec_RatOK.j0] at h
 | k + 1 => by
  have ih0 := spec_RatOK.mono_l k
  ·
   intro y0 y1 y2 y3
   unfold spec_RatOK.j0
   repeat' first
   | (with_reducible exact ih0 _ _ _ _)
   | (with_reducible exact spec_NatOK.mono _ _)
   | (with_reducible exact spec_l01Cmp.mono _ _ _)
   | (with_reducible exact spec_l01Gcd.mono _ _ _)
   | (with_reducible exact LeO.refl _)
   | (with_reducible exact LeO.none _)
   | (with_reducible refine LeO.ite ?_ ?_)
   | (with_reducible refine LeO.bind ?_ (fun _ => ?_))
   | exact ih0 _ _ _ _
   | exact spec_NatOK.mono _ _
   | exact spec_l01Cmp.mono _ _ _
   | exact spec_l01Gcd.mono _ _ _
   | exact LeO.none _
   | refine LeO.ite ?_ ?_
   | refine LeO.bind ?_ (fun _ => ?_)
theorem spec_RatOK.mono : ∀ a0 a1 a2 k, LeO (spec_RatOK.f k a0 a1 a2) (spec_RatOK.f (k + 1) a0 a1 a2) := by
 intro a0 a1 a2 k
 have ih0 := spec_RatOK.mono_l k
 unfold spec_RatOK.f
 repeat' first
   | (with_reducible exact ih0 _ _ _ _)
   | (with_reducible exact spec_NatOK.mono _ _)
   | (with_reducible exact spec_l01Cmp.mono _ _ _)
   | (with_reducible exact spec_l01Gcd.mono _ _ _)
   | (with_reducible exact LeO.refl _)
   | (with_reducible exact LeO.none _)
   | (with_reducible refine LeO.ite ?_ ?_)
   | (with_reducible refine LeO.bind ?_ (fun _ => ?_))
   | exact ih0 _ _ _ _
   | exact spec_NatOK.mono _ _
   | exact spec_l01Cmp.mono _ _ _
   | exact spec_l01Gcd.mono _ _ _
   | exact LeO.none _
   | refine LeO.ite ?_ ?_
   | refine LeO.bind ?_ (fun _ => ?_)
set_option maxHeartbeats 8000000 in
set_option maxRecDepth 100000 in
theorem spec_RatOK.calls (k : Nat) (a0_0 : Bool) (A0_1 : Option Addr) (c0_1 : Nat) (l0_1 : List Int) (A0_2 : Option Addr) (c0_2 : Nat) (l0_2 : List Int) (r : Bool) (w : World) (hr0_1 : Kd.C (Kd.int .i64) w A0_1 l0_1.length l0_1) (hc0_1 : l0_1.length ≤ c0_1) (hr0_2 : Kd.C (Kd.int .i64) w A0_2 l0_2.length l0_2) (hc0_2 : l0_2.length ≤ c0_2) (h : spec_RatOK.f k a0_0 l0_1 l0_2 = some r) :
  Calls Try.prog 21 #[.agg #[.bool a0_0, .slice A0_1 l0_1.length c0_1, .slice A0_2 l0_2.length c0_2]] w fun e w' => e = .returned (.bool r) ∧ Below w.heap.size w w' := by
 have hu24 := Try.underlying24
 have HR0_1 := Aside0.mk hr0_1
 have HC0_1 := Aside0.mk hc0_1
 clear hr0_1 hc0_1
 have HR0_2 := Aside0.mk hr0_2
 have HC0_2 := Aside0.mk hc0_2
 clear hr0_2 hc0_2
 have HB := Aside0.mk (Below.refl w.heap.size w)
 have H : ((spec_NatOK.f k l0_1).bind fun t565 => (if t565 = true then ((spec_NatOK.f k l0_2).bind fun t566 => (if t566 = true then (if (l0_2.length : Int) = 0 then (spec_RatOK.j0 k true a0_0 l0_1 l0_2) else (if (l0_1.length : Int) = 0 then (spec_RatOK.j0 k a0_0 a0_0 l0_1 l0_2) else (spec_RatOK.j0 k false a0_0 l0_1 l0_2))) else (spec_RatOK.j0 k true a0_0 l0_1 l0_2))) else (spec_RatOK.j0 k true a0_0 l0_1 l0_2))) = some r := h
 clear h
 have HC2 := Aside0.mk H
 clear H
 go_enter Try.func21, Try.ntmps21
 go_upto_region 1 with (first | ((with_reducible refine gate_dst (N := 1) rfl ?_); (try (refine gate_guard (by rfl) ?_; dsimp only)); refine box_event ?hg (N := 1) ?hd (cs := #[.bool a0_0, .slice A0_1 l0_1.length c0_1, .slice A0_2 l0_2.length c0_2]) (t := 24) ?hr ?_; (case hd => rfl); (case hg => rfl); (case hr => first | (go_simp; done) | (go_simp; rfl)); intro gb564 hg w3 hbox hb; have n0_ := Aside0.mk (below_step (by repeat (first | (with_reducible first | exact HB.out | apply zzb1 | apply zzb2 | apply zzb3) | exact HB.out)) hb); have n1_ := Aside0.mk (hbox); have n2_ := Aside0.mk ((by rw [hg]; exact (below_size (by repeat (first | (with_reducible first | exact HB.out | apply zzb1 | apply zzb2 | apply zzb3) | exact HB.out))) : w.heap.size ≤ gb564)); have n3_ := Aside0.mk ((by rw [hg]; exact (below_size (by repeat (first | (with_reducible first | exact HB.out | apply zzb1 | apply zzb2 | apply zzb3) | exact HB.out))) : w.heap.size ≤ gb564)); clear HB; have HB := n0_; have BK564 := n1_; have GW564 := n2_; have GE564 := n3_; clear n0_ n1_ n2_ n3_; clear hb hbox hg))
 (try simp only [Act.put, zz7, zz8, zz9])
 go_cut [28] (fun v28 wc => ∃ (kq : Nat) (x28_1 : Bool), v28 = .bool x28_1 ∧ Aside0 (spec_RatOK.j0 kq x28_1 a0_0 l0_1 l0_2 = some r) ∧ Aside0 (kq ≤ k) ∧ Aside0 (wc.heap[gb564]? = some (.cells #[.bool a0_0, (.slice A0_1 l0_1.length c0_1), (.slice A0_2 l0_2.length c0_2)] 24 (0, 0))) ∧ Aside0 (Below w.heap.size w wc))
 case first =>
  have H := HC2.out
  clear HC2
  replace H := Option.bind_eq_some_iff.mp H
  obtain ⟨t565, A40, H⟩ := H
  replace H : (if t565 = true then ((spec_NatOK.f k l0_2).bind fun t566 => (if t566 = true then (if (l0_2.length : Int) = 0 then (spec_RatOK.j0 k true a0_0 l0_1 l0_2) else (if (l0_1.length : Int) = 0 then (spec_RatOK.j0 k a0_0 a0_0 l0_1 l0_2) else (spec_RatOK.j0 k false a0_0 l0_1 l0_2))) else (spec_RatOK.j0 k true a0_0 l0_1 l0_2))) else (spec_RatOK.j0 k true a0_0 l0_1 l0_2)) = some r := H
  have A4 := Aside0.mk A40
  clear A40
  by_cases c5 : t565 = true
  ·
   subst c5
   have H1 : ((spec_NatOK.f k l0_2).bind fun t566 => (if t566 = true then (if (l0_2.length : Int) = 0 then (spec_RatOK.j0 k true a0_0 l0_1 l0_2) else (if (l0_1.length : Int) = 0 then (spec_RatOK.j0 k a0_0 a0_0 l0_1 l0_2) else (spec_RatOK.j0 k false a0_0 l0_1 l0_2))) else (spec_RatOK.j0 k true a0_0 l0_1 l0_2))) = some r := by rw [if_pos rfl] at H; exact H
   clear H
   have H := H1
   clear H1
   replace H := Option.bind_eq_some_iff.mp H
   obtain ⟨t566, A60, H⟩ := H
   replace H : (if t566 = true then (if (l0_2.length : Int) = 0 then (spec_RatOK.j0 k true a0_0 l0_1 l0_2) else (if (l0_1.length : Int) = 0 then (spec_RatOK.j0 k a0_0 a0_0 l0_1 l0_2) else (spec_RatOK.j0 k false a0_0 l0_1 l0_2))) else (spec_RatOK.j0 k true a0_0 l0_1 l0_2)) = some r := H
   have A6 := Aside0.mk A60
   clear A60
   by_cases c7 : t566 = true
   ·
    subst c7
    have H1 : (if (l0_2.length : Int) = 0 then (spec_RatOK.j0 k true a0_0 l0_1 l0_2) else (if (l0_1.length : Int) = 0 then (spec_RatOK.j0 k a0_0 a0_0 l0_1 l0_2) else (spec_RatOK.j0 k false a0_0 l0_1 l0_2))) = some r := by rw [if_pos rfl] at H; exact H
    clear H
    have H := H1
    clear H1
    by_cases c8 : (l0_2.length : Int) = 0
    ·
     rw [if_pos c8] at H
     have c8b0 : ((l0_2.length : Int) == 0) = true := beq_iff_eq.mpr c8
     have c8b1 : ((l0_2.length : Int) != 0) = false := bne_eq_false_iff_eq.mpr c8
     clear c8
     (first | rw [c8b0] | (simp only [i64_w, i32_w]; rw [c8b0]) | skip)
     have H' := Aside0.mk H
     clear H
     have hcz9_0 : w3.cell? ⟨gb564, 0, none⟩ = some (.bool a0_0) := (blk_cell BK564.out 0).trans rfl
     have hcz9_1 : w3.cell? ⟨gb564, 1, none⟩ = some (.slice A0_1 l0_1.length c0_1) := (blk_cell BK564.out 1).trans rfl
     have hcz9_2 : w3.cell? ⟨gb564, 2, none⟩ = some (.slice A0_2 l0_2.length c0_2) := (blk_cell BK564.out 2).trans rfl
     have hfz9_0 := blk_frozen BK564.out 0
     have hfz9_1 := blk_frozen BK564.out 1
     have hfz9_2 := blk_frozen BK564.out 2
     go_wp2_with (first | ((with_reducible refine gate_callee (f := 54) rfl ?_); refine goesL_ (some 5) rfl rfl Try.func54 (by kernel_rfl) rfl #[.slice A0_1 l0_1.length c0_1] rfl (by (try simp only [zz4, zz5, zz6]); first | done | rfl | (simp only [zza, zzb]; rfl)) ?_; (with_reducible refine (spec_NatOK.calls k _ _ l0_1 true _ ?side1 ?side2 A4.out).mono ?_); (case side1 => repeat (first | exact (Kd.C_below HR0_1.out HB.out) | (with_reducible refine zzC1 ?_ _) | (with_reducible refine zzC2 ?_ _) | (with_reducible refine zzC3 ?_))); (case side2 => exact HC0_1.out); rintro e w' ⟨rfl, ⟨nd, rfl⟩⟩; refine ⟨_, rfl, ?_⟩) | (go_at_call 54; (with_reducible refine (spec_NatOK.calls k _ _ l0_2 true _ ?side1 ?side2 A6.out).mono ?_); (case side1 => repeat (first | exact (Kd.C_below HR0_2.out (by repeat (first | (with_reducible first | exact HB.out | apply zzb1 | apply zzb2 | apply zzb3 | refine below_set ?_ GE564.out) | exact HB.out))) | (with_reducible refine zzC1 ?_ _) | (with_reducible refine zzC2 ?_ _) | (with_reducible refine zzC3 ?_))); (case side2 => exact HC0_2.out); rintro e w' ⟨rfl, ⟨nd, rfl⟩⟩))
     go_meet
     case rel => exact ⟨_, (true), (by first | rfl | (simp; done) | (simp [*]; done)), H', ⟨by first | omega | exact Nat.le_refl _⟩, ⟨by (with_reducible repeat (first | refine zzk1 ?_ _ | refine zzk2 ?_ | refine zzk3 ?_ _)); exact BK564.out⟩, ⟨by repeat (first | (with_reducible first | exact HB.out | apply zzb1 | apply zzb2 | apply zzb3 | refine below_set ?_ GE564.out) | exact HB.out)⟩⟩
    ·
     rw [if_neg c8] at H
     have c8b0 : ((l0_2.length : Int) == 0) = false := beq_eq_false_iff_ne.mpr c8
     have c8b1 : ((l0_2.length : Int) != 0) = true := bne_iff_ne.mpr c8
     have c8b2 : ¬ (l0_2 = []) := fun h_ => c8 (by rw [h_]; rfl)
     (first | rw [c8b0] | (simp only [i64_w, i32_w]; rw [c8b0]) | skip)
     by_cases c10 : (l0_1.length : Int) = 0
     ·
      rw [if_pos c10] at H
      have c10b0 : ((l0_1.length : Int) == 0) = true := beq_iff_eq.mpr c10
      have c10b1 : ((l0_1.length : Int) != 0) = false := bne_eq_false_iff_eq.mpr c10
      clear c10
      have H' := Aside0.mk H
      clear H
      have hcz11_0 : w3.cell? ⟨gb564, 0, none⟩ = some (.bool a0_0) := (blk_cell BK564.out 0).trans rfl
      have hcz11_1 : w3.cell? ⟨gb564, 1, none⟩ = some (.slice A0_1 l0_1.length c0_1) := (blk_cell BK564.out 1).trans rfl
      have hcz11_2 : w3.cell? ⟨gb564, 2, none⟩ = some (.slice A0_2 l0_2.length c0_2) := (blk_cell BK564.out 2).trans rfl
      have hfz11_0 := blk_frozen BK564.out 0
      have hfz11_1 := blk_frozen BK564.out 1
      have hfz11_2 := blk_frozen BK564.out 2
      go_wp2_with (first | ((with_reducible refine gate_callee (f := 54) rfl ?_); refine goesL_ (some 5) rfl rfl Try.func54 (by kernel_rfl) rfl #[.slice A0_1 l0_1.length c0_1] rfl (by (try simp only [zz4, zz5, zz6]); first | done | rfl | (simp only [zza, zzb]; rfl)) ?_; (with_reducible refine (spec_NatOK.calls k _ _ l0_1 true _ ?side1 ?side2 A4.out).mono ?_); (case side1 => repeat (first | exact (Kd.C_below HR0_1.out HB.out) | (with_reducible refine zzC1 ?_ _) | (with_reducible refine zzC2 ?_ _) | (with_reducible refine zzC3 ?_))); (case side2 => exact HC0_1.out); rintro e w' ⟨rfl, ⟨nd, rfl⟩⟩; refine ⟨_, rfl, ?_⟩) | (go_at_call 54; (with_reducible refine (spec_NatOK.calls k _ _ l0_2 true _ ?side1 ?side2 A6.out).mono ?_); (case side1 => repeat (first | exact (Kd.C_below HR0_2.out (by repeat (first | (with_reducible first | exact HB.out | apply zzb1 | apply zzb2 | apply zzb3 | refine below_set ?_ GE564.out) | exact HB.out))) | (with_reducible refine zzC1 ?_ _) | (with_reducible refine zzC2 ?_ _) | (with_reducible refine zzC3 ?_))); (case side2 => exact HC0_2.out); rintro e w' ⟨rfl, ⟨nd, rfl⟩⟩))
      go_meet
      case rel => exact ⟨_, (a0_0), (by first | rfl | (simp; done) | (simp [*]; done)), H', ⟨by first | omega | exact Nat.le_refl _⟩, ⟨by (with_reducible repeat (first | refine zzk1 ?_ _ | refine zzk2 ?_ | refine zzk3 ?_ _)); exact BK564.out⟩, ⟨by repeat (first | (with_reducible first | exact HB.out | apply zzb1 | apply zzb2 | apply zzb3 | refine below_set ?_ GE564.out) | exact HB.out)⟩⟩
     ·
      rw [if_neg c10] at H
      have c10b0 : ((l0_1.length : Int) == 0) = false := beq_eq_false_iff_ne.mpr c10
      have c10b1 : ((l0_1.length : Int) != 0) = true := bne_iff_ne.mpr c10
      have c10b2 : ¬ (l0_1 = []) := fun h_ => c10 (by rw [h_]; rfl)
      have H' := Aside0.mk H
      clear H
      have hcz12_0 : w3.cell? ⟨gb564, 0, none⟩ = some (.bool a0_0) := (blk_cell BK564.out 0).trans rfl
      have hcz12_1 : w3.cell? ⟨gb564, 1, none⟩ = some (.slice A0_1 l0_1.length c0_1) := (blk_cell BK564.out 1).trans rfl
      have hcz12_2 : w3.cell? ⟨gb564, 2, none⟩ = some (.slice A0_2 l0_2.length c0_2) := (blk_cell BK564.out 2).trans rfl
      have hfz12_0 := blk_frozen BK564.out 0
      have hfz12_1 := blk_frozen BK564.out 1
      have hfz12_2 := blk_frozen BK564.out 2
      go_wp2_with (first | ((with_reducible refine gate_callee (f := 54) rfl ?_); refine goesL_ (some 5) rfl rfl Try.func54 (by kernel_rfl) rfl #[.slice A0_1 l0_1.length c0_1] rfl (by (try simp only [zz4, zz5, zz6]); first | done | rfl | (simp only [zza, zzb]; rfl)) ?_; (with_reducible refine (spec_NatOK.calls k _ _ l0_1 true _ ?side1 ?side2 A4.out).mono ?_); (case side1 => repeat (first | exact (Kd.C_below HR0_1.out HB.out) | (with_reducible refine zzC1 ?_ _) | (with_reducible refine zzC2 ?_ _) | (with_reducible refine zzC3 ?_))); (case side2 => exact HC0_1.out); rintro e w' ⟨rfl, ⟨nd, rfl⟩⟩; refine ⟨_, rfl, ?_⟩) | (go_at_call 54; (with_reducible refine (spec_NatOK.calls k _ _ l0_2 true _ ?side1 ?side2 A6.out).mono ?_); (case side1 => repeat (first | exact (Kd.C_below HR0_2.out (by repeat (first | (with_reducible first | exact HB.out | apply zzb1 | apply zzb2 | apply zzb3 | refine below_set ?_ GE564.out) | exact HB.out))) | (with_reducible refine zzC1 ?_ _) | (with_reducible refine zzC2 ?_ _) | (with_reducible refine zzC3 ?_))); (case side2 => exact HC0_2.out); rintro e w' ⟨rfl, ⟨nd, rfl⟩⟩))
      go_meet
      case rel => exact ⟨_, (false), (by first | rfl | (simp; done) | (simp [*]; done)), H', ⟨by first | omega | exact Nat.le_refl _⟩, ⟨by (with_reducible repeat (first | refine zzk1 ?_ _ | refine zzk2 ?_ | refine zzk3 ?_ _)); exact BK564.out⟩, ⟨by repeat (first | (with_reducible first | exact HB.out | apply zzb1 | apply zzb2 | apply zzb3 | refine below_set ?_ GE564.out) | exact HB.out)⟩⟩
   ·
    replace c7 := Bool.eq_false_iff.mpr c7
    subst c7
    have H1 : (spec_RatOK.j0 k true a0_0 l0_1 l0_2) = some r := by rw [if_neg (show ¬ (false = true) by decide)] at H; exact H
    clear H
    have H := H1
    clear H1
    have H' := Aside0.mk H
    clear H
    have hcz13_0 : w3.cell? ⟨gb564, 0, none⟩ = some (.bool a0_0) := (blk_cell BK564.out 0).trans rfl
    have hcz13_1 : w3.cell? ⟨gb564, 1, none⟩ = some (.slice A0_1 l0_1.length c0_1) := (blk_cell BK564.out 1).trans rfl
    have hcz13_2 : w3.cell? ⟨gb564, 2, none⟩ = some (.slice A0_2 l0_2.length c0_2) := (blk_cell BK564.out 2).trans rfl
    have hfz13_0 := blk_frozen BK564.out 0
    have hfz13_1 := blk_frozen BK564.out 1
    have hfz13_2 := blk_frozen BK564.out 2
    go_wp2_with (first | ((with_reducible refine gate_callee (f := 54) rfl ?_); refine goesL_ (some 5) rfl rfl Try.func54 (by kernel_rfl) rfl #[.slice A0_1 l0_1.length c0_1] rfl (by (try simp only [zz4, zz5, zz6]); first | done | rfl | (simp only [zza, zzb]; rfl)) ?_; (with_reducible refine (spec_NatOK.calls k _ _ l0_1 true _ ?side1 ?side2 A4.out).mono ?_); (case side1 => repeat (first | exact (Kd.C_below HR0_1.out HB.out) | (with_reducible refine zzC1 ?_ _) | (with_reducible refine zzC2 ?_ _) | (with_reducible refine zzC3 ?_))); (case side2 => exact HC0_1.out); rintro e w' ⟨rfl, ⟨nd, rfl⟩⟩; refine ⟨_, rfl, ?_⟩) | (go_at_call 54; (with_reducible refine (spec_NatOK.calls k _ _ l0_2 false _ ?side1 ?side2 A6.out).mono ?_); (case side1 => repeat (first | exact (Kd.C_below HR0_2.out (by repeat (first | (with_reducible first | exact HB.out | apply zzb1 | apply zzb2 | apply zzb3 | refine below_set ?_ GE564.out) | exact HB.out))) | (with_reducible refine zzC1 ?_ _) | (with_reducible refine zzC2 ?_ _) | (with_reducible refine zzC3 ?_))); (case side2 => exact HC0_2.out); rintro e w' ⟨rfl, ⟨nd, rfl⟩⟩))
    go_meet
    case rel => exact ⟨_, (true), (by first | rfl | (simp; done) | (simp [*]; done)), H', ⟨by first | omega | exact Nat.le_refl _⟩, ⟨by (with_reducible repeat (first | refine zzk1 ?_ _ | refine zzk2 ?_ | refine zzk3 ?_ _)); exact BK564.out⟩, ⟨by repeat (first | (with_reducible first | exact HB.out | apply zzb1 | apply zzb2 | apply zzb3 | refine below_set ?_ GE564.out) | exact HB.out)⟩⟩
  ·
   replace c5 := Bool.eq_false_iff.mpr c5
   subst c5
   have H1 : (spec_RatOK.j0 k true a0_0 l0_1 l0_2) = some r := by rw [if_neg (show ¬ (false = true) by decide)] at H; exact H
   clear H
   have H := H1
   clear H1
   have H' := Aside0.mk H
   clear H
   have hcz14_0 : w3.cell? ⟨gb564, 0, none⟩ = some (.bool a0_0) := (blk_cell BK564.out 0).trans rfl
   have hcz14_1 : w3.cell? ⟨gb564, 1, none⟩ = some (.slice A0_1 l0_1.length c0_1) := (blk_cell BK564.out 1).trans rfl
   have hcz14_2 : w3.cell? ⟨gb564, 2, none⟩ = some (.slice A0_2 l0_2.length c0_2) := (blk_cell BK564.out 2).trans rfl
   have hfz14_0 := blk_frozen BK564.out 0
   have hfz14_1 := blk_frozen BK564.out 1
   have hfz14_2 := blk_frozen BK564.out 2
   go_wp2_with (first | ((with_reducible refine gate_callee (f := 54) rfl ?_); refine goesL_ (some 5) rfl rfl Try.func54 (by kernel_rfl) rfl #[.slice A0_1 l0_1.length c0_1] rfl (by (try simp only [zz4, zz5, zz6]); first | done | rfl | (simp only [zza, zzb]; rfl)) ?_; (with_reducible refine (spec_NatOK.calls k _ _ l0_1 false _ ?side1 ?side2 A4.out).mono ?_); (case side1 => repeat (first | exact (Kd.C_below HR0_1.out HB.out) | (with_reducible refine zzC1 ?_ _) | (with_reducible refine zzC2 ?_ _) | (with_reducible refine zzC3 ?_))); (case side2 => exact HC0_1.out); rintro e w' ⟨rfl, ⟨nd, rfl⟩⟩; refine ⟨_, rfl, ?_⟩))
   go_meet
   case rel => exact ⟨_, (true), (by first | rfl | (simp; done) | (simp [*]; done)), H', ⟨by first | omega | exact Nat.le_refl _⟩, ⟨by (with_reducible repeat (first | refine zzk1 ?_ _ | refine zzk2 ?_ | refine zzk3 ?_ _)); exact BK564.out⟩, ⟨by repeat (first | (with_reducible first | exact HB.out | apply zzb1 | apply zzb2 | apply zzb3 | refine below_set ?_ GE564.out) | exact HB.out)⟩⟩
 case rest =>
  clear HC2
  try clear c1
  try clear c2
  try clear p2
  try clear c5
  try clear c7
  try clear c8
  try clear c8b0
  try clear c8b1
  try clear c8b2
  try clear c10
  try clear c10b0
  try clear c10b1
  try clear c10b2
  try clear hcz11_0
  try clear hcz11_1
  try clear hcz11_2
  try clear hcz12_0
  try clear hcz12_1
  try clear hcz12_2
  try clear hcz13_0
  try clear hcz13_1
  try clear hcz13_2
  try clear hcz14_0
  try clear hcz14_1
  try clear hcz14_2
  try clear hcz9_0
  try clear hcz9_1
  try clear hcz9_2
  try clear hfz11_0
  try clear hfz11_1
  try clear hfz11_2
  try clear hfz12_0
  try clear hfz12_1
  try clear hfz12_2
  try clear hfz13_0
  try clear hfz13_1
  try clear hfz13_2
  try clear hfz14_0
  try clear hfz14_1
  try clear hfz14_2
  try clear hfz9_0
  try clear hfz9_1
  try clear hfz9_2
  obtain ⟨kq, x28_1, rfl, HA, HJ1, BK564, HB⟩ := hcut
  cases kq with
  | zero => exact absurd HA.out (by simp [spec_RatOK.j0])
  | succ kj1 =>
   have H := HA.out
   clear HA
   simp only [spec_RatOK.j0] at H
   by_cases c15 : x28_1 = true
   ·
    subst c15
    have H1 : (some false) = some r := by rw [if_pos rfl] at H; exact H
    clear H
    have H := H1
    clear H1
    obtain rfl := Option.some.inj H
    go_wp2
    go_ret
    exact ⟨by first | rfl | (simp [errW_none, errW_some] <;> rfl) | (simp [*, errW_none, errW_some] <;> rfl), by repeat (first | (with_reducible first | exact HB.out | apply zzb1 | apply zzb2 | apply zzb3 | refine below_set ?_ GE564.out) | exact HB.out)⟩
   ·
    replace c15 := Bool.eq_false_iff.mpr c15
    subst c15
    have H1 : ((spec_l01Gcd.f kj1 l0_1 l0_2).bind fun t567 => ((spec_l01Cmp.f kj1 t567 (([1] : List Int))).bind fun t573 => (some (t573 == 0)))) = some r := by rw [if_neg (show ¬ (false = true) by decide)] at H; exact H
    clear H
    have H := H1
    clear H1
    replace H := Option.bind_eq_some_iff.mp H
    obtain ⟨t567, A160, H⟩ := H
    replace H : ((spec_l01Cmp.f kj1 t567 (([1] : List Int))).bind fun t573 => (some (t573 == 0))) = some r := H
    have A16 := Aside0.mk A160
    clear A160
    obtain ⟨y570, hy570⟩ : ∃ y_ : List Int, y_ = (([1] : List Int)) := ⟨_, rfl⟩
    replace H : ((spec_l01Cmp.f kj1 t567 y570).bind fun t573 => (some (t573 == 0))) = some r := by first | (rw [hy570]; with_reducible exact H) | (have H2_ := (Option.bind_some _ _).symm.trans H; rw [hy570]; with_reducible exact H2_) | (have H2_ := (Option.bind_some _ _).symm.trans H; with_reducible exact H2_) | with_reducible exact H | (rw [hy570]; exact H) | exact H
    have Ny570 := Aside0.mk hy570
    clear hy570
    replace H := Option.bind_eq_some_iff.mp H
    obtain ⟨t573, A170, H⟩ := H
    replace H : (some (t573 == 0)) = some r := H
    have A17 := Aside0.mk A170
    clear A170
    obtain rfl := Option.some.inj H
    have hcz18_0 : wc.cell? ⟨gb564, 0, none⟩ = some (.bool a0_0) := (blk_cell BK564.out 0).trans rfl
    have hcz18_1 : wc.cell? ⟨gb564, 1, none⟩ = some (.slice A0_1 l0_1.length c0_1) := (blk_cell BK564.out 1).trans rfl
    have hcz18_2 : wc.cell? ⟨gb564, 2, none⟩ = some (.slice A0_2 l0_2.length c0_2) := (blk_cell BK564.out 2).trans rfl
    have hfz18_0 := blk_frozen BK564.out 0
    have hfz18_1 := blk_frozen BK564.out 1
    have hfz18_2 := blk_frozen BK564.out 2
    go_wp2_with (first | ((with_reducible refine gate_callee (f := 56) rfl ?_); refine goesL_ (some 33) rfl rfl Try.func56 (by kernel_rfl) rfl #[.slice A0_1 l0_1.length c0_1, .slice A0_2 l0_2.length c0_2] rfl (by (try simp only [zz4, zz5, zz6]); first | done | rfl | (simp only [zza, zzb]; rfl)) ?_; (with_reducible refine (spec_l01Gcd.calls kj1 (fun k_ => k_ < w.heap.size) _ _ l0_1 (fun k_ => k_ < w.heap.size) _ _ l0_2 t567 _ ?side1 ?side2 A16.out).mono ?_); (case side1 => exact Kd.V_mk HC0_1.out (Kd.F_below (Kd.C_F (Kd.heap_int .i64) HR0_1.out) (by repeat (first | (with_reducible first | exact HB.out | apply zzb1 | apply zzb2 | apply zzb3 | refine below_set ?_ GE564.out) | exact HB.out)))); (case side2 => exact Kd.V_mk HC0_2.out (Kd.F_below (Kd.C_F (Kd.heap_int .i64) HR0_2.out) (by repeat (first | (with_reducible first | exact HB.out | apply zzb1 | apply zzb2 | apply zzb3 | refine below_set ?_ GE564.out) | exact HB.out)))); rintro e w19 ⟨v568, rfl, ho0, hb⟩; refine ⟨_, rfl, ?_⟩; have n0_ := Aside0.mk (Kd.R_lower (Kd.R_mono (ok' := fun k_ => True) ho0 (fun _ hk_ => trivial)) (below_size (by repeat (first | (with_reducible first | exact HB.out | apply zzb1 | apply zzb2 | apply zzb3 | refine below_set ?_ GE564.out) | exact HB.out)))); have n1_ := Aside0.mk (blk_below (g := gb564) (o := .cells #[.bool a0_0, .slice A0_1 l0_1.length c0_1, .slice A0_2 l0_2.length c0_2] 24 (0, 0)) (by (with_reducible repeat (first | refine zzk1 ?_ _ | refine zzk2 ?_ | refine zzk3 ?_ _)); exact BK564.out) hb); have n2_ := Aside0.mk (below_step (by repeat (first | (with_reducible first | exact HB.out | apply zzb1 | apply zzb2 | apply zzb3 | refine below_set ?_ GE564.out) | exact HB.out)) hb); clear BK564; clear HB; have HO569 := n0_; have BK564 := n1_; have HB := n2_; clear n0_ n1_ n2_; (try clear hb); (try clear hb2); (try clear hk); (try clear hi); (try clear ho0)) | ((with_reducible refine gate_dst (N := 34) rfl ?_); (try (refine gate_guard (by rfl) ?_; dsimp only)); refine Kd.R_lit (Kd.int .i64) _ 3 ?hg (N := 34) ?hd (xs := ([1] : List Int)) (inner := [.int .i64 1]) (ok := fun _ => True) (okp := fun _ => True) ?hr ?hp (fun _ hk => hk) trivial (Below.refl _ _) (Nat.le_refl _) (by simp) ?_; (case hd => rfl); (case hg => rfl); (case hr => first | (go_simp; done) | (go_simp; rfl)); (case hp => exact (Reps.one (show Kd.M (Kd.int .i64) _ _ _ 1 [.int .i64 1] from rfl) (Reps.none _ _))); intro v571 w20 ho21 hb hg_ hnew_; clear hg_ hnew_; (first | rw [← Ny570.out] at ho21 | (simp only [Int.reduceToNat] at ho21; rw [← Ny570.out] at ho21)); have n0_ := Aside0.mk (Kd.R_elder' (by (with_reducible repeat (first | apply zzR1 | apply zzR2 | apply zzR3)); exact HO569.out) (Kd.R_base ho21) hb); have n1_ := Aside0.mk (Kd.R_lower (Kd.R_new' ho21 (Kd.R_lt (by (with_reducible repeat (first | apply zzR1 | apply zzR2 | apply zzR3)); exact HO569.out))) (below_size (by repeat (first | (with_reducible first | exact HB.out | apply zzb1 | apply zzb2 | apply zzb3 | refine below_set ?_ GE564.out) | exact HB.out)))); have n2_ := Aside0.mk (blk_below (g := gb564) (o := .cells #[.bool a0_0, .slice A0_1 l0_1.length c0_1, .slice A0_2 l0_2.length c0_2] 24 (0, 0)) (by (with_reducible repeat (first | refine zzk1 ?_ _ | refine zzk2 ?_ | refine zzk3 ?_ _)); exact BK564.out) hb); have n3_ := Aside0.mk (below_step (by repeat (first | (with_reducible first | exact HB.out | apply zzb1 | apply zzb2 | apply zzb3 | refine below_set ?_ GE564.out) | exact HB.out)) hb); clear HO569; clear BK564; clear HB; have HO569 := n0_; have HO572 := n1_; have BK564 := n2_; have HB := n3_; clear n0_ n1_ n2_ n3_; clear hb ho21; obtain ⟨Ao22, co22, eo22⟩ := Kd.R_slice HO569.out; subst eo22; obtain ⟨Ao23, co23, eo23⟩ := Kd.R_slice HO572.out; subst eo23) | ((with_reducible refine gate_callee (f := 55) rfl ?_); refine goesL_ (some 35) rfl rfl Try.func55 (by kernel_rfl) rfl #[.slice Ao22 t567.length co22, .slice Ao23 y570.length co23] rfl (by (try simp only [zz4, zz5, zz6]); first | done | rfl | (simp only [zza, zzb]; rfl)) ?_; (with_reducible refine (spec_l01Cmp.calls kj1 _ _ t567 _ _ y570 t573 _ ?side1 ?side2 ?side3 ?side4 A17.out).mono ?_); (case side1 => repeat (first | exact (Kd.R_reads' HO569.out).2.2 | (with_reducible refine zzC1 ?_ _) | (with_reducible refine zzC2 ?_ _) | (with_reducible refine zzC3 ?_))); (case side2 => exact (Kd.R_reads' HO569.out).2.1); (case side3 => repeat (first | exact (Kd.R_reads' HO572.out).2.2 | (with_reducible refine zzC1 ?_ _) | (with_reducible refine zzC2 ?_ _) | (with_reducible refine zzC3 ?_))); (case side4 => exact (Kd.R_reads' HO572.out).2.1); rintro e w' ⟨rfl, ⟨nd, rfl⟩⟩; refine ⟨_, rfl, ?_⟩))
    go_ret
    exact ⟨by first | rfl | (simp [errW_none, errW_some] <;> rfl) | (simp [*, errW_none, errW_some] <;> rfl), by repeat (first | (with_reducible first | exact HB.out | apply zzb1 | apply zzb2 | apply zzb3 | refine below_set ?_ GE564.out) | exact HB.out)⟩

end Go.Proofs.Ytacdaijalkkogaa.Q
