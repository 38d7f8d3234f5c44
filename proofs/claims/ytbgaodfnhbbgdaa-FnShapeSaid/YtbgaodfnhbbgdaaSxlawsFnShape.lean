-- written by a program of this claim's session (myprint.py) out of the translation; Lean checks it.
import Derived.Test.YtbgaodfnhbbgdaaSx0
import Derived.Test.YtbgaodfnhbbgdaaSq
import Derived.Test.YtbgaodfnhbbgdaaSxExprDrawn
import Derived.Test.YtbgaodfnhbbgdaaSxDepthOf
import Derived.Test.YtbgaodfnhbbgdaaSxDimOf
namespace Go.Proofs.Ytbgaodfnhbbgdaa.S
open Go.RowKit Go.Proofs.YtbgaodfnhbbgdaaW.PrintWords Go.Proofs.YtbgaodfnhbbgdaaW.PrintLast Go.Proofs.YtbgaodfnhbbgdaaW.PrintMore
attribute [local go_sem] max2_int min2_int max_two min_two max_three min_three max_four min_four   -- for this text's walks alone
set_option linter.unusedVariables false
set_option linter.unusedSimpArgs false

/-! ### laws_FnShape: function 5 -/
def laws_FnShape.j0 : Nat → Int → Int → Bool → List (S46) → Option (Bool)
 | 0, _, _, _, _ => none
 | k + 1, x4, x6, x44, x277000 => if x44 = true then (some false) else ((some (([] : List (S46)) : List (S46))).bind fun y281 => (if y281.length + x277000.length < 4398046511104 then ((some (y281 ++ x277000 : List (S46))).bind fun y284 => ((some (([(⟨7, wrap64 ((x277000.length : Int) - 1), 0, 0⟩ : S46)] : List (S46)) : List (S46))).bind fun y287 => (if y284.length + y287.length < 4398046511104 then ((some (y284 ++ y287 : List (S46))).bind fun y290 => ((some (([] : List (S46)) : List (S46))).bind fun y294 => (if y294.length + x277000.length < 4398046511104 then ((some (y294 ++ x277000 : List (S46))).bind fun y297 => ((some (([(⟨2, 0, 0, 3⟩ : S46), (⟨3, wrap64 ((x277000.length : Int) - 1), (x277000.length : Int), 0⟩ : S46)] : List (S46)) : List (S46))).bind fun y300 => (if y297.length + y300.length < 4398046511104 then ((impl_DepthOf.f k y290).bind fun bt307 => ((impl_DimOf.f k y290).bind fun bt309 => ((impl_DimOf.f k (y297 ++ y300)).bind fun bt311 => (if bt307.2 = 0 then (if bt307.1 = (wrap64 (x4 + 1)) then (if bt309.2 = 0 then (if bt309.1 = x6 then (if bt311.2 = 0 then (some (bt311.1 == 4)) else (some false)) else (some false)) else (some false)) else (some false)) else (some false))))) else (none)))) else (none)))) else (none)))) else (none)))
def laws_FnShape.f (k : Nat) (l0 : List Int) : Option (Bool) := if (l0.length : Int) > 1048576 then (some true) else ((spec_ExprDrawn.f k l0 3 true).bind fun t273 => ((impl_DepthOf.f k t273).bind fun bt277 => ((impl_DimOf.f k t273).bind fun bt279 => (if bt277.2 = 0 then (if bt279.2 = 0 then (if bt277.1 < 1 then (laws_FnShape.j0 k bt277.1 bt279.1 true t273) else (laws_FnShape.j0 k bt277.1 bt279.1 (decide (bt277.1 > 12)) t273)) else (laws_FnShape.j0 k bt277.1 bt279.1 true t273)) else (laws_FnShape.j0 k bt277.1 bt279.1 true t273)))))
theorem laws_FnShape.mono_l : ∀ k, (∀ y0 y1 y2 y3, LeO (laws_FnShape.j0 k y0 y1 y2 y3) (laws_FnShape.j0 (k + 1) y0 y1 y2 y3))
 | 0 => fun _ _ _ _ r h => by simp [laws_FnShape.j0] at h
 | k + 1 => by
  have ih0 := laws_FnShape.mono_l k
  ·
   intro y0 y1 y2 y3
   unfold laws_FnShape.j0
   repeat' first
   | (with_reducible exact ih0 _ _ _ _)
   | (with_reducible exact impl_DepthOf.mono _ _)
   | (with_reducible exact impl_DimOf.mono _ _)
   | (with_reducible exact spec_ExprDrawn.mono _ _ _ _)
   | (with_reducible exact LeO.refl _)
   | (with_reducible exact LeO.none _)
   | (with_reducible refine LeO.ite ?_ ?_)
   | (with_reducible refine LeO.bind ?_ (fun _ => ?_))
   | exact ih0 _ _ _ _
   | exact impl_DepthOf.mono _ _
   | exact impl_DimOf.mono _ _
   | exact spec_ExprDrawn.mono _ _ _ _
   | exact LeO.none _
   | refine LeO.ite ?_ ?_
   | refine LeO.bind ?_ (fun _ => ?_)
theorem laws_FnShape.mono : ∀ a0 k, LeO (laws_FnShape.f k a0) (laws_FnShape.f (k + 1) a0) := by
 intro a0 k
 have ih0 := laws_FnShape.mono_l k
 unfold laws_FnShape.f
 repeat' first
   | (with_reducible exact ih0 _ _ _ _)
   | (with_reducible exact impl_DepthOf.mono _ _)
   | (with_reducible exact impl_DimOf.mono _ _)
   | (with_reducible exact spec_ExprDrawn.mono _ _ _ _)
   | (with_reducible exact LeO.refl _)
   | (with_reducible exact LeO.none _)
   | (with_reducible refine LeO.ite ?_ ?_)
   | (with_reducible refine LeO.bind ?_ (fun _ => ?_))
   | exact ih0 _ _ _ _
   | exact impl_DepthOf.mono _ _
   | exact impl_DimOf.mono _ _
   | exact spec_ExprDrawn.mono _ _ _ _
   | exact LeO.none _
   | refine LeO.ite ?_ ?_
   | refine LeO.bind ?_ (fun _ => ?_)
def laws_FnShape.T8 : Bool × List (List Nat × List Nat) := (true, [([], []), ([], []), ([1], [1]), ([0, 2], [0, 2]), ([], []), ([4], [4]), ([5], [5]), ([6], [6]), ([7], [7]), ([8], [8]), ([3, 9, 3], [3, 9]), ([10], [10]), ([], []), ([12, 11, 10, 0, 1, 2, 3, 4, 5, 6, 7, 8, 9, 10, 11, 12], [11, 12])])
def laws_FnShape.B8 : List Nat := [0, 0, 2, 7, 0, 16, 48, 112, 240, 496, 1023, 2047, 0, 8191]
theorem laws_FnShape.tab8 : rtab .any (opsOf Try.f5 8) = laws_FnShape.T8 := by kernel_rfl
theorem laws_FnShape.bits8 : waitsOk laws_FnShape.T8.2 laws_FnShape.B8 = true := by kernel_rfl
def laws_FnShape.T9 : Bool × List (List Nat × List Nat) := (true, [([], []), ([], []), ([1], [1]), ([0, 2], [0, 2]), ([], []), ([], []), ([5], [5]), ([6], [6]), ([7], [7]), ([], []), ([9], [9]), ([10], [10]), ([8, 11], [8, 11]), ([4, 12], [4, 12]), ([3, 13, 3], [3, 13]), ([14], [14]), ([], []), ([16, 15, 14, 0, 1, 2, 3, 4, 5, 6, 7, 8, 9, 10, 11, 12, 13, 14, 15, 16], [15, 16])])
def laws_FnShape.B9 : List Nat := [0, 0, 2, 7, 0, 0, 32, 96, 224, 0, 512, 1536, 4064, 8176, 16383, 32767, 0, 131071]
theorem laws_FnShape.tab9 : rtab .any (opsOf Try.f5 9) = laws_FnShape.T9 := by kernel_rfl
theorem laws_FnShape.bits9 : waitsOk laws_FnShape.T9.2 laws_FnShape.B9 = true := by kernel_rfl
set_option maxHeartbeats 8000000 in
set_option maxRecDepth 100000 in
theorem laws_FnShape.calls (k : Nat) (A0 : Option Addr) (c0 : Nat) (l0 : List Int) (r : Bool) (w : World) (hr0 : Kd.C (Kd.int .u8) w A0 l0.length l0) (hc0 : l0.length ≤ c0) (h : laws_FnShape.f k l0 = some r) (hr_ : r = true) :
  Calls Try.prog 5 #[.slice A0 l0.length c0] w fun e w' => e = .returned (.bool r) ∧ Below w.heap.size w w' := by
 have hu41 := Try.underlying41
 have hu46 := Try.underlying46
 have HR0 := Aside0.mk hr0
 have HC0 := Aside0.mk hc0
 clear hr0 hc0
 have HB := Aside0.mk (Below.refl w.heap.size w)
 have H : (if (l0.length : Int) > 1048576 then (some true) else ((spec_ExprDrawn.f k l0 3 true).bind fun t273 => ((impl_DepthOf.f k t273).bind fun bt277 => ((impl_DimOf.f k t273).bind fun bt279 => (if bt277.2 = 0 then (if bt279.2 = 0 then (if bt277.1 < 1 then (laws_FnShape.j0 k bt277.1 bt279.1 true t273) else (laws_FnShape.j0 k bt277.1 bt279.1 (decide (bt277.1 > 12)) t273)) else (laws_FnShape.j0 k bt277.1 bt279.1 true t273)) else (laws_FnShape.j0 k bt277.1 bt279.1 true t273)))))) = some r := h
 clear h
 by_cases c2 : (l0.length : Int) > 1048576
 ·
  rw [if_pos c2] at H
  have c2b0 : decide (1048576 < (l0.length : Int)) = true := decide_eq_true c2
  have c2b1 : decide (1048576 < l0.length) = true := decide_eq_true (by omega)
  clear c2
  obtain rfl := Option.some.inj H
  go_enter Try.func5, Try.ntmps5
  go_wp2
  go_ret
  exact ⟨by first | rfl | (simp [errW_none, errW_some] <;> rfl) | (simp [*, errW_none, errW_some] <;> rfl), blw HB⟩
 ·
  rw [if_neg c2] at H
  have c2b0 : decide (1048576 < (l0.length : Int)) = false := decide_eq_false c2
  have c2b1 : decide (1048576 < l0.length) = false := decide_eq_false (by omega)
  clear c2
  replace H := Option.bind_eq_some_iff.mp H
  obtain ⟨t273, A30, H⟩ := H
  replace H : ((impl_DepthOf.f k t273).bind fun bt277 => ((impl_DimOf.f k t273).bind fun bt279 => (if bt277.2 = 0 then (if bt279.2 = 0 then (if bt277.1 < 1 then (laws_FnShape.j0 k bt277.1 bt279.1 true t273) else (laws_FnShape.j0 k bt277.1 bt279.1 (decide (bt277.1 > 12)) t273)) else (laws_FnShape.j0 k bt277.1 bt279.1 true t273)) else (laws_FnShape.j0 k bt277.1 bt279.1 true t273)))) = some r := H
  have A3 := Aside0.mk A30
  clear A30
  replace H := Option.bind_eq_some_iff.mp H
  obtain ⟨⟨t277, t278⟩, A40, H⟩ := H
  replace H : ((impl_DimOf.f k t273).bind fun bt279 => (if t278 = 0 then (if bt279.2 = 0 then (if t277 < 1 then (laws_FnShape.j0 k t277 bt279.1 true t273) else (laws_FnShape.j0 k t277 bt279.1 (decide (t277 > 12)) t273)) else (laws_FnShape.j0 k t277 bt279.1 true t273)) else (laws_FnShape.j0 k t277 bt279.1 true t273))) = some r := H
  have A4 := Aside0.mk A40
  clear A40
  replace H := Option.bind_eq_some_iff.mp H
  obtain ⟨⟨t279, t280⟩, A50, H⟩ := H
  replace H : (if t278 = 0 then (if t280 = 0 then (if t277 < 1 then (laws_FnShape.j0 k t277 t279 true t273) else (laws_FnShape.j0 k t277 t279 (decide (t277 > 12)) t273)) else (laws_FnShape.j0 k t277 t279 true t273)) else (laws_FnShape.j0 k t277 t279 true t273)) = some r := H
  have A5 := Aside0.mk A50
  clear A50
  have HC6 := Aside0.mk H
  clear H
  go_enter Try.func5, Try.ntmps5
  go_upto_region 6 with (first | ((with_reducible refine gate_callee (f := 20) rfl ?_); refine goesL_ (some 20) rfl rfl Try.func20 (by kernel_rfl) rfl #[.slice A0 l0.length c0, .int .i64 3, .bool true] rfl (by (try simp only [List.map_toArray, List.map_cons, List.map_nil]); first | done | rfl | (simp only [List.length_drop, List.length_take]; rfl)) ?_; (with_reducible refine (spec_ExprDrawn.calls k _ _ l0 3 true t273 _ ?side1 ?side2 A3.out).mono ?_); (case side1 => repeat (first | exact HR0.out | (with_reducible refine Kd.C_alloc ?_ _) | (with_reducible refine Kd.C_drewN ?_ _) | (with_reducible refine Kd.C_drew ?_))); (case side2 => exact HC0.out); rintro e w7 ⟨v274, rfl, ho0, hb⟩; refine ⟨_, rfl, ?_⟩; have HO275 := lwR ho0 HB; replace HB := bst HB hb; (try clear hb); (try clear hb2); (try clear hk); (try clear hi); (try clear ho0)) | ((with_reducible refine gate_dst (N := 3) rfl ?_); refine box_event ?hg (N := 3) ?hd (cs := #[.slice none 0 0]) (t := 41) ?hr ?_; (case hd => rfl); (case hg => rfl); (case hr => first | (go_simp; done) | (go_simp; rfl)); intro gb276 hg w8 hbox hb; replace HO275 := rblR HO275 hb; have BK276 := Aside0.mk (hbox); have GW276 := geh hg HB; have GE276 := geh hg HB; replace HB := bst HB hb; clear hb hbox hg; obtain ⟨Ao9, co9, eo9⟩ := Kd.R_slice HO275.out; subst eo9; have hcz10_0 := bce BK276 0 (.slice none 0 0); have hfz10_0 := blk_frozen BK276.out 0) | ((with_reducible refine gate_callee (f := 21) rfl ?_); refine goesL_ (some 23) rfl rfl Try.func21 (by kernel_rfl) rfl #[.agg #[.slice Ao9 t273.length co9]] rfl (by (try simp only [List.map_toArray, List.map_cons, List.map_nil]); first | done | rfl | (simp only [List.length_drop, List.length_take]; rfl)) ?_; (with_reducible refine (impl_DepthOf.calls k _ _ t273 t277 t278 _ ?side1 ?side2 A4.out).mono ?_); (case side1 => refine (Kd.R_reads' (e := 46) (base := w.heap.size) (ok := fun k_ => True) (n := t273.length) (c := co9) ?_).2.2; exact (crF HO275 BK276)); (case side2 => exact (Kd.R_reads' HO275.out).2.1); rintro e w11 ⟨rfl, hb⟩; refine ⟨_, rfl, ?_⟩; replace HO275 := rblF HO275 BK276 hb; replace BK276 := Aside0.mk (blk_below (g := gb276) (o := .cells #[.slice Ao9 t273.length co9] 41 (0, 0)) (by (with_reducible repeat (first | refine blk_drewN ?_ _ | refine blk_drew ?_ | refine blk_alloc ?_ _)); refine blk_put (cs := #[.slice none 0 0]) ?_ 0 _ rfl; (with_reducible repeat (first | refine blk_drewN ?_ _ | refine blk_drew ?_ | refine blk_alloc ?_ _)); exact BK276.out) hb); replace HB := bst HB hb; (try clear hb); (try clear hb2); (try clear hk); (try clear hi); have hcz12_0 := bce BK276 0 (.slice Ao9 t273.length co9); have hfz12_0 := blk_frozen BK276.out 0) | ((with_reducible refine gate_callee (f := 22) rfl ?_); refine goesL_ (some 28) rfl rfl Try.func22 (by kernel_rfl) rfl #[.agg #[.slice Ao9 t273.length co9]] rfl (by (try simp only [List.map_toArray, List.map_cons, List.map_nil]); first | done | rfl | (simp only [List.length_drop, List.length_take]; rfl)) ?_; (with_reducible refine (impl_DimOf.calls k _ _ t273 t279 t280 _ ?side1 ?side2 A5.out).mono ?_); (case side1 => exact crC (Kd.R_reads' HO275.out).2.2); (case side2 => exact (Kd.R_reads' HO275.out).2.1); rintro e w13 ⟨rfl, hb⟩; refine ⟨_, rfl, ?_⟩; replace HO275 := rblR HO275 hb; replace BK276 := bkb BK276 hb; replace HB := bst HB hb; (try clear hb); (try clear hb2); (try clear hk); (try clear hi)))
  (try simp only [Act.put, List.setIfInBounds_toArray, List.set_cons_zero, List.set_cons_succ])
  go_cut [44] (fun v44 wc => ∃ (kq : Nat) (x44_5 : Bool), v44 = .bool x44_5 ∧ Aside0 (laws_FnShape.j0 kq t277 t279 x44_5 t273 = some r) ∧ Aside0 (kq ≤ k) ∧ Aside0 (Kd.R k46 46 wc w.heap.size (fun _ => True) (.slice Ao9 t273.length co9) t273) ∧ Aside0 (wc.heap[gb276]? = some (.cells #[(.slice Ao9 t273.length co9)] 41 (0, 0))) ∧ Aside0 (Below w.heap.size w wc))
  case first =>
   have H := HC6.out
   clear HC6
   by_cases c14 : t278 = 0
   ·
    rw [if_pos c14] at H
    have c14b0 : (t278 == 0) = true := beq_iff_eq.mpr c14
    have c14b1 : (t278 != 0) = false := bne_eq_false_iff_eq.mpr c14
    clear c14
    (first | rw [c14b0] | (simp only [i64_w, i32_w]; rw [c14b0]) | skip)
    by_cases c15 : t280 = 0
    ·
     rw [if_pos c15] at H
     have c15b0 : (t280 == 0) = true := beq_iff_eq.mpr c15
     have c15b1 : (t280 != 0) = false := bne_eq_false_iff_eq.mpr c15
     clear c15
     by_cases c16 : t277 < 1
     ·
      rw [if_pos c16] at H
      have c16b0 : decide (t277 < 1) = true := decide_eq_true c16
      clear c16
      have H' := Aside0.mk H
      clear H
      go_wp2
      go_meet
      case rel => exact ⟨_, (true), (by first | rfl | (simp; done) | (simp [*]; done)), H', ⟨by first | omega | exact Nat.le_refl _⟩, ⟨crR HO275⟩, ⟨crb BK276⟩, ⟨blw HB⟩⟩
     ·
      rw [if_neg c16] at H
      have c16b0 : decide (t277 < 1) = false := decide_eq_false c16
      clear c16
      have H' := Aside0.mk H
      clear H
      go_wp2
      go_meet
      case rel => exact ⟨_, (decide (t277 > 12)), (by first | rfl | (simp; done) | (simp [*]; done)), H', ⟨by first | omega | exact Nat.le_refl _⟩, ⟨crR HO275⟩, ⟨crb BK276⟩, ⟨blw HB⟩⟩
    ·
     rw [if_neg c15] at H
     have c15b0 : (t280 == 0) = false := beq_eq_false_iff_ne.mpr c15
     have c15b1 : (t280 != 0) = true := bne_iff_ne.mpr c15
     have H' := Aside0.mk H
     clear H
     go_wp2
     go_meet
     case rel => exact ⟨_, (true), (by first | rfl | (simp; done) | (simp [*]; done)), H', ⟨by first | omega | exact Nat.le_refl _⟩, ⟨crR HO275⟩, ⟨crb BK276⟩, ⟨blw HB⟩⟩
   ·
    rw [if_neg c14] at H
    have c14b0 : (t278 == 0) = false := beq_eq_false_iff_ne.mpr c14
    have c14b1 : (t278 != 0) = true := bne_iff_ne.mpr c14
    (first | rw [c14b0] | (simp only [i64_w, i32_w]; rw [c14b0]) | skip)
    have H' := Aside0.mk H
    clear H
    go_wp2
    go_meet
    case rel => exact ⟨_, (true), (by first | rfl | (simp; done) | (simp [*]; done)), H', ⟨by first | omega | exact Nat.le_refl _⟩, ⟨crR HO275⟩, ⟨crb BK276⟩, ⟨blw HB⟩⟩
  case rest =>
   clear HC6
   try clear c1
   try clear c2
   try clear c2b0
   try clear c2b1
   try clear p2
   try clear c5
   try clear c14
   try clear c14b0
   try clear c14b1
   try clear c15
   try clear c15b0
   try clear c15b1
   try clear c16
   try clear c16b0
   try clear hcz10_0
   try clear hcz12_0
   try clear hfz10_0
   try clear hfz12_0
   obtain ⟨kq, x44_5, rfl, HA, HJ5, HO_277000, BK276, HB⟩ := hcut
   cases kq with
   | zero => exact absurd HA.out (by simp [laws_FnShape.j0])
   | succ kj5 =>
    have H := HA.out
    clear HA
    simp only [laws_FnShape.j0] at H
    by_cases c17 : x44_5 = true
    ·
     subst c17
     have H1 : (some false) = some r := by rw [if_pos rfl] at H; exact H
     clear H
     have H := H1
     clear H1
     obtain rfl := Option.some.inj H
     exact absurd hr_ (by decide)
    ·
     replace c17 := Bool.eq_false_iff.mpr c17
     subst c17
     have H1 : ((some (([] : List (S46)) : List (S46))).bind fun y281 => (if y281.length + t273.length < 4398046511104 then ((some (y281 ++ t273 : List (S46))).bind fun y284 => ((some (([(⟨7, wrap64 ((t273.length : Int) - 1), 0, 0⟩ : S46)] : List (S46)) : List (S46))).bind fun y287 => (if y284.length + y287.length < 4398046511104 then ((some (y284 ++ y287 : List (S46))).bind fun y290 => ((some (([] : List (S46)) : List (S46))).bind fun y294 => (if y294.length + t273.length < 4398046511104 then ((some (y294 ++ t273 : List (S46))).bind fun y297 => ((some (([(⟨2, 0, 0, 3⟩ : S46), (⟨3, wrap64 ((t273.length : Int) - 1), (t273.length : Int), 0⟩ : S46)] : List (S46)) : List (S46))).bind fun y300 => (if y297.length + y300.length < 4398046511104 then ((impl_DepthOf.f kj5 y290).bind fun bt307 => ((impl_DimOf.f kj5 y290).bind fun bt309 => ((impl_DimOf.f kj5 (y297 ++ y300)).bind fun bt311 => (if bt307.2 = 0 then (if bt307.1 = (wrap64 (t277 + 1)) then (if bt309.2 = 0 then (if bt309.1 = t279 then (if bt311.2 = 0 then (some (bt311.1 == 4)) else (some false)) else (some false)) else (some false)) else (some false)) else (some false))))) else (none)))) else (none)))) else (none)))) else (none))) = some r := by rw [if_neg (show ¬ (false = true) by decide)] at H; exact H
     clear H
     have H := H1
     clear H1
     obtain ⟨y281, hy281⟩ : ∃ y_ : List (S46), y_ = (([] : List (S46))) := ⟨_, rfl⟩
     replace H : (if y281.length + t273.length < 4398046511104 then ((some (y281 ++ t273 : List (S46))).bind fun y284 => ((some (([(⟨7, wrap64 ((t273.length : Int) - 1), 0, 0⟩ : S46)] : List (S46)) : List (S46))).bind fun y287 => (if y284.length + y287.length < 4398046511104 then ((some (y284 ++ y287 : List (S46))).bind fun y290 => ((some (([] : List (S46)) : List (S46))).bind fun y294 => (if y294.length + t273.length < 4398046511104 then ((some (y294 ++ t273 : List (S46))).bind fun y297 => ((some (([(⟨2, 0, 0, 3⟩ : S46), (⟨3, wrap64 ((t273.length : Int) - 1), (t273.length : Int), 0⟩ : S46)] : List (S46)) : List (S46))).bind fun y300 => (if y297.length + y300.length < 4398046511104 then ((impl_DepthOf.f kj5 y290).bind fun bt307 => ((impl_DimOf.f kj5 y290).bind fun bt309 => ((impl_DimOf.f kj5 (y297 ++ y300)).bind fun bt311 => (if bt307.2 = 0 then (if bt307.1 = (wrap64 (t277 + 1)) then (if bt309.2 = 0 then (if bt309.1 = t279 then (if bt311.2 = 0 then (some (bt311.1 == 4)) else (some false)) else (some false)) else (some false)) else (some false)) else (some false))))) else (none)))) else (none)))) else (none)))) else (none)) = some r := by first | (rw [hy281]; with_reducible exact H) | (have H2_ := (Option.bind_some _ _).symm.trans H; rw [hy281]; with_reducible exact H2_) | (have H2_ := (Option.bind_some _ _).symm.trans H; with_reducible exact H2_) | with_reducible exact H | (rw [hy281]; exact H) | exact H
     have Ny281 := Aside0.mk hy281
     clear hy281
     by_cases c18 : y281.length + t273.length < 4398046511104
     ·
      rw [if_pos c18] at H
      have LMc18 := Aside0.mk c18
      clear c18
      obtain ⟨y284, hy284⟩ : ∃ y_ : List (S46), y_ = (y281 ++ t273) := ⟨_, rfl⟩
      replace H : ((some (([(⟨7, wrap64 ((t273.length : Int) - 1), 0, 0⟩ : S46)] : List (S46)) : List (S46))).bind fun y287 => (if y284.length + y287.length < 4398046511104 then ((some (y284 ++ y287 : List (S46))).bind fun y290 => ((some (([] : List (S46)) : List (S46))).bind fun y294 => (if y294.length + t273.length < 4398046511104 then ((some (y294 ++ t273 : List (S46))).bind fun y297 => ((some (([(⟨2, 0, 0, 3⟩ : S46), (⟨3, wrap64 ((t273.length : Int) - 1), (t273.length : Int), 0⟩ : S46)] : List (S46)) : List (S46))).bind fun y300 => (if y297.length + y300.length < 4398046511104 then ((impl_DepthOf.f kj5 y290).bind fun bt307 => ((impl_DimOf.f kj5 y290).bind fun bt309 => ((impl_DimOf.f kj5 (y297 ++ y300)).bind fun bt311 => (if bt307.2 = 0 then (if bt307.1 = (wrap64 (t277 + 1)) then (if bt309.2 = 0 then (if bt309.1 = t279 then (if bt311.2 = 0 then (some (bt311.1 == 4)) else (some false)) else (some false)) else (some false)) else (some false)) else (some false))))) else (none)))) else (none)))) else (none))) = some r := by first | (rw [hy284]; with_reducible exact H) | (have H2_ := (Option.bind_some _ _).symm.trans H; rw [hy284]; with_reducible exact H2_) | (have H2_ := (Option.bind_some _ _).symm.trans H; with_reducible exact H2_) | with_reducible exact H | (rw [hy284]; exact H) | exact H
      have Ny284 := Aside0.mk hy284
      clear hy284
      obtain ⟨y287, hy287⟩ : ∃ y_ : List (S46), y_ = (([(⟨7, wrap64 ((t273.length : Int) - 1), 0, 0⟩ : S46)] : List (S46))) := ⟨_, rfl⟩
      replace H : (if y284.length + y287.length < 4398046511104 then ((some (y284 ++ y287 : List (S46))).bind fun y290 => ((some (([] : List (S46)) : List (S46))).bind fun y294 => (if y294.length + t273.length < 4398046511104 then ((some (y294 ++ t273 : List (S46))).bind fun y297 => ((some (([(⟨2, 0, 0, 3⟩ : S46), (⟨3, wrap64 ((t273.length : Int) - 1), (t273.length : Int), 0⟩ : S46)] : List (S46)) : List (S46))).bind fun y300 => (if y297.length + y300.length < 4398046511104 then ((impl_DepthOf.f kj5 y290).bind fun bt307 => ((impl_DimOf.f kj5 y290).bind fun bt309 => ((impl_DimOf.f kj5 (y297 ++ y300)).bind fun bt311 => (if bt307.2 = 0 then (if bt307.1 = (wrap64 (t277 + 1)) then (if bt309.2 = 0 then (if bt309.1 = t279 then (if bt311.2 = 0 then (some (bt311.1 == 4)) else (some false)) else (some false)) else (some false)) else (some false)) else (some false))))) else (none)))) else (none)))) else (none)) = some r := by first | (rw [hy287]; with_reducible exact H) | (have H2_ := (Option.bind_some _ _).symm.trans H; rw [hy287]; with_reducible exact H2_) | (have H2_ := (Option.bind_some _ _).symm.trans H; with_reducible exact H2_) | with_reducible exact H | (rw [hy287]; exact H) | exact H
      have Ny287 := Aside0.mk hy287
      clear hy287
      by_cases c19 : y284.length + y287.length < 4398046511104
      ·
       rw [if_pos c19] at H
       have LMc19 := Aside0.mk c19
       clear c19
       obtain ⟨y290, hy290⟩ : ∃ y_ : List (S46), y_ = (y284 ++ y287) := ⟨_, rfl⟩
       replace H : ((some (([] : List (S46)) : List (S46))).bind fun y294 => (if y294.length + t273.length < 4398046511104 then ((some (y294 ++ t273 : List (S46))).bind fun y297 => ((some (([(⟨2, 0, 0, 3⟩ : S46), (⟨3, wrap64 ((t273.length : Int) - 1), (t273.length : Int), 0⟩ : S46)] : List (S46)) : List (S46))).bind fun y300 => (if y297.length + y300.length < 4398046511104 then ((impl_DepthOf.f kj5 y290).bind fun bt307 => ((impl_DimOf.f kj5 y290).bind fun bt309 => ((impl_DimOf.f kj5 (y297 ++ y300)).bind fun bt311 => (if bt307.2 = 0 then (if bt307.1 = (wrap64 (t277 + 1)) then (if bt309.2 = 0 then (if bt309.1 = t279 then (if bt311.2 = 0 then (some (bt311.1 == 4)) else (some false)) else (some false)) else (some false)) else (some false)) else (some false))))) else (none)))) else (none))) = some r := by first | (rw [hy290]; with_reducible exact H) | (have H2_ := (Option.bind_some _ _).symm.trans H; rw [hy290]; with_reducible exact H2_) | (have H2_ := (Option.bind_some _ _).symm.trans H; with_reducible exact H2_) | with_reducible exact H | (rw [hy290]; exact H) | exact H
       have Ny290 := Aside0.mk hy290
       clear hy290
       obtain ⟨y294, hy294⟩ : ∃ y_ : List (S46), y_ = (([] : List (S46))) := ⟨_, rfl⟩
       replace H : (if y294.length + t273.length < 4398046511104 then ((some (y294 ++ t273 : List (S46))).bind fun y297 => ((some (([(⟨2, 0, 0, 3⟩ : S46), (⟨3, wrap64 ((t273.length : Int) - 1), (t273.length : Int), 0⟩ : S46)] : List (S46)) : List (S46))).bind fun y300 => (if y297.length + y300.length < 4398046511104 then ((impl_DepthOf.f kj5 y290).bind fun bt307 => ((impl_DimOf.f kj5 y290).bind fun bt309 => ((impl_DimOf.f kj5 (y297 ++ y300)).bind fun bt311 => (if bt307.2 = 0 then (if bt307.1 = (wrap64 (t277 + 1)) then (if bt309.2 = 0 then (if bt309.1 = t279 then (if bt311.2 = 0 then (some (bt311.1 == 4)) else (some false)) else (some false)) else (some false)) else (some false)) else (some false))))) else (none)))) else (none)) = some r := by first | (rw [hy294]; with_reducible exact H) | (have H2_ := (Option.bind_some _ _).symm.trans H; rw [hy294]; with_reducible exact H2_) | (have H2_ := (Option.bind_some _ _).symm.trans H; with_reducible exact H2_) | with_reducible exact H | (rw [hy294]; exact H) | exact H
       have Ny294 := Aside0.mk hy294
       clear hy294
       by_cases c20 : y294.length + t273.length < 4398046511104
       ·
        rw [if_pos c20] at H
        have LMc20 := Aside0.mk c20
        clear c20
        obtain ⟨y297, hy297⟩ : ∃ y_ : List (S46), y_ = (y294 ++ t273) := ⟨_, rfl⟩
        replace H : ((some (([(⟨2, 0, 0, 3⟩ : S46), (⟨3, wrap64 ((t273.length : Int) - 1), (t273.length : Int), 0⟩ : S46)] : List (S46)) : List (S46))).bind fun y300 => (if y297.length + y300.length < 4398046511104 then ((impl_DepthOf.f kj5 y290).bind fun bt307 => ((impl_DimOf.f kj5 y290).bind fun bt309 => ((impl_DimOf.f kj5 (y297 ++ y300)).bind fun bt311 => (if bt307.2 = 0 then (if bt307.1 = (wrap64 (t277 + 1)) then (if bt309.2 = 0 then (if bt309.1 = t279 then (if bt311.2 = 0 then (some (bt311.1 == 4)) else (some false)) else (some false)) else (some false)) else (some false)) else (some false))))) else (none))) = some r := by first | (rw [hy297]; with_reducible exact H) | (have H2_ := (Option.bind_some _ _).symm.trans H; rw [hy297]; with_reducible exact H2_) | (have H2_ := (Option.bind_some _ _).symm.trans H; with_reducible exact H2_) | with_reducible exact H | (rw [hy297]; exact H) | exact H
        have Ny297 := Aside0.mk hy297
        clear hy297
        obtain ⟨y300, hy300⟩ : ∃ y_ : List (S46), y_ = (([(⟨2, 0, 0, 3⟩ : S46), (⟨3, wrap64 ((t273.length : Int) - 1), (t273.length : Int), 0⟩ : S46)] : List (S46))) := ⟨_, rfl⟩
        replace H : (if y297.length + y300.length < 4398046511104 then ((impl_DepthOf.f kj5 y290).bind fun bt307 => ((impl_DimOf.f kj5 y290).bind fun bt309 => ((impl_DimOf.f kj5 (y297 ++ y300)).bind fun bt311 => (if bt307.2 = 0 then (if bt307.1 = (wrap64 (t277 + 1)) then (if bt309.2 = 0 then (if bt309.1 = t279 then (if bt311.2 = 0 then (some (bt311.1 == 4)) else (some false)) else (some false)) else (some false)) else (some false)) else (some false))))) else (none)) = some r := by first | (rw [hy300]; with_reducible exact H) | (have H2_ := (Option.bind_some _ _).symm.trans H; rw [hy300]; with_reducible exact H2_) | (have H2_ := (Option.bind_some _ _).symm.trans H; with_reducible exact H2_) | with_reducible exact H | (rw [hy300]; exact H) | exact H
        have Ny300 := Aside0.mk hy300
        clear hy300
        by_cases c21 : y297.length + y300.length < 4398046511104
        ·
         rw [if_pos c21] at H
         have LMc21 := Aside0.mk c21
         clear c21
         obtain ⟨y303, hy303⟩ : ∃ y_ : List (S46), y_ = (y297 ++ y300) := ⟨_, rfl⟩
         replace H : ((impl_DepthOf.f kj5 y290).bind fun bt307 => ((impl_DimOf.f kj5 y290).bind fun bt309 => ((impl_DimOf.f kj5 y303).bind fun bt311 => (if bt307.2 = 0 then (if bt307.1 = (wrap64 (t277 + 1)) then (if bt309.2 = 0 then (if bt309.1 = t279 then (if bt311.2 = 0 then (some (bt311.1 == 4)) else (some false)) else (some false)) else (some false)) else (some false)) else (some false))))) = some r := by first | (rw [hy303]; with_reducible exact H) | (have H2_ := (Option.bind_some _ _).symm.trans H; rw [hy303]; with_reducible exact H2_) | (have H2_ := (Option.bind_some _ _).symm.trans H; with_reducible exact H2_) | with_reducible exact H | (rw [hy303]; exact H) | exact H
         have Ny303 := Aside0.mk hy303
         clear hy303
         replace H := Option.bind_eq_some_iff.mp H
         obtain ⟨⟨t307, t308⟩, A220, H⟩ := H
         replace H : ((impl_DimOf.f kj5 y290).bind fun bt309 => ((impl_DimOf.f kj5 y303).bind fun bt311 => (if t308 = 0 then (if t307 = (wrap64 (t277 + 1)) then (if bt309.2 = 0 then (if bt309.1 = t279 then (if bt311.2 = 0 then (some (bt311.1 == 4)) else (some false)) else (some false)) else (some false)) else (some false)) else (some false)))) = some r := H
         have A22 := Aside0.mk A220
         clear A220
         replace H := Option.bind_eq_some_iff.mp H
         obtain ⟨⟨t309, t310⟩, A230, H⟩ := H
         replace H : ((impl_DimOf.f kj5 y303).bind fun bt311 => (if t308 = 0 then (if t307 = (wrap64 (t277 + 1)) then (if t310 = 0 then (if t309 = t279 then (if bt311.2 = 0 then (some (bt311.1 == 4)) else (some false)) else (some false)) else (some false)) else (some false)) else (some false))) = some r := H
         have A23 := Aside0.mk A230
         clear A230
         replace H := Option.bind_eq_some_iff.mp H
         obtain ⟨⟨t311, t312⟩, A240, H⟩ := H
         replace H : (if t308 = 0 then (if t307 = (wrap64 (t277 + 1)) then (if t310 = 0 then (if t309 = t279 then (if t312 = 0 then (some (t311 == 4)) else (some false)) else (some false)) else (some false)) else (some false)) else (some false)) = some r := H
         have A24 := Aside0.mk A240
         clear A240
         by_cases c25 : t308 = 0
         ·
          rw [if_pos c25] at H
          have c25b0 : (t308 == 0) = true := beq_iff_eq.mpr c25
          have c25b1 : (t308 != 0) = false := bne_eq_false_iff_eq.mpr c25
          clear c25
          by_cases c26 : t307 = (wrap64 (t277 + 1))
          ·
           rw [if_pos c26] at H
           have c26b0 : (t307 == (wrap64 (t277 + 1))) = true := beq_iff_eq.mpr c26
           have c26b1 : (t307 != (wrap64 (t277 + 1))) = false := bne_eq_false_iff_eq.mpr c26
           clear c26
           by_cases c27 : t310 = 0
           ·
            rw [if_pos c27] at H
            have c27b0 : (t310 == 0) = true := beq_iff_eq.mpr c27
            have c27b1 : (t310 != 0) = false := bne_eq_false_iff_eq.mpr c27
            clear c27
            by_cases c28 : t309 = t279
            ·
             rw [if_pos c28] at H
             have c28b0 : (t309 == t279) = true := beq_iff_eq.mpr c28
             have c28b1 : (t309 != t279) = false := bne_eq_false_iff_eq.mpr c28
             clear c28
             by_cases c29 : t312 = 0
             ·
              rw [if_pos c29] at H
              have c29b0 : (t312 == 0) = true := beq_iff_eq.mpr c29
              have c29b1 : (t312 != 0) = false := bne_eq_false_iff_eq.mpr c29
              clear c29
              obtain rfl := Option.some.inj H
              try go_wp2
              replace HO_277000 := Aside0.mk (Kd.R_drew HO_277000.out)
              replace BK276 := Aside0.mk (blk_drew BK276.out)
              replace HB := Aside0.mk (below_drew1 HB.out)
              refine start_ (n := 14) (S := fun w' => w'.cell? ⟨gb276, 0, none⟩ = some (.slice Ao9 t273.length co9)) (ds := []) #[false, false, false, false, false, false, false, false, false, false, false, false, false, false] (by kernel_rfl) rfl rfl ((blk_cell BK276.out 0).trans rfl) (fun hHeld => ?_); refine with_tabW laws_FnShape.tab8 laws_FnShape.bits8 (fun HT_ HW_ => ?_)
              generalize wc.drew = w30 at HO_277000 BK276 HB hHeld ⊢
              refine pure_ (i := 1) (N := some 46) (v := ?_) (a' := ?_) #[false, true, false, false, false, false, false, false, false, false, false, false, false, false] rfl rfl (any_of HT_.out (by kernel_rfl)) (fun _ _ _ h => h) (Or.inl ⟨by rfl, ?_⟩) ?_ ?_
              rotate_left
              ·
               intro w'
               go_simp
               with_reducible rfl
              rotate_left
              ·
               simp only [Act.put, List.setIfInBounds_toArray, List.set_cons_zero, List.set_cons_succ, i64_w, i32_w]
               rfl
              refine pure_ (i := 4) (N := some 49) (v := ?_) (a' := ?_) #[false, true, false, false, true, false, false, false, false, false, false, false, false, false] rfl rfl (any_of HT_.out (by kernel_rfl)) (fun _ _ _ h => h) (Or.inl ⟨by rfl, ?_⟩) ?_ ?_
              rotate_left
              ·
               intro w'
               go_simp
               with_reducible rfl
              rotate_left
              ·
               simp only [Act.put, List.setIfInBounds_toArray, List.set_cons_zero, List.set_cons_succ, i64_w, i32_w]
               rfl
              refine take_ (i := 2) (N := some 47) (v := ?_) (a' := ?_) #[false, true, true, false, true, false, false, false, false, false, false, false, false, false] rfl rfl (take_ofW HT_.out HW_.out (by kernel_rfl)) (fun _ _ _ h => h) (Or.inl ⟨by rfl, ?_⟩) hHeld ?_ ?_
              rotate_left
              ·
               intro w' s0
               go_simp
               with_reducible rfl
              rotate_left
              ·
               simp only [Act.put, List.setIfInBounds_toArray, List.set_cons_zero, List.set_cons_succ, i64_w, i32_w]
               rfl
              refine take_ (i := 5) (N := some 50) (v := ?_) (a' := ?_) #[false, true, true, false, true, true, false, false, false, false, false, false, false, false] rfl rfl (take_ofW HT_.out HW_.out (by kernel_rfl)) (fun _ _ _ h => h) (Or.inl ⟨by rfl, ?_⟩) hHeld ?_ ?_
              rotate_left
              ·
               intro w' s0
               go_simp
               with_reducible rfl
              rotate_left
              ·
               simp only [Act.put, List.setIfInBounds_toArray, List.set_cons_zero, List.set_cons_succ, i64_w, i32_w]
               rfl
              refine pure_ (i := 6) (N := some 51) (v := ?_) (a' := ?_) #[false, true, true, false, true, true, true, false, false, false, false, false, false, false] rfl rfl (any_of HT_.out (by kernel_rfl)) (fun _ _ _ h => h) (Or.inl ⟨by rfl, ?_⟩) ?_ ?_
              rotate_left
              ·
               intro w'
               go_simp
               with_reducible rfl
              rotate_left
              ·
               simp only [Act.put, List.setIfInBounds_toArray, List.set_cons_zero, List.set_cons_succ, i64_w, i32_w]
               rfl
              refine pure_ (i := 7) (N := some 52) (v := ?_) (a' := ?_) #[false, true, true, false, true, true, true, true, false, false, false, false, false, false] rfl rfl (any_of HT_.out (by kernel_rfl)) (fun _ _ _ h => h) (Or.inl ⟨by rfl, ?_⟩) ?_ ?_
              rotate_left
              ·
               intro w'
               go_simp
               with_reducible rfl
              rotate_left
              ·
               simp only [Act.put, List.setIfInBounds_toArray, List.set_cons_zero, List.set_cons_succ, i64_w, i32_w]
               rfl
              refine pure_ (i := 8) (N := some 53) (v := ?_) (a' := ?_) #[false, true, true, false, true, true, true, true, true, false, false, false, false, false] rfl rfl (any_of HT_.out (by kernel_rfl)) (fun _ _ _ h => h) (Or.inl ⟨by rfl, ?_⟩) ?_ ?_
              rotate_left
              ·
               intro w'
               go_simp
               with_reducible rfl
              rotate_left
              ·
               simp only [Act.put, List.setIfInBounds_toArray, List.set_cons_zero, List.set_cons_succ, i64_w, i32_w]
               rfl
              refine join_ (σ := Value × Value × Value × Value × Nat) 1 #[true, true, true, true, true, true, true, true, true, true, true, true, true, false] (fun s_ => [(45, s_.1), (48, s_.2.1), (54, s_.2.2.1), (55, s_.2.2.2.1), (8, .pointer (some ⟨s_.2.2.2.2, 0, none⟩)), (56, .agg #[s_.2.2.2.1])]) (fun s_ w' => (w'.cell? ⟨gb276, 0, none⟩ = some (.slice Ao9 t273.length co9)) ∧ (Kd.R k46 46 w' w.heap.size (fun k_ => some k_ ≠ (s_.2.2.2.1 : Value).ownBlock ∧ some k_ ≠ (.slice Ao9 t273.length co9 : Value).ownBlock) s_.2.2.1 y287) ∧ (Kd.R k46 46 w' w.heap.size (fun k_ => some k_ ≠ (s_.2.2.1 : Value).ownBlock ∧ some k_ ≠ (.slice Ao9 t273.length co9 : Value).ownBlock) s_.2.2.2.1 y290) ∧ (Kd.R k46 46 w' w.heap.size (fun k_ => some k_ ≠ (s_.2.2.1 : Value).ownBlock ∧ some k_ ≠ (s_.2.2.2.1 : Value).ownBlock) (.slice Ao9 t273.length co9) t273) ∧ (w'.heap[gb276]? = some (.cells #[.slice Ao9 t273.length co9] 41 (0, 0))) ∧ (w'.heap[s_.2.2.2.2]? = some (.cells #[.slice none 0 0] 41 (0, 0))) ∧ (w.heap.size ≤ s_.2.2.2.2) ∧ (w.heap.size ≤ s_.2.2.2.2) ∧ (gb276 ≠ s_.2.2.2.2) ∧ (s_.2.2.2.2 ≠ gb276) ∧ (Below w.heap.size w w')) ?_ ?_
              rotate_left
              ·
               intro hJ0_3_9_10_12
               refine join_ (σ := Value × Value × Value × Value) 2 #[true, true, true, true, true, true, true, true, true, true, true, true, false, false] (fun s_ => [(45, s_.1), (48, s_.2.1), (54, s_.2.2.1), (55, s_.2.2.2), (56, .agg #[s_.2.2.2])]) (fun s_ w' => (w'.cell? ⟨gb276, 0, none⟩ = some (.slice Ao9 t273.length co9)) ∧ (Kd.R k46 46 w' w.heap.size (fun k_ => some k_ ≠ (s_.2.2.2 : Value).ownBlock ∧ some k_ ≠ (.slice Ao9 t273.length co9 : Value).ownBlock) s_.2.2.1 y287) ∧ (Kd.R k46 46 w' w.heap.size (fun k_ => some k_ ≠ (s_.2.2.1 : Value).ownBlock ∧ some k_ ≠ (.slice Ao9 t273.length co9 : Value).ownBlock) s_.2.2.2 y290) ∧ (Kd.R k46 46 w' w.heap.size (fun k_ => some k_ ≠ (s_.2.2.1 : Value).ownBlock ∧ some k_ ≠ (s_.2.2.2 : Value).ownBlock) (.slice Ao9 t273.length co9) t273) ∧ (w'.heap[gb276]? = some (.cells #[.slice Ao9 t273.length co9] 41 (0, 0))) ∧ (Below w.heap.size w w')) ?_ ?_
               rotate_left
               ·
                intro hJ0_3_9_10
                refine join_ (σ := Value × Value × Value × Nat) 3 #[true, true, true, true, true, true, true, true, true, true, false, false, true, false] (fun s_ => [(45, s_.1), (48, s_.2.1), (54, s_.2.2.1), (8, .pointer (some ⟨s_.2.2.2, 0, none⟩))]) (fun s_ w' => (w'.cell? ⟨gb276, 0, none⟩ = some (.slice Ao9 t273.length co9)) ∧ (Kd.R k46 46 w' w.heap.size (fun k_ => some k_ ≠ (s_.2.2.1 : Value).ownBlock ∧ some k_ ≠ (.slice Ao9 t273.length co9 : Value).ownBlock) s_.2.1 y284) ∧ (Kd.R k46 46 w' w.heap.size (fun k_ => some k_ ≠ (s_.2.1 : Value).ownBlock ∧ some k_ ≠ (.slice Ao9 t273.length co9 : Value).ownBlock) s_.2.2.1 y287) ∧ (Kd.R k46 46 w' w.heap.size (fun k_ => some k_ ≠ (s_.2.1 : Value).ownBlock ∧ some k_ ≠ (s_.2.2.1 : Value).ownBlock) (.slice Ao9 t273.length co9) t273) ∧ (w'.heap[gb276]? = some (.cells #[.slice Ao9 t273.length co9] 41 (0, 0))) ∧ (w'.heap[s_.2.2.2]? = some (.cells #[.slice none 0 0] 41 (0, 0))) ∧ (w.heap.size ≤ s_.2.2.2) ∧ (w.heap.size ≤ s_.2.2.2) ∧ (gb276 ≠ s_.2.2.2) ∧ (s_.2.2.2 ≠ gb276) ∧ (Below w.heap.size w w')) ?_ ?_
                rotate_left
                ·
                 intro hJ0_3_9_12
                 refine join_ (σ := Value × Value × Value) 4 #[true, true, true, true, true, true, true, true, true, true, false, false, false, false] (fun s_ => [(45, s_.1), (48, s_.2.1), (54, s_.2.2)]) (fun s_ w' => (w'.cell? ⟨gb276, 0, none⟩ = some (.slice Ao9 t273.length co9)) ∧ (Kd.R k46 46 w' w.heap.size (fun k_ => some k_ ≠ (s_.2.2 : Value).ownBlock ∧ some k_ ≠ (.slice Ao9 t273.length co9 : Value).ownBlock) s_.2.1 y284) ∧ (Kd.R k46 46 w' w.heap.size (fun k_ => some k_ ≠ (s_.2.1 : Value).ownBlock ∧ some k_ ≠ (.slice Ao9 t273.length co9 : Value).ownBlock) s_.2.2 y287) ∧ (Kd.R k46 46 w' w.heap.size (fun k_ => some k_ ≠ (s_.2.1 : Value).ownBlock ∧ some k_ ≠ (s_.2.2 : Value).ownBlock) (.slice Ao9 t273.length co9) t273) ∧ (w'.heap[gb276]? = some (.cells #[.slice Ao9 t273.length co9] 41 (0, 0))) ∧ (Below w.heap.size w w')) ?_ ?_
                 rotate_left
                 ·
                  intro hJ0_3_9
                  refine join_ (σ := Value × Value × Nat) 4 #[true, true, true, true, true, true, true, true, true, false, false, false, true, false] (fun s_ => [(45, s_.1), (48, s_.2.1), (8, .pointer (some ⟨s_.2.2, 0, none⟩))]) (fun s_ w' => (w'.cell? ⟨gb276, 0, none⟩ = some (.slice Ao9 t273.length co9)) ∧ (Kd.R k46 46 w' w.heap.size (fun k_ => some k_ ≠ (.slice Ao9 t273.length co9 : Value).ownBlock) s_.2.1 y284) ∧ (Kd.R k46 46 w' w.heap.size (fun k_ => some k_ ≠ (s_.2.1 : Value).ownBlock) (.slice Ao9 t273.length co9) t273) ∧ (w'.heap[gb276]? = some (.cells #[.slice Ao9 t273.length co9] 41 (0, 0))) ∧ (w'.heap[s_.2.2]? = some (.cells #[.slice none 0 0] 41 (0, 0))) ∧ (w.heap.size ≤ s_.2.2) ∧ (w.heap.size ≤ s_.2.2) ∧ (gb276 ≠ s_.2.2) ∧ (s_.2.2 ≠ gb276) ∧ (Below w.heap.size w w')) ?_ ?_
                  rotate_left
                  ·
                   intro hJ0_3_12
                   refine join_ (σ := Value × Value × Nat) 4 #[true, true, true, false, true, true, true, true, true, true, false, false, true, false] (fun s_ => [(45, s_.1), (54, s_.2.1), (8, .pointer (some ⟨s_.2.2, 0, none⟩))]) (fun s_ w' => (w'.cell? ⟨gb276, 0, none⟩ = some (.slice Ao9 t273.length co9)) ∧ (Kd.R k46 46 w' w.heap.size (fun k_ => some k_ ≠ (s_.2.1 : Value).ownBlock ∧ some k_ ≠ (.slice Ao9 t273.length co9 : Value).ownBlock) s_.1 y281) ∧ (Kd.R k46 46 w' w.heap.size (fun k_ => some k_ ≠ (s_.1 : Value).ownBlock ∧ some k_ ≠ (.slice Ao9 t273.length co9 : Value).ownBlock) s_.2.1 y287) ∧ (Kd.R k46 46 w' w.heap.size (fun k_ => some k_ ≠ (s_.1 : Value).ownBlock ∧ some k_ ≠ (s_.2.1 : Value).ownBlock) (.slice Ao9 t273.length co9) t273) ∧ (w'.heap[gb276]? = some (.cells #[.slice Ao9 t273.length co9] 41 (0, 0))) ∧ (w'.heap[s_.2.2]? = some (.cells #[.slice none 0 0] 41 (0, 0))) ∧ (w.heap.size ≤ s_.2.2) ∧ (w.heap.size ≤ s_.2.2) ∧ (gb276 ≠ s_.2.2) ∧ (s_.2.2 ≠ gb276) ∧ (Below w.heap.size w w')) ?_ ?_
                   rotate_left
                   ·
                    intro hJ0_9_12
                    refine join_ (σ := Value × Value) 5 #[true, true, true, true, true, true, true, true, true, false, false, false, false, false] (fun s_ => [(45, s_.1), (48, s_.2)]) (fun s_ w' => (w'.cell? ⟨gb276, 0, none⟩ = some (.slice Ao9 t273.length co9)) ∧ (Kd.R k46 46 w' w.heap.size (fun k_ => some k_ ≠ (.slice Ao9 t273.length co9 : Value).ownBlock) s_.2 y284) ∧ (Kd.R k46 46 w' w.heap.size (fun k_ => some k_ ≠ (s_.2 : Value).ownBlock) (.slice Ao9 t273.length co9) t273) ∧ (w'.heap[gb276]? = some (.cells #[.slice Ao9 t273.length co9] 41 (0, 0))) ∧ (Below w.heap.size w w')) ?_ ?_
                    rotate_left
                    ·
                     intro hJ0_3
                     refine join_ (σ := Value × Value) 5 #[true, true, true, false, true, true, true, true, true, true, false, false, false, false] (fun s_ => [(45, s_.1), (54, s_.2)]) (fun s_ w' => (w'.cell? ⟨gb276, 0, none⟩ = some (.slice Ao9 t273.length co9)) ∧ (Kd.R k46 46 w' w.heap.size (fun k_ => some k_ ≠ (s_.2 : Value).ownBlock ∧ some k_ ≠ (.slice Ao9 t273.length co9 : Value).ownBlock) s_.1 y281) ∧ (Kd.R k46 46 w' w.heap.size (fun k_ => some k_ ≠ (s_.1 : Value).ownBlock ∧ some k_ ≠ (.slice Ao9 t273.length co9 : Value).ownBlock) s_.2 y287) ∧ (Kd.R k46 46 w' w.heap.size (fun k_ => some k_ ≠ (s_.1 : Value).ownBlock ∧ some k_ ≠ (s_.2 : Value).ownBlock) (.slice Ao9 t273.length co9) t273) ∧ (w'.heap[gb276]? = some (.cells #[.slice Ao9 t273.length co9] 41 (0, 0))) ∧ (Below w.heap.size w w')) ?_ ?_
                     rotate_left
                     ·
                      intro hJ0_9
                      refine join_ (σ := Value × Nat) 5 #[true, true, true, false, true, true, true, true, true, false, false, false, true, false] (fun s_ => [(45, s_.1), (8, .pointer (some ⟨s_.2, 0, none⟩))]) (fun s_ w' => (w'.cell? ⟨gb276, 0, none⟩ = some (.slice Ao9 t273.length co9)) ∧ (Kd.R k46 46 w' w.heap.size (fun k_ => some k_ ≠ (.slice Ao9 t273.length co9 : Value).ownBlock) s_.1 y281) ∧ (Kd.R k46 46 w' w.heap.size (fun k_ => some k_ ≠ (s_.1 : Value).ownBlock) (.slice Ao9 t273.length co9) t273) ∧ (w'.heap[gb276]? = some (.cells #[.slice Ao9 t273.length co9] 41 (0, 0))) ∧ (w'.heap[s_.2]? = some (.cells #[.slice none 0 0] 41 (0, 0))) ∧ (w.heap.size ≤ s_.2) ∧ (w.heap.size ≤ s_.2) ∧ (gb276 ≠ s_.2) ∧ (s_.2 ≠ gb276) ∧ (Below w.heap.size w w')) ?_ ?_
                      rotate_left
                      ·
                       intro hJ0_12
                       refine join_ (σ := Value × Nat) 5 #[false, true, true, false, true, true, true, true, true, true, false, false, true, false] (fun s_ => [(54, s_.1), (8, .pointer (some ⟨s_.2, 0, none⟩))]) (fun s_ w' => (w'.cell? ⟨gb276, 0, none⟩ = some (.slice Ao9 t273.length co9)) ∧ (Kd.R k46 46 w' w.heap.size (fun k_ => some k_ ≠ (.slice Ao9 t273.length co9 : Value).ownBlock) s_.1 y287) ∧ (Kd.R k46 46 w' w.heap.size (fun k_ => some k_ ≠ (s_.1 : Value).ownBlock) (.slice Ao9 t273.length co9) t273) ∧ (w'.heap[gb276]? = some (.cells #[.slice Ao9 t273.length co9] 41 (0, 0))) ∧ (w'.heap[s_.2]? = some (.cells #[.slice none 0 0] 41 (0, 0))) ∧ (w.heap.size ≤ s_.2) ∧ (w.heap.size ≤ s_.2) ∧ (gb276 ≠ s_.2) ∧ (s_.2 ≠ gb276) ∧ (Below w.heap.size w w')) ?_ ?_
                       rotate_left
                       ·
                        intro hJ9_12
                        refine join_ (σ := Value) 6 #[true, true, true, false, true, true, true, true, true, false, false, false, false, false] (fun s_ => [(45, s_)]) (fun s_ w' => (w'.cell? ⟨gb276, 0, none⟩ = some (.slice Ao9 t273.length co9)) ∧ (Kd.R k46 46 w' w.heap.size (fun k_ => some k_ ≠ (.slice Ao9 t273.length co9 : Value).ownBlock) s_ y281) ∧ (Kd.R k46 46 w' w.heap.size (fun k_ => some k_ ≠ (s_ : Value).ownBlock) (.slice Ao9 t273.length co9) t273) ∧ (w'.heap[gb276]? = some (.cells #[.slice Ao9 t273.length co9] 41 (0, 0))) ∧ (Below w.heap.size w w')) ?_ ?_
                        rotate_left
                        ·
                         intro hJ0
                         refine join_ (σ := Value) 6 #[false, true, true, false, true, true, true, true, true, true, false, false, false, false] (fun s_ => [(54, s_)]) (fun s_ w' => (w'.cell? ⟨gb276, 0, none⟩ = some (.slice Ao9 t273.length co9)) ∧ (Kd.R k46 46 w' w.heap.size (fun k_ => some k_ ≠ (.slice Ao9 t273.length co9 : Value).ownBlock) s_ y287) ∧ (Kd.R k46 46 w' w.heap.size (fun k_ => some k_ ≠ (s_ : Value).ownBlock) (.slice Ao9 t273.length co9) t273) ∧ (w'.heap[gb276]? = some (.cells #[.slice Ao9 t273.length co9] 41 (0, 0))) ∧ (Below w.heap.size w w')) ?_ ?_
                         rotate_left
                         ·
                          intro hJ9
                          refine join_ (σ := Nat) 6 #[false, true, true, false, true, true, true, true, true, false, false, false, true, false] (fun s_ => [(8, .pointer (some ⟨s_, 0, none⟩))]) (fun s_ w' => (w'.cell? ⟨gb276, 0, none⟩ = some (.slice Ao9 t273.length co9)) ∧ (Kd.R k46 46 w' w.heap.size (fun _ => True) (.slice Ao9 t273.length co9) t273) ∧ (w'.heap[gb276]? = some (.cells #[.slice Ao9 t273.length co9] 41 (0, 0))) ∧ (w'.heap[s_]? = some (.cells #[.slice none 0 0] 41 (0, 0))) ∧ (w.heap.size ≤ s_) ∧ (w.heap.size ≤ s_) ∧ (gb276 ≠ s_) ∧ (s_ ≠ gb276) ∧ (Below w.heap.size w w')) ?_ ?_
                          rotate_left
                          ·
                           intro hJ12
                           refine three_ (i := 0) (j := 9) (k := 12) (Ni := some 45) (Nj := some 54) (Nk := some 8) #[true, true, true, false, true, true, true, true, true, false, false, false, false, false] #[false, true, true, false, true, true, true, true, true, true, false, false, false, false] #[false, true, true, false, true, true, true, true, true, false, false, false, true, false] rfl rfl rfl rfl rfl rfl (three_of HT_.out (by kernel_rfl)) (by decide) (by decide) (by decide) (fun K hK => ?_) (fun K hK => ?_) (fun K hK => ?_)
                           ·
                            skip
                            refine Kd.R_lit_step k46 _ 46 ?hg (N := 45) ?hd (xs := ([] : List (S46))) (inner := []) (ok := fun _ => True) (okp := fun _ => True) ?hr ?hp (fun _ hk => hk) trivial (Below.refl _ _) (Nat.le_refl _) (by simp) ?_; (case hd => rfl); (case hg => rfl); (case hr => first | (go_simp; done) | (go_simp; rfl)); (case hp => exact (Reps.none _ _))
                            intro v282 w31 ho32 hb hg_ hnew_
                            clear hg_ hnew_
                            (first | rw [← Ny281.out] at ho32 | (simp only [Int.reduceToNat] at ho32; rw [← Ny281.out] at ho32))
                            have HO283 := lwR (nwR ho32 HO_277000) HB
                            replace HO_277000 := eldR HO_277000 (Kd.R_base ho32) hb
                            replace BK276 := bkb BK276 hb
                            replace HB := bst HB hb
                            clear hb ho32
                            refine hK.out _ _ ((blk_cell BK276.out 0).trans rfl) (fun hHeld => ?_)
                            clear hK K
                            refine norm_ (a' := ?_) ?_ ?_
                            rotate_left
                            ·
                             show Act.put _ (some 45) _ = _
                             simp only [Act.put, List.setIfInBounds_toArray, List.set_cons_zero, List.set_cons_succ, i64_w, i32_w]
                             rfl
                            exact norm_ (by first | (simp only [putAll, Act.put, List.setIfInBounds_toArray, List.set_cons_zero, List.set_cons_succ]; done) | (simp only [putAll, Act.put, List.setIfInBounds_toArray, List.set_cons_zero, List.set_cons_succ]; rfl)) (hJ0 (v282) _ ⟨hHeld, (crM HO283 fun _ hk => hk.2), (crM HO_277000 fun _ hk => hk.2), (crb BK276), (blw HB)⟩)
                           ·
                            skip
                            refine Kd.R_lit_step k46 _ 46 ?hg (N := 54) ?hd (xs := ([(⟨7, wrap64 ((t273.length : Int) - 1), 0, 0⟩ : S46)] : List (S46))) (inner := [.int .i64 7, .int .i64 (wrap64 ((t273.length : Int) - 1)), .int .i64 0, .int .i64 0]) (ok := fun _ => True) (okp := fun _ => True) ?hr ?hp (fun _ hk => hk) trivial (Below.refl _ _) (Nat.le_refl _) (by simp) ?_; (case hd => rfl); (case hg => rfl); (case hr => first | (go_simp; done) | (go_simp; rfl)); (case hp => exact (Reps.c4 (show Kd.M k46 _ _ _ (⟨7, wrap64 ((t273.length : Int) - 1), 0, 0⟩ : S46) [.int .i64 7, .int .i64 (wrap64 ((t273.length : Int) - 1)), .int .i64 0, .int .i64 0] from (k46_mkM _ _ _ (⟨7, wrap64 ((t273.length : Int) - 1), 0, 0⟩ : S46) )) (Reps.none _ _)))
                            intro v288 w31 ho32 hb hg_ hnew_
                            clear hg_ hnew_
                            (first | rw [← Ny287.out] at ho32 | (simp only [Int.reduceToNat] at ho32; rw [← Ny287.out] at ho32))
                            have HO289 := lwR (nwR ho32 HO_277000) HB
                            replace HO_277000 := eldR HO_277000 (Kd.R_base ho32) hb
                            replace BK276 := bkb BK276 hb
                            replace HB := bst HB hb
                            clear hb ho32
                            refine hK.out _ _ ((blk_cell BK276.out 0).trans rfl) (fun hHeld => ?_)
                            clear hK K
                            refine norm_ (a' := ?_) ?_ ?_
                            rotate_left
                            ·
                             show Act.put _ (some 54) _ = _
                             simp only [Act.put, List.setIfInBounds_toArray, List.set_cons_zero, List.set_cons_succ, i64_w, i32_w]
                             rfl
                            exact norm_ (by first | (simp only [putAll, Act.put, List.setIfInBounds_toArray, List.set_cons_zero, List.set_cons_succ]; done) | (simp only [putAll, Act.put, List.setIfInBounds_toArray, List.set_cons_zero, List.set_cons_succ]; rfl)) (hJ9 (v288) _ ⟨hHeld, (crM HO289 fun _ hk => hk.2), (crM HO_277000 fun _ hk => hk.2), (crb BK276), (blw HB)⟩)
                           ·
                            skip
                            refine box_step ?hg (N := 8) ?hd (cs := #[.slice none 0 0]) (t := 41) ?hr ?_; (case hd => rfl); (case hg => rfl); (case hr => first | (go_simp; done) | (go_simp; rfl))
                            intro gb293 hg w31 hbox hb
                            replace HO_277000 := rblR HO_277000 hb
                            have BK293 := Aside0.mk (hbox)
                            have GW293 := geh hg HB
                            have GE293 := geh hg HB
                            replace HB := bst HB hb
                            have NB276_293 := nlt hg BK276
                            have NB293_276 := ngt hg BK276
                            replace BK276 := bkb BK276 hb
                            clear hb hbox hg
                            refine hK.out _ _ ((blk_cell BK276.out 0).trans rfl) (fun hHeld => ?_)
                            clear hK K
                            refine norm_ (a' := ?_) ?_ ?_
                            rotate_left
                            ·
                             show Act.put _ (some 8) _ = _
                             simp only [Act.put, List.setIfInBounds_toArray, List.set_cons_zero, List.set_cons_succ, i64_w, i32_w]
                             rfl
                            exact norm_ (by first | (simp only [putAll, Act.put, List.setIfInBounds_toArray, List.set_cons_zero, List.set_cons_succ]; done) | (simp only [putAll, Act.put, List.setIfInBounds_toArray, List.set_cons_zero, List.set_cons_succ]; rfl)) (hJ12 (gb293) _ ⟨hHeld, (crR HO_277000), (crb BK276), (crb BK293), GW293.out, GE293.out, NB276_293.out, NB293_276.out, (blw HB)⟩)
                          ·
                           skip
                           rintro gb293 w32 ⟨hS_, h0_, h1_, h2_, h3_, h4_, h5_, h6_, h7_⟩
                           replace HO_277000 : Aside0 (Kd.R k46 46 w32 w.heap.size (fun _ => True) (.slice Ao9 t273.length co9) t273) := ⟨h0_⟩
                           replace BK276 : Aside0 (w32.heap[gb276]? = some (.cells #[.slice Ao9 t273.length co9] 41 (0, 0))) := ⟨h1_⟩
                           have BK293 : Aside0 (w32.heap[gb293]? = some (.cells #[.slice none 0 0] 41 (0, 0))) := ⟨h2_⟩
                           have GW293 : Aside0 (w.heap.size ≤ gb293) := ⟨h3_⟩
                           have GE293 : Aside0 (w.heap.size ≤ gb293) := ⟨h4_⟩
                           have NB276_293 : Aside0 (gb276 ≠ gb293) := ⟨h5_⟩
                           have NB293_276 : Aside0 (gb293 ≠ gb276) := ⟨h6_⟩
                           replace HB : Aside0 (Below w.heap.size w w32) := ⟨h7_⟩
                           clear h0_ h1_ h2_ h3_ h4_ h5_ h6_ h7_
                           have hHeld : w32.cell? ⟨gb276, 0, none⟩ = some (.slice Ao9 t273.length co9) := hS_
                           refine norm_ (a' := ?_) ?_ ?_
                           rotate_left
                           ·
                            simp only [putAll, Act.put, List.setIfInBounds_toArray, List.set_cons_zero, List.set_cons_succ]
                            rfl
                           refine two_ (i := 0) (j := 9) (Ni := some 45) (Nj := some 54) #[true, true, true, false, true, true, true, true, true, false, false, false, true, false] #[false, true, true, false, true, true, true, true, true, true, false, false, true, false] rfl rfl rfl rfl (two_of HT_.out (by kernel_rfl)) (by decide) (by decide) (fun K hK => ?_) (fun K hK => ?_)
                           ·
                            skip
                            refine Kd.R_lit_step k46 _ 46 ?hg (N := 45) ?hd (xs := ([] : List (S46))) (inner := []) (ok := fun _ => True) (okp := fun _ => True) ?hr ?hp (fun _ hk => hk) trivial (Below.refl _ _) (Nat.le_refl _) (by simp) ?_; (case hd => rfl); (case hg => rfl); (case hr => first | (go_simp; done) | (go_simp; rfl)); (case hp => exact (Reps.none _ _))
                            intro v282 w33 ho34 hb hg_ hnew_
                            clear hg_ hnew_
                            (first | rw [← Ny281.out] at ho34 | (simp only [Int.reduceToNat] at ho34; rw [← Ny281.out] at ho34))
                            have HO283 := lwR (nwR ho34 HO_277000) HB
                            replace HO_277000 := eldR HO_277000 (Kd.R_base ho34) hb
                            replace BK276 := bkb BK276 hb
                            replace BK293 := bkb BK293 hb
                            replace HB := bst HB hb
                            clear hb ho34
                            refine hK.out _ _ ((blk_cell BK276.out 0).trans rfl) (fun hHeld => ?_)
                            clear hK K
                            refine norm_ (a' := ?_) ?_ ?_
                            rotate_left
                            ·
                             show Act.put _ (some 45) _ = _
                             simp only [Act.put, List.setIfInBounds_toArray, List.set_cons_zero, List.set_cons_succ, i64_w, i32_w]
                             rfl
                            exact norm_ (by first | (simp only [putAll, Act.put, List.setIfInBounds_toArray, List.set_cons_zero, List.set_cons_succ]; done) | (simp only [putAll, Act.put, List.setIfInBounds_toArray, List.set_cons_zero, List.set_cons_succ]; rfl)) (hJ0_12 (v282, gb293) _ ⟨hHeld, (crM HO283 fun _ hk => hk.2), (crM HO_277000 fun _ hk => hk.2), (crb BK276), (crb BK293), GW293.out, GE293.out, NB276_293.out, NB293_276.out, (blw HB)⟩)
                           ·
                            skip
                            refine Kd.R_lit_step k46 _ 46 ?hg (N := 54) ?hd (xs := ([(⟨7, wrap64 ((t273.length : Int) - 1), 0, 0⟩ : S46)] : List (S46))) (inner := [.int .i64 7, .int .i64 (wrap64 ((t273.length : Int) - 1)), .int .i64 0, .int .i64 0]) (ok := fun _ => True) (okp := fun _ => True) ?hr ?hp (fun _ hk => hk) trivial (Below.refl _ _) (Nat.le_refl _) (by simp) ?_; (case hd => rfl); (case hg => rfl); (case hr => first | (go_simp; done) | (go_simp; rfl)); (case hp => exact (Reps.c4 (show Kd.M k46 _ _ _ (⟨7, wrap64 ((t273.length : Int) - 1), 0, 0⟩ : S46) [.int .i64 7, .int .i64 (wrap64 ((t273.length : Int) - 1)), .int .i64 0, .int .i64 0] from (k46_mkM _ _ _ (⟨7, wrap64 ((t273.length : Int) - 1), 0, 0⟩ : S46) )) (Reps.none _ _)))
                            intro v288 w33 ho34 hb hg_ hnew_
                            clear hg_ hnew_
                            (first | rw [← Ny287.out] at ho34 | (simp only [Int.reduceToNat] at ho34; rw [← Ny287.out] at ho34))
                            have HO289 := lwR (nwR ho34 HO_277000) HB
                            replace HO_277000 := eldR HO_277000 (Kd.R_base ho34) hb
                            replace BK276 := bkb BK276 hb
                            replace BK293 := bkb BK293 hb
                            replace HB := bst HB hb
                            clear hb ho34
                            refine hK.out _ _ ((blk_cell BK276.out 0).trans rfl) (fun hHeld => ?_)
                            clear hK K
                            refine norm_ (a' := ?_) ?_ ?_
                            rotate_left
                            ·
                             show Act.put _ (some 54) _ = _
                             simp only [Act.put, List.setIfInBounds_toArray, List.set_cons_zero, List.set_cons_succ, i64_w, i32_w]
                             rfl
                            exact norm_ (by first | (simp only [putAll, Act.put, List.setIfInBounds_toArray, List.set_cons_zero, List.set_cons_succ]; done) | (simp only [putAll, Act.put, List.setIfInBounds_toArray, List.set_cons_zero, List.set_cons_succ]; rfl)) (hJ9_12 (v288, gb293) _ ⟨hHeld, (crM HO289 fun _ hk => hk.2), (crM HO_277000 fun _ hk => hk.2), (crb BK276), (crb BK293), GW293.out, GE293.out, NB276_293.out, NB293_276.out, (blw HB)⟩)
                         ·
                          skip
                          rintro v288 w33 ⟨hS_, h0_, h1_, h2_, h3_⟩
                          have HO289 : Aside0 (Kd.R k46 46 w33 w.heap.size (fun k_ => some k_ ≠ (.slice Ao9 t273.length co9 : Value).ownBlock) v288 y287) := ⟨h0_⟩
                          replace HO_277000 : Aside0 (Kd.R k46 46 w33 w.heap.size (fun k_ => some k_ ≠ (v288 : Value).ownBlock) (.slice Ao9 t273.length co9) t273) := ⟨h1_⟩
                          replace BK276 : Aside0 (w33.heap[gb276]? = some (.cells #[.slice Ao9 t273.length co9] 41 (0, 0))) := ⟨h2_⟩
                          replace HB : Aside0 (Below w.heap.size w w33) := ⟨h3_⟩
                          clear h0_ h1_ h2_ h3_
                          have hHeld : w33.cell? ⟨gb276, 0, none⟩ = some (.slice Ao9 t273.length co9) := hS_
                          refine norm_ (a' := ?_) ?_ ?_
                          rotate_left
                          ·
                           simp only [putAll, Act.put, List.setIfInBounds_toArray, List.set_cons_zero, List.set_cons_succ]
                           rfl
                          refine two_ (i := 0) (j := 12) (Ni := some 45) (Nj := some 8) #[true, true, true, false, true, true, true, true, true, true, false, false, false, false] #[false, true, true, false, true, true, true, true, true, true, false, false, true, false] rfl rfl rfl rfl (two_of HT_.out (by kernel_rfl)) (by decide) (by decide) (fun K hK => ?_) (fun K hK => ?_)
                          ·
                           skip
                           refine Kd.R_lit_step k46 _ 46 ?hg (N := 45) ?hd (xs := ([] : List (S46))) (inner := []) (ok := fun _ => True) (okp := fun _ => True) ?hr ?hp (fun _ hk => hk) trivial (Below.refl _ _) (Nat.le_refl _) (by simp) ?_; (case hd => rfl); (case hg => rfl); (case hr => first | (go_simp; done) | (go_simp; rfl)); (case hp => exact (Reps.none _ _))
                           intro v282 w34 ho35 hb hg_ hnew_
                           clear hg_ hnew_
                           (first | rw [← Ny281.out] at ho35 | (simp only [Int.reduceToNat] at ho35; rw [← Ny281.out] at ho35))
                           have HO283 := lwR (nwR (nwR ho35 HO_277000) HO289) HB
                           replace HO_277000 := eldR HO_277000 (Kd.R_base ho35) hb
                           replace HO289 := eldR HO289 (Kd.R_base ho35) hb
                           replace BK276 := bkb BK276 hb
                           replace HB := bst HB hb
                           clear hb ho35
                           refine hK.out _ _ ((blk_cell BK276.out 0).trans rfl) (fun hHeld => ?_)
                           clear hK K
                           refine norm_ (a' := ?_) ?_ ?_
                           rotate_left
                           ·
                            show Act.put _ (some 45) _ = _
                            simp only [Act.put, List.setIfInBounds_toArray, List.set_cons_zero, List.set_cons_succ, i64_w, i32_w]
                            rfl
                           exact norm_ (by first | (simp only [putAll, Act.put, List.setIfInBounds_toArray, List.set_cons_zero, List.set_cons_succ]; done) | (simp only [putAll, Act.put, List.setIfInBounds_toArray, List.set_cons_zero, List.set_cons_succ]; rfl)) (hJ0_9 (v282, v288) _ ⟨hHeld, (crM HO283 fun _ hk => ⟨hk.2, hk.1.2⟩), (crM HO289 fun _ hk => ⟨hk.2, hk.1⟩), (crM HO_277000 fun _ hk => ⟨hk.2, hk.1⟩), (crb BK276), (blw HB)⟩)
                          ·
                           skip
                           refine box_step ?hg (N := 8) ?hd (cs := #[.slice none 0 0]) (t := 41) ?hr ?_; (case hd => rfl); (case hg => rfl); (case hr => first | (go_simp; done) | (go_simp; rfl))
                           intro gb293 hg w34 hbox hb
                           replace HO_277000 := rblR HO_277000 hb
                           replace HO289 := rblR HO289 hb
                           have BK293 := Aside0.mk (hbox)
                           have GW293 := geh hg HB
                           have GE293 := geh hg HB
                           replace HB := bst HB hb
                           have NB276_293 := nlt hg BK276
                           have NB293_276 := ngt hg BK276
                           replace BK276 := bkb BK276 hb
                           clear hb hbox hg
                           refine hK.out _ _ ((blk_cell BK276.out 0).trans rfl) (fun hHeld => ?_)
                           clear hK K
                           refine norm_ (a' := ?_) ?_ ?_
                           rotate_left
                           ·
                            show Act.put _ (some 8) _ = _
                            simp only [Act.put, List.setIfInBounds_toArray, List.set_cons_zero, List.set_cons_succ, i64_w, i32_w]
                            rfl
                           exact norm_ (by first | (simp only [putAll, Act.put, List.setIfInBounds_toArray, List.set_cons_zero, List.set_cons_succ]; done) | (simp only [putAll, Act.put, List.setIfInBounds_toArray, List.set_cons_zero, List.set_cons_succ]; rfl)) (hJ9_12 (v288, gb293) _ ⟨hHeld, (crR HO289), (crR HO_277000), (crb BK276), (crb BK293), GW293.out, GE293.out, NB276_293.out, NB293_276.out, (blw HB)⟩)
                        ·
                         skip
                         rintro v282 w33 ⟨hS_, h0_, h1_, h2_, h3_⟩
                         have HO283 : Aside0 (Kd.R k46 46 w33 w.heap.size (fun k_ => some k_ ≠ (.slice Ao9 t273.length co9 : Value).ownBlock) v282 y281) := ⟨h0_⟩
                         replace HO_277000 : Aside0 (Kd.R k46 46 w33 w.heap.size (fun k_ => some k_ ≠ (v282 : Value).ownBlock) (.slice Ao9 t273.length co9) t273) := ⟨h1_⟩
                         replace BK276 : Aside0 (w33.heap[gb276]? = some (.cells #[.slice Ao9 t273.length co9] 41 (0, 0))) := ⟨h2_⟩
                         replace HB : Aside0 (Below w.heap.size w w33) := ⟨h3_⟩
                         clear h0_ h1_ h2_ h3_
                         have hHeld : w33.cell? ⟨gb276, 0, none⟩ = some (.slice Ao9 t273.length co9) := hS_
                         refine norm_ (a' := ?_) ?_ ?_
                         rotate_left
                         ·
                          simp only [putAll, Act.put, List.setIfInBounds_toArray, List.set_cons_zero, List.set_cons_succ]
                          rfl
                         refine three_ (i := 3) (j := 9) (k := 12) (Ni := some 48) (Nj := some 54) (Nk := some 8) #[true, true, true, true, true, true, true, true, true, false, false, false, false, false] #[true, true, true, false, true, true, true, true, true, true, false, false, false, false] #[true, true, true, false, true, true, true, true, true, false, false, false, true, false] rfl rfl rfl rfl rfl rfl (three_of HT_.out (by kernel_rfl)) (by decide) (by decide) (by decide) (fun K hK => ?_) (fun K hK => ?_) (fun K hK => ?_)
                         ·
                          skip
                          refine Kd.R_append_rows_step k46 (w0 := w) w.heap.size (by rfl) (.tmp 45) (.tmp 47) 27 46 (.agg #[(.int .i64 0), (.int .i64 0), (.int .i64 0), (.int .i64 0)]) 32 rfl Try.underlying27 info46 rfl (by decide) (by omega) v282 y281 t273 _ _ _ (fun k_ => some k_ ≠ (.slice Ao9 t273.length co9 : Value).ownBlock) (fun _ => False) rfl rfl ?aO ?aR (fun _ _ h => h) (fun _ h => h.elim) ?aF ?aB ?aS ?aL ?_
                          (case aR => exact crC (Kd.R_reads' HO_277000.out).2.2)
                          (case aB => exact (blw HB))
                          (case aF => exact (fun k_ hk => Kd.fresh' (Kd.R_lt (crR HO_277000)) k_ hk))
                          (case aO => exact (crR HO283))
                          (case aS => exact (bsz HB))
                          (case aL => have := LMc18.out; omega)
                          intro v285 w34 ho hb hg hat
                          rw [← Ny284.out] at ho
                          replace HO_277000 := Aside0.mk (Kd.R_after (ok := (fun _ => True)) (crM HO_277000 fun _ hk => ⟨trivial, hk⟩) hg hat)
                          replace BK276 := Aside0.mk (blk_grown (g := gb276) (o := .cells #[.slice Ao9 t273.length co9] 41 (0, 0)) (crb BK276) hg (Kd.R_ne HO283.out BK276.out (by decide)))
                          replace HB := Aside0.mk (hb)
                          have HO286 := Aside0.mk (ho)
                          clear HO283
                          clear ho hb hg hat
                          refine hK.out _ _ ((blk_cell BK276.out 0).trans rfl) (fun hHeld => ?_)
                          clear hK K
                          refine norm_ (a' := ?_) ?_ ?_
                          rotate_left
                          ·
                           show Act.put _ (some 48) _ = _
                           simp only [Act.put, List.setIfInBounds_toArray, List.set_cons_zero, List.set_cons_succ, i64_w, i32_w]
                           rfl
                          exact norm_ (by first | (simp only [putAll, Act.put, List.setIfInBounds_toArray, List.set_cons_zero, List.set_cons_succ]; done) | (simp only [putAll, Act.put, List.setIfInBounds_toArray, List.set_cons_zero, List.set_cons_succ]; rfl)) (hJ0_3 (v282, v285) _ ⟨hHeld, (crR HO286), (crM HO_277000 fun _ hk => hk.2), (crb BK276), (blw HB)⟩)
                         ·
                          skip
                          refine Kd.R_lit_step k46 _ 46 ?hg (N := 54) ?hd (xs := ([(⟨7, wrap64 ((t273.length : Int) - 1), 0, 0⟩ : S46)] : List (S46))) (inner := [.int .i64 7, .int .i64 (wrap64 ((t273.length : Int) - 1)), .int .i64 0, .int .i64 0]) (ok := fun _ => True) (okp := fun _ => True) ?hr ?hp (fun _ hk => hk) trivial (Below.refl _ _) (Nat.le_refl _) (by simp) ?_; (case hd => rfl); (case hg => rfl); (case hr => first | (go_simp; done) | (go_simp; rfl)); (case hp => exact (Reps.c4 (show Kd.M k46 _ _ _ (⟨7, wrap64 ((t273.length : Int) - 1), 0, 0⟩ : S46) [.int .i64 7, .int .i64 (wrap64 ((t273.length : Int) - 1)), .int .i64 0, .int .i64 0] from (k46_mkM _ _ _ (⟨7, wrap64 ((t273.length : Int) - 1), 0, 0⟩ : S46) )) (Reps.none _ _)))
                          intro v288 w34 ho35 hb hg_ hnew_
                          clear hg_ hnew_
                          (first | rw [← Ny287.out] at ho35 | (simp only [Int.reduceToNat] at ho35; rw [← Ny287.out] at ho35))
                          have HO289 := lwR (nwR (nwR ho35 HO_277000) HO283) HB
                          replace HO_277000 := eldR HO_277000 (Kd.R_base ho35) hb
                          replace HO283 := eldR HO283 (Kd.R_base ho35) hb
                          replace BK276 := bkb BK276 hb
                          replace HB := bst HB hb
                          clear hb ho35
                          refine hK.out _ _ ((blk_cell BK276.out 0).trans rfl) (fun hHeld => ?_)
                          clear hK K
                          refine norm_ (a' := ?_) ?_ ?_
                          rotate_left
                          ·
                           show Act.put _ (some 54) _ = _
                           simp only [Act.put, List.setIfInBounds_toArray, List.set_cons_zero, List.set_cons_succ, i64_w, i32_w]
                           rfl
                          exact norm_ (by first | (simp only [putAll, Act.put, List.setIfInBounds_toArray, List.set_cons_zero, List.set_cons_succ]; done) | (simp only [putAll, Act.put, List.setIfInBounds_toArray, List.set_cons_zero, List.set_cons_succ]; rfl)) (hJ0_9 (v282, v288) _ ⟨hHeld, (crM HO283 fun _ hk => ⟨hk.2, hk.1⟩), (crM HO289 fun _ hk => ⟨hk.2, hk.1.2⟩), (crR HO_277000), (crb BK276), (blw HB)⟩)
                         ·
                          skip
                          refine box_step ?hg (N := 8) ?hd (cs := #[.slice none 0 0]) (t := 41) ?hr ?_; (case hd => rfl); (case hg => rfl); (case hr => first | (go_simp; done) | (go_simp; rfl))
                          intro gb293 hg w34 hbox hb
                          replace HO_277000 := rblR HO_277000 hb
                          replace HO283 := rblR HO283 hb
                          have BK293 := Aside0.mk (hbox)
                          have GW293 := geh hg HB
                          have GE293 := geh hg HB
                          replace HB := bst HB hb
                          have NB276_293 := nlt hg BK276
                          have NB293_276 := ngt hg BK276
                          replace BK276 := bkb BK276 hb
                          clear hb hbox hg
                          refine hK.out _ _ ((blk_cell BK276.out 0).trans rfl) (fun hHeld => ?_)
                          clear hK K
                          refine norm_ (a' := ?_) ?_ ?_
                          rotate_left
                          ·
                           show Act.put _ (some 8) _ = _
                           simp only [Act.put, List.setIfInBounds_toArray, List.set_cons_zero, List.set_cons_succ, i64_w, i32_w]
                           rfl
                          exact norm_ (by first | (simp only [putAll, Act.put, List.setIfInBounds_toArray, List.set_cons_zero, List.set_cons_succ]; done) | (simp only [putAll, Act.put, List.setIfInBounds_toArray, List.set_cons_zero, List.set_cons_succ]; rfl)) (hJ0_12 (v282, gb293) _ ⟨hHeld, (crR HO283), (crR HO_277000), (crb BK276), (crb BK293), GW293.out, GE293.out, NB276_293.out, NB293_276.out, (blw HB)⟩)
                       ·
                        skip
                        rintro ⟨v288, gb293⟩ w34 ⟨hS_, h0_, h1_, h2_, h3_, h4_, h5_, h6_, h7_, h8_⟩
                        have HO289 : Aside0 (Kd.R k46 46 w34 w.heap.size (fun k_ => some k_ ≠ (.slice Ao9 t273.length co9 : Value).ownBlock) v288 y287) := ⟨h0_⟩
                        replace HO_277000 : Aside0 (Kd.R k46 46 w34 w.heap.size (fun k_ => some k_ ≠ (v288 : Value).ownBlock) (.slice Ao9 t273.length co9) t273) := ⟨h1_⟩
                        replace BK276 : Aside0 (w34.heap[gb276]? = some (.cells #[.slice Ao9 t273.length co9] 41 (0, 0))) := ⟨h2_⟩
                        have BK293 : Aside0 (w34.heap[gb293]? = some (.cells #[.slice none 0 0] 41 (0, 0))) := ⟨h3_⟩
                        have GW293 : Aside0 (w.heap.size ≤ gb293) := ⟨h4_⟩
                        have GE293 : Aside0 (w.heap.size ≤ gb293) := ⟨h5_⟩
                        have NB276_293 : Aside0 (gb276 ≠ gb293) := ⟨h6_⟩
                        have NB293_276 : Aside0 (gb293 ≠ gb276) := ⟨h7_⟩
                        replace HB : Aside0 (Below w.heap.size w w34) := ⟨h8_⟩
                        clear h0_ h1_ h2_ h3_ h4_ h5_ h6_ h7_ h8_
                        have hHeld : w34.cell? ⟨gb276, 0, none⟩ = some (.slice Ao9 t273.length co9) := hS_
                        refine norm_ (a' := ?_) ?_ ?_
                        rotate_left
                        ·
                         simp only [putAll, Act.put, List.setIfInBounds_toArray, List.set_cons_zero, List.set_cons_succ]
                         rfl
                        refine one_ (i := 0) (N := some 45) #[true, true, true, false, true, true, true, true, true, true, false, false, true, false] rfl rfl (one_of HT_.out (by kernel_rfl)) (by decide) (fun K hK => ?_)
                        refine Kd.R_lit_step k46 _ 46 ?hg (N := 45) ?hd (xs := ([] : List (S46))) (inner := []) (ok := fun _ => True) (okp := fun _ => True) ?hr ?hp (fun _ hk => hk) trivial (Below.refl _ _) (Nat.le_refl _) (by simp) ?_; (case hd => rfl); (case hg => rfl); (case hr => first | (go_simp; done) | (go_simp; rfl)); (case hp => exact (Reps.none _ _))
                        intro v282 w35 ho36 hb hg_ hnew_
                        clear hg_ hnew_
                        (first | rw [← Ny281.out] at ho36 | (simp only [Int.reduceToNat] at ho36; rw [← Ny281.out] at ho36))
                        have HO283 := lwR (nwR (nwR ho36 HO_277000) HO289) HB
                        replace HO_277000 := eldR HO_277000 (Kd.R_base ho36) hb
                        replace HO289 := eldR HO289 (Kd.R_base ho36) hb
                        replace BK276 := bkb BK276 hb
                        replace BK293 := bkb BK293 hb
                        replace HB := bst HB hb
                        clear hb ho36
                        refine hK.out _ _ ((blk_cell BK276.out 0).trans rfl) (fun hHeld => ?_)
                        clear hK K
                        refine norm_ (a' := ?_) ?_ ?_
                        rotate_left
                        ·
                         show Act.put _ (some 45) _ = _
                         simp only [Act.put, List.setIfInBounds_toArray, List.set_cons_zero, List.set_cons_succ, i64_w, i32_w]
                         rfl
                        exact norm_ (by first | (simp only [putAll, Act.put, List.setIfInBounds_toArray, List.set_cons_zero, List.set_cons_succ]; done) | (simp only [putAll, Act.put, List.setIfInBounds_toArray, List.set_cons_zero, List.set_cons_succ]; rfl)) (hJ0_9_12 (v282, v288, gb293) _ ⟨hHeld, (crM HO283 fun _ hk => ⟨hk.2, hk.1.2⟩), (crM HO289 fun _ hk => ⟨hk.2, hk.1⟩), (crM HO_277000 fun _ hk => ⟨hk.2, hk.1⟩), (crb BK276), (crb BK293), GW293.out, GE293.out, NB276_293.out, NB293_276.out, (blw HB)⟩)
                      ·
                       skip
                       rintro ⟨v282, gb293⟩ w34 ⟨hS_, h0_, h1_, h2_, h3_, h4_, h5_, h6_, h7_, h8_⟩
                       have HO283 : Aside0 (Kd.R k46 46 w34 w.heap.size (fun k_ => some k_ ≠ (.slice Ao9 t273.length co9 : Value).ownBlock) v282 y281) := ⟨h0_⟩
                       replace HO_277000 : Aside0 (Kd.R k46 46 w34 w.heap.size (fun k_ => some k_ ≠ (v282 : Value).ownBlock) (.slice Ao9 t273.length co9) t273) := ⟨h1_⟩
                       replace BK276 : Aside0 (w34.heap[gb276]? = some (.cells #[.slice Ao9 t273.length co9] 41 (0, 0))) := ⟨h2_⟩
                       have BK293 : Aside0 (w34.heap[gb293]? = some (.cells #[.slice none 0 0] 41 (0, 0))) := ⟨h3_⟩
                       have GW293 : Aside0 (w.heap.size ≤ gb293) := ⟨h4_⟩
                       have GE293 : Aside0 (w.heap.size ≤ gb293) := ⟨h5_⟩
                       have NB276_293 : Aside0 (gb276 ≠ gb293) := ⟨h6_⟩
                       have NB293_276 : Aside0 (gb293 ≠ gb276) := ⟨h7_⟩
                       replace HB : Aside0 (Below w.heap.size w w34) := ⟨h8_⟩
                       clear h0_ h1_ h2_ h3_ h4_ h5_ h6_ h7_ h8_
                       have hHeld : w34.cell? ⟨gb276, 0, none⟩ = some (.slice Ao9 t273.length co9) := hS_
                       refine norm_ (a' := ?_) ?_ ?_
                       rotate_left
                       ·
                        simp only [putAll, Act.put, List.setIfInBounds_toArray, List.set_cons_zero, List.set_cons_succ]
                        rfl
                       refine two_ (i := 3) (j := 9) (Ni := some 48) (Nj := some 54) #[true, true, true, true, true, true, true, true, true, false, false, false, true, false] #[true, true, true, false, true, true, true, true, true, true, false, false, true, false] rfl rfl rfl rfl (two_of HT_.out (by kernel_rfl)) (by decide) (by decide) (fun K hK => ?_) (fun K hK => ?_)
                       ·
                        skip
                        refine Kd.R_append_rows_step k46 (w0 := w) w.heap.size (by rfl) (.tmp 45) (.tmp 47) 27 46 (.agg #[(.int .i64 0), (.int .i64 0), (.int .i64 0), (.int .i64 0)]) 32 rfl Try.underlying27 info46 rfl (by decide) (by omega) v282 y281 t273 _ _ _ (fun k_ => some k_ ≠ (.slice Ao9 t273.length co9 : Value).ownBlock) (fun _ => False) rfl rfl ?aO ?aR (fun _ _ h => h) (fun _ h => h.elim) ?aF ?aB ?aS ?aL ?_
                        (case aR => exact crC (Kd.R_reads' HO_277000.out).2.2)
                        (case aB => exact (blw HB))
                        (case aF => exact (fun k_ hk => Kd.fresh' (Kd.R_lt (crR HO_277000)) k_ hk))
                        (case aO => exact (crR HO283))
                        (case aS => exact (bsz HB))
                        (case aL => have := LMc18.out; omega)
                        intro v285 w35 ho hb hg hat
                        rw [← Ny284.out] at ho
                        replace HO_277000 := Aside0.mk (Kd.R_after (ok := (fun _ => True)) (crM HO_277000 fun _ hk => ⟨trivial, hk⟩) hg hat)
                        replace BK276 := Aside0.mk (blk_grown (g := gb276) (o := .cells #[.slice Ao9 t273.length co9] 41 (0, 0)) (crb BK276) hg (Kd.R_ne HO283.out BK276.out (by decide)))
                        replace BK293 := Aside0.mk (blk_grown (g := gb293) (o := .cells #[.slice none 0 0] 41 (0, 0)) (crb BK293) hg (Kd.R_ne HO283.out BK293.out (by decide)))
                        replace HB := Aside0.mk (hb)
                        have HO286 := Aside0.mk (ho)
                        clear HO283
                        clear ho hb hg hat
                        refine hK.out _ _ ((blk_cell BK276.out 0).trans rfl) (fun hHeld => ?_)
                        clear hK K
                        refine norm_ (a' := ?_) ?_ ?_
                        rotate_left
                        ·
                         show Act.put _ (some 48) _ = _
                         simp only [Act.put, List.setIfInBounds_toArray, List.set_cons_zero, List.set_cons_succ, i64_w, i32_w]
                         rfl
                        exact norm_ (by first | (simp only [putAll, Act.put, List.setIfInBounds_toArray, List.set_cons_zero, List.set_cons_succ]; done) | (simp only [putAll, Act.put, List.setIfInBounds_toArray, List.set_cons_zero, List.set_cons_succ]; rfl)) (hJ0_3_12 (v282, v285, gb293) _ ⟨hHeld, (crR HO286), (crM HO_277000 fun _ hk => hk.2), (crb BK276), (crb BK293), GW293.out, GE293.out, NB276_293.out, NB293_276.out, (blw HB)⟩)
                       ·
                        skip
                        refine Kd.R_lit_step k46 _ 46 ?hg (N := 54) ?hd (xs := ([(⟨7, wrap64 ((t273.length : Int) - 1), 0, 0⟩ : S46)] : List (S46))) (inner := [.int .i64 7, .int .i64 (wrap64 ((t273.length : Int) - 1)), .int .i64 0, .int .i64 0]) (ok := fun _ => True) (okp := fun _ => True) ?hr ?hp (fun _ hk => hk) trivial (Below.refl _ _) (Nat.le_refl _) (by simp) ?_; (case hd => rfl); (case hg => rfl); (case hr => first | (go_simp; done) | (go_simp; rfl)); (case hp => exact (Reps.c4 (show Kd.M k46 _ _ _ (⟨7, wrap64 ((t273.length : Int) - 1), 0, 0⟩ : S46) [.int .i64 7, .int .i64 (wrap64 ((t273.length : Int) - 1)), .int .i64 0, .int .i64 0] from (k46_mkM _ _ _ (⟨7, wrap64 ((t273.length : Int) - 1), 0, 0⟩ : S46) )) (Reps.none _ _)))
                        intro v288 w35 ho36 hb hg_ hnew_
                        clear hg_ hnew_
                        (first | rw [← Ny287.out] at ho36 | (simp only [Int.reduceToNat] at ho36; rw [← Ny287.out] at ho36))
                        have HO289 := lwR (nwR (nwR ho36 HO_277000) HO283) HB
                        replace HO_277000 := eldR HO_277000 (Kd.R_base ho36) hb
                        replace HO283 := eldR HO283 (Kd.R_base ho36) hb
                        replace BK276 := bkb BK276 hb
                        replace BK293 := bkb BK293 hb
                        replace HB := bst HB hb
                        clear hb ho36
                        refine hK.out _ _ ((blk_cell BK276.out 0).trans rfl) (fun hHeld => ?_)
                        clear hK K
                        refine norm_ (a' := ?_) ?_ ?_
                        rotate_left
                        ·
                         show Act.put _ (some 54) _ = _
                         simp only [Act.put, List.setIfInBounds_toArray, List.set_cons_zero, List.set_cons_succ, i64_w, i32_w]
                         rfl
                        exact norm_ (by first | (simp only [putAll, Act.put, List.setIfInBounds_toArray, List.set_cons_zero, List.set_cons_succ]; done) | (simp only [putAll, Act.put, List.setIfInBounds_toArray, List.set_cons_zero, List.set_cons_succ]; rfl)) (hJ0_9_12 (v282, v288, gb293) _ ⟨hHeld, (crM HO283 fun _ hk => ⟨hk.2, hk.1⟩), (crM HO289 fun _ hk => ⟨hk.2, hk.1.2⟩), (crR HO_277000), (crb BK276), (crb BK293), GW293.out, GE293.out, NB276_293.out, NB293_276.out, (blw HB)⟩)
                     ·
                      skip
                      rintro ⟨v282, v288⟩ w35 ⟨hS_, h0_, h1_, h2_, h3_, h4_⟩
                      have HO283 : Aside0 (Kd.R k46 46 w35 w.heap.size (fun k_ => some k_ ≠ (v288 : Value).ownBlock ∧ some k_ ≠ (.slice Ao9 t273.length co9 : Value).ownBlock) v282 y281) := ⟨h0_⟩
                      have HO289 : Aside0 (Kd.R k46 46 w35 w.heap.size (fun k_ => some k_ ≠ (v282 : Value).ownBlock ∧ some k_ ≠ (.slice Ao9 t273.length co9 : Value).ownBlock) v288 y287) := ⟨h1_⟩
                      replace HO_277000 : Aside0 (Kd.R k46 46 w35 w.heap.size (fun k_ => some k_ ≠ (v282 : Value).ownBlock ∧ some k_ ≠ (v288 : Value).ownBlock) (.slice Ao9 t273.length co9) t273) := ⟨h2_⟩
                      replace BK276 : Aside0 (w35.heap[gb276]? = some (.cells #[.slice Ao9 t273.length co9] 41 (0, 0))) := ⟨h3_⟩
                      replace HB : Aside0 (Below w.heap.size w w35) := ⟨h4_⟩
                      clear h0_ h1_ h2_ h3_ h4_
                      have hHeld : w35.cell? ⟨gb276, 0, none⟩ = some (.slice Ao9 t273.length co9) := hS_
                      refine norm_ (a' := ?_) ?_ ?_
                      rotate_left
                      ·
                       simp only [putAll, Act.put, List.setIfInBounds_toArray, List.set_cons_zero, List.set_cons_succ]
                       rfl
                      refine two_ (i := 3) (j := 12) (Ni := some 48) (Nj := some 8) #[true, true, true, true, true, true, true, true, true, true, false, false, false, false] #[true, true, true, false, true, true, true, true, true, true, false, false, true, false] rfl rfl rfl rfl (two_of HT_.out (by kernel_rfl)) (by decide) (by decide) (fun K hK => ?_) (fun K hK => ?_)
                      ·
                       skip
                       refine Kd.R_append_rows_step k46 (w0 := w) w.heap.size (by rfl) (.tmp 45) (.tmp 47) 27 46 (.agg #[(.int .i64 0), (.int .i64 0), (.int .i64 0), (.int .i64 0)]) 32 rfl Try.underlying27 info46 rfl (by decide) (by omega) v282 y281 t273 _ _ _ (fun k_ => some k_ ≠ (.slice Ao9 t273.length co9 : Value).ownBlock ∧ some k_ ≠ (v288 : Value).ownBlock) (fun _ => False) rfl rfl ?aO ?aR (fun _ _ h => h) (fun _ h => h.elim) ?aF ?aB ?aS ?aL ?_
                       (case aR => exact crC (Kd.R_reads' HO_277000.out).2.2)
                       (case aB => exact (blw HB))
                       (case aF => exact (fun k_ hk => ⟨Kd.fresh' (Kd.R_lt (crR HO_277000)) k_ hk, Kd.fresh' (Kd.R_lt (crR HO289)) k_ hk⟩))
                       (case aO => exact (crM HO283 fun _ hk => ⟨hk.2, hk.1⟩))
                       (case aS => exact (bsz HB))
                       (case aL => have := LMc18.out; omega)
                       intro v285 w36 ho hb hg hat
                       rw [← Ny284.out] at ho
                       replace HO_277000 := Aside0.mk (Kd.R_after (ok := (fun k_ => some k_ ≠ (v288 : Value).ownBlock)) (crM HO_277000 fun _ hk => ⟨hk.2, hk.1⟩) hg hat)
                       replace BK276 := Aside0.mk (blk_grown (g := gb276) (o := .cells #[.slice Ao9 t273.length co9] 41 (0, 0)) (crb BK276) hg (Kd.R_ne HO283.out BK276.out (by decide)))
                       replace HO289 := Aside0.mk (Kd.R_after (ok := (fun k_ => some k_ ≠ (.slice Ao9 t273.length co9 : Value).ownBlock)) (crM HO289 fun _ hk => ⟨hk.2, hk.1⟩) hg hat)
                       replace HB := Aside0.mk (hb)
                       have HO286 := Aside0.mk (ho)
                       clear HO283
                       clear ho hb hg hat
                       refine hK.out _ _ ((blk_cell BK276.out 0).trans rfl) (fun hHeld => ?_)
                       clear hK K
                       refine norm_ (a' := ?_) ?_ ?_
                       rotate_left
                       ·
                        show Act.put _ (some 48) _ = _
                        simp only [Act.put, List.setIfInBounds_toArray, List.set_cons_zero, List.set_cons_succ, i64_w, i32_w]
                        rfl
                       exact norm_ (by first | (simp only [putAll, Act.put, List.setIfInBounds_toArray, List.set_cons_zero, List.set_cons_succ]; done) | (simp only [putAll, Act.put, List.setIfInBounds_toArray, List.set_cons_zero, List.set_cons_succ]; rfl)) (hJ0_3_9 (v282, v285, v288) _ ⟨hHeld, (crM HO286 fun _ hk => ⟨hk.2, hk.1⟩), (crM HO289 fun _ hk => ⟨hk.2, hk.1⟩), (crM HO_277000 fun _ hk => ⟨hk.2, hk.1⟩), (crb BK276), (blw HB)⟩)
                      ·
                       skip
                       refine box_step ?hg (N := 8) ?hd (cs := #[.slice none 0 0]) (t := 41) ?hr ?_; (case hd => rfl); (case hg => rfl); (case hr => first | (go_simp; done) | (go_simp; rfl))
                       intro gb293 hg w36 hbox hb
                       replace HO_277000 := rblR HO_277000 hb
                       replace HO283 := rblR HO283 hb
                       replace HO289 := rblR HO289 hb
                       have BK293 := Aside0.mk (hbox)
                       have GW293 := geh hg HB
                       have GE293 := geh hg HB
                       replace HB := bst HB hb
                       have NB276_293 := nlt hg BK276
                       have NB293_276 := ngt hg BK276
                       replace BK276 := bkb BK276 hb
                       clear hb hbox hg
                       refine hK.out _ _ ((blk_cell BK276.out 0).trans rfl) (fun hHeld => ?_)
                       clear hK K
                       refine norm_ (a' := ?_) ?_ ?_
                       rotate_left
                       ·
                        show Act.put _ (some 8) _ = _
                        simp only [Act.put, List.setIfInBounds_toArray, List.set_cons_zero, List.set_cons_succ, i64_w, i32_w]
                        rfl
                       exact norm_ (by first | (simp only [putAll, Act.put, List.setIfInBounds_toArray, List.set_cons_zero, List.set_cons_succ]; done) | (simp only [putAll, Act.put, List.setIfInBounds_toArray, List.set_cons_zero, List.set_cons_succ]; rfl)) (hJ0_9_12 (v282, v288, gb293) _ ⟨hHeld, (crR HO283), (crR HO289), (crR HO_277000), (crb BK276), (crb BK293), GW293.out, GE293.out, NB276_293.out, NB293_276.out, (blw HB)⟩)
                    ·
                     skip
                     rintro ⟨v282, v285⟩ w34 ⟨hS_, h0_, h1_, h2_, h3_⟩
                     have HO286 : Aside0 (Kd.R k46 46 w34 w.heap.size (fun k_ => some k_ ≠ (.slice Ao9 t273.length co9 : Value).ownBlock) v285 y284) := ⟨h0_⟩
                     replace HO_277000 : Aside0 (Kd.R k46 46 w34 w.heap.size (fun k_ => some k_ ≠ (v285 : Value).ownBlock) (.slice Ao9 t273.length co9) t273) := ⟨h1_⟩
                     replace BK276 : Aside0 (w34.heap[gb276]? = some (.cells #[.slice Ao9 t273.length co9] 41 (0, 0))) := ⟨h2_⟩
                     replace HB : Aside0 (Below w.heap.size w w34) := ⟨h3_⟩
                     clear h0_ h1_ h2_ h3_
                     have hHeld : w34.cell? ⟨gb276, 0, none⟩ = some (.slice Ao9 t273.length co9) := hS_
                     refine norm_ (a' := ?_) ?_ ?_
                     rotate_left
                     ·
                      simp only [putAll, Act.put, List.setIfInBounds_toArray, List.set_cons_zero, List.set_cons_succ]
                      rfl
                     refine two_ (i := 9) (j := 12) (Ni := some 54) (Nj := some 8) #[true, true, true, true, true, true, true, true, true, true, false, false, false, false] #[true, true, true, true, true, true, true, true, true, false, false, false, true, false] rfl rfl rfl rfl (two_of HT_.out (by kernel_rfl)) (by decide) (by decide) (fun K hK => ?_) (fun K hK => ?_)
                     ·
                      skip
                      refine Kd.R_lit_step k46 _ 46 ?hg (N := 54) ?hd (xs := ([(⟨7, wrap64 ((t273.length : Int) - 1), 0, 0⟩ : S46)] : List (S46))) (inner := [.int .i64 7, .int .i64 (wrap64 ((t273.length : Int) - 1)), .int .i64 0, .int .i64 0]) (ok := fun _ => True) (okp := fun _ => True) ?hr ?hp (fun _ hk => hk) trivial (Below.refl _ _) (Nat.le_refl _) (by simp) ?_; (case hd => rfl); (case hg => rfl); (case hr => first | (go_simp; done) | (go_simp; rfl)); (case hp => exact (Reps.c4 (show Kd.M k46 _ _ _ (⟨7, wrap64 ((t273.length : Int) - 1), 0, 0⟩ : S46) [.int .i64 7, .int .i64 (wrap64 ((t273.length : Int) - 1)), .int .i64 0, .int .i64 0] from (k46_mkM _ _ _ (⟨7, wrap64 ((t273.length : Int) - 1), 0, 0⟩ : S46) )) (Reps.none _ _)))
                      intro v288 w35 ho36 hb hg_ hnew_
                      clear hg_ hnew_
                      (first | rw [← Ny287.out] at ho36 | (simp only [Int.reduceToNat] at ho36; rw [← Ny287.out] at ho36))
                      have HO289 := lwR (nwR (nwR ho36 HO_277000) HO286) HB
                      replace HO_277000 := eldR HO_277000 (Kd.R_base ho36) hb
                      replace HO286 := eldR HO286 (Kd.R_base ho36) hb
                      replace BK276 := bkb BK276 hb
                      replace HB := bst HB hb
                      clear hb ho36
                      refine hK.out _ _ ((blk_cell BK276.out 0).trans rfl) (fun hHeld => ?_)
                      clear hK K
                      refine norm_ (a' := ?_) ?_ ?_
                      rotate_left
                      ·
                       show Act.put _ (some 54) _ = _
                       simp only [Act.put, List.setIfInBounds_toArray, List.set_cons_zero, List.set_cons_succ, i64_w, i32_w]
                       rfl
                      exact norm_ (by first | (simp only [putAll, Act.put, List.setIfInBounds_toArray, List.set_cons_zero, List.set_cons_succ]; done) | (simp only [putAll, Act.put, List.setIfInBounds_toArray, List.set_cons_zero, List.set_cons_succ]; rfl)) (hJ0_3_9 (v282, v285, v288) _ ⟨hHeld, (crM HO286 fun _ hk => ⟨hk.2, hk.1⟩), (crM HO289 fun _ hk => ⟨hk.2, hk.1.2⟩), (crR HO_277000), (crb BK276), (blw HB)⟩)
                     ·
                      skip
                      refine box_step ?hg (N := 8) ?hd (cs := #[.slice none 0 0]) (t := 41) ?hr ?_; (case hd => rfl); (case hg => rfl); (case hr => first | (go_simp; done) | (go_simp; rfl))
                      intro gb293 hg w35 hbox hb
                      replace HO_277000 := rblR HO_277000 hb
                      replace HO286 := rblR HO286 hb
                      have BK293 := Aside0.mk (hbox)
                      have GW293 := geh hg HB
                      have GE293 := geh hg HB
                      replace HB := bst HB hb
                      have NB276_293 := nlt hg BK276
                      have NB293_276 := ngt hg BK276
                      replace BK276 := bkb BK276 hb
                      clear hb hbox hg
                      refine hK.out _ _ ((blk_cell BK276.out 0).trans rfl) (fun hHeld => ?_)
                      clear hK K
                      refine norm_ (a' := ?_) ?_ ?_
                      rotate_left
                      ·
                       show Act.put _ (some 8) _ = _
                       simp only [Act.put, List.setIfInBounds_toArray, List.set_cons_zero, List.set_cons_succ, i64_w, i32_w]
                       rfl
                      exact norm_ (by first | (simp only [putAll, Act.put, List.setIfInBounds_toArray, List.set_cons_zero, List.set_cons_succ]; done) | (simp only [putAll, Act.put, List.setIfInBounds_toArray, List.set_cons_zero, List.set_cons_succ]; rfl)) (hJ0_3_12 (v282, v285, gb293) _ ⟨hHeld, (crR HO286), (crR HO_277000), (crb BK276), (crb BK293), GW293.out, GE293.out, NB276_293.out, NB293_276.out, (blw HB)⟩)
                   ·
                    skip
                    rintro ⟨v282, v288, gb293⟩ w36 ⟨hS_, h0_, h1_, h2_, h3_, h4_, h5_, h6_, h7_, h8_, h9_⟩
                    have HO283 : Aside0 (Kd.R k46 46 w36 w.heap.size (fun k_ => some k_ ≠ (v288 : Value).ownBlock ∧ some k_ ≠ (.slice Ao9 t273.length co9 : Value).ownBlock) v282 y281) := ⟨h0_⟩
                    have HO289 : Aside0 (Kd.R k46 46 w36 w.heap.size (fun k_ => some k_ ≠ (v282 : Value).ownBlock ∧ some k_ ≠ (.slice Ao9 t273.length co9 : Value).ownBlock) v288 y287) := ⟨h1_⟩
                    replace HO_277000 : Aside0 (Kd.R k46 46 w36 w.heap.size (fun k_ => some k_ ≠ (v282 : Value).ownBlock ∧ some k_ ≠ (v288 : Value).ownBlock) (.slice Ao9 t273.length co9) t273) := ⟨h2_⟩
                    replace BK276 : Aside0 (w36.heap[gb276]? = some (.cells #[.slice Ao9 t273.length co9] 41 (0, 0))) := ⟨h3_⟩
                    have BK293 : Aside0 (w36.heap[gb293]? = some (.cells #[.slice none 0 0] 41 (0, 0))) := ⟨h4_⟩
                    have GW293 : Aside0 (w.heap.size ≤ gb293) := ⟨h5_⟩
                    have GE293 : Aside0 (w.heap.size ≤ gb293) := ⟨h6_⟩
                    have NB276_293 : Aside0 (gb276 ≠ gb293) := ⟨h7_⟩
                    have NB293_276 : Aside0 (gb293 ≠ gb276) := ⟨h8_⟩
                    replace HB : Aside0 (Below w.heap.size w w36) := ⟨h9_⟩
                    clear h0_ h1_ h2_ h3_ h4_ h5_ h6_ h7_ h8_ h9_
                    have hHeld : w36.cell? ⟨gb276, 0, none⟩ = some (.slice Ao9 t273.length co9) := hS_
                    refine norm_ (a' := ?_) ?_ ?_
                    rotate_left
                    ·
                     simp only [putAll, Act.put, List.setIfInBounds_toArray, List.set_cons_zero, List.set_cons_succ]
                     rfl
                    refine one_ (i := 3) (N := some 48) #[true, true, true, true, true, true, true, true, true, true, false, false, true, false] rfl rfl (one_of HT_.out (by kernel_rfl)) (by decide) (fun K hK => ?_)
                    refine Kd.R_append_rows_step k46 (w0 := w) w.heap.size (by rfl) (.tmp 45) (.tmp 47) 27 46 (.agg #[(.int .i64 0), (.int .i64 0), (.int .i64 0), (.int .i64 0)]) 32 rfl Try.underlying27 info46 rfl (by decide) (by omega) v282 y281 t273 _ _ _ (fun k_ => some k_ ≠ (.slice Ao9 t273.length co9 : Value).ownBlock ∧ some k_ ≠ (v288 : Value).ownBlock) (fun _ => False) rfl rfl ?aO ?aR (fun _ _ h => h) (fun _ h => h.elim) ?aF ?aB ?aS ?aL ?_
                    (case aR => exact crC (Kd.R_reads' HO_277000.out).2.2)
                    (case aB => exact (blw HB))
                    (case aF => exact (fun k_ hk => ⟨Kd.fresh' (Kd.R_lt (crR HO_277000)) k_ hk, Kd.fresh' (Kd.R_lt (crR HO289)) k_ hk⟩))
                    (case aO => exact (crM HO283 fun _ hk => ⟨hk.2, hk.1⟩))
                    (case aS => exact (bsz HB))
                    (case aL => have := LMc18.out; omega)
                    intro v285 w37 ho hb hg hat
                    rw [← Ny284.out] at ho
                    replace HO_277000 := Aside0.mk (Kd.R_after (ok := (fun k_ => some k_ ≠ (v288 : Value).ownBlock)) (crM HO_277000 fun _ hk => ⟨hk.2, hk.1⟩) hg hat)
                    replace BK276 := Aside0.mk (blk_grown (g := gb276) (o := .cells #[.slice Ao9 t273.length co9] 41 (0, 0)) (crb BK276) hg (Kd.R_ne HO283.out BK276.out (by decide)))
                    replace HO289 := Aside0.mk (Kd.R_after (ok := (fun k_ => some k_ ≠ (.slice Ao9 t273.length co9 : Value).ownBlock)) (crM HO289 fun _ hk => ⟨hk.2, hk.1⟩) hg hat)
                    replace BK293 := Aside0.mk (blk_grown (g := gb293) (o := .cells #[.slice none 0 0] 41 (0, 0)) (crb BK293) hg (Kd.R_ne HO283.out BK293.out (by decide)))
                    replace HB := Aside0.mk (hb)
                    have HO286 := Aside0.mk (ho)
                    clear HO283
                    clear ho hb hg hat
                    refine hK.out _ _ ((blk_cell BK276.out 0).trans rfl) (fun hHeld => ?_)
                    clear hK K
                    refine norm_ (a' := ?_) ?_ ?_
                    rotate_left
                    ·
                     show Act.put _ (some 48) _ = _
                     simp only [Act.put, List.setIfInBounds_toArray, List.set_cons_zero, List.set_cons_succ, i64_w, i32_w]
                     rfl
                    exact norm_ (by first | (simp only [putAll, Act.put, List.setIfInBounds_toArray, List.set_cons_zero, List.set_cons_succ]; done) | (simp only [putAll, Act.put, List.setIfInBounds_toArray, List.set_cons_zero, List.set_cons_succ]; rfl)) (hJ0_3_9_12 (v282, v285, v288, gb293) _ ⟨hHeld, (crM HO286 fun _ hk => ⟨hk.2, hk.1⟩), (crM HO289 fun _ hk => ⟨hk.2, hk.1⟩), (crM HO_277000 fun _ hk => ⟨hk.2, hk.1⟩), (crb BK276), (crb BK293), GW293.out, GE293.out, NB276_293.out, NB293_276.out, (blw HB)⟩)
                  ·
                   skip
                   rintro ⟨v282, v285, gb293⟩ w35 ⟨hS_, h0_, h1_, h2_, h3_, h4_, h5_, h6_, h7_, h8_⟩
                   have HO286 : Aside0 (Kd.R k46 46 w35 w.heap.size (fun k_ => some k_ ≠ (.slice Ao9 t273.length co9 : Value).ownBlock) v285 y284) := ⟨h0_⟩
                   replace HO_277000 : Aside0 (Kd.R k46 46 w35 w.heap.size (fun k_ => some k_ ≠ (v285 : Value).ownBlock) (.slice Ao9 t273.length co9) t273) := ⟨h1_⟩
                   replace BK276 : Aside0 (w35.heap[gb276]? = some (.cells #[.slice Ao9 t273.length co9] 41 (0, 0))) := ⟨h2_⟩
                   have BK293 : Aside0 (w35.heap[gb293]? = some (.cells #[.slice none 0 0] 41 (0, 0))) := ⟨h3_⟩
                   have GW293 : Aside0 (w.heap.size ≤ gb293) := ⟨h4_⟩
                   have GE293 : Aside0 (w.heap.size ≤ gb293) := ⟨h5_⟩
                   have NB276_293 : Aside0 (gb276 ≠ gb293) := ⟨h6_⟩
                   have NB293_276 : Aside0 (gb293 ≠ gb276) := ⟨h7_⟩
                   replace HB : Aside0 (Below w.heap.size w w35) := ⟨h8_⟩
                   clear h0_ h1_ h2_ h3_ h4_ h5_ h6_ h7_ h8_
                   have hHeld : w35.cell? ⟨gb276, 0, none⟩ = some (.slice Ao9 t273.length co9) := hS_
                   refine norm_ (a' := ?_) ?_ ?_
                   rotate_left
                   ·
                    simp only [putAll, Act.put, List.setIfInBounds_toArray, List.set_cons_zero, List.set_cons_succ]
                    rfl
                   refine one_ (i := 9) (N := some 54) #[true, true, true, true, true, true, true, true, true, true, false, false, true, false] rfl rfl (one_of HT_.out (by kernel_rfl)) (by decide) (fun K hK => ?_)
                   refine Kd.R_lit_step k46 _ 46 ?hg (N := 54) ?hd (xs := ([(⟨7, wrap64 ((t273.length : Int) - 1), 0, 0⟩ : S46)] : List (S46))) (inner := [.int .i64 7, .int .i64 (wrap64 ((t273.length : Int) - 1)), .int .i64 0, .int .i64 0]) (ok := fun _ => True) (okp := fun _ => True) ?hr ?hp (fun _ hk => hk) trivial (Below.refl _ _) (Nat.le_refl _) (by simp) ?_; (case hd => rfl); (case hg => rfl); (case hr => first | (go_simp; done) | (go_simp; rfl)); (case hp => exact (Reps.c4 (show Kd.M k46 _ _ _ (⟨7, wrap64 ((t273.length : Int) - 1), 0, 0⟩ : S46) [.int .i64 7, .int .i64 (wrap64 ((t273.length : Int) - 1)), .int .i64 0, .int .i64 0] from (k46_mkM _ _ _ (⟨7, wrap64 ((t273.length : Int) - 1), 0, 0⟩ : S46) )) (Reps.none _ _)))
                   intro v288 w36 ho37 hb hg_ hnew_
                   clear hg_ hnew_
                   (first | rw [← Ny287.out] at ho37 | (simp only [Int.reduceToNat] at ho37; rw [← Ny287.out] at ho37))
                   have HO289 := lwR (nwR (nwR ho37 HO_277000) HO286) HB
                   replace HO_277000 := eldR HO_277000 (Kd.R_base ho37) hb
                   replace HO286 := eldR HO286 (Kd.R_base ho37) hb
                   replace BK276 := bkb BK276 hb
                   replace BK293 := bkb BK293 hb
                   replace HB := bst HB hb
                   clear hb ho37
                   refine hK.out _ _ ((blk_cell BK276.out 0).trans rfl) (fun hHeld => ?_)
                   clear hK K
                   refine norm_ (a' := ?_) ?_ ?_
                   rotate_left
                   ·
                    show Act.put _ (some 54) _ = _
                    simp only [Act.put, List.setIfInBounds_toArray, List.set_cons_zero, List.set_cons_succ, i64_w, i32_w]
                    rfl
                   exact norm_ (by first | (simp only [putAll, Act.put, List.setIfInBounds_toArray, List.set_cons_zero, List.set_cons_succ]; done) | (simp only [putAll, Act.put, List.setIfInBounds_toArray, List.set_cons_zero, List.set_cons_succ]; rfl)) (hJ0_3_9_12 (v282, v285, v288, gb293) _ ⟨hHeld, (crM HO286 fun _ hk => ⟨hk.2, hk.1⟩), (crM HO289 fun _ hk => ⟨hk.2, hk.1.2⟩), (crR HO_277000), (crb BK276), (crb BK293), GW293.out, GE293.out, NB276_293.out, NB293_276.out, (blw HB)⟩)
                 ·
                  skip
                  rintro ⟨v282, v285, v288⟩ w36 ⟨hS_, h0_, h1_, h2_, h3_, h4_⟩
                  have HO286 : Aside0 (Kd.R k46 46 w36 w.heap.size (fun k_ => some k_ ≠ (v288 : Value).ownBlock ∧ some k_ ≠ (.slice Ao9 t273.length co9 : Value).ownBlock) v285 y284) := ⟨h0_⟩
                  have HO289 : Aside0 (Kd.R k46 46 w36 w.heap.size (fun k_ => some k_ ≠ (v285 : Value).ownBlock ∧ some k_ ≠ (.slice Ao9 t273.length co9 : Value).ownBlock) v288 y287) := ⟨h1_⟩
                  replace HO_277000 : Aside0 (Kd.R k46 46 w36 w.heap.size (fun k_ => some k_ ≠ (v285 : Value).ownBlock ∧ some k_ ≠ (v288 : Value).ownBlock) (.slice Ao9 t273.length co9) t273) := ⟨h2_⟩
                  replace BK276 : Aside0 (w36.heap[gb276]? = some (.cells #[.slice Ao9 t273.length co9] 41 (0, 0))) := ⟨h3_⟩
                  replace HB : Aside0 (Below w.heap.size w w36) := ⟨h4_⟩
                  clear h0_ h1_ h2_ h3_ h4_
                  have hHeld : w36.cell? ⟨gb276, 0, none⟩ = some (.slice Ao9 t273.length co9) := hS_
                  obtain ⟨Ao38, co38, eo38⟩ := Kd.R_slice HO289.out
                  (first | subst eo38 | (injection eo38 with f1_ f2_ f3_; have f4_ := f1_.symm; have f5_ := f3_.symm; clear f1_ f2_ f3_; subst f4_; subst f5_))
                  refine norm_ (a' := ?_) ?_ ?_
                  rotate_left
                  ·
                   simp only [putAll, Act.put, List.setIfInBounds_toArray, List.set_cons_zero, List.set_cons_succ]
                   rfl
                  refine two_ (i := 10) (j := 12) (Ni := some 55) (Nj := some 8) #[true, true, true, true, true, true, true, true, true, true, true, false, false, false] #[true, true, true, true, true, true, true, true, true, true, false, false, true, false] rfl rfl rfl rfl (two_of HT_.out (by kernel_rfl)) (by decide) (by decide) (fun K hK => ?_) (fun K hK => ?_)
                  ·
                   skip
                   refine Kd.R_append_rows_step k46 (w0 := w) w.heap.size (by rfl) (.tmp 48) (.tmp 54) 27 46 (.agg #[(.int .i64 0), (.int .i64 0), (.int .i64 0), (.int .i64 0)]) 32 rfl Try.underlying27 info46 rfl (by decide) (by omega) v285 y284 y287 _ _ _ (fun k_ => some k_ ≠ (.slice Ao9 t273.length co9 : Value).ownBlock ∧ some k_ ≠ (.slice Ao38 y287.length co38 : Value).ownBlock) (fun _ => False) rfl rfl ?aO ?aR (fun _ _ h => h) (fun _ h => h.elim) ?aF ?aB ?aS ?aL ?_
                   (case aR => exact crC (Kd.R_reads' HO289.out).2.2)
                   (case aB => exact (blw HB))
                   (case aF => exact (fun k_ hk => ⟨Kd.fresh' (Kd.R_lt (crR HO_277000)) k_ hk, Kd.fresh' (Kd.R_lt (crR HO289)) k_ hk⟩))
                   (case aO => exact (crM HO286 fun _ hk => ⟨hk.2, hk.1⟩))
                   (case aS => exact (bsz HB))
                   (case aL => have := LMc19.out; omega)
                   intro v291 w37 ho hb hg hat
                   rw [← Ny290.out] at ho
                   replace HO_277000 := Aside0.mk (Kd.R_after (ok := (fun k_ => some k_ ≠ (.slice Ao38 y287.length co38 : Value).ownBlock)) (crM HO_277000 fun _ hk => ⟨hk.2, hk.1⟩) hg hat)
                   replace BK276 := Aside0.mk (blk_grown (g := gb276) (o := .cells #[.slice Ao9 t273.length co9] 41 (0, 0)) (crb BK276) hg (Kd.R_ne HO286.out BK276.out (by decide)))
                   replace HO289 := Aside0.mk (Kd.R_after (ok := (fun k_ => some k_ ≠ (.slice Ao9 t273.length co9 : Value).ownBlock)) (crM HO289 fun _ hk => ⟨hk.2, hk.1⟩) hg hat)
                   replace HB := Aside0.mk (hb)
                   have HO292 := Aside0.mk (ho)
                   clear HO286
                   clear ho hb hg hat
                   obtain ⟨Ao39, co39, eo39⟩ := Kd.R_slice HO292.out
                   (first | subst eo39 | (injection eo39 with f1_ f2_ f3_; have f4_ := f1_.symm; have f5_ := f3_.symm; clear f1_ f2_ f3_; subst f4_; subst f5_))
                   refine hK.out _ _ ((blk_cell BK276.out 0).trans rfl) (fun hHeld => ?_)
                   clear hK K
                   refine norm_ (a' := ?_) ?_ ?_
                   rotate_left
                   ·
                    show Act.put _ (some 55) _ = _
                    simp only [Act.put, List.setIfInBounds_toArray, List.set_cons_zero, List.set_cons_succ, i64_w, i32_w]
                    rfl
                   refine pure_ (i := 11) (N := some 56) (v := ?_) (a' := ?_) #[true, true, true, true, true, true, true, true, true, true, true, true, false, false] rfl rfl (any_of HT_.out (by kernel_rfl)) (fun _ _ _ h => h) (Or.inl ⟨by rfl, ?_⟩) ?_ ?_
                   rotate_left
                   ·
                    intro w'
                    go_simp
                    with_reducible rfl
                   rotate_left
                   ·
                    simp only [Act.put, List.setIfInBounds_toArray, List.set_cons_zero, List.set_cons_succ, i64_w, i32_w]
                    rfl
                   exact norm_ (by first | (simp only [putAll, Act.put, List.setIfInBounds_toArray, List.set_cons_zero, List.set_cons_succ]; done) | (simp only [putAll, Act.put, List.setIfInBounds_toArray, List.set_cons_zero, List.set_cons_succ]; rfl)) (hJ0_3_9_10 (v282, v285, .slice Ao38 y287.length co38, .slice Ao39 y290.length co39) _ ⟨hHeld, (crM HO289 fun _ hk => ⟨hk.2, hk.1⟩), (crM HO292 fun _ hk => ⟨hk.2, hk.1⟩), (crR HO_277000), (crb BK276), (blw HB)⟩)
                  ·
                   skip
                   refine box_step ?hg (N := 8) ?hd (cs := #[.slice none 0 0]) (t := 41) ?hr ?_; (case hd => rfl); (case hg => rfl); (case hr => first | (go_simp; done) | (go_simp; rfl))
                   intro gb293 hg w37 hbox hb
                   replace HO_277000 := rblR HO_277000 hb
                   replace HO286 := rblR HO286 hb
                   replace HO289 := rblR HO289 hb
                   have BK293 := Aside0.mk (hbox)
                   have GW293 := geh hg HB
                   have GE293 := geh hg HB
                   replace HB := bst HB hb
                   have NB276_293 := nlt hg BK276
                   have NB293_276 := ngt hg BK276
                   replace BK276 := bkb BK276 hb
                   clear hb hbox hg
                   refine hK.out _ _ ((blk_cell BK276.out 0).trans rfl) (fun hHeld => ?_)
                   clear hK K
                   refine norm_ (a' := ?_) ?_ ?_
                   rotate_left
                   ·
                    show Act.put _ (some 8) _ = _
                    simp only [Act.put, List.setIfInBounds_toArray, List.set_cons_zero, List.set_cons_succ, i64_w, i32_w]
                    rfl
                   exact norm_ (by first | (simp only [putAll, Act.put, List.setIfInBounds_toArray, List.set_cons_zero, List.set_cons_succ]; done) | (simp only [putAll, Act.put, List.setIfInBounds_toArray, List.set_cons_zero, List.set_cons_succ]; rfl)) (hJ0_3_9_12 (v282, v285, (.slice Ao38 y287.length co38), gb293) _ ⟨hHeld, (crR HO286), (crR HO289), (crR HO_277000), (crb BK276), (crb BK293), GW293.out, GE293.out, NB276_293.out, NB293_276.out, (blw HB)⟩)
                ·
                 skip
                 rintro ⟨v282, v285, v288, gb293⟩ w37 ⟨hS_, h0_, h1_, h2_, h3_, h4_, h5_, h6_, h7_, h8_, h9_⟩
                 have HO286 : Aside0 (Kd.R k46 46 w37 w.heap.size (fun k_ => some k_ ≠ (v288 : Value).ownBlock ∧ some k_ ≠ (.slice Ao9 t273.length co9 : Value).ownBlock) v285 y284) := ⟨h0_⟩
                 have HO289 : Aside0 (Kd.R k46 46 w37 w.heap.size (fun k_ => some k_ ≠ (v285 : Value).ownBlock ∧ some k_ ≠ (.slice Ao9 t273.length co9 : Value).ownBlock) v288 y287) := ⟨h1_⟩
                 replace HO_277000 : Aside0 (Kd.R k46 46 w37 w.heap.size (fun k_ => some k_ ≠ (v285 : Value).ownBlock ∧ some k_ ≠ (v288 : Value).ownBlock) (.slice Ao9 t273.length co9) t273) := ⟨h2_⟩
                 replace BK276 : Aside0 (w37.heap[gb276]? = some (.cells #[.slice Ao9 t273.length co9] 41 (0, 0))) := ⟨h3_⟩
                 have BK293 : Aside0 (w37.heap[gb293]? = some (.cells #[.slice none 0 0] 41 (0, 0))) := ⟨h4_⟩
                 have GW293 : Aside0 (w.heap.size ≤ gb293) := ⟨h5_⟩
                 have GE293 : Aside0 (w.heap.size ≤ gb293) := ⟨h6_⟩
                 have NB276_293 : Aside0 (gb276 ≠ gb293) := ⟨h7_⟩
                 have NB293_276 : Aside0 (gb293 ≠ gb276) := ⟨h8_⟩
                 replace HB : Aside0 (Below w.heap.size w w37) := ⟨h9_⟩
                 clear h0_ h1_ h2_ h3_ h4_ h5_ h6_ h7_ h8_ h9_
                 have hHeld : w37.cell? ⟨gb276, 0, none⟩ = some (.slice Ao9 t273.length co9) := hS_
                 obtain ⟨Ao39, co39, eo39⟩ := Kd.R_slice HO289.out
                 (first | subst eo39 | (injection eo39 with f1_ f2_ f3_; have f4_ := f1_.symm; have f5_ := f3_.symm; clear f1_ f2_ f3_; subst f4_; subst f5_))
                 refine norm_ (a' := ?_) ?_ ?_
                 rotate_left
                 ·
                  simp only [putAll, Act.put, List.setIfInBounds_toArray, List.set_cons_zero, List.set_cons_succ]
                  rfl
                 refine one_ (i := 10) (N := some 55) #[true, true, true, true, true, true, true, true, true, true, true, false, true, false] rfl rfl (one_of HT_.out (by kernel_rfl)) (by decide) (fun K hK => ?_)
                 refine Kd.R_append_rows_step k46 (w0 := w) w.heap.size (by rfl) (.tmp 48) (.tmp 54) 27 46 (.agg #[(.int .i64 0), (.int .i64 0), (.int .i64 0), (.int .i64 0)]) 32 rfl Try.underlying27 info46 rfl (by decide) (by omega) v285 y284 y287 _ _ _ (fun k_ => some k_ ≠ (.slice Ao9 t273.length co9 : Value).ownBlock ∧ some k_ ≠ (.slice Ao39 y287.length co39 : Value).ownBlock) (fun _ => False) rfl rfl ?aO ?aR (fun _ _ h => h) (fun _ h => h.elim) ?aF ?aB ?aS ?aL ?_
                 (case aR => exact crC (Kd.R_reads' HO289.out).2.2)
                 (case aB => exact (blw HB))
                 (case aF => exact (fun k_ hk => ⟨Kd.fresh' (Kd.R_lt (crR HO_277000)) k_ hk, Kd.fresh' (Kd.R_lt (crR HO289)) k_ hk⟩))
                 (case aO => exact (crM HO286 fun _ hk => ⟨hk.2, hk.1⟩))
                 (case aS => exact (bsz HB))
                 (case aL => have := LMc19.out; omega)
                 intro v291 w38 ho hb hg hat
                 rw [← Ny290.out] at ho
                 replace HO_277000 := Aside0.mk (Kd.R_after (ok := (fun k_ => some k_ ≠ (.slice Ao39 y287.length co39 : Value).ownBlock)) (crM HO_277000 fun _ hk => ⟨hk.2, hk.1⟩) hg hat)
                 replace BK276 := Aside0.mk (blk_grown (g := gb276) (o := .cells #[.slice Ao9 t273.length co9] 41 (0, 0)) (crb BK276) hg (Kd.R_ne HO286.out BK276.out (by decide)))
                 replace HO289 := Aside0.mk (Kd.R_after (ok := (fun k_ => some k_ ≠ (.slice Ao9 t273.length co9 : Value).ownBlock)) (crM HO289 fun _ hk => ⟨hk.2, hk.1⟩) hg hat)
                 replace BK293 := Aside0.mk (blk_grown (g := gb293) (o := .cells #[.slice none 0 0] 41 (0, 0)) (crb BK293) hg (Kd.R_ne HO286.out BK293.out (by decide)))
                 replace HB := Aside0.mk (hb)
                 have HO292 := Aside0.mk (ho)
                 clear HO286
                 clear ho hb hg hat
                 obtain ⟨Ao40, co40, eo40⟩ := Kd.R_slice HO292.out
                 (first | subst eo40 | (injection eo40 with f1_ f2_ f3_; have f4_ := f1_.symm; have f5_ := f3_.symm; clear f1_ f2_ f3_; subst f4_; subst f5_))
                 refine hK.out _ _ ((blk_cell BK276.out 0).trans rfl) (fun hHeld => ?_)
                 clear hK K
                 refine norm_ (a' := ?_) ?_ ?_
                 rotate_left
                 ·
                  show Act.put _ (some 55) _ = _
                  simp only [Act.put, List.setIfInBounds_toArray, List.set_cons_zero, List.set_cons_succ, i64_w, i32_w]
                  rfl
                 refine pure_ (i := 11) (N := some 56) (v := ?_) (a' := ?_) #[true, true, true, true, true, true, true, true, true, true, true, true, true, false] rfl rfl (any_of HT_.out (by kernel_rfl)) (fun _ _ _ h => h) (Or.inl ⟨by rfl, ?_⟩) ?_ ?_
                 rotate_left
                 ·
                  intro w'
                  go_simp
                  with_reducible rfl
                 rotate_left
                 ·
                  simp only [Act.put, List.setIfInBounds_toArray, List.set_cons_zero, List.set_cons_succ, i64_w, i32_w]
                  rfl
                 exact norm_ (by first | (simp only [putAll, Act.put, List.setIfInBounds_toArray, List.set_cons_zero, List.set_cons_succ]; done) | (simp only [putAll, Act.put, List.setIfInBounds_toArray, List.set_cons_zero, List.set_cons_succ]; rfl)) (hJ0_3_9_10_12 (v282, v285, .slice Ao39 y287.length co39, .slice Ao40 y290.length co40, gb293) _ ⟨hHeld, (crM HO289 fun _ hk => ⟨hk.2, hk.1⟩), (crM HO292 fun _ hk => ⟨hk.2, hk.1⟩), (crR HO_277000), (crb BK276), (crb BK293), GW293.out, GE293.out, NB276_293.out, NB293_276.out, (blw HB)⟩)
               ·
                skip
                rintro ⟨v282, v285, v288, v291⟩ w39 ⟨hS_, h0_, h1_, h2_, h3_, h4_⟩
                have HO289 : Aside0 (Kd.R k46 46 w39 w.heap.size (fun k_ => some k_ ≠ (v291 : Value).ownBlock ∧ some k_ ≠ (.slice Ao9 t273.length co9 : Value).ownBlock) v288 y287) := ⟨h0_⟩
                have HO292 : Aside0 (Kd.R k46 46 w39 w.heap.size (fun k_ => some k_ ≠ (v288 : Value).ownBlock ∧ some k_ ≠ (.slice Ao9 t273.length co9 : Value).ownBlock) v291 y290) := ⟨h1_⟩
                replace HO_277000 : Aside0 (Kd.R k46 46 w39 w.heap.size (fun k_ => some k_ ≠ (v288 : Value).ownBlock ∧ some k_ ≠ (v291 : Value).ownBlock) (.slice Ao9 t273.length co9) t273) := ⟨h2_⟩
                replace BK276 : Aside0 (w39.heap[gb276]? = some (.cells #[.slice Ao9 t273.length co9] 41 (0, 0))) := ⟨h3_⟩
                replace HB : Aside0 (Below w.heap.size w w39) := ⟨h4_⟩
                clear h0_ h1_ h2_ h3_ h4_
                have hHeld : w39.cell? ⟨gb276, 0, none⟩ = some (.slice Ao9 t273.length co9) := hS_
                obtain ⟨Ao40, co40, eo40⟩ := Kd.R_slice HO292.out
                (first | subst eo40 | (injection eo40 with f1_ f2_ f3_; have f4_ := f1_.symm; have f5_ := f3_.symm; clear f1_ f2_ f3_; subst f4_; subst f5_))
                refine norm_ (a' := ?_) ?_ ?_
                rotate_left
                ·
                 simp only [putAll, Act.put, List.setIfInBounds_toArray, List.set_cons_zero, List.set_cons_succ]
                 rfl
                refine one_ (i := 12) (N := some 8) #[true, true, true, true, true, true, true, true, true, true, true, true, true, false] rfl rfl (one_of HT_.out (by kernel_rfl)) (by decide) (fun K hK => ?_)
                refine box_step ?hg (N := 8) ?hd (cs := #[.slice none 0 0]) (t := 41) ?hr ?_; (case hd => rfl); (case hg => rfl); (case hr => first | (go_simp; done) | (go_simp; rfl))
                intro gb293 hg w41 hbox hb
                replace HO_277000 := rblR HO_277000 hb
                replace HO289 := rblR HO289 hb
                replace HO292 := rblR HO292 hb
                have BK293 := Aside0.mk (hbox)
                have GW293 := geh hg HB
                have GE293 := geh hg HB
                replace HB := bst HB hb
                have NB276_293 := nlt hg BK276
                have NB293_276 := ngt hg BK276
                replace BK276 := bkb BK276 hb
                clear hb hbox hg
                refine hK.out _ _ ((blk_cell BK276.out 0).trans rfl) (fun hHeld => ?_)
                clear hK K
                refine norm_ (a' := ?_) ?_ ?_
                rotate_left
                ·
                 show Act.put _ (some 8) _ = _
                 simp only [Act.put, List.setIfInBounds_toArray, List.set_cons_zero, List.set_cons_succ, i64_w, i32_w]
                 rfl
                exact norm_ (by first | (simp only [putAll, Act.put, List.setIfInBounds_toArray, List.set_cons_zero, List.set_cons_succ]; done) | (simp only [putAll, Act.put, List.setIfInBounds_toArray, List.set_cons_zero, List.set_cons_succ]; rfl)) (hJ0_3_9_10_12 (v282, v285, v288, .slice Ao40 y290.length co40, gb293) _ ⟨hHeld, (crR HO289), (crR HO292), (crR HO_277000), (crb BK276), (crb BK293), GW293.out, GE293.out, NB276_293.out, NB293_276.out, (blw HB)⟩)
              rintro ⟨v282, v285, v288, v291, gb293⟩ w40 ⟨hS_, h0_, h1_, h2_, h3_, h4_, h5_, h6_, h7_, h8_, h9_⟩
              have HO289 : Aside0 (Kd.R k46 46 w40 w.heap.size (fun k_ => some k_ ≠ (v291 : Value).ownBlock ∧ some k_ ≠ (.slice Ao9 t273.length co9 : Value).ownBlock) v288 y287) := ⟨h0_⟩
              have HO292 : Aside0 (Kd.R k46 46 w40 w.heap.size (fun k_ => some k_ ≠ (v288 : Value).ownBlock ∧ some k_ ≠ (.slice Ao9 t273.length co9 : Value).ownBlock) v291 y290) := ⟨h1_⟩
              replace HO_277000 : Aside0 (Kd.R k46 46 w40 w.heap.size (fun k_ => some k_ ≠ (v288 : Value).ownBlock ∧ some k_ ≠ (v291 : Value).ownBlock) (.slice Ao9 t273.length co9) t273) := ⟨h2_⟩
              replace BK276 : Aside0 (w40.heap[gb276]? = some (.cells #[.slice Ao9 t273.length co9] 41 (0, 0))) := ⟨h3_⟩
              have BK293 : Aside0 (w40.heap[gb293]? = some (.cells #[.slice none 0 0] 41 (0, 0))) := ⟨h4_⟩
              have GW293 : Aside0 (w.heap.size ≤ gb293) := ⟨h5_⟩
              have GE293 : Aside0 (w.heap.size ≤ gb293) := ⟨h6_⟩
              have NB276_293 : Aside0 (gb276 ≠ gb293) := ⟨h7_⟩
              have NB293_276 : Aside0 (gb293 ≠ gb276) := ⟨h8_⟩
              replace HB : Aside0 (Below w.heap.size w w40) := ⟨h9_⟩
              clear h0_ h1_ h2_ h3_ h4_ h5_ h6_ h7_ h8_ h9_
              have hHeld : w40.cell? ⟨gb276, 0, none⟩ = some (.slice Ao9 t273.length co9) := hS_
              obtain ⟨Ao41, co41, eo41⟩ := Kd.R_slice HO292.out
              (first | subst eo41 | (injection eo41 with f1_ f2_ f3_; have f4_ := f1_.symm; have f5_ := f3_.symm; clear f1_ f2_ f3_; subst f4_; subst f5_))
              refine norm_ (a' := ?_) ?_ ?_
              rotate_left
              ·
               simp only [putAll, Act.put, List.setIfInBounds_toArray, List.set_cons_zero, List.set_cons_succ]
               rfl
              refine one_ (i := 13) (N := none) #[true, true, true, true, true, true, true, true, true, true, true, true, true, true] rfl rfl (one_of HT_.out (by kernel_rfl)) (by decide) (fun K hK => ?_)
              have hs42 : w40.cell? ⟨gb293, 0, none⟩ = some (.slice none 0 0) := (blk_cell BK293.out 0).trans rfl
              have hfs42 := blk_frozen BK293.out 0
              have hns42_0 := NB276_293.out
              have hms42_0 := NB293_276.out
              refine skip_ (w1 := ?_) (by rfl) rfl ?_ ?_
              rotate_left
              ·
               go_simp
               rfl
              refine hK.out _ _ (((cell_far (p := ⟨gb293, _, none⟩) NB276_293.out _).trans (hHeld))) (fun hHeld => ?_)
              clear hK K
              refine done_ (done_of HT_.out (by kernel_rfl)) ?_
              try go_wp2
              have n0_ : Aside0 (Kd.R k46 46 (w40.setCell ⟨gb293, 0, none⟩ (.slice Ao41 y290.length co41)) w.heap.size (fun k_ => some k_ ≠ (v288 : Value).ownBlock ∧ some k_ ≠ (.slice Ao41 y290.length co41 : Value).ownBlock) (.slice Ao9 t273.length co9) t273) := ⟨by (with_reducible repeat (first | apply Kd.R_alloc | apply Kd.R_drewN | apply Kd.R_drew)); exact Kd.R_mono (Kd.R_far (p := ⟨gb293, 0, none⟩) (Kd.R_types HO_277000.out BK293.out (by decide)) (fun _ hk => hk.2) (.slice Ao41 y290.length co41)) (fun _ hk => ⟨hk.1.1, hk.1.2⟩)⟩
              have n1_ : Aside0 (Kd.R k46 46 (w40.setCell ⟨gb293, 0, none⟩ (.slice Ao41 y290.length co41)) w.heap.size (fun k_ => some k_ ≠ (.slice Ao9 t273.length co9 : Value).ownBlock ∧ some k_ ≠ (.slice Ao41 y290.length co41 : Value).ownBlock) v288 y287) := ⟨by (with_reducible repeat (first | apply Kd.R_alloc | apply Kd.R_drewN | apply Kd.R_drew)); exact Kd.R_mono (Kd.R_far (p := ⟨gb293, 0, none⟩) (Kd.R_types HO289.out BK293.out (by decide)) (fun _ hk => hk.2) (.slice Ao41 y290.length co41)) (fun _ hk => ⟨hk.1.2, hk.1.1⟩)⟩
              have n2_ : Aside0 (Kd.R k46 46 (w40.setCell ⟨gb293, 0, none⟩ (.slice Ao41 y290.length co41)) w.heap.size (fun k_ => some k_ ≠ (.slice Ao9 t273.length co9 : Value).ownBlock ∧ some k_ ≠ (v288 : Value).ownBlock) (.slice Ao41 y290.length co41) y290) := ⟨by (with_reducible repeat (first | apply Kd.R_alloc | apply Kd.R_drewN | apply Kd.R_drew)); exact Kd.R_mono (Kd.R_far (p := ⟨gb293, 0, none⟩) (Kd.R_types HO292.out BK293.out (by decide)) (fun _ hk => hk.2) (.slice Ao41 y290.length co41)) (fun _ hk => ⟨hk.1.2, hk.1.1⟩)⟩
              have n3_ : Aside0 ((w40.setCell ⟨gb293, 0, none⟩ (.slice Ao41 y290.length co41)).heap[gb276]? = some (.cells #[.slice Ao9 t273.length co9] 41 (0, 0))) := ⟨by (with_reducible repeat (first | refine blk_drewN ?_ _ | refine blk_drew ?_ | refine blk_alloc ?_ _)); refine blk_far ?_ NB276_293.out _; (with_reducible repeat (first | refine blk_drewN ?_ _ | refine blk_drew ?_ | refine blk_alloc ?_ _)); exact BK276.out⟩
              have n4_ : Aside0 ((w40.setCell ⟨gb293, 0, none⟩ (.slice Ao41 y290.length co41)).heap[gb293]? = some (.cells #[.slice Ao41 y290.length co41] 41 (0, 0))) := ⟨by (with_reducible repeat (first | refine blk_drewN ?_ _ | refine blk_drew ?_ | refine blk_alloc ?_ _)); refine blk_put (cs := #[.slice none 0 0]) ?_ 0 _ rfl; (with_reducible repeat (first | refine blk_drewN ?_ _ | refine blk_drew ?_ | refine blk_alloc ?_ _)); exact BK293.out⟩
              have n5_ : Aside0 (Below w.heap.size w (w40.setCell ⟨gb293, 0, none⟩ (.slice Ao41 y290.length co41))) := ⟨blw HB⟩
              (try clear HO_277000)
              (try clear HO289)
              (try clear HO292)
              (try clear BK276)
              (try clear BK293)
              (try clear HB)
              generalize (w40.setCell ⟨gb293, 0, none⟩ (.slice Ao41 y290.length co41)) = w43 at n0_ n1_ n2_ n3_ n4_ n5_ ⊢
              have HO_277000 := n0_
              have HO289 := n1_
              have HO292 := n2_
              have BK276 := n3_
              have BK293 := n4_
              have HB := n5_
              clear n0_ n1_ n2_ n3_ n4_ n5_
              replace HO_277000 := Aside0.mk (Kd.R_drew HO_277000.out)
              replace HO289 := Aside0.mk (Kd.R_drew HO289.out)
              replace HO292 := Aside0.mk (Kd.R_drew HO292.out)
              replace BK276 := Aside0.mk (blk_drew BK276.out)
              replace BK293 := Aside0.mk (blk_drew BK293.out)
              replace HB := Aside0.mk (below_drew1 HB.out)
              refine start_ (n := 18) (S := fun w' => w'.cell? ⟨gb276, 0, none⟩ = some (.slice Ao9 t273.length co9)) (ds := []) #[false, false, false, false, false, false, false, false, false, false, false, false, false, false, false, false, false, false] (by kernel_rfl) rfl rfl ((blk_cell BK276.out 0).trans rfl) (fun hHeld => ?_); refine with_tabW laws_FnShape.tab9 laws_FnShape.bits9 (fun HT_ HW_ => ?_)
              generalize w43.drew = w44 at HO_277000 HO289 HO292 BK276 BK293 HB hHeld ⊢
              refine pure_ (i := 1) (N := some 58) (v := ?_) (a' := ?_) #[false, true, false, false, false, false, false, false, false, false, false, false, false, false, false, false, false, false] rfl rfl (any_of HT_.out (by kernel_rfl)) (fun _ _ _ h => h) (Or.inl ⟨by rfl, ?_⟩) ?_ ?_
              rotate_left
              ·
               intro w'
               go_simp
               with_reducible rfl
              rotate_left
              ·
               simp only [Act.put, List.setIfInBounds_toArray, List.set_cons_zero, List.set_cons_succ, i64_w, i32_w]
               rfl
              refine pure_ (i := 4) (N := some 61) (v := ?_) (a' := ?_) #[false, true, false, false, true, false, false, false, false, false, false, false, false, false, false, false, false, false] rfl rfl (any_of HT_.out (by kernel_rfl)) (fun _ _ _ h => h) (Or.inl ⟨by rfl, ?_⟩) ?_ ?_
              rotate_left
              ·
               intro w'
               go_simp
               with_reducible rfl
              rotate_left
              ·
               simp only [Act.put, List.setIfInBounds_toArray, List.set_cons_zero, List.set_cons_succ, i64_w, i32_w]
               rfl
              refine pure_ (i := 5) (N := some 62) (v := ?_) (a' := ?_) #[false, true, false, false, true, true, false, false, false, false, false, false, false, false, false, false, false, false] rfl rfl (any_of HT_.out (by kernel_rfl)) (fun _ _ _ h => h) (Or.inl ⟨by rfl, ?_⟩) ?_ ?_
              rotate_left
              ·
               intro w'
               go_simp
               with_reducible rfl
              rotate_left
              ·
               simp only [Act.put, List.setIfInBounds_toArray, List.set_cons_zero, List.set_cons_succ, i64_w, i32_w]
               rfl
              refine pure_ (i := 9) (N := some 66) (v := ?_) (a' := ?_) #[false, true, false, false, true, true, false, false, false, true, false, false, false, false, false, false, false, false] rfl rfl (any_of HT_.out (by kernel_rfl)) (fun _ _ _ h => h) (Or.inl ⟨by rfl, ?_⟩) ?_ ?_
              rotate_left
              ·
               intro w'
               go_simp
               with_reducible rfl
              rotate_left
              ·
               simp only [Act.put, List.setIfInBounds_toArray, List.set_cons_zero, List.set_cons_succ, i64_w, i32_w]
               rfl
              refine take_ (i := 2) (N := some 59) (v := ?_) (a' := ?_) #[false, true, true, false, true, true, false, false, false, true, false, false, false, false, false, false, false, false] rfl rfl (take_ofW HT_.out HW_.out (by kernel_rfl)) (fun _ _ _ h => h) (Or.inl ⟨by rfl, ?_⟩) hHeld ?_ ?_
              rotate_left
              ·
               intro w' s0
               go_simp
               with_reducible rfl
              rotate_left
              ·
               simp only [Act.put, List.setIfInBounds_toArray, List.set_cons_zero, List.set_cons_succ, i64_w, i32_w]
               rfl
              refine take_ (i := 6) (N := some 63) (v := ?_) (a' := ?_) #[false, true, true, false, true, true, true, false, false, true, false, false, false, false, false, false, false, false] rfl rfl (take_ofW HT_.out HW_.out (by kernel_rfl)) (fun _ _ _ h => h) (Or.inl ⟨by rfl, ?_⟩) hHeld ?_ ?_
              rotate_left
              ·
               intro w' s0
               go_simp
               with_reducible rfl
              rotate_left
              ·
               simp only [Act.put, List.setIfInBounds_toArray, List.set_cons_zero, List.set_cons_succ, i64_w, i32_w]
               rfl
              refine pure_ (i := 7) (N := some 64) (v := ?_) (a' := ?_) #[false, true, true, false, true, true, true, true, false, true, false, false, false, false, false, false, false, false] rfl rfl (any_of HT_.out (by kernel_rfl)) (fun _ _ _ h => h) (Or.inl ⟨by rfl, ?_⟩) ?_ ?_
              rotate_left
              ·
               intro w'
               go_simp
               with_reducible rfl
              rotate_left
              ·
               simp only [Act.put, List.setIfInBounds_toArray, List.set_cons_zero, List.set_cons_succ, i64_w, i32_w]
               rfl
              refine pure_ (i := 8) (N := some 65) (v := ?_) (a' := ?_) #[false, true, true, false, true, true, true, true, true, true, false, false, false, false, false, false, false, false] rfl rfl (any_of HT_.out (by kernel_rfl)) (fun _ _ _ h => h) (Or.inl ⟨by rfl, ?_⟩) ?_ ?_
              rotate_left
              ·
               intro w'
               go_simp
               with_reducible rfl
              rotate_left
              ·
               simp only [Act.put, List.setIfInBounds_toArray, List.set_cons_zero, List.set_cons_succ, i64_w, i32_w]
               rfl
              refine take_ (i := 10) (N := some 67) (v := ?_) (a' := ?_) #[false, true, true, false, true, true, true, true, true, true, true, false, false, false, false, false, false, false] rfl rfl (take_ofW HT_.out HW_.out (by kernel_rfl)) (fun _ _ _ h => h) (Or.inl ⟨by rfl, ?_⟩) hHeld ?_ ?_
              rotate_left
              ·
               intro w' s0
               go_simp
               with_reducible rfl
              rotate_left
              ·
               simp only [Act.put, List.setIfInBounds_toArray, List.set_cons_zero, List.set_cons_succ, i64_w, i32_w]
               rfl
              refine pure_ (i := 11) (N := some 68) (v := ?_) (a' := ?_) #[false, true, true, false, true, true, true, true, true, true, true, true, false, false, false, false, false, false] rfl rfl (any_of HT_.out (by kernel_rfl)) (fun _ _ _ h => h) (Or.inl ⟨by rfl, ?_⟩) ?_ ?_
              rotate_left
              ·
               intro w'
               go_simp
               with_reducible rfl
              rotate_left
              ·
               simp only [Act.put, List.setIfInBounds_toArray, List.set_cons_zero, List.set_cons_succ, i64_w, i32_w]
               rfl
              refine pure_ (i := 12) (N := some 69) (v := ?_) (a' := ?_) #[false, true, true, false, true, true, true, true, true, true, true, true, true, false, false, false, false, false] rfl rfl (any_of HT_.out (by kernel_rfl)) (fun _ _ _ h => h) (Or.inl ⟨by rfl, ?_⟩) ?_ ?_
              rotate_left
              ·
               intro w'
               go_simp
               with_reducible rfl
              rotate_left
              ·
               simp only [Act.put, List.setIfInBounds_toArray, List.set_cons_zero, List.set_cons_succ, i64_w, i32_w]
               rfl
              refine join_ (σ := Value × Value × Value × Value × Nat) 1 #[true, true, true, true, true, true, true, true, true, true, true, true, true, true, true, true, true, false] (fun s_ => [(57, s_.1), (60, s_.2.1), (70, s_.2.2.1), (71, s_.2.2.2.1), (9, .pointer (some ⟨s_.2.2.2.2, 0, none⟩)), (72, .agg #[s_.2.2.2.1])]) (fun s_ w' => (w'.cell? ⟨gb276, 0, none⟩ = some (.slice Ao9 t273.length co9)) ∧ (Kd.R k46 46 w' w.heap.size (fun k_ => some k_ ≠ (.slice Ao41 y290.length co41 : Value).ownBlock ∧ some k_ ≠ (s_.2.2.1 : Value).ownBlock ∧ some k_ ≠ (s_.2.2.2.1 : Value).ownBlock ∧ some k_ ≠ (.slice Ao9 t273.length co9 : Value).ownBlock) v288 y287) ∧ (Kd.R k46 46 w' w.heap.size (fun k_ => some k_ ≠ (v288 : Value).ownBlock ∧ some k_ ≠ (s_.2.2.1 : Value).ownBlock ∧ some k_ ≠ (s_.2.2.2.1 : Value).ownBlock ∧ some k_ ≠ (.slice Ao9 t273.length co9 : Value).ownBlock) (.slice Ao41 y290.length co41) y290) ∧ (Kd.R k46 46 w' w.heap.size (fun k_ => some k_ ≠ (v288 : Value).ownBlock ∧ some k_ ≠ (.slice Ao41 y290.length co41 : Value).ownBlock ∧ some k_ ≠ (s_.2.2.2.1 : Value).ownBlock ∧ some k_ ≠ (.slice Ao9 t273.length co9 : Value).ownBlock) s_.2.2.1 y300) ∧ (Kd.R k46 46 w' w.heap.size (fun k_ => some k_ ≠ (v288 : Value).ownBlock ∧ some k_ ≠ (.slice Ao41 y290.length co41 : Value).ownBlock ∧ some k_ ≠ (s_.2.2.1 : Value).ownBlock ∧ some k_ ≠ (.slice Ao9 t273.length co9 : Value).ownBlock) s_.2.2.2.1 y303) ∧ (Kd.R k46 46 w' w.heap.size (fun k_ => some k_ ≠ (v288 : Value).ownBlock ∧ some k_ ≠ (.slice Ao41 y290.length co41 : Value).ownBlock ∧ some k_ ≠ (s_.2.2.1 : Value).ownBlock ∧ some k_ ≠ (s_.2.2.2.1 : Value).ownBlock) (.slice Ao9 t273.length co9) t273) ∧ (w'.heap[gb276]? = some (.cells #[.slice Ao9 t273.length co9] 41 (0, 0))) ∧ (w'.heap[gb293]? = some (.cells #[.slice Ao41 y290.length co41] 41 (0, 0))) ∧ (w'.heap[s_.2.2.2.2]? = some (.cells #[.slice none 0 0] 41 (0, 0))) ∧ (w.heap.size ≤ s_.2.2.2.2) ∧ (w.heap.size ≤ s_.2.2.2.2) ∧ (gb276 ≠ s_.2.2.2.2) ∧ (s_.2.2.2.2 ≠ gb276) ∧ (gb293 ≠ s_.2.2.2.2) ∧ (s_.2.2.2.2 ≠ gb293) ∧ (Below w.heap.size w w')) ?_ ?_
              rotate_left
              ·
               intro hJ0_3_13_14_16
               refine join_ (σ := Value × Value × Value × Value) 2 #[true, true, true, true, true, true, true, true, true, true, true, true, true, true, true, true, false, false] (fun s_ => [(57, s_.1), (60, s_.2.1), (70, s_.2.2.1), (71, s_.2.2.2), (72, .agg #[s_.2.2.2])]) (fun s_ w' => (w'.cell? ⟨gb276, 0, none⟩ = some (.slice Ao9 t273.length co9)) ∧ (Kd.R k46 46 w' w.heap.size (fun k_ => some k_ ≠ (.slice Ao41 y290.length co41 : Value).ownBlock ∧ some k_ ≠ (s_.2.2.1 : Value).ownBlock ∧ some k_ ≠ (s_.2.2.2 : Value).ownBlock ∧ some k_ ≠ (.slice Ao9 t273.length co9 : Value).ownBlock) v288 y287) ∧ (Kd.R k46 46 w' w.heap.size (fun k_ => some k_ ≠ (v288 : Value).ownBlock ∧ some k_ ≠ (s_.2.2.1 : Value).ownBlock ∧ some k_ ≠ (s_.2.2.2 : Value).ownBlock ∧ some k_ ≠ (.slice Ao9 t273.length co9 : Value).ownBlock) (.slice Ao41 y290.length co41) y290) ∧ (Kd.R k46 46 w' w.heap.size (fun k_ => some k_ ≠ (v288 : Value).ownBlock ∧ some k_ ≠ (.slice Ao41 y290.length co41 : Value).ownBlock ∧ some k_ ≠ (s_.2.2.2 : Value).ownBlock ∧ some k_ ≠ (.slice Ao9 t273.length co9 : Value).ownBlock) s_.2.2.1 y300) ∧ (Kd.R k46 46 w' w.heap.size (fun k_ => some k_ ≠ (v288 : Value).ownBlock ∧ some k_ ≠ (.slice Ao41 y290.length co41 : Value).ownBlock ∧ some k_ ≠ (s_.2.2.1 : Value).ownBlock ∧ some k_ ≠ (.slice Ao9 t273.length co9 : Value).ownBlock) s_.2.2.2 y303) ∧ (Kd.R k46 46 w' w.heap.size (fun k_ => some k_ ≠ (v288 : Value).ownBlock ∧ some k_ ≠ (.slice Ao41 y290.length co41 : Value).ownBlock ∧ some k_ ≠ (s_.2.2.1 : Value).ownBlock ∧ some k_ ≠ (s_.2.2.2 : Value).ownBlock) (.slice Ao9 t273.length co9) t273) ∧ (w'.heap[gb276]? = some (.cells #[.slice Ao9 t273.length co9] 41 (0, 0))) ∧ (w'.heap[gb293]? = some (.cells #[.slice Ao41 y290.length co41] 41 (0, 0))) ∧ (Below w.heap.size w w')) ?_ ?_
               rotate_left
               ·
                intro hJ0_3_13_14
                refine join_ (σ := Value × Value × Value × Nat) 3 #[true, true, true, true, true, true, true, true, true, true, true, true, true, true, false, false, true, false] (fun s_ => [(57, s_.1), (60, s_.2.1), (70, s_.2.2.1), (9, .pointer (some ⟨s_.2.2.2, 0, none⟩))]) (fun s_ w' => (w'.cell? ⟨gb276, 0, none⟩ = some (.slice Ao9 t273.length co9)) ∧ (Kd.R k46 46 w' w.heap.size (fun k_ => some k_ ≠ (.slice Ao41 y290.length co41 : Value).ownBlock ∧ some k_ ≠ (s_.2.1 : Value).ownBlock ∧ some k_ ≠ (s_.2.2.1 : Value).ownBlock ∧ some k_ ≠ (.slice Ao9 t273.length co9 : Value).ownBlock) v288 y287) ∧ (Kd.R k46 46 w' w.heap.size (fun k_ => some k_ ≠ (v288 : Value).ownBlock ∧ some k_ ≠ (s_.2.1 : Value).ownBlock ∧ some k_ ≠ (s_.2.2.1 : Value).ownBlock ∧ some k_ ≠ (.slice Ao9 t273.length co9 : Value).ownBlock) (.slice Ao41 y290.length co41) y290) ∧ (Kd.R k46 46 w' w.heap.size (fun k_ => some k_ ≠ (v288 : Value).ownBlock ∧ some k_ ≠ (.slice Ao41 y290.length co41 : Value).ownBlock ∧ some k_ ≠ (s_.2.2.1 : Value).ownBlock ∧ some k_ ≠ (.slice Ao9 t273.length co9 : Value).ownBlock) s_.2.1 y297) ∧ (Kd.R k46 46 w' w.heap.size (fun k_ => some k_ ≠ (v288 : Value).ownBlock ∧ some k_ ≠ (.slice Ao41 y290.length co41 : Value).ownBlock ∧ some k_ ≠ (s_.2.1 : Value).ownBlock ∧ some k_ ≠ (.slice Ao9 t273.length co9 : Value).ownBlock) s_.2.2.1 y300) ∧ (Kd.R k46 46 w' w.heap.size (fun k_ => some k_ ≠ (v288 : Value).ownBlock ∧ some k_ ≠ (.slice Ao41 y290.length co41 : Value).ownBlock ∧ some k_ ≠ (s_.2.1 : Value).ownBlock ∧ some k_ ≠ (s_.2.2.1 : Value).ownBlock) (.slice Ao9 t273.length co9) t273) ∧ (w'.heap[gb276]? = some (.cells #[.slice Ao9 t273.length co9] 41 (0, 0))) ∧ (w'.heap[gb293]? = some (.cells #[.slice Ao41 y290.length co41] 41 (0, 0))) ∧ (w'.heap[s_.2.2.2]? = some (.cells #[.slice none 0 0] 41 (0, 0))) ∧ (w.heap.size ≤ s_.2.2.2) ∧ (w.heap.size ≤ s_.2.2.2) ∧ (gb276 ≠ s_.2.2.2) ∧ (s_.2.2.2 ≠ gb276) ∧ (gb293 ≠ s_.2.2.2) ∧ (s_.2.2.2 ≠ gb293) ∧ (Below w.heap.size w w')) ?_ ?_
                rotate_left
                ·
                 intro hJ0_3_13_16
                 refine join_ (σ := Value × Value × Value) 4 #[true, true, true, true, true, true, true, true, true, true, true, true, true, true, false, false, false, false] (fun s_ => [(57, s_.1), (60, s_.2.1), (70, s_.2.2)]) (fun s_ w' => (w'.cell? ⟨gb276, 0, none⟩ = some (.slice Ao9 t273.length co9)) ∧ (Kd.R k46 46 w' w.heap.size (fun k_ => some k_ ≠ (.slice Ao41 y290.length co41 : Value).ownBlock ∧ some k_ ≠ (s_.2.1 : Value).ownBlock ∧ some k_ ≠ (s_.2.2 : Value).ownBlock ∧ some k_ ≠ (.slice Ao9 t273.length co9 : Value).ownBlock) v288 y287) ∧ (Kd.R k46 46 w' w.heap.size (fun k_ => some k_ ≠ (v288 : Value).ownBlock ∧ some k_ ≠ (s_.2.1 : Value).ownBlock ∧ some k_ ≠ (s_.2.2 : Value).ownBlock ∧ some k_ ≠ (.slice Ao9 t273.length co9 : Value).ownBlock) (.slice Ao41 y290.length co41) y290) ∧ (Kd.R k46 46 w' w.heap.size (fun k_ => some k_ ≠ (v288 : Value).ownBlock ∧ some k_ ≠ (.slice Ao41 y290.length co41 : Value).ownBlock ∧ some k_ ≠ (s_.2.2 : Value).ownBlock ∧ some k_ ≠ (.slice Ao9 t273.length co9 : Value).ownBlock) s_.2.1 y297) ∧ (Kd.R k46 46 w' w.heap.size (fun k_ => some k_ ≠ (v288 : Value).ownBlock ∧ some k_ ≠ (.slice Ao41 y290.length co41 : Value).ownBlock ∧ some k_ ≠ (s_.2.1 : Value).ownBlock ∧ some k_ ≠ (.slice Ao9 t273.length co9 : Value).ownBlock) s_.2.2 y300) ∧ (Kd.R k46 46 w' w.heap.size (fun k_ => some k_ ≠ (v288 : Value).ownBlock ∧ some k_ ≠ (.slice Ao41 y290.length co41 : Value).ownBlock ∧ some k_ ≠ (s_.2.1 : Value).ownBlock ∧ some k_ ≠ (s_.2.2 : Value).ownBlock) (.slice Ao9 t273.length co9) t273) ∧ (w'.heap[gb276]? = some (.cells #[.slice Ao9 t273.length co9] 41 (0, 0))) ∧ (w'.heap[gb293]? = some (.cells #[.slice Ao41 y290.length co41] 41 (0, 0))) ∧ (Below w.heap.size w w')) ?_ ?_
                 rotate_left
                 ·
                  intro hJ0_3_13
                  refine join_ (σ := Value × Value × Nat) 4 #[true, true, true, true, true, true, true, true, true, true, true, true, true, false, false, false, true, false] (fun s_ => [(57, s_.1), (60, s_.2.1), (9, .pointer (some ⟨s_.2.2, 0, none⟩))]) (fun s_ w' => (w'.cell? ⟨gb276, 0, none⟩ = some (.slice Ao9 t273.length co9)) ∧ (Kd.R k46 46 w' w.heap.size (fun k_ => some k_ ≠ (.slice Ao41 y290.length co41 : Value).ownBlock ∧ some k_ ≠ (s_.2.1 : Value).ownBlock ∧ some k_ ≠ (.slice Ao9 t273.length co9 : Value).ownBlock) v288 y287) ∧ (Kd.R k46 46 w' w.heap.size (fun k_ => some k_ ≠ (v288 : Value).ownBlock ∧ some k_ ≠ (s_.2.1 : Value).ownBlock ∧ some k_ ≠ (.slice Ao9 t273.length co9 : Value).ownBlock) (.slice Ao41 y290.length co41) y290) ∧ (Kd.R k46 46 w' w.heap.size (fun k_ => some k_ ≠ (v288 : Value).ownBlock ∧ some k_ ≠ (.slice Ao41 y290.length co41 : Value).ownBlock ∧ some k_ ≠ (.slice Ao9 t273.length co9 : Value).ownBlock) s_.2.1 y297) ∧ (Kd.R k46 46 w' w.heap.size (fun k_ => some k_ ≠ (v288 : Value).ownBlock ∧ some k_ ≠ (.slice Ao41 y290.length co41 : Value).ownBlock ∧ some k_ ≠ (s_.2.1 : Value).ownBlock) (.slice Ao9 t273.length co9) t273) ∧ (w'.heap[gb276]? = some (.cells #[.slice Ao9 t273.length co9] 41 (0, 0))) ∧ (w'.heap[gb293]? = some (.cells #[.slice Ao41 y290.length co41] 41 (0, 0))) ∧ (w'.heap[s_.2.2]? = some (.cells #[.slice none 0 0] 41 (0, 0))) ∧ (w.heap.size ≤ s_.2.2) ∧ (w.heap.size ≤ s_.2.2) ∧ (gb276 ≠ s_.2.2) ∧ (s_.2.2 ≠ gb276) ∧ (gb293 ≠ s_.2.2) ∧ (s_.2.2 ≠ gb293) ∧ (Below w.heap.size w w')) ?_ ?_
                  rotate_left
                  ·
                   intro hJ0_3_16
                   refine join_ (σ := Value × Value × Nat) 4 #[true, true, true, false, true, true, true, true, true, true, true, true, true, true, false, false, true, false] (fun s_ => [(57, s_.1), (70, s_.2.1), (9, .pointer (some ⟨s_.2.2, 0, none⟩))]) (fun s_ w' => (w'.cell? ⟨gb276, 0, none⟩ = some (.slice Ao9 t273.length co9)) ∧ (Kd.R k46 46 w' w.heap.size (fun k_ => some k_ ≠ (.slice Ao41 y290.length co41 : Value).ownBlock ∧ some k_ ≠ (s_.1 : Value).ownBlock ∧ some k_ ≠ (s_.2.1 : Value).ownBlock ∧ some k_ ≠ (.slice Ao9 t273.length co9 : Value).ownBlock) v288 y287) ∧ (Kd.R k46 46 w' w.heap.size (fun k_ => some k_ ≠ (v288 : Value).ownBlock ∧ some k_ ≠ (s_.1 : Value).ownBlock ∧ some k_ ≠ (s_.2.1 : Value).ownBlock ∧ some k_ ≠ (.slice Ao9 t273.length co9 : Value).ownBlock) (.slice Ao41 y290.length co41) y290) ∧ (Kd.R k46 46 w' w.heap.size (fun k_ => some k_ ≠ (v288 : Value).ownBlock ∧ some k_ ≠ (.slice Ao41 y290.length co41 : Value).ownBlock ∧ some k_ ≠ (s_.2.1 : Value).ownBlock ∧ some k_ ≠ (.slice Ao9 t273.length co9 : Value).ownBlock) s_.1 y294) ∧ (Kd.R k46 46 w' w.heap.size (fun k_ => some k_ ≠ (v288 : Value).ownBlock ∧ some k_ ≠ (.slice Ao41 y290.length co41 : Value).ownBlock ∧ some k_ ≠ (s_.1 : Value).ownBlock ∧ some k_ ≠ (.slice Ao9 t273.length co9 : Value).ownBlock) s_.2.1 y300) ∧ (Kd.R k46 46 w' w.heap.size (fun k_ => some k_ ≠ (v288 : Value).ownBlock ∧ some k_ ≠ (.slice Ao41 y290.length co41 : Value).ownBlock ∧ some k_ ≠ (s_.1 : Value).ownBlock ∧ some k_ ≠ (s_.2.1 : Value).ownBlock) (.slice Ao9 t273.length co9) t273) ∧ (w'.heap[gb276]? = some (.cells #[.slice Ao9 t273.length co9] 41 (0, 0))) ∧ (w'.heap[gb293]? = some (.cells #[.slice Ao41 y290.length co41] 41 (0, 0))) ∧ (w'.heap[s_.2.2]? = some (.cells #[.slice none 0 0] 41 (0, 0))) ∧ (w.heap.size ≤ s_.2.2) ∧ (w.heap.size ≤ s_.2.2) ∧ (gb276 ≠ s_.2.2) ∧ (s_.2.2 ≠ gb276) ∧ (gb293 ≠ s_.2.2) ∧ (s_.2.2 ≠ gb293) ∧ (Below w.heap.size w w')) ?_ ?_
                   rotate_left
                   ·
                    intro hJ0_13_16
                    refine join_ (σ := Value × Value) 5 #[true, true, true, true, true, true, true, true, true, true, true, true, true, false, false, false, false, false] (fun s_ => [(57, s_.1), (60, s_.2)]) (fun s_ w' => (w'.cell? ⟨gb276, 0, none⟩ = some (.slice Ao9 t273.length co9)) ∧ (Kd.R k46 46 w' w.heap.size (fun k_ => some k_ ≠ (.slice Ao41 y290.length co41 : Value).ownBlock ∧ some k_ ≠ (s_.2 : Value).ownBlock ∧ some k_ ≠ (.slice Ao9 t273.length co9 : Value).ownBlock) v288 y287) ∧ (Kd.R k46 46 w' w.heap.size (fun k_ => some k_ ≠ (v288 : Value).ownBlock ∧ some k_ ≠ (s_.2 : Value).ownBlock ∧ some k_ ≠ (.slice Ao9 t273.length co9 : Value).ownBlock) (.slice Ao41 y290.length co41) y290) ∧ (Kd.R k46 46 w' w.heap.size (fun k_ => some k_ ≠ (v288 : Value).ownBlock ∧ some k_ ≠ (.slice Ao41 y290.length co41 : Value).ownBlock ∧ some k_ ≠ (.slice Ao9 t273.length co9 : Value).ownBlock) s_.2 y297) ∧ (Kd.R k46 46 w' w.heap.size (fun k_ => some k_ ≠ (v288 : Value).ownBlock ∧ some k_ ≠ (.slice Ao41 y290.length co41 : Value).ownBlock ∧ some k_ ≠ (s_.2 : Value).ownBlock) (.slice Ao9 t273.length co9) t273) ∧ (w'.heap[gb276]? = some (.cells #[.slice Ao9 t273.length co9] 41 (0, 0))) ∧ (w'.heap[gb293]? = some (.cells #[.slice Ao41 y290.length co41] 41 (0, 0))) ∧ (Below w.heap.size w w')) ?_ ?_
                    rotate_left
                    ·
                     intro hJ0_3
                     refine join_ (σ := Value × Value) 5 #[true, true, true, false, true, true, true, true, true, true, true, true, true, true, false, false, false, false] (fun s_ => [(57, s_.1), (70, s_.2)]) (fun s_ w' => (w'.cell? ⟨gb276, 0, none⟩ = some (.slice Ao9 t273.length co9)) ∧ (Kd.R k46 46 w' w.heap.size (fun k_ => some k_ ≠ (.slice Ao41 y290.length co41 : Value).ownBlock ∧ some k_ ≠ (s_.1 : Value).ownBlock ∧ some k_ ≠ (s_.2 : Value).ownBlock ∧ some k_ ≠ (.slice Ao9 t273.length co9 : Value).ownBlock) v288 y287) ∧ (Kd.R k46 46 w' w.heap.size (fun k_ => some k_ ≠ (v288 : Value).ownBlock ∧ some k_ ≠ (s_.1 : Value).ownBlock ∧ some k_ ≠ (s_.2 : Value).ownBlock ∧ some k_ ≠ (.slice Ao9 t273.length co9 : Value).ownBlock) (.slice Ao41 y290.length co41) y290) ∧ (Kd.R k46 46 w' w.heap.size (fun k_ => some k_ ≠ (v288 : Value).ownBlock ∧ some k_ ≠ (.slice Ao41 y290.length co41 : Value).ownBlock ∧ some k_ ≠ (s_.2 : Value).ownBlock ∧ some k_ ≠ (.slice Ao9 t273.length co9 : Value).ownBlock) s_.1 y294) ∧ (Kd.R k46 46 w' w.heap.size (fun k_ => some k_ ≠ (v288 : Value).ownBlock ∧ some k_ ≠ (.slice Ao41 y290.length co41 : Value).ownBlock ∧ some k_ ≠ (s_.1 : Value).ownBlock ∧ some k_ ≠ (.slice Ao9 t273.length co9 : Value).ownBlock) s_.2 y300) ∧ (Kd.R k46 46 w' w.heap.size (fun k_ => some k_ ≠ (v288 : Value).ownBlock ∧ some k_ ≠ (.slice Ao41 y290.length co41 : Value).ownBlock ∧ some k_ ≠ (s_.1 : Value).ownBlock ∧ some k_ ≠ (s_.2 : Value).ownBlock) (.slice Ao9 t273.length co9) t273) ∧ (w'.heap[gb276]? = some (.cells #[.slice Ao9 t273.length co9] 41 (0, 0))) ∧ (w'.heap[gb293]? = some (.cells #[.slice Ao41 y290.length co41] 41 (0, 0))) ∧ (Below w.heap.size w w')) ?_ ?_
                     rotate_left
                     ·
                      intro hJ0_13
                      refine join_ (σ := Value × Nat) 5 #[true, true, true, false, true, true, true, true, true, true, true, true, true, false, false, false, true, false] (fun s_ => [(57, s_.1), (9, .pointer (some ⟨s_.2, 0, none⟩))]) (fun s_ w' => (w'.cell? ⟨gb276, 0, none⟩ = some (.slice Ao9 t273.length co9)) ∧ (Kd.R k46 46 w' w.heap.size (fun k_ => some k_ ≠ (.slice Ao41 y290.length co41 : Value).ownBlock ∧ some k_ ≠ (s_.1 : Value).ownBlock ∧ some k_ ≠ (.slice Ao9 t273.length co9 : Value).ownBlock) v288 y287) ∧ (Kd.R k46 46 w' w.heap.size (fun k_ => some k_ ≠ (v288 : Value).ownBlock ∧ some k_ ≠ (s_.1 : Value).ownBlock ∧ some k_ ≠ (.slice Ao9 t273.length co9 : Value).ownBlock) (.slice Ao41 y290.length co41) y290) ∧ (Kd.R k46 46 w' w.heap.size (fun k_ => some k_ ≠ (v288 : Value).ownBlock ∧ some k_ ≠ (.slice Ao41 y290.length co41 : Value).ownBlock ∧ some k_ ≠ (.slice Ao9 t273.length co9 : Value).ownBlock) s_.1 y294) ∧ (Kd.R k46 46 w' w.heap.size (fun k_ => some k_ ≠ (v288 : Value).ownBlock ∧ some k_ ≠ (.slice Ao41 y290.length co41 : Value).ownBlock ∧ some k_ ≠ (s_.1 : Value).ownBlock) (.slice Ao9 t273.length co9) t273) ∧ (w'.heap[gb276]? = some (.cells #[.slice Ao9 t273.length co9] 41 (0, 0))) ∧ (w'.heap[gb293]? = some (.cells #[.slice Ao41 y290.length co41] 41 (0, 0))) ∧ (w'.heap[s_.2]? = some (.cells #[.slice none 0 0] 41 (0, 0))) ∧ (w.heap.size ≤ s_.2) ∧ (w.heap.size ≤ s_.2) ∧ (gb276 ≠ s_.2) ∧ (s_.2 ≠ gb276) ∧ (gb293 ≠ s_.2) ∧ (s_.2 ≠ gb293) ∧ (Below w.heap.size w w')) ?_ ?_
                      rotate_left
                      ·
                       intro hJ0_16
                       refine join_ (σ := Value × Nat) 5 #[false, true, true, false, true, true, true, true, true, true, true, true, true, true, false, false, true, false] (fun s_ => [(70, s_.1), (9, .pointer (some ⟨s_.2, 0, none⟩))]) (fun s_ w' => (w'.cell? ⟨gb276, 0, none⟩ = some (.slice Ao9 t273.length co9)) ∧ (Kd.R k46 46 w' w.heap.size (fun k_ => some k_ ≠ (.slice Ao41 y290.length co41 : Value).ownBlock ∧ some k_ ≠ (s_.1 : Value).ownBlock ∧ some k_ ≠ (.slice Ao9 t273.length co9 : Value).ownBlock) v288 y287) ∧ (Kd.R k46 46 w' w.heap.size (fun k_ => some k_ ≠ (v288 : Value).ownBlock ∧ some k_ ≠ (s_.1 : Value).ownBlock ∧ some k_ ≠ (.slice Ao9 t273.length co9 : Value).ownBlock) (.slice Ao41 y290.length co41) y290) ∧ (Kd.R k46 46 w' w.heap.size (fun k_ => some k_ ≠ (v288 : Value).ownBlock ∧ some k_ ≠ (.slice Ao41 y290.length co41 : Value).ownBlock ∧ some k_ ≠ (.slice Ao9 t273.length co9 : Value).ownBlock) s_.1 y300) ∧ (Kd.R k46 46 w' w.heap.size (fun k_ => some k_ ≠ (v288 : Value).ownBlock ∧ some k_ ≠ (.slice Ao41 y290.length co41 : Value).ownBlock ∧ some k_ ≠ (s_.1 : Value).ownBlock) (.slice Ao9 t273.length co9) t273) ∧ (w'.heap[gb276]? = some (.cells #[.slice Ao9 t273.length co9] 41 (0, 0))) ∧ (w'.heap[gb293]? = some (.cells #[.slice Ao41 y290.length co41] 41 (0, 0))) ∧ (w'.heap[s_.2]? = some (.cells #[.slice none 0 0] 41 (0, 0))) ∧ (w.heap.size ≤ s_.2) ∧ (w.heap.size ≤ s_.2) ∧ (gb276 ≠ s_.2) ∧ (s_.2 ≠ gb276) ∧ (gb293 ≠ s_.2) ∧ (s_.2 ≠ gb293) ∧ (Below w.heap.size w w')) ?_ ?_
                       rotate_left
                       ·
                        intro hJ13_16
                        refine join_ (σ := Value) 6 #[true, true, true, false, true, true, true, true, true, true, true, true, true, false, false, false, false, false] (fun s_ => [(57, s_)]) (fun s_ w' => (w'.cell? ⟨gb276, 0, none⟩ = some (.slice Ao9 t273.length co9)) ∧ (Kd.R k46 46 w' w.heap.size (fun k_ => some k_ ≠ (.slice Ao41 y290.length co41 : Value).ownBlock ∧ some k_ ≠ (s_ : Value).ownBlock ∧ some k_ ≠ (.slice Ao9 t273.length co9 : Value).ownBlock) v288 y287) ∧ (Kd.R k46 46 w' w.heap.size (fun k_ => some k_ ≠ (v288 : Value).ownBlock ∧ some k_ ≠ (s_ : Value).ownBlock ∧ some k_ ≠ (.slice Ao9 t273.length co9 : Value).ownBlock) (.slice Ao41 y290.length co41) y290) ∧ (Kd.R k46 46 w' w.heap.size (fun k_ => some k_ ≠ (v288 : Value).ownBlock ∧ some k_ ≠ (.slice Ao41 y290.length co41 : Value).ownBlock ∧ some k_ ≠ (.slice Ao9 t273.length co9 : Value).ownBlock) s_ y294) ∧ (Kd.R k46 46 w' w.heap.size (fun k_ => some k_ ≠ (v288 : Value).ownBlock ∧ some k_ ≠ (.slice Ao41 y290.length co41 : Value).ownBlock ∧ some k_ ≠ (s_ : Value).ownBlock) (.slice Ao9 t273.length co9) t273) ∧ (w'.heap[gb276]? = some (.cells #[.slice Ao9 t273.length co9] 41 (0, 0))) ∧ (w'.heap[gb293]? = some (.cells #[.slice Ao41 y290.length co41] 41 (0, 0))) ∧ (Below w.heap.size w w')) ?_ ?_
                        rotate_left
                        ·
                         intro hJ0
                         refine join_ (σ := Value) 6 #[false, true, true, false, true, true, true, true, true, true, true, true, true, true, false, false, false, false] (fun s_ => [(70, s_)]) (fun s_ w' => (w'.cell? ⟨gb276, 0, none⟩ = some (.slice Ao9 t273.length co9)) ∧ (Kd.R k46 46 w' w.heap.size (fun k_ => some k_ ≠ (.slice Ao41 y290.length co41 : Value).ownBlock ∧ some k_ ≠ (s_ : Value).ownBlock ∧ some k_ ≠ (.slice Ao9 t273.length co9 : Value).ownBlock) v288 y287) ∧ (Kd.R k46 46 w' w.heap.size (fun k_ => some k_ ≠ (v288 : Value).ownBlock ∧ some k_ ≠ (s_ : Value).ownBlock ∧ some k_ ≠ (.slice Ao9 t273.length co9 : Value).ownBlock) (.slice Ao41 y290.length co41) y290) ∧ (Kd.R k46 46 w' w.heap.size (fun k_ => some k_ ≠ (v288 : Value).ownBlock ∧ some k_ ≠ (.slice Ao41 y290.length co41 : Value).ownBlock ∧ some k_ ≠ (.slice Ao9 t273.length co9 : Value).ownBlock) s_ y300) ∧ (Kd.R k46 46 w' w.heap.size (fun k_ => some k_ ≠ (v288 : Value).ownBlock ∧ some k_ ≠ (.slice Ao41 y290.length co41 : Value).ownBlock ∧ some k_ ≠ (s_ : Value).ownBlock) (.slice Ao9 t273.length co9) t273) ∧ (w'.heap[gb276]? = some (.cells #[.slice Ao9 t273.length co9] 41 (0, 0))) ∧ (w'.heap[gb293]? = some (.cells #[.slice Ao41 y290.length co41] 41 (0, 0))) ∧ (Below w.heap.size w w')) ?_ ?_
                         rotate_left
                         ·
                          intro hJ13
                          refine join_ (σ := Nat) 6 #[false, true, true, false, true, true, true, true, true, true, true, true, true, false, false, false, true, false] (fun s_ => [(9, .pointer (some ⟨s_, 0, none⟩))]) (fun s_ w' => (w'.cell? ⟨gb276, 0, none⟩ = some (.slice Ao9 t273.length co9)) ∧ (Kd.R k46 46 w' w.heap.size (fun k_ => some k_ ≠ (.slice Ao41 y290.length co41 : Value).ownBlock ∧ some k_ ≠ (.slice Ao9 t273.length co9 : Value).ownBlock) v288 y287) ∧ (Kd.R k46 46 w' w.heap.size (fun k_ => some k_ ≠ (v288 : Value).ownBlock ∧ some k_ ≠ (.slice Ao9 t273.length co9 : Value).ownBlock) (.slice Ao41 y290.length co41) y290) ∧ (Kd.R k46 46 w' w.heap.size (fun k_ => some k_ ≠ (v288 : Value).ownBlock ∧ some k_ ≠ (.slice Ao41 y290.length co41 : Value).ownBlock) (.slice Ao9 t273.length co9) t273) ∧ (w'.heap[gb276]? = some (.cells #[.slice Ao9 t273.length co9] 41 (0, 0))) ∧ (w'.heap[gb293]? = some (.cells #[.slice Ao41 y290.length co41] 41 (0, 0))) ∧ (w'.heap[s_]? = some (.cells #[.slice none 0 0] 41 (0, 0))) ∧ (w.heap.size ≤ s_) ∧ (w.heap.size ≤ s_) ∧ (gb276 ≠ s_) ∧ (s_ ≠ gb276) ∧ (gb293 ≠ s_) ∧ (s_ ≠ gb293) ∧ (Below w.heap.size w w')) ?_ ?_
                          rotate_left
                          ·
                           intro hJ16
                           refine three_ (i := 0) (j := 13) (k := 16) (Ni := some 57) (Nj := some 70) (Nk := some 9) #[true, true, true, false, true, true, true, true, true, true, true, true, true, false, false, false, false, false] #[false, true, true, false, true, true, true, true, true, true, true, true, true, true, false, false, false, false] #[false, true, true, false, true, true, true, true, true, true, true, true, true, false, false, false, true, false] rfl rfl rfl rfl rfl rfl (three_of HT_.out (by kernel_rfl)) (by decide) (by decide) (by decide) (fun K hK => ?_) (fun K hK => ?_) (fun K hK => ?_)
                           ·
                            skip
                            refine Kd.R_lit_step k46 _ 46 ?hg (N := 57) ?hd (xs := ([] : List (S46))) (inner := []) (ok := fun _ => True) (okp := fun _ => True) ?hr ?hp (fun _ hk => hk) trivial (Below.refl _ _) (Nat.le_refl _) (by simp) ?_; (case hd => rfl); (case hg => rfl); (case hr => first | (go_simp; done) | (go_simp; rfl)); (case hp => exact (Reps.none _ _))
                            intro v295 w45 ho46 hb hg_ hnew_
                            clear hg_ hnew_
                            (first | rw [← Ny294.out] at ho46 | (simp only [Int.reduceToNat] at ho46; rw [← Ny294.out] at ho46))
                            have HO296 := lwR (nwR (nwR (nwR ho46 HO_277000) HO289) HO292) HB
                            replace HO_277000 := eldR HO_277000 (Kd.R_base ho46) hb
                            replace HO289 := eldR HO289 (Kd.R_base ho46) hb
                            replace HO292 := eldR HO292 (Kd.R_base ho46) hb
                            replace BK276 := bkb BK276 hb
                            replace BK293 := bkb BK293 hb
                            replace HB := bst HB hb
                            clear hb ho46
                            refine hK.out _ _ ((blk_cell BK276.out 0).trans rfl) (fun hHeld => ?_)
                            clear hK K
                            refine norm_ (a' := ?_) ?_ ?_
                            rotate_left
                            ·
                             show Act.put _ (some 57) _ = _
                             simp only [Act.put, List.setIfInBounds_toArray, List.set_cons_zero, List.set_cons_succ, i64_w, i32_w]
                             rfl
                            exact norm_ (by first | (simp only [putAll, Act.put, List.setIfInBounds_toArray, List.set_cons_zero, List.set_cons_succ]; done) | (simp only [putAll, Act.put, List.setIfInBounds_toArray, List.set_cons_zero, List.set_cons_succ]; rfl)) (hJ0 (v295) _ ⟨hHeld, (crM HO289 fun _ hk => ⟨hk.1.2, hk.2, hk.1.1⟩), (crM HO292 fun _ hk => ⟨hk.1.2, hk.2, hk.1.1⟩), (crM HO296 fun _ hk => ⟨hk.1.2, hk.2, hk.1.1.2⟩), (crM HO_277000 fun _ hk => ⟨hk.1.1, hk.1.2, hk.2⟩), (crb BK276), (crb BK293), (blw HB)⟩)
                           ·
                            skip
                            refine Kd.R_lit_step k46 _ 46 ?hg (N := 70) ?hd (xs := ([(⟨2, 0, 0, 3⟩ : S46), (⟨3, wrap64 ((t273.length : Int) - 1), (t273.length : Int), 0⟩ : S46)] : List (S46))) (inner := [.int .i64 2, .int .i64 0, .int .i64 0, .int .i64 3, .int .i64 3, .int .i64 (wrap64 ((t273.length : Int) - 1)), .int .i64 (t273.length : Int), .int .i64 0]) (ok := fun _ => True) (okp := fun _ => True) ?hr ?hp (fun _ hk => hk) trivial (Below.refl _ _) (Nat.le_refl _) (by simp) ?_; (case hd => rfl); (case hg => rfl); (case hr => first | (go_simp; done) | (go_simp; rfl)); (case hp => exact (Reps.c4 (show Kd.M k46 _ _ _ (⟨2, 0, 0, 3⟩ : S46) [.int .i64 2, .int .i64 0, .int .i64 0, .int .i64 3] from (k46_mkM _ _ _ (⟨2, 0, 0, 3⟩ : S46) )) (Reps.c4 (show Kd.M k46 _ _ _ (⟨3, wrap64 ((t273.length : Int) - 1), (t273.length : Int), 0⟩ : S46) [.int .i64 3, .int .i64 (wrap64 ((t273.length : Int) - 1)), .int .i64 (t273.length : Int), .int .i64 0] from (k46_mkM _ _ _ (⟨3, wrap64 ((t273.length : Int) - 1), (t273.length : Int), 0⟩ : S46) )) (Reps.none _ _))))
                            intro v301 w45 ho46 hb hg_ hnew_
                            clear hg_ hnew_
                            (first | rw [← Ny300.out] at ho46 | (simp only [Int.reduceToNat] at ho46; rw [← Ny300.out] at ho46))
                            have HO302 := lwR (nwR (nwR (nwR ho46 HO_277000) HO289) HO292) HB
                            replace HO_277000 := eldR HO_277000 (Kd.R_base ho46) hb
                            replace HO289 := eldR HO289 (Kd.R_base ho46) hb
                            replace HO292 := eldR HO292 (Kd.R_base ho46) hb
                            replace BK276 := bkb BK276 hb
                            replace BK293 := bkb BK293 hb
                            replace HB := bst HB hb
                            clear hb ho46
                            refine hK.out _ _ ((blk_cell BK276.out 0).trans rfl) (fun hHeld => ?_)
                            clear hK K
                            refine norm_ (a' := ?_) ?_ ?_
                            rotate_left
                            ·
                             show Act.put _ (some 70) _ = _
                             simp only [Act.put, List.setIfInBounds_toArray, List.set_cons_zero, List.set_cons_succ, i64_w, i32_w]
                             rfl
                            exact norm_ (by first | (simp only [putAll, Act.put, List.setIfInBounds_toArray, List.set_cons_zero, List.set_cons_succ]; done) | (simp only [putAll, Act.put, List.setIfInBounds_toArray, List.set_cons_zero, List.set_cons_succ]; rfl)) (hJ13 (v301) _ ⟨hHeld, (crM HO289 fun _ hk => ⟨hk.1.2, hk.2, hk.1.1⟩), (crM HO292 fun _ hk => ⟨hk.1.2, hk.2, hk.1.1⟩), (crM HO302 fun _ hk => ⟨hk.1.2, hk.2, hk.1.1.2⟩), (crM HO_277000 fun _ hk => ⟨hk.1.1, hk.1.2, hk.2⟩), (crb BK276), (crb BK293), (blw HB)⟩)
                           ·
                            skip
                            refine box_step ?hg (N := 9) ?hd (cs := #[.slice none 0 0]) (t := 41) ?hr ?_; (case hd => rfl); (case hg => rfl); (case hr => first | (go_simp; done) | (go_simp; rfl))
                            intro gb306 hg w45 hbox hb
                            replace HO_277000 := rblR HO_277000 hb
                            replace HO289 := rblR HO289 hb
                            replace HO292 := rblR HO292 hb
                            have BK306 := Aside0.mk (hbox)
                            have GW306 := geh hg HB
                            have GE306 := geh hg HB
                            replace HB := bst HB hb
                            have NB276_306 := nlt hg BK276
                            have NB306_276 := ngt hg BK276
                            replace BK276 := bkb BK276 hb
                            have NB293_306 := nlt hg BK293
                            have NB306_293 := ngt hg BK293
                            replace BK293 := bkb BK293 hb
                            clear hb hbox hg
                            refine hK.out _ _ ((blk_cell BK276.out 0).trans rfl) (fun hHeld => ?_)
                            clear hK K
                            refine norm_ (a' := ?_) ?_ ?_
                            rotate_left
                            ·
                             show Act.put _ (some 9) _ = _
                             simp only [Act.put, List.setIfInBounds_toArray, List.set_cons_zero, List.set_cons_succ, i64_w, i32_w]
                             rfl
                            exact norm_ (by first | (simp only [putAll, Act.put, List.setIfInBounds_toArray, List.set_cons_zero, List.set_cons_succ]; done) | (simp only [putAll, Act.put, List.setIfInBounds_toArray, List.set_cons_zero, List.set_cons_succ]; rfl)) (hJ16 (gb306) _ ⟨hHeld, (crM HO289 fun _ hk => ⟨hk.2, hk.1⟩), (crM HO292 fun _ hk => ⟨hk.2, hk.1⟩), (crR HO_277000), (crb BK276), (crb BK293), (crb BK306), GW306.out, GE306.out, NB276_306.out, NB306_276.out, NB293_306.out, NB306_293.out, (blw HB)⟩)
                          ·
                           skip
                           rintro gb306 w46 ⟨hS_, h0_, h1_, h2_, h3_, h4_, h5_, h6_, h7_, h8_, h9_, h10_, h11_, h12_⟩
                           replace HO289 : Aside0 (Kd.R k46 46 w46 w.heap.size (fun k_ => some k_ ≠ (.slice Ao41 y290.length co41 : Value).ownBlock ∧ some k_ ≠ (.slice Ao9 t273.length co9 : Value).ownBlock) v288 y287) := ⟨h0_⟩
                           replace HO292 : Aside0 (Kd.R k46 46 w46 w.heap.size (fun k_ => some k_ ≠ (v288 : Value).ownBlock ∧ some k_ ≠ (.slice Ao9 t273.length co9 : Value).ownBlock) (.slice Ao41 y290.length co41) y290) := ⟨h1_⟩
                           replace HO_277000 : Aside0 (Kd.R k46 46 w46 w.heap.size (fun k_ => some k_ ≠ (v288 : Value).ownBlock ∧ some k_ ≠ (.slice Ao41 y290.length co41 : Value).ownBlock) (.slice Ao9 t273.length co9) t273) := ⟨h2_⟩
                           replace BK276 : Aside0 (w46.heap[gb276]? = some (.cells #[.slice Ao9 t273.length co9] 41 (0, 0))) := ⟨h3_⟩
                           replace BK293 : Aside0 (w46.heap[gb293]? = some (.cells #[.slice Ao41 y290.length co41] 41 (0, 0))) := ⟨h4_⟩
                           have BK306 : Aside0 (w46.heap[gb306]? = some (.cells #[.slice none 0 0] 41 (0, 0))) := ⟨h5_⟩
                           have GW306 : Aside0 (w.heap.size ≤ gb306) := ⟨h6_⟩
                           have GE306 : Aside0 (w.heap.size ≤ gb306) := ⟨h7_⟩
                           have NB276_306 : Aside0 (gb276 ≠ gb306) := ⟨h8_⟩
                           have NB306_276 : Aside0 (gb306 ≠ gb276) := ⟨h9_⟩
                           have NB293_306 : Aside0 (gb293 ≠ gb306) := ⟨h10_⟩
                           have NB306_293 : Aside0 (gb306 ≠ gb293) := ⟨h11_⟩
                           replace HB : Aside0 (Below w.heap.size w w46) := ⟨h12_⟩
                           clear h0_ h1_ h2_ h3_ h4_ h5_ h6_ h7_ h8_ h9_ h10_ h11_ h12_
                           have hHeld : w46.cell? ⟨gb276, 0, none⟩ = some (.slice Ao9 t273.length co9) := hS_
                           refine norm_ (a' := ?_) ?_ ?_
                           rotate_left
                           ·
                            simp only [putAll, Act.put, List.setIfInBounds_toArray, List.set_cons_zero, List.set_cons_succ]
                            rfl
                           refine two_ (i := 0) (j := 13) (Ni := some 57) (Nj := some 70) #[true, true, true, false, true, true, true, true, true, true, true, true, true, false, false, false, true, false] #[false, true, true, false, true, true, true, true, true, true, true, true, true, true, false, false, true, false] rfl rfl rfl rfl (two_of HT_.out (by kernel_rfl)) (by decide) (by decide) (fun K hK => ?_) (fun K hK => ?_)
                           ·
                            skip
                            refine Kd.R_lit_step k46 _ 46 ?hg (N := 57) ?hd (xs := ([] : List (S46))) (inner := []) (ok := fun _ => True) (okp := fun _ => True) ?hr ?hp (fun _ hk => hk) trivial (Below.refl _ _) (Nat.le_refl _) (by simp) ?_; (case hd => rfl); (case hg => rfl); (case hr => first | (go_simp; done) | (go_simp; rfl)); (case hp => exact (Reps.none _ _))
                            intro v295 w47 ho48 hb hg_ hnew_
                            clear hg_ hnew_
                            (first | rw [← Ny294.out] at ho48 | (simp only [Int.reduceToNat] at ho48; rw [← Ny294.out] at ho48))
                            have HO296 := lwR (nwR (nwR (nwR ho48 HO_277000) HO289) HO292) HB
                            replace HO_277000 := eldR HO_277000 (Kd.R_base ho48) hb
                            replace HO289 := eldR HO289 (Kd.R_base ho48) hb
                            replace HO292 := eldR HO292 (Kd.R_base ho48) hb
                            replace BK276 := bkb BK276 hb
                            replace BK293 := bkb BK293 hb
                            replace BK306 := bkb BK306 hb
                            replace HB := bst HB hb
                            clear hb ho48
                            refine hK.out _ _ ((blk_cell BK276.out 0).trans rfl) (fun hHeld => ?_)
                            clear hK K
                            refine norm_ (a' := ?_) ?_ ?_
                            rotate_left
                            ·
                             show Act.put _ (some 57) _ = _
                             simp only [Act.put, List.setIfInBounds_toArray, List.set_cons_zero, List.set_cons_succ, i64_w, i32_w]
                             rfl
                            exact norm_ (by first | (simp only [putAll, Act.put, List.setIfInBounds_toArray, List.set_cons_zero, List.set_cons_succ]; done) | (simp only [putAll, Act.put, List.setIfInBounds_toArray, List.set_cons_zero, List.set_cons_succ]; rfl)) (hJ0_16 (v295, gb306) _ ⟨hHeld, (crM HO289 fun _ hk => ⟨hk.1.1, hk.2, hk.1.2⟩), (crM HO292 fun _ hk => ⟨hk.1.1, hk.2, hk.1.2⟩), (crM HO296 fun _ hk => ⟨hk.1.2, hk.2, hk.1.1.2⟩), (crM HO_277000 fun _ hk => ⟨hk.1.1, hk.1.2, hk.2⟩), (crb BK276), (crb BK293), (crb BK306), GW306.out, GE306.out, NB276_306.out, NB306_276.out, NB293_306.out, NB306_293.out, (blw HB)⟩)
                           ·
                            skip
                            refine Kd.R_lit_step k46 _ 46 ?hg (N := 70) ?hd (xs := ([(⟨2, 0, 0, 3⟩ : S46), (⟨3, wrap64 ((t273.length : Int) - 1), (t273.length : Int), 0⟩ : S46)] : List (S46))) (inner := [.int .i64 2, .int .i64 0, .int .i64 0, .int .i64 3, .int .i64 3, .int .i64 (wrap64 ((t273.length : Int) - 1)), .int .i64 (t273.length : Int), .int .i64 0]) (ok := fun _ => True) (okp := fun _ => True) ?hr ?hp (fun _ hk => hk) trivial (Below.refl _ _) (Nat.le_refl _) (by simp) ?_; (case hd => rfl); (case hg => rfl); (case hr => first | (go_simp; done) | (go_simp; rfl)); (case hp => exact (Reps.c4 (show Kd.M k46 _ _ _ (⟨2, 0, 0, 3⟩ : S46) [.int .i64 2, .int .i64 0, .int .i64 0, .int .i64 3] from (k46_mkM _ _ _ (⟨2, 0, 0, 3⟩ : S46) )) (Reps.c4 (show Kd.M k46 _ _ _ (⟨3, wrap64 ((t273.length : Int) - 1), (t273.length : Int), 0⟩ : S46) [.int .i64 3, .int .i64 (wrap64 ((t273.length : Int) - 1)), .int .i64 (t273.length : Int), .int .i64 0] from (k46_mkM _ _ _ (⟨3, wrap64 ((t273.length : Int) - 1), (t273.length : Int), 0⟩ : S46) )) (Reps.none _ _))))
                            intro v301 w47 ho48 hb hg_ hnew_
                            clear hg_ hnew_
                            (first | rw [← Ny300.out] at ho48 | (simp only [Int.reduceToNat] at ho48; rw [← Ny300.out] at ho48))
                            have HO302 := lwR (nwR (nwR (nwR ho48 HO_277000) HO289) HO292) HB
                            replace HO_277000 := eldR HO_277000 (Kd.R_base ho48) hb
                            replace HO289 := eldR HO289 (Kd.R_base ho48) hb
                            replace HO292 := eldR HO292 (Kd.R_base ho48) hb
                            replace BK276 := bkb BK276 hb
                            replace BK293 := bkb BK293 hb
                            replace BK306 := bkb BK306 hb
                            replace HB := bst HB hb
                            clear hb ho48
                            refine hK.out _ _ ((blk_cell BK276.out 0).trans rfl) (fun hHeld => ?_)
                            clear hK K
                            refine norm_ (a' := ?_) ?_ ?_
                            rotate_left
                            ·
                             show Act.put _ (some 70) _ = _
                             simp only [Act.put, List.setIfInBounds_toArray, List.set_cons_zero, List.set_cons_succ, i64_w, i32_w]
                             rfl
                            exact norm_ (by first | (simp only [putAll, Act.put, List.setIfInBounds_toArray, List.set_cons_zero, List.set_cons_succ]; done) | (simp only [putAll, Act.put, List.setIfInBounds_toArray, List.set_cons_zero, List.set_cons_succ]; rfl)) (hJ13_16 (v301, gb306) _ ⟨hHeld, (crM HO289 fun _ hk => ⟨hk.1.1, hk.2, hk.1.2⟩), (crM HO292 fun _ hk => ⟨hk.1.1, hk.2, hk.1.2⟩), (crM HO302 fun _ hk => ⟨hk.1.2, hk.2, hk.1.1.2⟩), (crM HO_277000 fun _ hk => ⟨hk.1.1, hk.1.2, hk.2⟩), (crb BK276), (crb BK293), (crb BK306), GW306.out, GE306.out, NB276_306.out, NB306_276.out, NB293_306.out, NB306_293.out, (blw HB)⟩)
                         ·
                          skip
                          rintro v301 w47 ⟨hS_, h0_, h1_, h2_, h3_, h4_, h5_, h6_⟩
                          replace HO289 : Aside0 (Kd.R k46 46 w47 w.heap.size (fun k_ => some k_ ≠ (.slice Ao41 y290.length co41 : Value).ownBlock ∧ some k_ ≠ (v301 : Value).ownBlock ∧ some k_ ≠ (.slice Ao9 t273.length co9 : Value).ownBlock) v288 y287) := ⟨h0_⟩
                          replace HO292 : Aside0 (Kd.R k46 46 w47 w.heap.size (fun k_ => some k_ ≠ (v288 : Value).ownBlock ∧ some k_ ≠ (v301 : Value).ownBlock ∧ some k_ ≠ (.slice Ao9 t273.length co9 : Value).ownBlock) (.slice Ao41 y290.length co41) y290) := ⟨h1_⟩
                          have HO302 : Aside0 (Kd.R k46 46 w47 w.heap.size (fun k_ => some k_ ≠ (v288 : Value).ownBlock ∧ some k_ ≠ (.slice Ao41 y290.length co41 : Value).ownBlock ∧ some k_ ≠ (.slice Ao9 t273.length co9 : Value).ownBlock) v301 y300) := ⟨h2_⟩
                          replace HO_277000 : Aside0 (Kd.R k46 46 w47 w.heap.size (fun k_ => some k_ ≠ (v288 : Value).ownBlock ∧ some k_ ≠ (.slice Ao41 y290.length co41 : Value).ownBlock ∧ some k_ ≠ (v301 : Value).ownBlock) (.slice Ao9 t273.length co9) t273) := ⟨h3_⟩
                          replace BK276 : Aside0 (w47.heap[gb276]? = some (.cells #[.slice Ao9 t273.length co9] 41 (0, 0))) := ⟨h4_⟩
                          replace BK293 : Aside0 (w47.heap[gb293]? = some (.cells #[.slice Ao41 y290.length co41] 41 (0, 0))) := ⟨h5_⟩
                          replace HB : Aside0 (Below w.heap.size w w47) := ⟨h6_⟩
                          clear h0_ h1_ h2_ h3_ h4_ h5_ h6_
                          have hHeld : w47.cell? ⟨gb276, 0, none⟩ = some (.slice Ao9 t273.length co9) := hS_
                          refine norm_ (a' := ?_) ?_ ?_
                          rotate_left
                          ·
                           simp only [putAll, Act.put, List.setIfInBounds_toArray, List.set_cons_zero, List.set_cons_succ]
                           rfl
                          refine two_ (i := 0) (j := 16) (Ni := some 57) (Nj := some 9) #[true, true, true, false, true, true, true, true, true, true, true, true, true, true, false, false, false, false] #[false, true, true, false, true, true, true, true, true, true, true, true, true, true, false, false, true, false] rfl rfl rfl rfl (two_of HT_.out (by kernel_rfl)) (by decide) (by decide) (fun K hK => ?_) (fun K hK => ?_)
                          ·
                           skip
                           refine Kd.R_lit_step k46 _ 46 ?hg (N := 57) ?hd (xs := ([] : List (S46))) (inner := []) (ok := fun _ => True) (okp := fun _ => True) ?hr ?hp (fun _ hk => hk) trivial (Below.refl _ _) (Nat.le_refl _) (by simp) ?_; (case hd => rfl); (case hg => rfl); (case hr => first | (go_simp; done) | (go_simp; rfl)); (case hp => exact (Reps.none _ _))
                           intro v295 w48 ho49 hb hg_ hnew_
                           clear hg_ hnew_
                           (first | rw [← Ny294.out] at ho49 | (simp only [Int.reduceToNat] at ho49; rw [← Ny294.out] at ho49))
                           have HO296 := lwR (nwR (nwR (nwR (nwR ho49 HO_277000) HO289) HO292) HO302) HB
                           replace HO_277000 := eldR HO_277000 (Kd.R_base ho49) hb
                           replace HO289 := eldR HO289 (Kd.R_base ho49) hb
                           replace HO292 := eldR HO292 (Kd.R_base ho49) hb
                           replace HO302 := eldR HO302 (Kd.R_base ho49) hb
                           replace BK276 := bkb BK276 hb
                           replace BK293 := bkb BK293 hb
                           replace HB := bst HB hb
                           clear hb ho49
                           refine hK.out _ _ ((blk_cell BK276.out 0).trans rfl) (fun hHeld => ?_)
                           clear hK K
                           refine norm_ (a' := ?_) ?_ ?_
                           rotate_left
                           ·
                            show Act.put _ (some 57) _ = _
                            simp only [Act.put, List.setIfInBounds_toArray, List.set_cons_zero, List.set_cons_succ, i64_w, i32_w]
                            rfl
                           exact norm_ (by first | (simp only [putAll, Act.put, List.setIfInBounds_toArray, List.set_cons_zero, List.set_cons_succ]; done) | (simp only [putAll, Act.put, List.setIfInBounds_toArray, List.set_cons_zero, List.set_cons_succ]; rfl)) (hJ0_13 (v295, v301) _ ⟨hHeld, (crM HO289 fun _ hk => ⟨hk.1.1, hk.2, hk.1.2.1, hk.1.2.2⟩), (crM HO292 fun _ hk => ⟨hk.1.1, hk.2, hk.1.2.1, hk.1.2.2⟩), (crM HO296 fun _ hk => ⟨hk.1.1.2, hk.1.2, hk.2, hk.1.1.1.2⟩), (crM HO302 fun _ hk => ⟨hk.1.1, hk.1.2.1, hk.2, hk.1.2.2⟩), (crM HO_277000 fun _ hk => ⟨hk.1.1, hk.1.2.1, hk.2, hk.1.2.2⟩), (crb BK276), (crb BK293), (blw HB)⟩)
                          ·
                           skip
                           refine box_step ?hg (N := 9) ?hd (cs := #[.slice none 0 0]) (t := 41) ?hr ?_; (case hd => rfl); (case hg => rfl); (case hr => first | (go_simp; done) | (go_simp; rfl))
                           intro gb306 hg w48 hbox hb
                           replace HO_277000 := rblR HO_277000 hb
                           replace HO289 := rblR HO289 hb
                           replace HO292 := rblR HO292 hb
                           replace HO302 := rblR HO302 hb
                           have BK306 := Aside0.mk (hbox)
                           have GW306 := geh hg HB
                           have GE306 := geh hg HB
                           replace HB := bst HB hb
                           have NB276_306 := nlt hg BK276
                           have NB306_276 := ngt hg BK276
                           replace BK276 := bkb BK276 hb
                           have NB293_306 := nlt hg BK293
                           have NB306_293 := ngt hg BK293
                           replace BK293 := bkb BK293 hb
                           clear hb hbox hg
                           refine hK.out _ _ ((blk_cell BK276.out 0).trans rfl) (fun hHeld => ?_)
                           clear hK K
                           refine norm_ (a' := ?_) ?_ ?_
                           rotate_left
                           ·
                            show Act.put _ (some 9) _ = _
                            simp only [Act.put, List.setIfInBounds_toArray, List.set_cons_zero, List.set_cons_succ, i64_w, i32_w]
                            rfl
                           exact norm_ (by first | (simp only [putAll, Act.put, List.setIfInBounds_toArray, List.set_cons_zero, List.set_cons_succ]; done) | (simp only [putAll, Act.put, List.setIfInBounds_toArray, List.set_cons_zero, List.set_cons_succ]; rfl)) (hJ13_16 (v301, gb306) _ ⟨hHeld, (crR HO289), (crR HO292), (crR HO302), (crR HO_277000), (crb BK276), (crb BK293), (crb BK306), GW306.out, GE306.out, NB276_306.out, NB306_276.out, NB293_306.out, NB306_293.out, (blw HB)⟩)
                        ·
                         skip
                         rintro v295 w47 ⟨hS_, h0_, h1_, h2_, h3_, h4_, h5_, h6_⟩
                         replace HO289 : Aside0 (Kd.R k46 46 w47 w.heap.size (fun k_ => some k_ ≠ (.slice Ao41 y290.length co41 : Value).ownBlock ∧ some k_ ≠ (v295 : Value).ownBlock ∧ some k_ ≠ (.slice Ao9 t273.length co9 : Value).ownBlock) v288 y287) := ⟨h0_⟩
                         replace HO292 : Aside0 (Kd.R k46 46 w47 w.heap.size (fun k_ => some k_ ≠ (v288 : Value).ownBlock ∧ some k_ ≠ (v295 : Value).ownBlock ∧ some k_ ≠ (.slice Ao9 t273.length co9 : Value).ownBlock) (.slice Ao41 y290.length co41) y290) := ⟨h1_⟩
                         have HO296 : Aside0 (Kd.R k46 46 w47 w.heap.size (fun k_ => some k_ ≠ (v288 : Value).ownBlock ∧ some k_ ≠ (.slice Ao41 y290.length co41 : Value).ownBlock ∧ some k_ ≠ (.slice Ao9 t273.length co9 : Value).ownBlock) v295 y294) := ⟨h2_⟩
                         replace HO_277000 : Aside0 (Kd.R k46 46 w47 w.heap.size (fun k_ => some k_ ≠ (v288 : Value).ownBlock ∧ some k_ ≠ (.slice Ao41 y290.length co41 : Value).ownBlock ∧ some k_ ≠ (v295 : Value).ownBlock) (.slice Ao9 t273.length co9) t273) := ⟨h3_⟩
                         replace BK276 : Aside0 (w47.heap[gb276]? = some (.cells #[.slice Ao9 t273.length co9] 41 (0, 0))) := ⟨h4_⟩
                         replace BK293 : Aside0 (w47.heap[gb293]? = some (.cells #[.slice Ao41 y290.length co41] 41 (0, 0))) := ⟨h5_⟩
                         replace HB : Aside0 (Below w.heap.size w w47) := ⟨h6_⟩
                         clear h0_ h1_ h2_ h3_ h4_ h5_ h6_
                         have hHeld : w47.cell? ⟨gb276, 0, none⟩ = some (.slice Ao9 t273.length co9) := hS_
                         refine norm_ (a' := ?_) ?_ ?_
                         rotate_left
                         ·
                          simp only [putAll, Act.put, List.setIfInBounds_toArray, List.set_cons_zero, List.set_cons_succ]
                          rfl
                         refine three_ (i := 3) (j := 13) (k := 16) (Ni := some 60) (Nj := some 70) (Nk := some 9) #[true, true, true, true, true, true, true, true, true, true, true, true, true, false, false, false, false, false] #[true, true, true, false, true, true, true, true, true, true, true, true, true, true, false, false, false, false] #[true, true, true, false, true, true, true, true, true, true, true, true, true, false, false, false, true, false] rfl rfl rfl rfl rfl rfl (three_of HT_.out (by kernel_rfl)) (by decide) (by decide) (by decide) (fun K hK => ?_) (fun K hK => ?_) (fun K hK => ?_)
                         ·
                          skip
                          refine Kd.R_append_rows_step k46 (w0 := w) w.heap.size (by rfl) (.tmp 57) (.tmp 59) 27 46 (.agg #[(.int .i64 0), (.int .i64 0), (.int .i64 0), (.int .i64 0)]) 32 rfl Try.underlying27 info46 rfl (by decide) (by omega) v295 y294 t273 _ _ _ (fun k_ => some k_ ≠ (.slice Ao9 t273.length co9 : Value).ownBlock ∧ some k_ ≠ (v288 : Value).ownBlock ∧ some k_ ≠ (.slice Ao41 y290.length co41 : Value).ownBlock) (fun _ => False) rfl rfl ?aO ?aR (fun _ _ h => h) (fun _ h => h.elim) ?aF ?aB ?aS ?aL ?_
                          (case aR => exact crC (Kd.R_reads' HO_277000.out).2.2)
                          (case aB => exact (blw HB))
                          (case aF => exact (fun k_ hk => ⟨Kd.fresh' (Kd.R_lt (crR HO_277000)) k_ hk, Kd.fresh' (Kd.R_lt (crR HO289)) k_ hk, Kd.fresh' (Kd.R_lt (crR HO292)) k_ hk⟩))
                          (case aO => exact (crM HO296 fun _ hk => ⟨hk.2.2, hk.1, hk.2.1⟩))
                          (case aS => exact (bsz HB))
                          (case aL => have := LMc20.out; omega)
                          intro v298 w48 ho hb hg hat
                          rw [← Ny297.out] at ho
                          replace HO_277000 := Aside0.mk (Kd.R_after (ok := (fun k_ => some k_ ≠ (v288 : Value).ownBlock ∧ some k_ ≠ (.slice Ao41 y290.length co41 : Value).ownBlock)) (crM HO_277000 fun _ hk => ⟨⟨hk.1, hk.2.1⟩, hk.2.2⟩) hg hat)
                          replace BK276 := Aside0.mk (blk_grown (g := gb276) (o := .cells #[.slice Ao9 t273.length co9] 41 (0, 0)) (crb BK276) hg (Kd.R_ne HO296.out BK276.out (by decide)))
                          replace HO289 := Aside0.mk (Kd.R_after (ok := (fun k_ => some k_ ≠ (.slice Ao9 t273.length co9 : Value).ownBlock ∧ some k_ ≠ (.slice Ao41 y290.length co41 : Value).ownBlock)) (crM HO289 fun _ hk => ⟨⟨hk.2.2, hk.1⟩, hk.2.1⟩) hg hat)
                          replace HO292 := Aside0.mk (Kd.R_after (ok := (fun k_ => some k_ ≠ (.slice Ao9 t273.length co9 : Value).ownBlock ∧ some k_ ≠ (v288 : Value).ownBlock)) (crM HO292 fun _ hk => ⟨⟨hk.2.2, hk.1⟩, hk.2.1⟩) hg hat)
                          replace BK293 := Aside0.mk (blk_grown (g := gb293) (o := .cells #[.slice Ao41 y290.length co41] 41 (0, 0)) (crb BK293) hg (Kd.R_ne HO296.out BK293.out (by decide)))
                          replace HB := Aside0.mk (hb)
                          have HO299 := Aside0.mk (ho)
                          clear HO296
                          clear ho hb hg hat
                          refine hK.out _ _ ((blk_cell BK276.out 0).trans rfl) (fun hHeld => ?_)
                          clear hK K
                          refine norm_ (a' := ?_) ?_ ?_
                          rotate_left
                          ·
                           show Act.put _ (some 60) _ = _
                           simp only [Act.put, List.setIfInBounds_toArray, List.set_cons_zero, List.set_cons_succ, i64_w, i32_w]
                           rfl
                          exact norm_ (by first | (simp only [putAll, Act.put, List.setIfInBounds_toArray, List.set_cons_zero, List.set_cons_succ]; done) | (simp only [putAll, Act.put, List.setIfInBounds_toArray, List.set_cons_zero, List.set_cons_succ]; rfl)) (hJ0_3 (v295, v298) _ ⟨hHeld, (crM HO289 fun _ hk => ⟨hk.1.2, hk.2, hk.1.1⟩), (crM HO292 fun _ hk => ⟨hk.1.2, hk.2, hk.1.1⟩), (crM HO299 fun _ hk => ⟨hk.2.1, hk.2.2, hk.1⟩), (crM HO_277000 fun _ hk => ⟨hk.1.1, hk.1.2, hk.2⟩), (crb BK276), (crb BK293), (blw HB)⟩)
                         ·
                          skip
                          refine Kd.R_lit_step k46 _ 46 ?hg (N := 70) ?hd (xs := ([(⟨2, 0, 0, 3⟩ : S46), (⟨3, wrap64 ((t273.length : Int) - 1), (t273.length : Int), 0⟩ : S46)] : List (S46))) (inner := [.int .i64 2, .int .i64 0, .int .i64 0, .int .i64 3, .int .i64 3, .int .i64 (wrap64 ((t273.length : Int) - 1)), .int .i64 (t273.length : Int), .int .i64 0]) (ok := fun _ => True) (okp := fun _ => True) ?hr ?hp (fun _ hk => hk) trivial (Below.refl _ _) (Nat.le_refl _) (by simp) ?_; (case hd => rfl); (case hg => rfl); (case hr => first | (go_simp; done) | (go_simp; rfl)); (case hp => exact (Reps.c4 (show Kd.M k46 _ _ _ (⟨2, 0, 0, 3⟩ : S46) [.int .i64 2, .int .i64 0, .int .i64 0, .int .i64 3] from (k46_mkM _ _ _ (⟨2, 0, 0, 3⟩ : S46) )) (Reps.c4 (show Kd.M k46 _ _ _ (⟨3, wrap64 ((t273.length : Int) - 1), (t273.length : Int), 0⟩ : S46) [.int .i64 3, .int .i64 (wrap64 ((t273.length : Int) - 1)), .int .i64 (t273.length : Int), .int .i64 0] from (k46_mkM _ _ _ (⟨3, wrap64 ((t273.length : Int) - 1), (t273.length : Int), 0⟩ : S46) )) (Reps.none _ _))))
                          intro v301 w48 ho49 hb hg_ hnew_
                          clear hg_ hnew_
                          (first | rw [← Ny300.out] at ho49 | (simp only [Int.reduceToNat] at ho49; rw [← Ny300.out] at ho49))
                          have HO302 := lwR (nwR (nwR (nwR (nwR ho49 HO_277000) HO289) HO292) HO296) HB
                          replace HO_277000 := eldR HO_277000 (Kd.R_base ho49) hb
                          replace HO289 := eldR HO289 (Kd.R_base ho49) hb
                          replace HO292 := eldR HO292 (Kd.R_base ho49) hb
                          replace HO296 := eldR HO296 (Kd.R_base ho49) hb
                          replace BK276 := bkb BK276 hb
                          replace BK293 := bkb BK293 hb
                          replace HB := bst HB hb
                          clear hb ho49
                          refine hK.out _ _ ((blk_cell BK276.out 0).trans rfl) (fun hHeld => ?_)
                          clear hK K
                          refine norm_ (a' := ?_) ?_ ?_
                          rotate_left
                          ·
                           show Act.put _ (some 70) _ = _
                           simp only [Act.put, List.setIfInBounds_toArray, List.set_cons_zero, List.set_cons_succ, i64_w, i32_w]
                           rfl
                          exact norm_ (by first | (simp only [putAll, Act.put, List.setIfInBounds_toArray, List.set_cons_zero, List.set_cons_succ]; done) | (simp only [putAll, Act.put, List.setIfInBounds_toArray, List.set_cons_zero, List.set_cons_succ]; rfl)) (hJ0_13 (v295, v301) _ ⟨hHeld, (crM HO289 fun _ hk => ⟨hk.1.1, hk.1.2.1, hk.2, hk.1.2.2⟩), (crM HO292 fun _ hk => ⟨hk.1.1, hk.1.2.1, hk.2, hk.1.2.2⟩), (crM HO296 fun _ hk => ⟨hk.1.1, hk.1.2.1, hk.2, hk.1.2.2⟩), (crM HO302 fun _ hk => ⟨hk.1.1.2, hk.1.2, hk.2, hk.1.1.1.2⟩), (crM HO_277000 fun _ hk => ⟨hk.1.1, hk.1.2.1, hk.1.2.2, hk.2⟩), (crb BK276), (crb BK293), (blw HB)⟩)
                         ·
                          skip
                          refine box_step ?hg (N := 9) ?hd (cs := #[.slice none 0 0]) (t := 41) ?hr ?_; (case hd => rfl); (case hg => rfl); (case hr => first | (go_simp; done) | (go_simp; rfl))
                          intro gb306 hg w48 hbox hb
                          replace HO_277000 := rblR HO_277000 hb
                          replace HO289 := rblR HO289 hb
                          replace HO292 := rblR HO292 hb
                          replace HO296 := rblR HO296 hb
                          have BK306 := Aside0.mk (hbox)
                          have GW306 := geh hg HB
                          have GE306 := geh hg HB
                          replace HB := bst HB hb
                          have NB276_306 := nlt hg BK276
                          have NB306_276 := ngt hg BK276
                          replace BK276 := bkb BK276 hb
                          have NB293_306 := nlt hg BK293
                          have NB306_293 := ngt hg BK293
                          replace BK293 := bkb BK293 hb
                          clear hb hbox hg
                          refine hK.out _ _ ((blk_cell BK276.out 0).trans rfl) (fun hHeld => ?_)
                          clear hK K
                          refine norm_ (a' := ?_) ?_ ?_
                          rotate_left
                          ·
                           show Act.put _ (some 9) _ = _
                           simp only [Act.put, List.setIfInBounds_toArray, List.set_cons_zero, List.set_cons_succ, i64_w, i32_w]
                           rfl
                          exact norm_ (by first | (simp only [putAll, Act.put, List.setIfInBounds_toArray, List.set_cons_zero, List.set_cons_succ]; done) | (simp only [putAll, Act.put, List.setIfInBounds_toArray, List.set_cons_zero, List.set_cons_succ]; rfl)) (hJ0_16 (v295, gb306) _ ⟨hHeld, (crR HO289), (crR HO292), (crR HO296), (crR HO_277000), (crb BK276), (crb BK293), (crb BK306), GW306.out, GE306.out, NB276_306.out, NB306_276.out, NB293_306.out, NB306_293.out, (blw HB)⟩)
                       ·
                        skip
                        rintro ⟨v301, gb306⟩ w48 ⟨hS_, h0_, h1_, h2_, h3_, h4_, h5_, h6_, h7_, h8_, h9_, h10_, h11_, h12_, h13_⟩
                        replace HO289 : Aside0 (Kd.R k46 46 w48 w.heap.size (fun k_ => some k_ ≠ (.slice Ao41 y290.length co41 : Value).ownBlock ∧ some k_ ≠ (v301 : Value).ownBlock ∧ some k_ ≠ (.slice Ao9 t273.length co9 : Value).ownBlock) v288 y287) := ⟨h0_⟩
                        replace HO292 : Aside0 (Kd.R k46 46 w48 w.heap.size (fun k_ => some k_ ≠ (v288 : Value).ownBlock ∧ some k_ ≠ (v301 : Value).ownBlock ∧ some k_ ≠ (.slice Ao9 t273.length co9 : Value).ownBlock) (.slice Ao41 y290.length co41) y290) := ⟨h1_⟩
                        have HO302 : Aside0 (Kd.R k46 46 w48 w.heap.size (fun k_ => some k_ ≠ (v288 : Value).ownBlock ∧ some k_ ≠ (.slice Ao41 y290.length co41 : Value).ownBlock ∧ some k_ ≠ (.slice Ao9 t273.length co9 : Value).ownBlock) v301 y300) := ⟨h2_⟩
                        replace HO_277000 : Aside0 (Kd.R k46 46 w48 w.heap.size (fun k_ => some k_ ≠ (v288 : Value).ownBlock ∧ some k_ ≠ (.slice Ao41 y290.length co41 : Value).ownBlock ∧ some k_ ≠ (v301 : Value).ownBlock) (.slice Ao9 t273.length co9) t273) := ⟨h3_⟩
                        replace BK276 : Aside0 (w48.heap[gb276]? = some (.cells #[.slice Ao9 t273.length co9] 41 (0, 0))) := ⟨h4_⟩
                        replace BK293 : Aside0 (w48.heap[gb293]? = some (.cells #[.slice Ao41 y290.length co41] 41 (0, 0))) := ⟨h5_⟩
                        have BK306 : Aside0 (w48.heap[gb306]? = some (.cells #[.slice none 0 0] 41 (0, 0))) := ⟨h6_⟩
                        have GW306 : Aside0 (w.heap.size ≤ gb306) := ⟨h7_⟩
                        have GE306 : Aside0 (w.heap.size ≤ gb306) := ⟨h8_⟩
                        have NB276_306 : Aside0 (gb276 ≠ gb306) := ⟨h9_⟩
                        have NB306_276 : Aside0 (gb306 ≠ gb276) := ⟨h10_⟩
                        have NB293_306 : Aside0 (gb293 ≠ gb306) := ⟨h11_⟩
                        have NB306_293 : Aside0 (gb306 ≠ gb293) := ⟨h12_⟩
                        replace HB : Aside0 (Below w.heap.size w w48) := ⟨h13_⟩
                        clear h0_ h1_ h2_ h3_ h4_ h5_ h6_ h7_ h8_ h9_ h10_ h11_ h12_ h13_
                        have hHeld : w48.cell? ⟨gb276, 0, none⟩ = some (.slice Ao9 t273.length co9) := hS_
                        refine norm_ (a' := ?_) ?_ ?_
                        rotate_left
                        ·
                         simp only [putAll, Act.put, List.setIfInBounds_toArray, List.set_cons_zero, List.set_cons_succ]
                         rfl
                        refine one_ (i := 0) (N := some 57) #[true, true, true, false, true, true, true, true, true, true, true, true, true, true, false, false, true, false] rfl rfl (one_of HT_.out (by kernel_rfl)) (by decide) (fun K hK => ?_)
                        refine Kd.R_lit_step k46 _ 46 ?hg (N := 57) ?hd (xs := ([] : List (S46))) (inner := []) (ok := fun _ => True) (okp := fun _ => True) ?hr ?hp (fun _ hk => hk) trivial (Below.refl _ _) (Nat.le_refl _) (by simp) ?_; (case hd => rfl); (case hg => rfl); (case hr => first | (go_simp; done) | (go_simp; rfl)); (case hp => exact (Reps.none _ _))
                        intro v295 w49 ho50 hb hg_ hnew_
                        clear hg_ hnew_
                        (first | rw [← Ny294.out] at ho50 | (simp only [Int.reduceToNat] at ho50; rw [← Ny294.out] at ho50))
                        have HO296 := lwR (nwR (nwR (nwR (nwR ho50 HO_277000) HO289) HO292) HO302) HB
                        replace HO_277000 := eldR HO_277000 (Kd.R_base ho50) hb
                        replace HO289 := eldR HO289 (Kd.R_base ho50) hb
                        replace HO292 := eldR HO292 (Kd.R_base ho50) hb
                        replace HO302 := eldR HO302 (Kd.R_base ho50) hb
                        replace BK276 := bkb BK276 hb
                        replace BK293 := bkb BK293 hb
                        replace BK306 := bkb BK306 hb
                        replace HB := bst HB hb
                        clear hb ho50
                        refine hK.out _ _ ((blk_cell BK276.out 0).trans rfl) (fun hHeld => ?_)
                        clear hK K
                        refine norm_ (a' := ?_) ?_ ?_
                        rotate_left
                        ·
                         show Act.put _ (some 57) _ = _
                         simp only [Act.put, List.setIfInBounds_toArray, List.set_cons_zero, List.set_cons_succ, i64_w, i32_w]
                         rfl
                        exact norm_ (by first | (simp only [putAll, Act.put, List.setIfInBounds_toArray, List.set_cons_zero, List.set_cons_succ]; done) | (simp only [putAll, Act.put, List.setIfInBounds_toArray, List.set_cons_zero, List.set_cons_succ]; rfl)) (hJ0_13_16 (v295, v301, gb306) _ ⟨hHeld, (crM HO289 fun _ hk => ⟨hk.1.1, hk.2, hk.1.2.1, hk.1.2.2⟩), (crM HO292 fun _ hk => ⟨hk.1.1, hk.2, hk.1.2.1, hk.1.2.2⟩), (crM HO296 fun _ hk => ⟨hk.1.1.2, hk.1.2, hk.2, hk.1.1.1.2⟩), (crM HO302 fun _ hk => ⟨hk.1.1, hk.1.2.1, hk.2, hk.1.2.2⟩), (crM HO_277000 fun _ hk => ⟨hk.1.1, hk.1.2.1, hk.2, hk.1.2.2⟩), (crb BK276), (crb BK293), (crb BK306), GW306.out, GE306.out, NB276_306.out, NB306_276.out, NB293_306.out, NB306_293.out, (blw HB)⟩)
                      ·
                       skip
                       rintro ⟨v295, gb306⟩ w48 ⟨hS_, h0_, h1_, h2_, h3_, h4_, h5_, h6_, h7_, h8_, h9_, h10_, h11_, h12_, h13_⟩
                       replace HO289 : Aside0 (Kd.R k46 46 w48 w.heap.size (fun k_ => some k_ ≠ (.slice Ao41 y290.length co41 : Value).ownBlock ∧ some k_ ≠ (v295 : Value).ownBlock ∧ some k_ ≠ (.slice Ao9 t273.length co9 : Value).ownBlock) v288 y287) := ⟨h0_⟩
                       replace HO292 : Aside0 (Kd.R k46 46 w48 w.heap.size (fun k_ => some k_ ≠ (v288 : Value).ownBlock ∧ some k_ ≠ (v295 : Value).ownBlock ∧ some k_ ≠ (.slice Ao9 t273.length co9 : Value).ownBlock) (.slice Ao41 y290.length co41) y290) := ⟨h1_⟩
                       have HO296 : Aside0 (Kd.R k46 46 w48 w.heap.size (fun k_ => some k_ ≠ (v288 : Value).ownBlock ∧ some k_ ≠ (.slice Ao41 y290.length co41 : Value).ownBlock ∧ some k_ ≠ (.slice Ao9 t273.length co9 : Value).ownBlock) v295 y294) := ⟨h2_⟩
                       replace HO_277000 : Aside0 (Kd.R k46 46 w48 w.heap.size (fun k_ => some k_ ≠ (v288 : Value).ownBlock ∧ some k_ ≠ (.slice Ao41 y290.length co41 : Value).ownBlock ∧ some k_ ≠ (v295 : Value).ownBlock) (.slice Ao9 t273.length co9) t273) := ⟨h3_⟩
                       replace BK276 : Aside0 (w48.heap[gb276]? = some (.cells #[.slice Ao9 t273.length co9] 41 (0, 0))) := ⟨h4_⟩
                       replace BK293 : Aside0 (w48.heap[gb293]? = some (.cells #[.slice Ao41 y290.length co41] 41 (0, 0))) := ⟨h5_⟩
                       have BK306 : Aside0 (w48.heap[gb306]? = some (.cells #[.slice none 0 0] 41 (0, 0))) := ⟨h6_⟩
                       have GW306 : Aside0 (w.heap.size ≤ gb306) := ⟨h7_⟩
                       have GE306 : Aside0 (w.heap.size ≤ gb306) := ⟨h8_⟩
                       have NB276_306 : Aside0 (gb276 ≠ gb306) := ⟨h9_⟩
                       have NB306_276 : Aside0 (gb306 ≠ gb276) := ⟨h10_⟩
                       have NB293_306 : Aside0 (gb293 ≠ gb306) := ⟨h11_⟩
                       have NB306_293 : Aside0 (gb306 ≠ gb293) := ⟨h12_⟩
                       replace HB : Aside0 (Below w.heap.size w w48) := ⟨h13_⟩
                       clear h0_ h1_ h2_ h3_ h4_ h5_ h6_ h7_ h8_ h9_ h10_ h11_ h12_ h13_
                       have hHeld : w48.cell? ⟨gb276, 0, none⟩ = some (.slice Ao9 t273.length co9) := hS_
                       refine norm_ (a' := ?_) ?_ ?_
                       rotate_left
                       ·
                        simp only [putAll, Act.put, List.setIfInBounds_toArray, List.set_cons_zero, List.set_cons_succ]
                        rfl
                       refine two_ (i := 3) (j := 13) (Ni := some 60) (Nj := some 70) #[true, true, true, true, true, true, true, true, true, true, true, true, true, false, false, false, true, false] #[true, true, true, false, true, true, true, true, true, true, true, true, true, true, false, false, true, false] rfl rfl rfl rfl (two_of HT_.out (by kernel_rfl)) (by decide) (by decide) (fun K hK => ?_) (fun K hK => ?_)
                       ·
                        skip
                        refine Kd.R_append_rows_step k46 (w0 := w) w.heap.size (by rfl) (.tmp 57) (.tmp 59) 27 46 (.agg #[(.int .i64 0), (.int .i64 0), (.int .i64 0), (.int .i64 0)]) 32 rfl Try.underlying27 info46 rfl (by decide) (by omega) v295 y294 t273 _ _ _ (fun k_ => some k_ ≠ (.slice Ao9 t273.length co9 : Value).ownBlock ∧ some k_ ≠ (v288 : Value).ownBlock ∧ some k_ ≠ (.slice Ao41 y290.length co41 : Value).ownBlock) (fun _ => False) rfl rfl ?aO ?aR (fun _ _ h => h) (fun _ h => h.elim) ?aF ?aB ?aS ?aL ?_
                        (case aR => exact crC (Kd.R_reads' HO_277000.out).2.2)
                        (case aB => exact (blw HB))
                        (case aF => exact (fun k_ hk => ⟨Kd.fresh' (Kd.R_lt (crR HO_277000)) k_ hk, Kd.fresh' (Kd.R_lt (crR HO289)) k_ hk, Kd.fresh' (Kd.R_lt (crR HO292)) k_ hk⟩))
                        (case aO => exact (crM HO296 fun _ hk => ⟨hk.2.2, hk.1, hk.2.1⟩))
                        (case aS => exact (bsz HB))
                        (case aL => have := LMc20.out; omega)
                        intro v298 w49 ho hb hg hat
                        rw [← Ny297.out] at ho
                        replace HO_277000 := Aside0.mk (Kd.R_after (ok := (fun k_ => some k_ ≠ (v288 : Value).ownBlock ∧ some k_ ≠ (.slice Ao41 y290.length co41 : Value).ownBlock)) (crM HO_277000 fun _ hk => ⟨⟨hk.1, hk.2.1⟩, hk.2.2⟩) hg hat)
                        replace BK276 := Aside0.mk (blk_grown (g := gb276) (o := .cells #[.slice Ao9 t273.length co9] 41 (0, 0)) (crb BK276) hg (Kd.R_ne HO296.out BK276.out (by decide)))
                        replace HO289 := Aside0.mk (Kd.R_after (ok := (fun k_ => some k_ ≠ (.slice Ao9 t273.length co9 : Value).ownBlock ∧ some k_ ≠ (.slice Ao41 y290.length co41 : Value).ownBlock)) (crM HO289 fun _ hk => ⟨⟨hk.2.2, hk.1⟩, hk.2.1⟩) hg hat)
                        replace HO292 := Aside0.mk (Kd.R_after (ok := (fun k_ => some k_ ≠ (.slice Ao9 t273.length co9 : Value).ownBlock ∧ some k_ ≠ (v288 : Value).ownBlock)) (crM HO292 fun _ hk => ⟨⟨hk.2.2, hk.1⟩, hk.2.1⟩) hg hat)
                        replace BK293 := Aside0.mk (blk_grown (g := gb293) (o := .cells #[.slice Ao41 y290.length co41] 41 (0, 0)) (crb BK293) hg (Kd.R_ne HO296.out BK293.out (by decide)))
                        replace BK306 := Aside0.mk (blk_grown (g := gb306) (o := .cells #[.slice none 0 0] 41 (0, 0)) (crb BK306) hg (Kd.R_ne HO296.out BK306.out (by decide)))
                        replace HB := Aside0.mk (hb)
                        have HO299 := Aside0.mk (ho)
                        clear HO296
                        clear ho hb hg hat
                        refine hK.out _ _ ((blk_cell BK276.out 0).trans rfl) (fun hHeld => ?_)
                        clear hK K
                        refine norm_ (a' := ?_) ?_ ?_
                        rotate_left
                        ·
                         show Act.put _ (some 60) _ = _
                         simp only [Act.put, List.setIfInBounds_toArray, List.set_cons_zero, List.set_cons_succ, i64_w, i32_w]
                         rfl
                        exact norm_ (by first | (simp only [putAll, Act.put, List.setIfInBounds_toArray, List.set_cons_zero, List.set_cons_succ]; done) | (simp only [putAll, Act.put, List.setIfInBounds_toArray, List.set_cons_zero, List.set_cons_succ]; rfl)) (hJ0_3_16 (v295, v298, gb306) _ ⟨hHeld, (crM HO289 fun _ hk => ⟨hk.1.2, hk.2, hk.1.1⟩), (crM HO292 fun _ hk => ⟨hk.1.2, hk.2, hk.1.1⟩), (crM HO299 fun _ hk => ⟨hk.2.1, hk.2.2, hk.1⟩), (crM HO_277000 fun _ hk => ⟨hk.1.1, hk.1.2, hk.2⟩), (crb BK276), (crb BK293), (crb BK306), GW306.out, GE306.out, NB276_306.out, NB306_276.out, NB293_306.out, NB306_293.out, (blw HB)⟩)
                       ·
                        skip
                        refine Kd.R_lit_step k46 _ 46 ?hg (N := 70) ?hd (xs := ([(⟨2, 0, 0, 3⟩ : S46), (⟨3, wrap64 ((t273.length : Int) - 1), (t273.length : Int), 0⟩ : S46)] : List (S46))) (inner := [.int .i64 2, .int .i64 0, .int .i64 0, .int .i64 3, .int .i64 3, .int .i64 (wrap64 ((t273.length : Int) - 1)), .int .i64 (t273.length : Int), .int .i64 0]) (ok := fun _ => True) (okp := fun _ => True) ?hr ?hp (fun _ hk => hk) trivial (Below.refl _ _) (Nat.le_refl _) (by simp) ?_; (case hd => rfl); (case hg => rfl); (case hr => first | (go_simp; done) | (go_simp; rfl)); (case hp => exact (Reps.c4 (show Kd.M k46 _ _ _ (⟨2, 0, 0, 3⟩ : S46) [.int .i64 2, .int .i64 0, .int .i64 0, .int .i64 3] from (k46_mkM _ _ _ (⟨2, 0, 0, 3⟩ : S46) )) (Reps.c4 (show Kd.M k46 _ _ _ (⟨3, wrap64 ((t273.length : Int) - 1), (t273.length : Int), 0⟩ : S46) [.int .i64 3, .int .i64 (wrap64 ((t273.length : Int) - 1)), .int .i64 (t273.length : Int), .int .i64 0] from (k46_mkM _ _ _ (⟨3, wrap64 ((t273.length : Int) - 1), (t273.length : Int), 0⟩ : S46) )) (Reps.none _ _))))
                        intro v301 w49 ho50 hb hg_ hnew_
                        clear hg_ hnew_
                        (first | rw [← Ny300.out] at ho50 | (simp only [Int.reduceToNat] at ho50; rw [← Ny300.out] at ho50))
                        have HO302 := lwR (nwR (nwR (nwR (nwR ho50 HO_277000) HO289) HO292) HO296) HB
                        replace HO_277000 := eldR HO_277000 (Kd.R_base ho50) hb
                        replace HO289 := eldR HO289 (Kd.R_base ho50) hb
                        replace HO292 := eldR HO292 (Kd.R_base ho50) hb
                        replace HO296 := eldR HO296 (Kd.R_base ho50) hb
                        replace BK276 := bkb BK276 hb
                        replace BK293 := bkb BK293 hb
                        replace BK306 := bkb BK306 hb
                        replace HB := bst HB hb
                        clear hb ho50
                        refine hK.out _ _ ((blk_cell BK276.out 0).trans rfl) (fun hHeld => ?_)
                        clear hK K
                        refine norm_ (a' := ?_) ?_ ?_
                        rotate_left
                        ·
                         show Act.put _ (some 70) _ = _
                         simp only [Act.put, List.setIfInBounds_toArray, List.set_cons_zero, List.set_cons_succ, i64_w, i32_w]
                         rfl
                        exact norm_ (by first | (simp only [putAll, Act.put, List.setIfInBounds_toArray, List.set_cons_zero, List.set_cons_succ]; done) | (simp only [putAll, Act.put, List.setIfInBounds_toArray, List.set_cons_zero, List.set_cons_succ]; rfl)) (hJ0_13_16 (v295, v301, gb306) _ ⟨hHeld, (crM HO289 fun _ hk => ⟨hk.1.1, hk.1.2.1, hk.2, hk.1.2.2⟩), (crM HO292 fun _ hk => ⟨hk.1.1, hk.1.2.1, hk.2, hk.1.2.2⟩), (crM HO296 fun _ hk => ⟨hk.1.1, hk.1.2.1, hk.2, hk.1.2.2⟩), (crM HO302 fun _ hk => ⟨hk.1.1.2, hk.1.2, hk.2, hk.1.1.1.2⟩), (crM HO_277000 fun _ hk => ⟨hk.1.1, hk.1.2.1, hk.1.2.2, hk.2⟩), (crb BK276), (crb BK293), (crb BK306), GW306.out, GE306.out, NB276_306.out, NB306_276.out, NB293_306.out, NB306_293.out, (blw HB)⟩)
                     ·
                      skip
                      rintro ⟨v295, v301⟩ w49 ⟨hS_, h0_, h1_, h2_, h3_, h4_, h5_, h6_, h7_⟩
                      replace HO289 : Aside0 (Kd.R k46 46 w49 w.heap.size (fun k_ => some k_ ≠ (.slice Ao41 y290.length co41 : Value).ownBlock ∧ some k_ ≠ (v295 : Value).ownBlock ∧ some k_ ≠ (v301 : Value).ownBlock ∧ some k_ ≠ (.slice Ao9 t273.length co9 : Value).ownBlock) v288 y287) := ⟨h0_⟩
                      replace HO292 : Aside0 (Kd.R k46 46 w49 w.heap.size (fun k_ => some k_ ≠ (v288 : Value).ownBlock ∧ some k_ ≠ (v295 : Value).ownBlock ∧ some k_ ≠ (v301 : Value).ownBlock ∧ some k_ ≠ (.slice Ao9 t273.length co9 : Value).ownBlock) (.slice Ao41 y290.length co41) y290) := ⟨h1_⟩
                      have HO296 : Aside0 (Kd.R k46 46 w49 w.heap.size (fun k_ => some k_ ≠ (v288 : Value).ownBlock ∧ some k_ ≠ (.slice Ao41 y290.length co41 : Value).ownBlock ∧ some k_ ≠ (v301 : Value).ownBlock ∧ some k_ ≠ (.slice Ao9 t273.length co9 : Value).ownBlock) v295 y294) := ⟨h2_⟩
                      have HO302 : Aside0 (Kd.R k46 46 w49 w.heap.size (fun k_ => some k_ ≠ (v288 : Value).ownBlock ∧ some k_ ≠ (.slice Ao41 y290.length co41 : Value).ownBlock ∧ some k_ ≠ (v295 : Value).ownBlock ∧ some k_ ≠ (.slice Ao9 t273.length co9 : Value).ownBlock) v301 y300) := ⟨h3_⟩
                      replace HO_277000 : Aside0 (Kd.R k46 46 w49 w.heap.size (fun k_ => some k_ ≠ (v288 : Value).ownBlock ∧ some k_ ≠ (.slice Ao41 y290.length co41 : Value).ownBlock ∧ some k_ ≠ (v295 : Value).ownBlock ∧ some k_ ≠ (v301 : Value).ownBlock) (.slice Ao9 t273.length co9) t273) := ⟨h4_⟩
                      replace BK276 : Aside0 (w49.heap[gb276]? = some (.cells #[.slice Ao9 t273.length co9] 41 (0, 0))) := ⟨h5_⟩
                      replace BK293 : Aside0 (w49.heap[gb293]? = some (.cells #[.slice Ao41 y290.length co41] 41 (0, 0))) := ⟨h6_⟩
                      replace HB : Aside0 (Below w.heap.size w w49) := ⟨h7_⟩
                      clear h0_ h1_ h2_ h3_ h4_ h5_ h6_ h7_
                      have hHeld : w49.cell? ⟨gb276, 0, none⟩ = some (.slice Ao9 t273.length co9) := hS_
                      refine norm_ (a' := ?_) ?_ ?_
                      rotate_left
                      ·
                       simp only [putAll, Act.put, List.setIfInBounds_toArray, List.set_cons_zero, List.set_cons_succ]
                       rfl
                      refine two_ (i := 3) (j := 16) (Ni := some 60) (Nj := some 9) #[true, true, true, true, true, true, true, true, true, true, true, true, true, true, false, false, false, false] #[true, true, true, false, true, true, true, true, true, true, true, true, true, true, false, false, true, false] rfl rfl rfl rfl (two_of HT_.out (by kernel_rfl)) (by decide) (by decide) (fun K hK => ?_) (fun K hK => ?_)
                      ·
                       skip
                       refine Kd.R_append_rows_step k46 (w0 := w) w.heap.size (by rfl) (.tmp 57) (.tmp 59) 27 46 (.agg #[(.int .i64 0), (.int .i64 0), (.int .i64 0), (.int .i64 0)]) 32 rfl Try.underlying27 info46 rfl (by decide) (by omega) v295 y294 t273 _ _ _ (fun k_ => some k_ ≠ (.slice Ao9 t273.length co9 : Value).ownBlock ∧ some k_ ≠ (v288 : Value).ownBlock ∧ some k_ ≠ (.slice Ao41 y290.length co41 : Value).ownBlock ∧ some k_ ≠ (v301 : Value).ownBlock) (fun _ => False) rfl rfl ?aO ?aR (fun _ _ h => h) (fun _ h => h.elim) ?aF ?aB ?aS ?aL ?_
                       (case aR => exact crC (Kd.R_reads' HO_277000.out).2.2)
                       (case aB => exact (blw HB))
                       (case aF => exact (fun k_ hk => ⟨Kd.fresh' (Kd.R_lt (crR HO_277000)) k_ hk, Kd.fresh' (Kd.R_lt (crR HO289)) k_ hk, Kd.fresh' (Kd.R_lt (crR HO292)) k_ hk, Kd.fresh' (Kd.R_lt (crR HO302)) k_ hk⟩))
                       (case aO => exact (crM HO296 fun _ hk => ⟨hk.2.2.2, hk.1, hk.2.1, hk.2.2.1⟩))
                       (case aS => exact (bsz HB))
                       (case aL => have := LMc20.out; omega)
                       intro v298 w50 ho hb hg hat
                       rw [← Ny297.out] at ho
                       replace HO_277000 := Aside0.mk (Kd.R_after (ok := (fun k_ => some k_ ≠ (v288 : Value).ownBlock ∧ some k_ ≠ (.slice Ao41 y290.length co41 : Value).ownBlock ∧ some k_ ≠ (v301 : Value).ownBlock)) (crM HO_277000 fun _ hk => ⟨⟨hk.1, hk.2.1, hk.2.2.2⟩, hk.2.2.1⟩) hg hat)
                       replace BK276 := Aside0.mk (blk_grown (g := gb276) (o := .cells #[.slice Ao9 t273.length co9] 41 (0, 0)) (crb BK276) hg (Kd.R_ne HO296.out BK276.out (by decide)))
                       replace HO289 := Aside0.mk (Kd.R_after (ok := (fun k_ => some k_ ≠ (.slice Ao9 t273.length co9 : Value).ownBlock ∧ some k_ ≠ (.slice Ao41 y290.length co41 : Value).ownBlock ∧ some k_ ≠ (v301 : Value).ownBlock)) (crM HO289 fun _ hk => ⟨⟨hk.2.2.2, hk.1, hk.2.2.1⟩, hk.2.1⟩) hg hat)
                       replace HO292 := Aside0.mk (Kd.R_after (ok := (fun k_ => some k_ ≠ (.slice Ao9 t273.length co9 : Value).ownBlock ∧ some k_ ≠ (v288 : Value).ownBlock ∧ some k_ ≠ (v301 : Value).ownBlock)) (crM HO292 fun _ hk => ⟨⟨hk.2.2.2, hk.1, hk.2.2.1⟩, hk.2.1⟩) hg hat)
                       replace BK293 := Aside0.mk (blk_grown (g := gb293) (o := .cells #[.slice Ao41 y290.length co41] 41 (0, 0)) (crb BK293) hg (Kd.R_ne HO296.out BK293.out (by decide)))
                       replace HO302 := Aside0.mk (Kd.R_after (ok := (fun k_ => some k_ ≠ (.slice Ao9 t273.length co9 : Value).ownBlock ∧ some k_ ≠ (v288 : Value).ownBlock ∧ some k_ ≠ (.slice Ao41 y290.length co41 : Value).ownBlock)) (crM HO302 fun _ hk => ⟨⟨hk.2.2.2, hk.1, hk.2.1⟩, hk.2.2.1⟩) hg hat)
                       replace HB := Aside0.mk (hb)
                       have HO299 := Aside0.mk (ho)
                       clear HO296
                       clear ho hb hg hat
                       refine hK.out _ _ ((blk_cell BK276.out 0).trans rfl) (fun hHeld => ?_)
                       clear hK K
                       refine norm_ (a' := ?_) ?_ ?_
                       rotate_left
                       ·
                        show Act.put _ (some 60) _ = _
                        simp only [Act.put, List.setIfInBounds_toArray, List.set_cons_zero, List.set_cons_succ, i64_w, i32_w]
                        rfl
                       exact norm_ (by first | (simp only [putAll, Act.put, List.setIfInBounds_toArray, List.set_cons_zero, List.set_cons_succ]; done) | (simp only [putAll, Act.put, List.setIfInBounds_toArray, List.set_cons_zero, List.set_cons_succ]; rfl)) (hJ0_3_13 (v295, v298, v301) _ ⟨hHeld, (crM HO289 fun _ hk => ⟨hk.1.2.1, hk.2, hk.1.2.2, hk.1.1⟩), (crM HO292 fun _ hk => ⟨hk.1.2.1, hk.2, hk.1.2.2, hk.1.1⟩), (crM HO299 fun _ hk => ⟨hk.2.1, hk.2.2.1, hk.2.2.2, hk.1⟩), (crM HO302 fun _ hk => ⟨hk.1.2.1, hk.1.2.2, hk.2, hk.1.1⟩), (crM HO_277000 fun _ hk => ⟨hk.1.1, hk.1.2.1, hk.2, hk.1.2.2⟩), (crb BK276), (crb BK293), (blw HB)⟩)
                      ·
                       skip
                       refine box_step ?hg (N := 9) ?hd (cs := #[.slice none 0 0]) (t := 41) ?hr ?_; (case hd => rfl); (case hg => rfl); (case hr => first | (go_simp; done) | (go_simp; rfl))
                       intro gb306 hg w50 hbox hb
                       replace HO_277000 := rblR HO_277000 hb
                       replace HO289 := rblR HO289 hb
                       replace HO292 := rblR HO292 hb
                       replace HO296 := rblR HO296 hb
                       replace HO302 := rblR HO302 hb
                       have BK306 := Aside0.mk (hbox)
                       have GW306 := geh hg HB
                       have GE306 := geh hg HB
                       replace HB := bst HB hb
                       have NB276_306 := nlt hg BK276
                       have NB306_276 := ngt hg BK276
                       replace BK276 := bkb BK276 hb
                       have NB293_306 := nlt hg BK293
                       have NB306_293 := ngt hg BK293
                       replace BK293 := bkb BK293 hb
                       clear hb hbox hg
                       refine hK.out _ _ ((blk_cell BK276.out 0).trans rfl) (fun hHeld => ?_)
                       clear hK K
                       refine norm_ (a' := ?_) ?_ ?_
                       rotate_left
                       ·
                        show Act.put _ (some 9) _ = _
                        simp only [Act.put, List.setIfInBounds_toArray, List.set_cons_zero, List.set_cons_succ, i64_w, i32_w]
                        rfl
                       exact norm_ (by first | (simp only [putAll, Act.put, List.setIfInBounds_toArray, List.set_cons_zero, List.set_cons_succ]; done) | (simp only [putAll, Act.put, List.setIfInBounds_toArray, List.set_cons_zero, List.set_cons_succ]; rfl)) (hJ0_13_16 (v295, v301, gb306) _ ⟨hHeld, (crR HO289), (crR HO292), (crR HO296), (crR HO302), (crR HO_277000), (crb BK276), (crb BK293), (crb BK306), GW306.out, GE306.out, NB276_306.out, NB306_276.out, NB293_306.out, NB306_293.out, (blw HB)⟩)
                    ·
                     skip
                     rintro ⟨v295, v298⟩ w48 ⟨hS_, h0_, h1_, h2_, h3_, h4_, h5_, h6_⟩
                     replace HO289 : Aside0 (Kd.R k46 46 w48 w.heap.size (fun k_ => some k_ ≠ (.slice Ao41 y290.length co41 : Value).ownBlock ∧ some k_ ≠ (v298 : Value).ownBlock ∧ some k_ ≠ (.slice Ao9 t273.length co9 : Value).ownBlock) v288 y287) := ⟨h0_⟩
                     replace HO292 : Aside0 (Kd.R k46 46 w48 w.heap.size (fun k_ => some k_ ≠ (v288 : Value).ownBlock ∧ some k_ ≠ (v298 : Value).ownBlock ∧ some k_ ≠ (.slice Ao9 t273.length co9 : Value).ownBlock) (.slice Ao41 y290.length co41) y290) := ⟨h1_⟩
                     have HO299 : Aside0 (Kd.R k46 46 w48 w.heap.size (fun k_ => some k_ ≠ (v288 : Value).ownBlock ∧ some k_ ≠ (.slice Ao41 y290.length co41 : Value).ownBlock ∧ some k_ ≠ (.slice Ao9 t273.length co9 : Value).ownBlock) v298 y297) := ⟨h2_⟩
                     replace HO_277000 : Aside0 (Kd.R k46 46 w48 w.heap.size (fun k_ => some k_ ≠ (v288 : Value).ownBlock ∧ some k_ ≠ (.slice Ao41 y290.length co41 : Value).ownBlock ∧ some k_ ≠ (v298 : Value).ownBlock) (.slice Ao9 t273.length co9) t273) := ⟨h3_⟩
                     replace BK276 : Aside0 (w48.heap[gb276]? = some (.cells #[.slice Ao9 t273.length co9] 41 (0, 0))) := ⟨h4_⟩
                     replace BK293 : Aside0 (w48.heap[gb293]? = some (.cells #[.slice Ao41 y290.length co41] 41 (0, 0))) := ⟨h5_⟩
                     replace HB : Aside0 (Below w.heap.size w w48) := ⟨h6_⟩
                     clear h0_ h1_ h2_ h3_ h4_ h5_ h6_
                     have hHeld : w48.cell? ⟨gb276, 0, none⟩ = some (.slice Ao9 t273.length co9) := hS_
                     refine norm_ (a' := ?_) ?_ ?_
                     rotate_left
                     ·
                      simp only [putAll, Act.put, List.setIfInBounds_toArray, List.set_cons_zero, List.set_cons_succ]
                      rfl
                     refine two_ (i := 13) (j := 16) (Ni := some 70) (Nj := some 9) #[true, true, true, true, true, true, true, true, true, true, true, true, true, true, false, false, false, false] #[true, true, true, true, true, true, true, true, true, true, true, true, true, false, false, false, true, false] rfl rfl rfl rfl (two_of HT_.out (by kernel_rfl)) (by decide) (by decide) (fun K hK => ?_) (fun K hK => ?_)
                     ·
                      skip
                      refine Kd.R_lit_step k46 _ 46 ?hg (N := 70) ?hd (xs := ([(⟨2, 0, 0, 3⟩ : S46), (⟨3, wrap64 ((t273.length : Int) - 1), (t273.length : Int), 0⟩ : S46)] : List (S46))) (inner := [.int .i64 2, .int .i64 0, .int .i64 0, .int .i64 3, .int .i64 3, .int .i64 (wrap64 ((t273.length : Int) - 1)), .int .i64 (t273.length : Int), .int .i64 0]) (ok := fun _ => True) (okp := fun _ => True) ?hr ?hp (fun _ hk => hk) trivial (Below.refl _ _) (Nat.le_refl _) (by simp) ?_; (case hd => rfl); (case hg => rfl); (case hr => first | (go_simp; done) | (go_simp; rfl)); (case hp => exact (Reps.c4 (show Kd.M k46 _ _ _ (⟨2, 0, 0, 3⟩ : S46) [.int .i64 2, .int .i64 0, .int .i64 0, .int .i64 3] from (k46_mkM _ _ _ (⟨2, 0, 0, 3⟩ : S46) )) (Reps.c4 (show Kd.M k46 _ _ _ (⟨3, wrap64 ((t273.length : Int) - 1), (t273.length : Int), 0⟩ : S46) [.int .i64 3, .int .i64 (wrap64 ((t273.length : Int) - 1)), .int .i64 (t273.length : Int), .int .i64 0] from (k46_mkM _ _ _ (⟨3, wrap64 ((t273.length : Int) - 1), (t273.length : Int), 0⟩ : S46) )) (Reps.none _ _))))
                      intro v301 w49 ho50 hb hg_ hnew_
                      clear hg_ hnew_
                      (first | rw [← Ny300.out] at ho50 | (simp only [Int.reduceToNat] at ho50; rw [← Ny300.out] at ho50))
                      have HO302 := lwR (nwR (nwR (nwR (nwR ho50 HO_277000) HO289) HO292) HO299) HB
                      replace HO_277000 := eldR HO_277000 (Kd.R_base ho50) hb
                      replace HO289 := eldR HO289 (Kd.R_base ho50) hb
                      replace HO292 := eldR HO292 (Kd.R_base ho50) hb
                      replace HO299 := eldR HO299 (Kd.R_base ho50) hb
                      replace BK276 := bkb BK276 hb
                      replace BK293 := bkb BK293 hb
                      replace HB := bst HB hb
                      clear hb ho50
                      refine hK.out _ _ ((blk_cell BK276.out 0).trans rfl) (fun hHeld => ?_)
                      clear hK K
                      refine norm_ (a' := ?_) ?_ ?_
                      rotate_left
                      ·
                       show Act.put _ (some 70) _ = _
                       simp only [Act.put, List.setIfInBounds_toArray, List.set_cons_zero, List.set_cons_succ, i64_w, i32_w]
                       rfl
                      exact norm_ (by first | (simp only [putAll, Act.put, List.setIfInBounds_toArray, List.set_cons_zero, List.set_cons_succ]; done) | (simp only [putAll, Act.put, List.setIfInBounds_toArray, List.set_cons_zero, List.set_cons_succ]; rfl)) (hJ0_3_13 (v295, v298, v301) _ ⟨hHeld, (crM HO289 fun _ hk => ⟨hk.1.1, hk.1.2.1, hk.2, hk.1.2.2⟩), (crM HO292 fun _ hk => ⟨hk.1.1, hk.1.2.1, hk.2, hk.1.2.2⟩), (crM HO299 fun _ hk => ⟨hk.1.1, hk.1.2.1, hk.2, hk.1.2.2⟩), (crM HO302 fun _ hk => ⟨hk.1.1.2, hk.1.2, hk.2, hk.1.1.1.2⟩), (crM HO_277000 fun _ hk => ⟨hk.1.1, hk.1.2.1, hk.1.2.2, hk.2⟩), (crb BK276), (crb BK293), (blw HB)⟩)
                     ·
                      skip
                      refine box_step ?hg (N := 9) ?hd (cs := #[.slice none 0 0]) (t := 41) ?hr ?_; (case hd => rfl); (case hg => rfl); (case hr => first | (go_simp; done) | (go_simp; rfl))
                      intro gb306 hg w49 hbox hb
                      replace HO_277000 := rblR HO_277000 hb
                      replace HO289 := rblR HO289 hb
                      replace HO292 := rblR HO292 hb
                      replace HO299 := rblR HO299 hb
                      have BK306 := Aside0.mk (hbox)
                      have GW306 := geh hg HB
                      have GE306 := geh hg HB
                      replace HB := bst HB hb
                      have NB276_306 := nlt hg BK276
                      have NB306_276 := ngt hg BK276
                      replace BK276 := bkb BK276 hb
                      have NB293_306 := nlt hg BK293
                      have NB306_293 := ngt hg BK293
                      replace BK293 := bkb BK293 hb
                      clear hb hbox hg
                      refine hK.out _ _ ((blk_cell BK276.out 0).trans rfl) (fun hHeld => ?_)
                      clear hK K
                      refine norm_ (a' := ?_) ?_ ?_
                      rotate_left
                      ·
                       show Act.put _ (some 9) _ = _
                       simp only [Act.put, List.setIfInBounds_toArray, List.set_cons_zero, List.set_cons_succ, i64_w, i32_w]
                       rfl
                      exact norm_ (by first | (simp only [putAll, Act.put, List.setIfInBounds_toArray, List.set_cons_zero, List.set_cons_succ]; done) | (simp only [putAll, Act.put, List.setIfInBounds_toArray, List.set_cons_zero, List.set_cons_succ]; rfl)) (hJ0_3_16 (v295, v298, gb306) _ ⟨hHeld, (crR HO289), (crR HO292), (crR HO299), (crR HO_277000), (crb BK276), (crb BK293), (crb BK306), GW306.out, GE306.out, NB276_306.out, NB306_276.out, NB293_306.out, NB306_293.out, (blw HB)⟩)
                   ·
                    skip
                    rintro ⟨v295, v301, gb306⟩ w50 ⟨hS_, h0_, h1_, h2_, h3_, h4_, h5_, h6_, h7_, h8_, h9_, h10_, h11_, h12_, h13_, h14_⟩
                    replace HO289 : Aside0 (Kd.R k46 46 w50 w.heap.size (fun k_ => some k_ ≠ (.slice Ao41 y290.length co41 : Value).ownBlock ∧ some k_ ≠ (v295 : Value).ownBlock ∧ some k_ ≠ (v301 : Value).ownBlock ∧ some k_ ≠ (.slice Ao9 t273.length co9 : Value).ownBlock) v288 y287) := ⟨h0_⟩
                    replace HO292 : Aside0 (Kd.R k46 46 w50 w.heap.size (fun k_ => some k_ ≠ (v288 : Value).ownBlock ∧ some k_ ≠ (v295 : Value).ownBlock ∧ some k_ ≠ (v301 : Value).ownBlock ∧ some k_ ≠ (.slice Ao9 t273.length co9 : Value).ownBlock) (.slice Ao41 y290.length co41) y290) := ⟨h1_⟩
                    have HO296 : Aside0 (Kd.R k46 46 w50 w.heap.size (fun k_ => some k_ ≠ (v288 : Value).ownBlock ∧ some k_ ≠ (.slice Ao41 y290.length co41 : Value).ownBlock ∧ some k_ ≠ (v301 : Value).ownBlock ∧ some k_ ≠ (.slice Ao9 t273.length co9 : Value).ownBlock) v295 y294) := ⟨h2_⟩
                    have HO302 : Aside0 (Kd.R k46 46 w50 w.heap.size (fun k_ => some k_ ≠ (v288 : Value).ownBlock ∧ some k_ ≠ (.slice Ao41 y290.length co41 : Value).ownBlock ∧ some k_ ≠ (v295 : Value).ownBlock ∧ some k_ ≠ (.slice Ao9 t273.length co9 : Value).ownBlock) v301 y300) := ⟨h3_⟩
                    replace HO_277000 : Aside0 (Kd.R k46 46 w50 w.heap.size (fun k_ => some k_ ≠ (v288 : Value).ownBlock ∧ some k_ ≠ (.slice Ao41 y290.length co41 : Value).ownBlock ∧ some k_ ≠ (v295 : Value).ownBlock ∧ some k_ ≠ (v301 : Value).ownBlock) (.slice Ao9 t273.length co9) t273) := ⟨h4_⟩
                    replace BK276 : Aside0 (w50.heap[gb276]? = some (.cells #[.slice Ao9 t273.length co9] 41 (0, 0))) := ⟨h5_⟩
                    replace BK293 : Aside0 (w50.heap[gb293]? = some (.cells #[.slice Ao41 y290.length co41] 41 (0, 0))) := ⟨h6_⟩
                    have BK306 : Aside0 (w50.heap[gb306]? = some (.cells #[.slice none 0 0] 41 (0, 0))) := ⟨h7_⟩
                    have GW306 : Aside0 (w.heap.size ≤ gb306) := ⟨h8_⟩
                    have GE306 : Aside0 (w.heap.size ≤ gb306) := ⟨h9_⟩
                    have NB276_306 : Aside0 (gb276 ≠ gb306) := ⟨h10_⟩
                    have NB306_276 : Aside0 (gb306 ≠ gb276) := ⟨h11_⟩
                    have NB293_306 : Aside0 (gb293 ≠ gb306) := ⟨h12_⟩
                    have NB306_293 : Aside0 (gb306 ≠ gb293) := ⟨h13_⟩
                    replace HB : Aside0 (Below w.heap.size w w50) := ⟨h14_⟩
                    clear h0_ h1_ h2_ h3_ h4_ h5_ h6_ h7_ h8_ h9_ h10_ h11_ h12_ h13_ h14_
                    have hHeld : w50.cell? ⟨gb276, 0, none⟩ = some (.slice Ao9 t273.length co9) := hS_
                    refine norm_ (a' := ?_) ?_ ?_
                    rotate_left
                    ·
                     simp only [putAll, Act.put, List.setIfInBounds_toArray, List.set_cons_zero, List.set_cons_succ]
                     rfl
                    refine one_ (i := 3) (N := some 60) #[true, true, true, true, true, true, true, true, true, true, true, true, true, true, false, false, true, false] rfl rfl (one_of HT_.out (by kernel_rfl)) (by decide) (fun K hK => ?_)
                    refine Kd.R_append_rows_step k46 (w0 := w) w.heap.size (by rfl) (.tmp 57) (.tmp 59) 27 46 (.agg #[(.int .i64 0), (.int .i64 0), (.int .i64 0), (.int .i64 0)]) 32 rfl Try.underlying27 info46 rfl (by decide) (by omega) v295 y294 t273 _ _ _ (fun k_ => some k_ ≠ (.slice Ao9 t273.length co9 : Value).ownBlock ∧ some k_ ≠ (v288 : Value).ownBlock ∧ some k_ ≠ (.slice Ao41 y290.length co41 : Value).ownBlock ∧ some k_ ≠ (v301 : Value).ownBlock) (fun _ => False) rfl rfl ?aO ?aR (fun _ _ h => h) (fun _ h => h.elim) ?aF ?aB ?aS ?aL ?_
                    (case aR => exact crC (Kd.R_reads' HO_277000.out).2.2)
                    (case aB => exact (blw HB))
                    (case aF => exact (fun k_ hk => ⟨Kd.fresh' (Kd.R_lt (crR HO_277000)) k_ hk, Kd.fresh' (Kd.R_lt (crR HO289)) k_ hk, Kd.fresh' (Kd.R_lt (crR HO292)) k_ hk, Kd.fresh' (Kd.R_lt (crR HO302)) k_ hk⟩))
                    (case aO => exact (crM HO296 fun _ hk => ⟨hk.2.2.2, hk.1, hk.2.1, hk.2.2.1⟩))
                    (case aS => exact (bsz HB))
                    (case aL => have := LMc20.out; omega)
                    intro v298 w51 ho hb hg hat
                    rw [← Ny297.out] at ho
                    replace HO_277000 := Aside0.mk (Kd.R_after (ok := (fun k_ => some k_ ≠ (v288 : Value).ownBlock ∧ some k_ ≠ (.slice Ao41 y290.length co41 : Value).ownBlock ∧ some k_ ≠ (v301 : Value).ownBlock)) (crM HO_277000 fun _ hk => ⟨⟨hk.1, hk.2.1, hk.2.2.2⟩, hk.2.2.1⟩) hg hat)
                    replace BK276 := Aside0.mk (blk_grown (g := gb276) (o := .cells #[.slice Ao9 t273.length co9] 41 (0, 0)) (crb BK276) hg (Kd.R_ne HO296.out BK276.out (by decide)))
                    replace HO289 := Aside0.mk (Kd.R_after (ok := (fun k_ => some k_ ≠ (.slice Ao9 t273.length co9 : Value).ownBlock ∧ some k_ ≠ (.slice Ao41 y290.length co41 : Value).ownBlock ∧ some k_ ≠ (v301 : Value).ownBlock)) (crM HO289 fun _ hk => ⟨⟨hk.2.2.2, hk.1, hk.2.2.1⟩, hk.2.1⟩) hg hat)
                    replace HO292 := Aside0.mk (Kd.R_after (ok := (fun k_ => some k_ ≠ (.slice Ao9 t273.length co9 : Value).ownBlock ∧ some k_ ≠ (v288 : Value).ownBlock ∧ some k_ ≠ (v301 : Value).ownBlock)) (crM HO292 fun _ hk => ⟨⟨hk.2.2.2, hk.1, hk.2.2.1⟩, hk.2.1⟩) hg hat)
                    replace BK293 := Aside0.mk (blk_grown (g := gb293) (o := .cells #[.slice Ao41 y290.length co41] 41 (0, 0)) (crb BK293) hg (Kd.R_ne HO296.out BK293.out (by decide)))
                    replace HO302 := Aside0.mk (Kd.R_after (ok := (fun k_ => some k_ ≠ (.slice Ao9 t273.length co9 : Value).ownBlock ∧ some k_ ≠ (v288 : Value).ownBlock ∧ some k_ ≠ (.slice Ao41 y290.length co41 : Value).ownBlock)) (crM HO302 fun _ hk => ⟨⟨hk.2.2.2, hk.1, hk.2.1⟩, hk.2.2.1⟩) hg hat)
                    replace BK306 := Aside0.mk (blk_grown (g := gb306) (o := .cells #[.slice none 0 0] 41 (0, 0)) (crb BK306) hg (Kd.R_ne HO296.out BK306.out (by decide)))
                    replace HB := Aside0.mk (hb)
                    have HO299 := Aside0.mk (ho)
                    clear HO296
                    clear ho hb hg hat
                    refine hK.out _ _ ((blk_cell BK276.out 0).trans rfl) (fun hHeld => ?_)
                    clear hK K
                    refine norm_ (a' := ?_) ?_ ?_
                    rotate_left
                    ·
                     show Act.put _ (some 60) _ = _
                     simp only [Act.put, List.setIfInBounds_toArray, List.set_cons_zero, List.set_cons_succ, i64_w, i32_w]
                     rfl
                    exact norm_ (by first | (simp only [putAll, Act.put, List.setIfInBounds_toArray, List.set_cons_zero, List.set_cons_succ]; done) | (simp only [putAll, Act.put, List.setIfInBounds_toArray, List.set_cons_zero, List.set_cons_succ]; rfl)) (hJ0_3_13_16 (v295, v298, v301, gb306) _ ⟨hHeld, (crM HO289 fun _ hk => ⟨hk.1.2.1, hk.2, hk.1.2.2, hk.1.1⟩), (crM HO292 fun _ hk => ⟨hk.1.2.1, hk.2, hk.1.2.2, hk.1.1⟩), (crM HO299 fun _ hk => ⟨hk.2.1, hk.2.2.1, hk.2.2.2, hk.1⟩), (crM HO302 fun _ hk => ⟨hk.1.2.1, hk.1.2.2, hk.2, hk.1.1⟩), (crM HO_277000 fun _ hk => ⟨hk.1.1, hk.1.2.1, hk.2, hk.1.2.2⟩), (crb BK276), (crb BK293), (crb BK306), GW306.out, GE306.out, NB276_306.out, NB306_276.out, NB293_306.out, NB306_293.out, (blw HB)⟩)
                  ·
                   skip
                   rintro ⟨v295, v298, gb306⟩ w49 ⟨hS_, h0_, h1_, h2_, h3_, h4_, h5_, h6_, h7_, h8_, h9_, h10_, h11_, h12_, h13_⟩
                   replace HO289 : Aside0 (Kd.R k46 46 w49 w.heap.size (fun k_ => some k_ ≠ (.slice Ao41 y290.length co41 : Value).ownBlock ∧ some k_ ≠ (v298 : Value).ownBlock ∧ some k_ ≠ (.slice Ao9 t273.length co9 : Value).ownBlock) v288 y287) := ⟨h0_⟩
                   replace HO292 : Aside0 (Kd.R k46 46 w49 w.heap.size (fun k_ => some k_ ≠ (v288 : Value).ownBlock ∧ some k_ ≠ (v298 : Value).ownBlock ∧ some k_ ≠ (.slice Ao9 t273.length co9 : Value).ownBlock) (.slice Ao41 y290.length co41) y290) := ⟨h1_⟩
                   have HO299 : Aside0 (Kd.R k46 46 w49 w.heap.size (fun k_ => some k_ ≠ (v288 : Value).ownBlock ∧ some k_ ≠ (.slice Ao41 y290.length co41 : Value).ownBlock ∧ some k_ ≠ (.slice Ao9 t273.length co9 : Value).ownBlock) v298 y297) := ⟨h2_⟩
                   replace HO_277000 : Aside0 (Kd.R k46 46 w49 w.heap.size (fun k_ => some k_ ≠ (v288 : Value).ownBlock ∧ some k_ ≠ (.slice Ao41 y290.length co41 : Value).ownBlock ∧ some k_ ≠ (v298 : Value).ownBlock) (.slice Ao9 t273.length co9) t273) := ⟨h3_⟩
                   replace BK276 : Aside0 (w49.heap[gb276]? = some (.cells #[.slice Ao9 t273.length co9] 41 (0, 0))) := ⟨h4_⟩
                   replace BK293 : Aside0 (w49.heap[gb293]? = some (.cells #[.slice Ao41 y290.length co41] 41 (0, 0))) := ⟨h5_⟩
                   have BK306 : Aside0 (w49.heap[gb306]? = some (.cells #[.slice none 0 0] 41 (0, 0))) := ⟨h6_⟩
                   have GW306 : Aside0 (w.heap.size ≤ gb306) := ⟨h7_⟩
                   have GE306 : Aside0 (w.heap.size ≤ gb306) := ⟨h8_⟩
                   have NB276_306 : Aside0 (gb276 ≠ gb306) := ⟨h9_⟩
                   have NB306_276 : Aside0 (gb306 ≠ gb276) := ⟨h10_⟩
                   have NB293_306 : Aside0 (gb293 ≠ gb306) := ⟨h11_⟩
                   have NB306_293 : Aside0 (gb306 ≠ gb293) := ⟨h12_⟩
                   replace HB : Aside0 (Below w.heap.size w w49) := ⟨h13_⟩
                   clear h0_ h1_ h2_ h3_ h4_ h5_ h6_ h7_ h8_ h9_ h10_ h11_ h12_ h13_
                   have hHeld : w49.cell? ⟨gb276, 0, none⟩ = some (.slice Ao9 t273.length co9) := hS_
                   refine norm_ (a' := ?_) ?_ ?_
                   rotate_left
                   ·
                    simp only [putAll, Act.put, List.setIfInBounds_toArray, List.set_cons_zero, List.set_cons_succ]
                    rfl
                   refine one_ (i := 13) (N := some 70) #[true, true, true, true, true, true, true, true, true, true, true, true, true, true, false, false, true, false] rfl rfl (one_of HT_.out (by kernel_rfl)) (by decide) (fun K hK => ?_)
                   refine Kd.R_lit_step k46 _ 46 ?hg (N := 70) ?hd (xs := ([(⟨2, 0, 0, 3⟩ : S46), (⟨3, wrap64 ((t273.length : Int) - 1), (t273.length : Int), 0⟩ : S46)] : List (S46))) (inner := [.int .i64 2, .int .i64 0, .int .i64 0, .int .i64 3, .int .i64 3, .int .i64 (wrap64 ((t273.length : Int) - 1)), .int .i64 (t273.length : Int), .int .i64 0]) (ok := fun _ => True) (okp := fun _ => True) ?hr ?hp (fun _ hk => hk) trivial (Below.refl _ _) (Nat.le_refl _) (by simp) ?_; (case hd => rfl); (case hg => rfl); (case hr => first | (go_simp; done) | (go_simp; rfl)); (case hp => exact (Reps.c4 (show Kd.M k46 _ _ _ (⟨2, 0, 0, 3⟩ : S46) [.int .i64 2, .int .i64 0, .int .i64 0, .int .i64 3] from (k46_mkM _ _ _ (⟨2, 0, 0, 3⟩ : S46) )) (Reps.c4 (show Kd.M k46 _ _ _ (⟨3, wrap64 ((t273.length : Int) - 1), (t273.length : Int), 0⟩ : S46) [.int .i64 3, .int .i64 (wrap64 ((t273.length : Int) - 1)), .int .i64 (t273.length : Int), .int .i64 0] from (k46_mkM _ _ _ (⟨3, wrap64 ((t273.length : Int) - 1), (t273.length : Int), 0⟩ : S46) )) (Reps.none _ _))))
                   intro v301 w50 ho51 hb hg_ hnew_
                   clear hg_ hnew_
                   (first | rw [← Ny300.out] at ho51 | (simp only [Int.reduceToNat] at ho51; rw [← Ny300.out] at ho51))
                   have HO302 := lwR (nwR (nwR (nwR (nwR ho51 HO_277000) HO289) HO292) HO299) HB
                   replace HO_277000 := eldR HO_277000 (Kd.R_base ho51) hb
                   replace HO289 := eldR HO289 (Kd.R_base ho51) hb
                   replace HO292 := eldR HO292 (Kd.R_base ho51) hb
                   replace HO299 := eldR HO299 (Kd.R_base ho51) hb
                   replace BK276 := bkb BK276 hb
                   replace BK293 := bkb BK293 hb
                   replace BK306 := bkb BK306 hb
                   replace HB := bst HB hb
                   clear hb ho51
                   refine hK.out _ _ ((blk_cell BK276.out 0).trans rfl) (fun hHeld => ?_)
                   clear hK K
                   refine norm_ (a' := ?_) ?_ ?_
                   rotate_left
                   ·
                    show Act.put _ (some 70) _ = _
                    simp only [Act.put, List.setIfInBounds_toArray, List.set_cons_zero, List.set_cons_succ, i64_w, i32_w]
                    rfl
                   exact norm_ (by first | (simp only [putAll, Act.put, List.setIfInBounds_toArray, List.set_cons_zero, List.set_cons_succ]; done) | (simp only [putAll, Act.put, List.setIfInBounds_toArray, List.set_cons_zero, List.set_cons_succ]; rfl)) (hJ0_3_13_16 (v295, v298, v301, gb306) _ ⟨hHeld, (crM HO289 fun _ hk => ⟨hk.1.1, hk.1.2.1, hk.2, hk.1.2.2⟩), (crM HO292 fun _ hk => ⟨hk.1.1, hk.1.2.1, hk.2, hk.1.2.2⟩), (crM HO299 fun _ hk => ⟨hk.1.1, hk.1.2.1, hk.2, hk.1.2.2⟩), (crM HO302 fun _ hk => ⟨hk.1.1.2, hk.1.2, hk.2, hk.1.1.1.2⟩), (crM HO_277000 fun _ hk => ⟨hk.1.1, hk.1.2.1, hk.1.2.2, hk.2⟩), (crb BK276), (crb BK293), (crb BK306), GW306.out, GE306.out, NB276_306.out, NB306_276.out, NB293_306.out, NB306_293.out, (blw HB)⟩)
                 ·
                  skip
                  rintro ⟨v295, v298, v301⟩ w50 ⟨hS_, h0_, h1_, h2_, h3_, h4_, h5_, h6_, h7_⟩
                  replace HO289 : Aside0 (Kd.R k46 46 w50 w.heap.size (fun k_ => some k_ ≠ (.slice Ao41 y290.length co41 : Value).ownBlock ∧ some k_ ≠ (v298 : Value).ownBlock ∧ some k_ ≠ (v301 : Value).ownBlock ∧ some k_ ≠ (.slice Ao9 t273.length co9 : Value).ownBlock) v288 y287) := ⟨h0_⟩
                  replace HO292 : Aside0 (Kd.R k46 46 w50 w.heap.size (fun k_ => some k_ ≠ (v288 : Value).ownBlock ∧ some k_ ≠ (v298 : Value).ownBlock ∧ some k_ ≠ (v301 : Value).ownBlock ∧ some k_ ≠ (.slice Ao9 t273.length co9 : Value).ownBlock) (.slice Ao41 y290.length co41) y290) := ⟨h1_⟩
                  have HO299 : Aside0 (Kd.R k46 46 w50 w.heap.size (fun k_ => some k_ ≠ (v288 : Value).ownBlock ∧ some k_ ≠ (.slice Ao41 y290.length co41 : Value).ownBlock ∧ some k_ ≠ (v301 : Value).ownBlock ∧ some k_ ≠ (.slice Ao9 t273.length co9 : Value).ownBlock) v298 y297) := ⟨h2_⟩
                  have HO302 : Aside0 (Kd.R k46 46 w50 w.heap.size (fun k_ => some k_ ≠ (v288 : Value).ownBlock ∧ some k_ ≠ (.slice Ao41 y290.length co41 : Value).ownBlock ∧ some k_ ≠ (v298 : Value).ownBlock ∧ some k_ ≠ (.slice Ao9 t273.length co9 : Value).ownBlock) v301 y300) := ⟨h3_⟩
                  replace HO_277000 : Aside0 (Kd.R k46 46 w50 w.heap.size (fun k_ => some k_ ≠ (v288 : Value).ownBlock ∧ some k_ ≠ (.slice Ao41 y290.length co41 : Value).ownBlock ∧ some k_ ≠ (v298 : Value).ownBlock ∧ some k_ ≠ (v301 : Value).ownBlock) (.slice Ao9 t273.length co9) t273) := ⟨h4_⟩
                  replace BK276 : Aside0 (w50.heap[gb276]? = some (.cells #[.slice Ao9 t273.length co9] 41 (0, 0))) := ⟨h5_⟩
                  replace BK293 : Aside0 (w50.heap[gb293]? = some (.cells #[.slice Ao41 y290.length co41] 41 (0, 0))) := ⟨h6_⟩
                  replace HB : Aside0 (Below w.heap.size w w50) := ⟨h7_⟩
                  clear h0_ h1_ h2_ h3_ h4_ h5_ h6_ h7_
                  have hHeld : w50.cell? ⟨gb276, 0, none⟩ = some (.slice Ao9 t273.length co9) := hS_
                  obtain ⟨Ao52, co52, eo52⟩ := Kd.R_slice HO302.out
                  (first | subst eo52 | (injection eo52 with f1_ f2_ f3_; have f4_ := f1_.symm; have f5_ := f3_.symm; clear f1_ f2_ f3_; subst f4_; subst f5_))
                  refine norm_ (a' := ?_) ?_ ?_
                  rotate_left
                  ·
                   simp only [putAll, Act.put, List.setIfInBounds_toArray, List.set_cons_zero, List.set_cons_succ]
                   rfl
                  refine two_ (i := 14) (j := 16) (Ni := some 71) (Nj := some 9) #[true, true, true, true, true, true, true, true, true, true, true, true, true, true, true, false, false, false] #[true, true, true, true, true, true, true, true, true, true, true, true, true, true, false, false, true, false] rfl rfl rfl rfl (two_of HT_.out (by kernel_rfl)) (by decide) (by decide) (fun K hK => ?_) (fun K hK => ?_)
                  ·
                   skip
                   refine Kd.R_append_rows_step k46 (w0 := w) w.heap.size (by rfl) (.tmp 60) (.tmp 70) 27 46 (.agg #[(.int .i64 0), (.int .i64 0), (.int .i64 0), (.int .i64 0)]) 32 rfl Try.underlying27 info46 rfl (by decide) (by omega) v298 y297 y300 _ _ _ (fun k_ => some k_ ≠ (.slice Ao9 t273.length co9 : Value).ownBlock ∧ some k_ ≠ (v288 : Value).ownBlock ∧ some k_ ≠ (.slice Ao41 y290.length co41 : Value).ownBlock ∧ some k_ ≠ (.slice Ao52 y300.length co52 : Value).ownBlock) (fun _ => False) rfl rfl ?aO ?aR (fun _ _ h => h) (fun _ h => h.elim) ?aF ?aB ?aS ?aL ?_
                   (case aR => exact crC (Kd.R_reads' HO302.out).2.2)
                   (case aB => exact (blw HB))
                   (case aF => exact (fun k_ hk => ⟨Kd.fresh' (Kd.R_lt (crR HO_277000)) k_ hk, Kd.fresh' (Kd.R_lt (crR HO289)) k_ hk, Kd.fresh' (Kd.R_lt (crR HO292)) k_ hk, Kd.fresh' (Kd.R_lt (crR HO302)) k_ hk⟩))
                   (case aO => exact (crM HO299 fun _ hk => ⟨hk.2.2.2, hk.1, hk.2.1, hk.2.2.1⟩))
                   (case aS => exact (bsz HB))
                   (case aL => have := LMc21.out; omega)
                   intro v304 w51 ho hb hg hat
                   rw [← Ny303.out] at ho
                   replace HO_277000 := Aside0.mk (Kd.R_after (ok := (fun k_ => some k_ ≠ (v288 : Value).ownBlock ∧ some k_ ≠ (.slice Ao41 y290.length co41 : Value).ownBlock ∧ some k_ ≠ (.slice Ao52 y300.length co52 : Value).ownBlock)) (crM HO_277000 fun _ hk => ⟨⟨hk.1, hk.2.1, hk.2.2.2⟩, hk.2.2.1⟩) hg hat)
                   replace BK276 := Aside0.mk (blk_grown (g := gb276) (o := .cells #[.slice Ao9 t273.length co9] 41 (0, 0)) (crb BK276) hg (Kd.R_ne HO299.out BK276.out (by decide)))
                   replace HO289 := Aside0.mk (Kd.R_after (ok := (fun k_ => some k_ ≠ (.slice Ao9 t273.length co9 : Value).ownBlock ∧ some k_ ≠ (.slice Ao41 y290.length co41 : Value).ownBlock ∧ some k_ ≠ (.slice Ao52 y300.length co52 : Value).ownBlock)) (crM HO289 fun _ hk => ⟨⟨hk.2.2.2, hk.1, hk.2.2.1⟩, hk.2.1⟩) hg hat)
                   replace HO292 := Aside0.mk (Kd.R_after (ok := (fun k_ => some k_ ≠ (.slice Ao9 t273.length co9 : Value).ownBlock ∧ some k_ ≠ (v288 : Value).ownBlock ∧ some k_ ≠ (.slice Ao52 y300.length co52 : Value).ownBlock)) (crM HO292 fun _ hk => ⟨⟨hk.2.2.2, hk.1, hk.2.2.1⟩, hk.2.1⟩) hg hat)
                   replace BK293 := Aside0.mk (blk_grown (g := gb293) (o := .cells #[.slice Ao41 y290.length co41] 41 (0, 0)) (crb BK293) hg (Kd.R_ne HO299.out BK293.out (by decide)))
                   replace HO302 := Aside0.mk (Kd.R_after (ok := (fun k_ => some k_ ≠ (.slice Ao9 t273.length co9 : Value).ownBlock ∧ some k_ ≠ (v288 : Value).ownBlock ∧ some k_ ≠ (.slice Ao41 y290.length co41 : Value).ownBlock)) (crM HO302 fun _ hk => ⟨⟨hk.2.2.2, hk.1, hk.2.1⟩, hk.2.2.1⟩) hg hat)
                   replace HB := Aside0.mk (hb)
                   have HO305 := Aside0.mk (ho)
                   clear HO299
                   clear ho hb hg hat
                   obtain ⟨Ao53, co53, eo53⟩ := Kd.R_slice HO305.out
                   (first | subst eo53 | (injection eo53 with f1_ f2_ f3_; have f4_ := f1_.symm; have f5_ := f3_.symm; clear f1_ f2_ f3_; subst f4_; subst f5_))
                   refine hK.out _ _ ((blk_cell BK276.out 0).trans rfl) (fun hHeld => ?_)
                   clear hK K
                   refine norm_ (a' := ?_) ?_ ?_
                   rotate_left
                   ·
                    show Act.put _ (some 71) _ = _
                    simp only [Act.put, List.setIfInBounds_toArray, List.set_cons_zero, List.set_cons_succ, i64_w, i32_w]
                    rfl
                   refine pure_ (i := 15) (N := some 72) (v := ?_) (a' := ?_) #[true, true, true, true, true, true, true, true, true, true, true, true, true, true, true, true, false, false] rfl rfl (any_of HT_.out (by kernel_rfl)) (fun _ _ _ h => h) (Or.inl ⟨by rfl, ?_⟩) ?_ ?_
                   rotate_left
                   ·
                    intro w'
                    go_simp
                    with_reducible rfl
                   rotate_left
                   ·
                    simp only [Act.put, List.setIfInBounds_toArray, List.set_cons_zero, List.set_cons_succ, i64_w, i32_w]
                    rfl
                   exact norm_ (by first | (simp only [putAll, Act.put, List.setIfInBounds_toArray, List.set_cons_zero, List.set_cons_succ]; done) | (simp only [putAll, Act.put, List.setIfInBounds_toArray, List.set_cons_zero, List.set_cons_succ]; rfl)) (hJ0_3_13_14 (v295, v298, .slice Ao52 y300.length co52, .slice Ao53 y303.length co53) _ ⟨hHeld, (crM HO289 fun _ hk => ⟨hk.1.2.1, hk.1.2.2, hk.2, hk.1.1⟩), (crM HO292 fun _ hk => ⟨hk.1.2.1, hk.1.2.2, hk.2, hk.1.1⟩), (crM HO302 fun _ hk => ⟨hk.1.2.1, hk.1.2.2, hk.2, hk.1.1⟩), (crM HO305 fun _ hk => ⟨hk.2.1, hk.2.2.1, hk.2.2.2, hk.1⟩), (crM HO_277000 fun _ hk => ⟨hk.1.1, hk.1.2.1, hk.1.2.2, hk.2⟩), (crb BK276), (crb BK293), (blw HB)⟩)
                  ·
                   skip
                   refine box_step ?hg (N := 9) ?hd (cs := #[.slice none 0 0]) (t := 41) ?hr ?_; (case hd => rfl); (case hg => rfl); (case hr => first | (go_simp; done) | (go_simp; rfl))
                   intro gb306 hg w51 hbox hb
                   replace HO_277000 := rblR HO_277000 hb
                   replace HO289 := rblR HO289 hb
                   replace HO292 := rblR HO292 hb
                   replace HO299 := rblR HO299 hb
                   replace HO302 := rblR HO302 hb
                   have BK306 := Aside0.mk (hbox)
                   have GW306 := geh hg HB
                   have GE306 := geh hg HB
                   replace HB := bst HB hb
                   have NB276_306 := nlt hg BK276
                   have NB306_276 := ngt hg BK276
                   replace BK276 := bkb BK276 hb
                   have NB293_306 := nlt hg BK293
                   have NB306_293 := ngt hg BK293
                   replace BK293 := bkb BK293 hb
                   clear hb hbox hg
                   refine hK.out _ _ ((blk_cell BK276.out 0).trans rfl) (fun hHeld => ?_)
                   clear hK K
                   refine norm_ (a' := ?_) ?_ ?_
                   rotate_left
                   ·
                    show Act.put _ (some 9) _ = _
                    simp only [Act.put, List.setIfInBounds_toArray, List.set_cons_zero, List.set_cons_succ, i64_w, i32_w]
                    rfl
                   exact norm_ (by first | (simp only [putAll, Act.put, List.setIfInBounds_toArray, List.set_cons_zero, List.set_cons_succ]; done) | (simp only [putAll, Act.put, List.setIfInBounds_toArray, List.set_cons_zero, List.set_cons_succ]; rfl)) (hJ0_3_13_16 (v295, v298, (.slice Ao52 y300.length co52), gb306) _ ⟨hHeld, (crR HO289), (crR HO292), (crR HO299), (crR HO302), (crR HO_277000), (crb BK276), (crb BK293), (crb BK306), GW306.out, GE306.out, NB276_306.out, NB306_276.out, NB293_306.out, NB306_293.out, (blw HB)⟩)
                ·
                 skip
                 rintro ⟨v295, v298, v301, gb306⟩ w51 ⟨hS_, h0_, h1_, h2_, h3_, h4_, h5_, h6_, h7_, h8_, h9_, h10_, h11_, h12_, h13_, h14_⟩
                 replace HO289 : Aside0 (Kd.R k46 46 w51 w.heap.size (fun k_ => some k_ ≠ (.slice Ao41 y290.length co41 : Value).ownBlock ∧ some k_ ≠ (v298 : Value).ownBlock ∧ some k_ ≠ (v301 : Value).ownBlock ∧ some k_ ≠ (.slice Ao9 t273.length co9 : Value).ownBlock) v288 y287) := ⟨h0_⟩
                 replace HO292 : Aside0 (Kd.R k46 46 w51 w.heap.size (fun k_ => some k_ ≠ (v288 : Value).ownBlock ∧ some k_ ≠ (v298 : Value).ownBlock ∧ some k_ ≠ (v301 : Value).ownBlock ∧ some k_ ≠ (.slice Ao9 t273.length co9 : Value).ownBlock) (.slice Ao41 y290.length co41) y290) := ⟨h1_⟩
                 have HO299 : Aside0 (Kd.R k46 46 w51 w.heap.size (fun k_ => some k_ ≠ (v288 : Value).ownBlock ∧ some k_ ≠ (.slice Ao41 y290.length co41 : Value).ownBlock ∧ some k_ ≠ (v301 : Value).ownBlock ∧ some k_ ≠ (.slice Ao9 t273.length co9 : Value).ownBlock) v298 y297) := ⟨h2_⟩
                 have HO302 : Aside0 (Kd.R k46 46 w51 w.heap.size (fun k_ => some k_ ≠ (v288 : Value).ownBlock ∧ some k_ ≠ (.slice Ao41 y290.length co41 : Value).ownBlock ∧ some k_ ≠ (v298 : Value).ownBlock ∧ some k_ ≠ (.slice Ao9 t273.length co9 : Value).ownBlock) v301 y300) := ⟨h3_⟩
                 replace HO_277000 : Aside0 (Kd.R k46 46 w51 w.heap.size (fun k_ => some k_ ≠ (v288 : Value).ownBlock ∧ some k_ ≠ (.slice Ao41 y290.length co41 : Value).ownBlock ∧ some k_ ≠ (v298 : Value).ownBlock ∧ some k_ ≠ (v301 : Value).ownBlock) (.slice Ao9 t273.length co9) t273) := ⟨h4_⟩
                 replace BK276 : Aside0 (w51.heap[gb276]? = some (.cells #[.slice Ao9 t273.length co9] 41 (0, 0))) := ⟨h5_⟩
                 replace BK293 : Aside0 (w51.heap[gb293]? = some (.cells #[.slice Ao41 y290.length co41] 41 (0, 0))) := ⟨h6_⟩
                 have BK306 : Aside0 (w51.heap[gb306]? = some (.cells #[.slice none 0 0] 41 (0, 0))) := ⟨h7_⟩
                 have GW306 : Aside0 (w.heap.size ≤ gb306) := ⟨h8_⟩
                 have GE306 : Aside0 (w.heap.size ≤ gb306) := ⟨h9_⟩
                 have NB276_306 : Aside0 (gb276 ≠ gb306) := ⟨h10_⟩
                 have NB306_276 : Aside0 (gb306 ≠ gb276) := ⟨h11_⟩
                 have NB293_306 : Aside0 (gb293 ≠ gb306) := ⟨h12_⟩
                 have NB306_293 : Aside0 (gb306 ≠ gb293) := ⟨h13_⟩
                 replace HB : Aside0 (Below w.heap.size w w51) := ⟨h14_⟩
                 clear h0_ h1_ h2_ h3_ h4_ h5_ h6_ h7_ h8_ h9_ h10_ h11_ h12_ h13_ h14_
                 have hHeld : w51.cell? ⟨gb276, 0, none⟩ = some (.slice Ao9 t273.length co9) := hS_
                 obtain ⟨Ao53, co53, eo53⟩ := Kd.R_slice HO302.out
                 (first | subst eo53 | (injection eo53 with f1_ f2_ f3_; have f4_ := f1_.symm; have f5_ := f3_.symm; clear f1_ f2_ f3_; subst f4_; subst f5_))
                 refine norm_ (a' := ?_) ?_ ?_
                 rotate_left
                 ·
                  simp only [putAll, Act.put, List.setIfInBounds_toArray, List.set_cons_zero, List.set_cons_succ]
                  rfl
                 refine one_ (i := 14) (N := some 71) #[true, true, true, true, true, true, true, true, true, true, true, true, true, true, true, false, true, false] rfl rfl (one_of HT_.out (by kernel_rfl)) (by decide) (fun K hK => ?_)
                 refine Kd.R_append_rows_step k46 (w0 := w) w.heap.size (by rfl) (.tmp 60) (.tmp 70) 27 46 (.agg #[(.int .i64 0), (.int .i64 0), (.int .i64 0), (.int .i64 0)]) 32 rfl Try.underlying27 info46 rfl (by decide) (by omega) v298 y297 y300 _ _ _ (fun k_ => some k_ ≠ (.slice Ao9 t273.length co9 : Value).ownBlock ∧ some k_ ≠ (v288 : Value).ownBlock ∧ some k_ ≠ (.slice Ao41 y290.length co41 : Value).ownBlock ∧ some k_ ≠ (.slice Ao53 y300.length co53 : Value).ownBlock) (fun _ => False) rfl rfl ?aO ?aR (fun _ _ h => h) (fun _ h => h.elim) ?aF ?aB ?aS ?aL ?_
                 (case aR => exact crC (Kd.R_reads' HO302.out).2.2)
                 (case aB => exact (blw HB))
                 (case aF => exact (fun k_ hk => ⟨Kd.fresh' (Kd.R_lt (crR HO_277000)) k_ hk, Kd.fresh' (Kd.R_lt (crR HO289)) k_ hk, Kd.fresh' (Kd.R_lt (crR HO292)) k_ hk, Kd.fresh' (Kd.R_lt (crR HO302)) k_ hk⟩))
                 (case aO => exact (crM HO299 fun _ hk => ⟨hk.2.2.2, hk.1, hk.2.1, hk.2.2.1⟩))
                 (case aS => exact (bsz HB))
                 (case aL => have := LMc21.out; omega)
                 intro v304 w52 ho hb hg hat
                 rw [← Ny303.out] at ho
                 replace HO_277000 := Aside0.mk (Kd.R_after (ok := (fun k_ => some k_ ≠ (v288 : Value).ownBlock ∧ some k_ ≠ (.slice Ao41 y290.length co41 : Value).ownBlock ∧ some k_ ≠ (.slice Ao53 y300.length co53 : Value).ownBlock)) (crM HO_277000 fun _ hk => ⟨⟨hk.1, hk.2.1, hk.2.2.2⟩, hk.2.2.1⟩) hg hat)
                 replace BK276 := Aside0.mk (blk_grown (g := gb276) (o := .cells #[.slice Ao9 t273.length co9] 41 (0, 0)) (crb BK276) hg (Kd.R_ne HO299.out BK276.out (by decide)))
                 replace HO289 := Aside0.mk (Kd.R_after (ok := (fun k_ => some k_ ≠ (.slice Ao9 t273.length co9 : Value).ownBlock ∧ some k_ ≠ (.slice Ao41 y290.length co41 : Value).ownBlock ∧ some k_ ≠ (.slice Ao53 y300.length co53 : Value).ownBlock)) (crM HO289 fun _ hk => ⟨⟨hk.2.2.2, hk.1, hk.2.2.1⟩, hk.2.1⟩) hg hat)
                 replace HO292 := Aside0.mk (Kd.R_after (ok := (fun k_ => some k_ ≠ (.slice Ao9 t273.length co9 : Value).ownBlock ∧ some k_ ≠ (v288 : Value).ownBlock ∧ some k_ ≠ (.slice Ao53 y300.length co53 : Value).ownBlock)) (crM HO292 fun _ hk => ⟨⟨hk.2.2.2, hk.1, hk.2.2.1⟩, hk.2.1⟩) hg hat)
                 replace BK293 := Aside0.mk (blk_grown (g := gb293) (o := .cells #[.slice Ao41 y290.length co41] 41 (0, 0)) (crb BK293) hg (Kd.R_ne HO299.out BK293.out (by decide)))
                 replace HO302 := Aside0.mk (Kd.R_after (ok := (fun k_ => some k_ ≠ (.slice Ao9 t273.length co9 : Value).ownBlock ∧ some k_ ≠ (v288 : Value).ownBlock ∧ some k_ ≠ (.slice Ao41 y290.length co41 : Value).ownBlock)) (crM HO302 fun _ hk => ⟨⟨hk.2.2.2, hk.1, hk.2.1⟩, hk.2.2.1⟩) hg hat)
                 replace BK306 := Aside0.mk (blk_grown (g := gb306) (o := .cells #[.slice none 0 0] 41 (0, 0)) (crb BK306) hg (Kd.R_ne HO299.out BK306.out (by decide)))
                 replace HB := Aside0.mk (hb)
                 have HO305 := Aside0.mk (ho)
                 clear HO299
                 clear ho hb hg hat
                 obtain ⟨Ao54, co54, eo54⟩ := Kd.R_slice HO305.out
                 (first | subst eo54 | (injection eo54 with f1_ f2_ f3_; have f4_ := f1_.symm; have f5_ := f3_.symm; clear f1_ f2_ f3_; subst f4_; subst f5_))
                 refine hK.out _ _ ((blk_cell BK276.out 0).trans rfl) (fun hHeld => ?_)
                 clear hK K
                 refine norm_ (a' := ?_) ?_ ?_
                 rotate_left
                 ·
                  show Act.put _ (some 71) _ = _
                  simp only [Act.put, List.setIfInBounds_toArray, List.set_cons_zero, List.set_cons_succ, i64_w, i32_w]
                  rfl
                 refine pure_ (i := 15) (N := some 72) (v := ?_) (a' := ?_) #[true, true, true, true, true, true, true, true, true, true, true, true, true, true, true, true, true, false] rfl rfl (any_of HT_.out (by kernel_rfl)) (fun _ _ _ h => h) (Or.inl ⟨by rfl, ?_⟩) ?_ ?_
                 rotate_left
                 ·
                  intro w'
                  go_simp
                  with_reducible rfl
                 rotate_left
                 ·
                  simp only [Act.put, List.setIfInBounds_toArray, List.set_cons_zero, List.set_cons_succ, i64_w, i32_w]
                  rfl
                 exact norm_ (by first | (simp only [putAll, Act.put, List.setIfInBounds_toArray, List.set_cons_zero, List.set_cons_succ]; done) | (simp only [putAll, Act.put, List.setIfInBounds_toArray, List.set_cons_zero, List.set_cons_succ]; rfl)) (hJ0_3_13_14_16 (v295, v298, .slice Ao53 y300.length co53, .slice Ao54 y303.length co54, gb306) _ ⟨hHeld, (crM HO289 fun _ hk => ⟨hk.1.2.1, hk.1.2.2, hk.2, hk.1.1⟩), (crM HO292 fun _ hk => ⟨hk.1.2.1, hk.1.2.2, hk.2, hk.1.1⟩), (crM HO302 fun _ hk => ⟨hk.1.2.1, hk.1.2.2, hk.2, hk.1.1⟩), (crM HO305 fun _ hk => ⟨hk.2.1, hk.2.2.1, hk.2.2.2, hk.1⟩), (crM HO_277000 fun _ hk => ⟨hk.1.1, hk.1.2.1, hk.1.2.2, hk.2⟩), (crb BK276), (crb BK293), (crb BK306), GW306.out, GE306.out, NB276_306.out, NB306_276.out, NB293_306.out, NB306_293.out, (blw HB)⟩)
               ·
                skip
                rintro ⟨v295, v298, v301, v304⟩ w53 ⟨hS_, h0_, h1_, h2_, h3_, h4_, h5_, h6_, h7_⟩
                replace HO289 : Aside0 (Kd.R k46 46 w53 w.heap.size (fun k_ => some k_ ≠ (.slice Ao41 y290.length co41 : Value).ownBlock ∧ some k_ ≠ (v301 : Value).ownBlock ∧ some k_ ≠ (v304 : Value).ownBlock ∧ some k_ ≠ (.slice Ao9 t273.length co9 : Value).ownBlock) v288 y287) := ⟨h0_⟩
                replace HO292 : Aside0 (Kd.R k46 46 w53 w.heap.size (fun k_ => some k_ ≠ (v288 : Value).ownBlock ∧ some k_ ≠ (v301 : Value).ownBlock ∧ some k_ ≠ (v304 : Value).ownBlock ∧ some k_ ≠ (.slice Ao9 t273.length co9 : Value).ownBlock) (.slice Ao41 y290.length co41) y290) := ⟨h1_⟩
                have HO302 : Aside0 (Kd.R k46 46 w53 w.heap.size (fun k_ => some k_ ≠ (v288 : Value).ownBlock ∧ some k_ ≠ (.slice Ao41 y290.length co41 : Value).ownBlock ∧ some k_ ≠ (v304 : Value).ownBlock ∧ some k_ ≠ (.slice Ao9 t273.length co9 : Value).ownBlock) v301 y300) := ⟨h2_⟩
                have HO305 : Aside0 (Kd.R k46 46 w53 w.heap.size (fun k_ => some k_ ≠ (v288 : Value).ownBlock ∧ some k_ ≠ (.slice Ao41 y290.length co41 : Value).ownBlock ∧ some k_ ≠ (v301 : Value).ownBlock ∧ some k_ ≠ (.slice Ao9 t273.length co9 : Value).ownBlock) v304 y303) := ⟨h3_⟩
                replace HO_277000 : Aside0 (Kd.R k46 46 w53 w.heap.size (fun k_ => some k_ ≠ (v288 : Value).ownBlock ∧ some k_ ≠ (.slice Ao41 y290.length co41 : Value).ownBlock ∧ some k_ ≠ (v301 : Value).ownBlock ∧ some k_ ≠ (v304 : Value).ownBlock) (.slice Ao9 t273.length co9) t273) := ⟨h4_⟩
                replace BK276 : Aside0 (w53.heap[gb276]? = some (.cells #[.slice Ao9 t273.length co9] 41 (0, 0))) := ⟨h5_⟩
                replace BK293 : Aside0 (w53.heap[gb293]? = some (.cells #[.slice Ao41 y290.length co41] 41 (0, 0))) := ⟨h6_⟩
                replace HB : Aside0 (Below w.heap.size w w53) := ⟨h7_⟩
                clear h0_ h1_ h2_ h3_ h4_ h5_ h6_ h7_
                have hHeld : w53.cell? ⟨gb276, 0, none⟩ = some (.slice Ao9 t273.length co9) := hS_
                obtain ⟨Ao54, co54, eo54⟩ := Kd.R_slice HO305.out
                (first | subst eo54 | (injection eo54 with f1_ f2_ f3_; have f4_ := f1_.symm; have f5_ := f3_.symm; clear f1_ f2_ f3_; subst f4_; subst f5_))
                refine norm_ (a' := ?_) ?_ ?_
                rotate_left
                ·
                 simp only [putAll, Act.put, List.setIfInBounds_toArray, List.set_cons_zero, List.set_cons_succ]
                 rfl
                refine one_ (i := 16) (N := some 9) #[true, true, true, true, true, true, true, true, true, true, true, true, true, true, true, true, true, false] rfl rfl (one_of HT_.out (by kernel_rfl)) (by decide) (fun K hK => ?_)
                refine box_step ?hg (N := 9) ?hd (cs := #[.slice none 0 0]) (t := 41) ?hr ?_; (case hd => rfl); (case hg => rfl); (case hr => first | (go_simp; done) | (go_simp; rfl))
                intro gb306 hg w55 hbox hb
                replace HO_277000 := rblR HO_277000 hb
                replace HO289 := rblR HO289 hb
                replace HO292 := rblR HO292 hb
                replace HO302 := rblR HO302 hb
                replace HO305 := rblR HO305 hb
                have BK306 := Aside0.mk (hbox)
                have GW306 := geh hg HB
                have GE306 := geh hg HB
                replace HB := bst HB hb
                have NB276_306 := nlt hg BK276
                have NB306_276 := ngt hg BK276
                replace BK276 := bkb BK276 hb
                have NB293_306 := nlt hg BK293
                have NB306_293 := ngt hg BK293
                replace BK293 := bkb BK293 hb
                clear hb hbox hg
                refine hK.out _ _ ((blk_cell BK276.out 0).trans rfl) (fun hHeld => ?_)
                clear hK K
                refine norm_ (a' := ?_) ?_ ?_
                rotate_left
                ·
                 show Act.put _ (some 9) _ = _
                 simp only [Act.put, List.setIfInBounds_toArray, List.set_cons_zero, List.set_cons_succ, i64_w, i32_w]
                 rfl
                exact norm_ (by first | (simp only [putAll, Act.put, List.setIfInBounds_toArray, List.set_cons_zero, List.set_cons_succ]; done) | (simp only [putAll, Act.put, List.setIfInBounds_toArray, List.set_cons_zero, List.set_cons_succ]; rfl)) (hJ0_3_13_14_16 (v295, v298, v301, .slice Ao54 y303.length co54, gb306) _ ⟨hHeld, (crR HO289), (crR HO292), (crR HO302), (crR HO305), (crR HO_277000), (crb BK276), (crb BK293), (crb BK306), GW306.out, GE306.out, NB276_306.out, NB306_276.out, NB293_306.out, NB306_293.out, (blw HB)⟩)
              rintro ⟨v295, v298, v301, v304, gb306⟩ w54 ⟨hS_, h0_, h1_, h2_, h3_, h4_, h5_, h6_, h7_, h8_, h9_, h10_, h11_, h12_, h13_, h14_⟩
              replace HO289 : Aside0 (Kd.R k46 46 w54 w.heap.size (fun k_ => some k_ ≠ (.slice Ao41 y290.length co41 : Value).ownBlock ∧ some k_ ≠ (v301 : Value).ownBlock ∧ some k_ ≠ (v304 : Value).ownBlock ∧ some k_ ≠ (.slice Ao9 t273.length co9 : Value).ownBlock) v288 y287) := ⟨h0_⟩
              replace HO292 : Aside0 (Kd.R k46 46 w54 w.heap.size (fun k_ => some k_ ≠ (v288 : Value).ownBlock ∧ some k_ ≠ (v301 : Value).ownBlock ∧ some k_ ≠ (v304 : Value).ownBlock ∧ some k_ ≠ (.slice Ao9 t273.length co9 : Value).ownBlock) (.slice Ao41 y290.length co41) y290) := ⟨h1_⟩
              have HO302 : Aside0 (Kd.R k46 46 w54 w.heap.size (fun k_ => some k_ ≠ (v288 : Value).ownBlock ∧ some k_ ≠ (.slice Ao41 y290.length co41 : Value).ownBlock ∧ some k_ ≠ (v304 : Value).ownBlock ∧ some k_ ≠ (.slice Ao9 t273.length co9 : Value).ownBlock) v301 y300) := ⟨h2_⟩
              have HO305 : Aside0 (Kd.R k46 46 w54 w.heap.size (fun k_ => some k_ ≠ (v288 : Value).ownBlock ∧ some k_ ≠ (.slice Ao41 y290.length co41 : Value).ownBlock ∧ some k_ ≠ (v301 : Value).ownBlock ∧ some k_ ≠ (.slice Ao9 t273.length co9 : Value).ownBlock) v304 y303) := ⟨h3_⟩
              replace HO_277000 : Aside0 (Kd.R k46 46 w54 w.heap.size (fun k_ => some k_ ≠ (v288 : Value).ownBlock ∧ some k_ ≠ (.slice Ao41 y290.length co41 : Value).ownBlock ∧ some k_ ≠ (v301 : Value).ownBlock ∧ some k_ ≠ (v304 : Value).ownBlock) (.slice Ao9 t273.length co9) t273) := ⟨h4_⟩
              replace BK276 : Aside0 (w54.heap[gb276]? = some (.cells #[.slice Ao9 t273.length co9] 41 (0, 0))) := ⟨h5_⟩
              replace BK293 : Aside0 (w54.heap[gb293]? = some (.cells #[.slice Ao41 y290.length co41] 41 (0, 0))) := ⟨h6_⟩
              have BK306 : Aside0 (w54.heap[gb306]? = some (.cells #[.slice none 0 0] 41 (0, 0))) := ⟨h7_⟩
              have GW306 : Aside0 (w.heap.size ≤ gb306) := ⟨h8_⟩
              have GE306 : Aside0 (w.heap.size ≤ gb306) := ⟨h9_⟩
              have NB276_306 : Aside0 (gb276 ≠ gb306) := ⟨h10_⟩
              have NB306_276 : Aside0 (gb306 ≠ gb276) := ⟨h11_⟩
              have NB293_306 : Aside0 (gb293 ≠ gb306) := ⟨h12_⟩
              have NB306_293 : Aside0 (gb306 ≠ gb293) := ⟨h13_⟩
              replace HB : Aside0 (Below w.heap.size w w54) := ⟨h14_⟩
              clear h0_ h1_ h2_ h3_ h4_ h5_ h6_ h7_ h8_ h9_ h10_ h11_ h12_ h13_ h14_
              have hHeld : w54.cell? ⟨gb276, 0, none⟩ = some (.slice Ao9 t273.length co9) := hS_
              obtain ⟨Ao55, co55, eo55⟩ := Kd.R_slice HO305.out
              (first | subst eo55 | (injection eo55 with f1_ f2_ f3_; have f4_ := f1_.symm; have f5_ := f3_.symm; clear f1_ f2_ f3_; subst f4_; subst f5_))
              refine norm_ (a' := ?_) ?_ ?_
              rotate_left
              ·
               simp only [putAll, Act.put, List.setIfInBounds_toArray, List.set_cons_zero, List.set_cons_succ]
               rfl
              refine one_ (i := 17) (N := none) #[true, true, true, true, true, true, true, true, true, true, true, true, true, true, true, true, true, true] rfl rfl (one_of HT_.out (by kernel_rfl)) (by decide) (fun K hK => ?_)
              have hs56 : w54.cell? ⟨gb306, 0, none⟩ = some (.slice none 0 0) := (blk_cell BK306.out 0).trans rfl
              have hfs56 := blk_frozen BK306.out 0
              have hns56_0 := NB276_306.out
              have hns56_1 := NB293_306.out
              have hms56_0 := NB306_276.out
              have hms56_1 := NB306_293.out
              refine skip_ (w1 := ?_) (by rfl) rfl ?_ ?_
              rotate_left
              ·
               go_simp
               rfl
              refine hK.out _ _ (((cell_far (p := ⟨gb306, _, none⟩) NB276_306.out _).trans (hHeld))) (fun hHeld => ?_)
              clear hK K
              refine done_ (done_of HT_.out (by kernel_rfl)) ?_
              have hnb57 := NB293_276.out
              have hnc57 := NB276_293.out
              have hnb58 := NB293_306.out
              have hnc58 := NB306_293.out
              have hcz59_0 := bce BK293 0 (.slice Ao41 y290.length co41)
              have hfz59_0 := blk_frozen BK293.out 0
              try go_wp2_with (first | ((with_reducible refine gate_callee (f := 21) rfl ?_); refine goesL_ (some 75) rfl rfl Try.func21 (by kernel_rfl) rfl #[.agg #[.slice Ao41 y290.length co41]] rfl (by (try simp only [List.map_toArray, List.map_cons, List.map_nil]); first | done | rfl | (simp only [List.length_drop, List.length_take]; rfl)) ?_; (with_reducible refine (impl_DepthOf.calls kj5 _ _ y290 t307 t308 _ ?side1 ?side2 A22.out).mono ?_); (case side1 => refine (Kd.R_reads' (e := 46) (base := w.heap.size) (ok := fun k_ => (some k_ ≠ (v288 : Value).ownBlock ∧ (some k_ ≠ (v301 : Value).ownBlock ∧ (some k_ ≠ (.slice Ao55 y303.length co55 : Value).ownBlock ∧ some k_ ≠ (.slice Ao9 t273.length co9 : Value).ownBlock)))) (n := y290.length) (c := co41) ?_).2.2; exact (crF HO292 BK306)); (case side2 => exact (Kd.R_reads' HO292.out).2.1); rintro e w60 ⟨rfl, hb⟩; refine ⟨_, rfl, ?_⟩; replace HO_277000 := rblF HO_277000 BK306 hb; replace HO289 := rblF HO289 BK306 hb; replace HO292 := rblF HO292 BK306 hb; replace HO302 := rblF HO302 BK306 hb; replace HO305 := rblF HO305 BK306 hb; replace BK276 := bkf BK276 hb; replace BK293 := bkf BK293 hb; replace BK306 := Aside0.mk (blk_below (g := gb306) (o := .cells #[.slice Ao55 y303.length co55] 41 (0, 0)) (by (with_reducible repeat (first | refine blk_drewN ?_ _ | refine blk_drew ?_ | refine blk_alloc ?_ _)); refine blk_put (cs := #[.slice none 0 0]) ?_ 0 _ rfl; (with_reducible repeat (first | refine blk_drewN ?_ _ | refine blk_drew ?_ | refine blk_alloc ?_ _)); exact BK306.out) hb); replace HB := bst HB hb; (try clear hb); (try clear hb2); (try clear hk); (try clear hi); have hcz61_0 := bce BK293 0 (.slice Ao41 y290.length co41); have hfz61_0 := blk_frozen BK293.out 0) | ((with_reducible refine gate_callee (f := 22) rfl ?_); refine goesL_ (some 80) rfl rfl Try.func22 (by kernel_rfl) rfl #[.agg #[.slice Ao41 y290.length co41]] rfl (by (try simp only [List.map_toArray, List.map_cons, List.map_nil]); first | done | rfl | (simp only [List.length_drop, List.length_take]; rfl)) ?_; (with_reducible refine (impl_DimOf.calls kj5 _ _ y290 t309 t310 _ ?side1 ?side2 A23.out).mono ?_); (case side1 => exact crC (Kd.R_reads' HO292.out).2.2); (case side2 => exact (Kd.R_reads' HO292.out).2.1); rintro e w62 ⟨rfl, hb⟩; refine ⟨_, rfl, ?_⟩; replace HO_277000 := rblR HO_277000 hb; replace HO289 := rblR HO289 hb; replace HO292 := rblR HO292 hb; replace HO302 := rblR HO302 hb; replace HO305 := rblR HO305 hb; replace BK276 := bkb BK276 hb; replace BK293 := bkb BK293 hb; replace BK306 := bkb BK306 hb; replace HB := bst HB hb; (try clear hb); (try clear hb2); (try clear hk); (try clear hi); have hnb63 := NB306_276.out; have hnc63 := NB276_306.out; have hcz64_0 := bce BK306 0 (.slice Ao55 y303.length co55); have hfz64_0 := blk_frozen BK306.out 0) | ((with_reducible refine gate_callee (f := 22) rfl ?_); refine goesL_ (some 85) rfl rfl Try.func22 (by kernel_rfl) rfl #[.agg #[.slice Ao55 y303.length co55]] rfl (by (try simp only [List.map_toArray, List.map_cons, List.map_nil]); first | done | rfl | (simp only [List.length_drop, List.length_take]; rfl)) ?_; (with_reducible refine (impl_DimOf.calls kj5 _ _ y303 t311 t312 _ ?side1 ?side2 A24.out).mono ?_); (case side1 => exact crC (Kd.R_reads' HO305.out).2.2); (case side2 => exact (Kd.R_reads' HO305.out).2.1); rintro e w65 ⟨rfl, hb⟩; refine ⟨_, rfl, ?_⟩; replace HO_277000 := rblR HO_277000 hb; replace HO289 := rblR HO289 hb; replace HO292 := rblR HO292 hb; replace HO302 := rblR HO302 hb; replace HO305 := rblR HO305 hb; replace BK276 := bkb BK276 hb; replace BK293 := bkb BK293 hb; replace BK306 := bkb BK306 hb; replace HB := bst HB hb; (try clear hb); (try clear hb2); (try clear hk); (try clear hi)))
              go_ret
              exact ⟨by first | rfl | (simp [errW_none, errW_some] <;> rfl) | (simp [*, errW_none, errW_some] <;> rfl), blw HB⟩
             ·
              rw [if_neg c29] at H
              have c29b0 : (t312 == 0) = false := beq_eq_false_iff_ne.mpr c29
              have c29b1 : (t312 != 0) = true := bne_iff_ne.mpr c29
              obtain rfl := Option.some.inj H
              exact absurd hr_ (by decide)
            ·
             rw [if_neg c28] at H
             have c28b0 : (t309 == t279) = false := beq_eq_false_iff_ne.mpr c28
             have c28b1 : (t309 != t279) = true := bne_iff_ne.mpr c28
             obtain rfl := Option.some.inj H
             exact absurd hr_ (by decide)
           ·
            rw [if_neg c27] at H
            have c27b0 : (t310 == 0) = false := beq_eq_false_iff_ne.mpr c27
            have c27b1 : (t310 != 0) = true := bne_iff_ne.mpr c27
            obtain rfl := Option.some.inj H
            exact absurd hr_ (by decide)
          ·
           rw [if_neg c26] at H
           have c26b0 : (t307 == (wrap64 (t277 + 1))) = false := beq_eq_false_iff_ne.mpr c26
           have c26b1 : (t307 != (wrap64 (t277 + 1))) = true := bne_iff_ne.mpr c26
           obtain rfl := Option.some.inj H
           exact absurd hr_ (by decide)
         ·
          rw [if_neg c25] at H
          have c25b0 : (t308 == 0) = false := beq_eq_false_iff_ne.mpr c25
          have c25b1 : (t308 != 0) = true := bne_iff_ne.mpr c25
          obtain rfl := Option.some.inj H
          exact absurd hr_ (by decide)
        ·
         rw [if_neg c21] at H
         exact absurd H (by simp)
       ·
        rw [if_neg c20] at H
        exact absurd H (by simp)
      ·
       rw [if_neg c19] at H
       exact absurd H (by simp)
     ·
      rw [if_neg c18] at H
      exact absurd H (by simp)

/-- THE ONE PURE STATEMENT of laws_FnShape: yours. -/
def laws_FnShape.Pure : Prop := ∀ (l0 : List Int), l0.length ≤ maxLen → l0.length * 1 ≤ 140737488351232 → (∀ x ∈ l0, (Lit.int .u8 x).wf = true) → ∃ k, laws_FnShape.f k l0 = some true
theorem laws_FnShape.walk (P : laws_FnShape.Pure) (a0 : Option Addr) (len0 cap0 : Nat) (z0 : List Int) (w : World) (w0 : (a0 = none ∧ len0 = 0 ∧ cap0 = 0 ∧ z0 = []) ∨ ∃ x, a0 = some x ∧ len0 ≤ cap0 ∧ cap0 ≤ maxLen ∧ z0.length = cap0 ∧ (∀ i, i < z0.length → w.cell? (x.add i) = some (.int .u8 (z0.getD i 0))) ∧ ∀ n ∈ z0, (Lit.int .u8 n).wf = true) (y0 : len0 * 1 ≤ 140737488351232) :
  Calls Try.prog 5 #[.slice a0 len0 cap0] w fun e w' => e = .returned (.bool true) ∧ Below w.heap.size w w' := by
 obtain ⟨l0, rfl, hr0, hm0, hw0, hc0⟩ := ReadsInt.ofRowC w0
 obtain ⟨k, h⟩ := P l0 hm0 y0 hw0
 refine (laws_FnShape.calls k _ _ l0 true w (Kd.C_of_reads (d := (0 : Int)) (h1 := fun _ => rfl) hr0) hc0 h rfl).mono ?_
 rintro e w' ⟨rfl, hd⟩
 exact ⟨rfl, hd⟩

end Go.Proofs.Ytbgaodfnhbbgdaa.S
