-- written by a program of this claim's session (myprint.py) out of the translation; Lean checks it.
import Derived.Test.YtacdaijalkkogaaQx0
import Derived.Test.YtacdaijalkkogaaSq
import Derived.Test.YtacdaijalkkogaaQxcmp
import Derived.Test.YtacdaijalkkogaaQxdiv
import Derived.Test.YtacdaijalkkogaaQxsub
import Derived.Test.YtacdaijalkkogaaQxgcd
import Derived.Test.YtacdaijalkkogaaQxrk
namespace Go.Proofs.Ytacdaijalkkogaa.Q
open Go.RowKit Go.Proofs.YtacdaijalkkogaaW.PrintWords Go.Proofs.YtacdaijalkkogaaW.PrintLast Go.Proofs.YtacdaijalkkogaaW.PrintMore
attribute [local go_sem] max2_int min2_int max_two min_two max_three min_three max_four min_four   -- for this text's walks alone
set_option linter.unusedVariables false
set_option linter.unusedSimpArgs false

theorem l02Make_gt (l : List Int) : decide (0 < l.length) = decide ((l.length : Int) > 0) := by simp only [decide_eq_decide]; omega
def spec_l02Make.f (k : Nat) (a0 : Bool) (l1 : List Int) (l2 : List Int) : Option (Bool × List Int × List Int) := (spec_l01Gcd.f k l1 l2).bind fun t261 => ((spec_l01Div.f k l1 t261).bind fun bt264 => ((spec_l01Div.f k l2 t261).bind fun bt270 => (if a0 = true then (some (decide ((bt264.1.length : Int) > 0), bt264.1, bt270.1)) else (some (false, bt264.1, bt270.1)))))
theorem spec_l02Make.mono : ∀ a0 a1 a2 k, LeO (spec_l02Make.f k a0 a1 a2) (spec_l02Make.f (k + 1) a0 a1 a2) := by
 intro a0 a1 a2 k
 unfold spec_l02Make.f
 repeat' first
   | (with_reducible exact spec_l01Div.mono _ _ _)
   | (with_reducible exact spec_l01Gcd.mono _ _ _)
   | (with_reducible exact LeO.refl _)
   | (with_reducible exact LeO.none _)
   | (with_reducible refine LeO.ite ?_ ?_)
   | (with_reducible refine LeO.bind ?_ (fun _ => ?_))
   | exact spec_l01Div.mono _ _ _
   | exact spec_l01Gcd.mono _ _ _
   | exact LeO.none _
   | refine LeO.ite ?_ ?_
   | refine LeO.bind ?_ (fun _ => ?_)
set_option maxHeartbeats 8000000 in
set_option maxRecDepth 100000 in
theorem spec_l02Make.calls (k : Nat) (a0 : Bool) (A1 : Option Addr) (c1 : Nat) (l1 : List Int) (A2 : Option Addr) (c2 : Nat) (l2 : List Int) (r1 : Bool) (r2 : List Int) (r3 : List Int) (w : World) (hr1 : Kd.C (Kd.int .i64) w A1 l1.length l1) (hc1 : l1.length ≤ c1) (hr2 : Kd.C (Kd.int .i64) w A2 l2.length l2) (hc2 : l2.length ≤ c2) (h : spec_l02Make.f k a0 l1 l2 = some (r1, r2, r3)) :
  Calls Try.prog 47 #[.bool a0, .slice A1 l1.length c1, .slice A2 l2.length c2] w fun e w' => ∃ v1_ v2_ : Value, e = .returned (.agg #[.bool r1, v1_, v2_]) ∧ Kd.R (Kd.int .i64) 3 w' w.heap.size (fun k_ => nO k_ v2_) v1_ r2 ∧ Kd.R (Kd.int .i64) 3 w' w.heap.size (fun k_ => nO k_ v1_) v2_ r3 ∧ Below w.heap.size w w' := by
 have hu24 := Try.underlying24
 have HR1 := Aside0.mk hr1
 have HC1 := Aside0.mk hc1
 clear hr1 hc1
 have HR2 := Aside0.mk hr2
 have HC2 := Aside0.mk hc2
 clear hr2 hc2
 have HB := Aside0.mk (Below.refl w.heap.size w)
 have H : ((spec_l01Gcd.f k l1 l2).bind fun t261 => ((spec_l01Div.f k l1 t261).bind fun bt264 => ((spec_l01Div.f k l2 t261).bind fun bt270 => (if a0 = true then (some (decide ((bt264.1.length : Int) > 0), bt264.1, bt270.1)) else (some (false, bt264.1, bt270.1)))))) = some (r1, r2, r3) := h
 clear h
 replace H := Option.bind_eq_some_iff.mp H
 obtain ⟨t261, A40, H⟩ := H
 replace H : ((spec_l01Div.f k l1 t261).bind fun bt264 => ((spec_l01Div.f k l2 t261).bind fun bt270 => (if a0 = true then (some (decide ((bt264.1.length : Int) > 0), bt264.1, bt270.1)) else (some (false, bt264.1, bt270.1))))) = some (r1, r2, r3) := H
 have A4 := Aside0.mk A40
 clear A40
 replace H := Option.bind_eq_some_iff.mp H
 obtain ⟨⟨t264, t265⟩, A50, H⟩ := H
 replace H : ((spec_l01Div.f k l2 t261).bind fun bt270 => (if a0 = true then (some (decide ((t264.length : Int) > 0), t264, bt270.1)) else (some (false, t264, bt270.1)))) = some (r1, r2, r3) := H
 have A5 := Aside0.mk A50
 clear A50
 replace H := Option.bind_eq_some_iff.mp H
 obtain ⟨⟨t270, t271⟩, A60, H⟩ := H
 replace H : (if a0 = true then (some (decide ((t264.length : Int) > 0), t264, t270)) else (some (false, t264, t270))) = some (r1, r2, r3) := H
 have A6 := Aside0.mk A60
 clear A60
 by_cases c7 : a0 = true
 ·
  subst c7
  have H1 : (some (decide ((t264.length : Int) > 0), t264, t270)) = some (r1, r2, r3) := by rw [if_pos rfl] at H; exact H
  clear H
  have H := H1
  clear H1
  simp only [Option.some.injEq, Prod.mk.injEq] at H
  obtain ⟨rfl, rfl, rfl⟩ := H
  go_enter Try.func47, Try.ntmps47
  go_wp2_with (first | ((with_reducible refine gate_dst (N := 6) rfl ?_); (try (refine gate_guard (by rfl) ?_; dsimp only)); refine box_event ?hg (N := 6) ?hd (cs := #[.bool false, .slice none 0 0, .slice none 0 0]) (t := 24) ?hr ?_; (case hd => rfl); (case hg => rfl); (case hr => first | (go_simp; done) | (go_simp; rfl)); intro gb260 hg w8 hbox hb; have BK260 := Aside0.mk (hbox); have GW260 := geh hg HB; have GE260 := geh hg HB; replace HB := bst HB hb; clear hb hbox hg) | ((with_reducible refine gate_callee (f := 56) rfl ?_); refine goesL_ (some 14) rfl rfl Try.func56 (by kernel_rfl) rfl #[.slice A1 l1.length c1, .slice A2 l2.length c2] rfl (by (try simp only [List.map_toArray, List.map_cons, List.map_nil]); first | done | rfl | (simp only [List.length_drop, List.length_take]; rfl)) ?_; (with_reducible refine (spec_l01Gcd.calls k (fun k_ => k_ < w.heap.size) _ _ l1 (fun k_ => k_ < w.heap.size) _ _ l2 t261 _ ?side1 ?side2 A4.out).mono ?_); (case side1 => exact Kd.V_mk HC1.out (Kd.F_below (Kd.C_F (Kd.heap_int .i64) HR1.out) (blw HB))); (case side2 => exact Kd.V_mk HC2.out (Kd.F_below (Kd.C_F (Kd.heap_int .i64) HR2.out) (blw HB))); rintro e w9 ⟨v262, rfl, ho0, hb⟩; refine ⟨_, rfl, ?_⟩; have HO263 := lwR (Kd.R_mono (ok' := fun k_ => True) ho0 (fun _ hk_ => trivial)) HB; replace BK260 := bkb BK260 hb; replace HB := bst HB hb; (try clear hb); (try clear hb2); (try clear hk); (try clear hi); (try clear ho0); obtain ⟨Ao10, co10, eo10⟩ := Kd.R_slice HO263.out; subst eo10) | ((with_reducible refine gate_callee (f := 92) rfl ?_); refine goesL_ (some 18) rfl rfl Try.func92 (by kernel_rfl) rfl #[.slice A1 l1.length c1, .slice Ao10 t261.length co10] rfl (by (try simp only [List.map_toArray, List.map_cons, List.map_nil]); first | done | rfl | (simp only [List.length_drop, List.length_take]; rfl)) ?_; (with_reducible refine (spec_l01Div.calls k _ _ l1 _ _ t261 t264 t265 _ ?side1 ?side2 ?side3 ?side4 A5.out).mono ?_); (case side1 => exact crC (Kd.C_below HR1.out HB.out)); (case side2 => exact HC1.out); (case side3 => exact crC (Kd.R_reads' HO263.out).2.2); (case side4 => exact (Kd.R_reads' HO263.out).2.1); rintro e w11 ⟨v266, v268, rfl, ho0, ho1, hb⟩; refine ⟨_, rfl, ?_⟩; have HO267 := lwR (nwR ho0 HO263) HB; have HO269 := lwR (nwR ho1 HO263) HB; replace HO263 := tldR HO263 hb (Kd.R_base ho0) (Kd.R_base ho1); replace BK260 := bkb BK260 hb; replace HB := bst HB hb; (try clear hb); (try clear hb2); (try clear hk); (try clear hi); (try clear ho0); (try clear ho1)) | ((with_reducible refine gate_callee (f := 92) rfl ?_); refine goesL_ (some 24) rfl rfl Try.func92 (by kernel_rfl) rfl #[.slice A2 l2.length c2, .slice Ao10 t261.length co10] rfl (by (try simp only [List.map_toArray, List.map_cons, List.map_nil]); first | done | rfl | (simp only [List.length_drop, List.length_take]; rfl)) ?_; (with_reducible refine (spec_l01Div.calls k _ _ l2 _ _ t261 t270 t271 _ ?side1 ?side2 ?side3 ?side4 A6.out).mono ?_); (case side1 => exact crC (Kd.C_below HR2.out HB.out)); (case side2 => exact HC2.out); (case side3 => exact crC (Kd.R_reads' HO263.out).2.2); (case side4 => exact (Kd.R_reads' HO263.out).2.1); rintro e w12 ⟨v272, v274, rfl, ho0, ho1, hb⟩; refine ⟨_, rfl, ?_⟩; have HO273 := lwR (nwR (nwR (nwR ho0 HO263) HO267) HO269) HB; have HO275 := lwR (nwR (nwR (nwR ho1 HO263) HO267) HO269) HB; replace HO263 := tldR HO263 hb (Kd.R_base ho0) (Kd.R_base ho1); replace HO267 := tldR HO267 hb (Kd.R_base ho0) (Kd.R_base ho1); replace HO269 := tldR HO269 hb (Kd.R_base ho0) (Kd.R_base ho1); replace BK260 := bkb BK260 hb; replace HB := bst HB hb; (try clear hb); (try clear hb2); (try clear hk); (try clear hi); (try clear ho0); (try clear ho1); obtain ⟨Ao13, co13, eo13⟩ := Kd.R_slice HO267.out; subst eo13; obtain ⟨Ao14, co14, eo14⟩ := Kd.R_slice HO273.out; subst eo14; have hcz15_0 := bce BK260 0 (.bool false); have hcz15_1 := bce BK260 1 (.slice none 0 0); have hcz15_2 := bce BK260 2 (.slice none 0 0); have hfz15_0 := blk_frozen BK260.out 0; have hfz15_1 := blk_frozen BK260.out 1; have hfz15_2 := blk_frozen BK260.out 2))
  refine bodyPost_ret (results_cell_row rfl _ _ gb260 24 #[.bool (decide (0 < t264.length)), .slice Ao13 t264.length co13, .slice Ao14 t270.length co14] (0, 0) _ rfl (by (with_reducible repeat (first | refine blk_drewN ?_ _ | refine blk_drew ?_ | refine blk_alloc ?_ _)); refine blk_put (cs := #[.bool (decide (0 < t264.length)), .slice Ao13 t264.length co13, .slice none 0 0]) ?_ 2 _ rfl; (with_reducible repeat (first | refine blk_drewN ?_ _ | refine blk_drew ?_ | refine blk_alloc ?_ _)); refine blk_put (cs := #[.bool (decide (0 < t264.length)), .slice none 0 0, .slice none 0 0]) ?_ 1 _ rfl; (with_reducible repeat (first | refine blk_drewN ?_ _ | refine blk_drew ?_ | refine blk_alloc ?_ _)); refine blk_put (cs := #[.bool false, .slice none 0 0, .slice none 0 0]) ?_ 0 _ rfl; (with_reducible repeat (first | refine blk_drewN ?_ _ | refine blk_drew ?_ | refine blk_alloc ?_ _)); exact BK260.out) Try.underlying24 rfl (by kernel_rfl)) rfl ?_
  exact ⟨_, _, by first | rfl | (simp only [l02Make_gt]; rfl) | (simp [errW_none, errW_some] <;> rfl) | (simp [*, errW_none, errW_some] <;> rfl), by (with_reducible repeat (first | apply Kd.R_alloc | apply Kd.R_drewN | apply Kd.R_drew)); exact Kd.R_mono (Kd.R_far (p := ⟨gb260, 2, none⟩) (Kd.R_far (p := ⟨gb260, 1, none⟩) (Kd.R_far (p := ⟨gb260, 0, none⟩) (Kd.R_types HO267.out BK260.out (by decide)) (fun _ hk => hk.2) (.bool (decide (0 < t264.length)))) (fun _ hk => hk.2) (.slice Ao13 t264.length co13)) (fun _ hk => hk.2) (.slice Ao14 t270.length co14)) (fun _ hk => hk.1.1.2), by (with_reducible repeat (first | apply Kd.R_alloc | apply Kd.R_drewN | apply Kd.R_drew)); exact Kd.R_mono (Kd.R_far (p := ⟨gb260, 2, none⟩) (Kd.R_far (p := ⟨gb260, 1, none⟩) (Kd.R_far (p := ⟨gb260, 0, none⟩) (Kd.R_types HO273.out BK260.out (by decide)) (fun _ hk => hk.2) (.bool (decide (0 < t264.length)))) (fun _ hk => hk.2) (.slice Ao13 t264.length co13)) (fun _ hk => hk.2) (.slice Ao14 t270.length co14)) (fun _ hk => hk.1.1.2), blw HB⟩
 ·
  replace c7 := Bool.eq_false_iff.mpr c7
  subst c7
  have H1 : (some (false, t264, t270)) = some (r1, r2, r3) := by rw [if_neg (show ¬ (false = true) by decide)] at H; exact H
  clear H
  have H := H1
  clear H1
  simp only [Option.some.injEq, Prod.mk.injEq] at H
  obtain ⟨rfl, rfl, rfl⟩ := H
  go_enter Try.func47, Try.ntmps47
  go_wp2_with (first | ((with_reducible refine gate_dst (N := 6) rfl ?_); (try (refine gate_guard (by rfl) ?_; dsimp only)); refine box_event ?hg (N := 6) ?hd (cs := #[.bool false, .slice none 0 0, .slice none 0 0]) (t := 24) ?hr ?_; (case hd => rfl); (case hg => rfl); (case hr => first | (go_simp; done) | (go_simp; rfl)); intro gb260 hg w16 hbox hb; have BK260 := Aside0.mk (hbox); have GW260 := geh hg HB; have GE260 := geh hg HB; replace HB := bst HB hb; clear hb hbox hg) | ((with_reducible refine gate_callee (f := 56) rfl ?_); refine goesL_ (some 14) rfl rfl Try.func56 (by kernel_rfl) rfl #[.slice A1 l1.length c1, .slice A2 l2.length c2] rfl (by (try simp only [List.map_toArray, List.map_cons, List.map_nil]); first | done | rfl | (simp only [List.length_drop, List.length_take]; rfl)) ?_; (with_reducible refine (spec_l01Gcd.calls k (fun k_ => k_ < w.heap.size) _ _ l1 (fun k_ => k_ < w.heap.size) _ _ l2 t261 _ ?side1 ?side2 A4.out).mono ?_); (case side1 => exact Kd.V_mk HC1.out (Kd.F_below (Kd.C_F (Kd.heap_int .i64) HR1.out) (blw HB))); (case side2 => exact Kd.V_mk HC2.out (Kd.F_below (Kd.C_F (Kd.heap_int .i64) HR2.out) (blw HB))); rintro e w17 ⟨v262, rfl, ho0, hb⟩; refine ⟨_, rfl, ?_⟩; have HO263 := lwR (Kd.R_mono (ok' := fun k_ => True) ho0 (fun _ hk_ => trivial)) HB; replace BK260 := bkb BK260 hb; replace HB := bst HB hb; (try clear hb); (try clear hb2); (try clear hk); (try clear hi); (try clear ho0); obtain ⟨Ao18, co18, eo18⟩ := Kd.R_slice HO263.out; subst eo18) | ((with_reducible refine gate_callee (f := 92) rfl ?_); refine goesL_ (some 18) rfl rfl Try.func92 (by kernel_rfl) rfl #[.slice A1 l1.length c1, .slice Ao18 t261.length co18] rfl (by (try simp only [List.map_toArray, List.map_cons, List.map_nil]); first | done | rfl | (simp only [List.length_drop, List.length_take]; rfl)) ?_; (with_reducible refine (spec_l01Div.calls k _ _ l1 _ _ t261 t264 t265 _ ?side1 ?side2 ?side3 ?side4 A5.out).mono ?_); (case side1 => exact crC (Kd.C_below HR1.out HB.out)); (case side2 => exact HC1.out); (case side3 => exact crC (Kd.R_reads' HO263.out).2.2); (case side4 => exact (Kd.R_reads' HO263.out).2.1); rintro e w19 ⟨v266, v268, rfl, ho0, ho1, hb⟩; refine ⟨_, rfl, ?_⟩; have HO267 := lwR (nwR ho0 HO263) HB; have HO269 := lwR (nwR ho1 HO263) HB; replace HO263 := tldR HO263 hb (Kd.R_base ho0) (Kd.R_base ho1); replace BK260 := bkb BK260 hb; replace HB := bst HB hb; (try clear hb); (try clear hb2); (try clear hk); (try clear hi); (try clear ho0); (try clear ho1)) | ((with_reducible refine gate_callee (f := 92) rfl ?_); refine goesL_ (some 24) rfl rfl Try.func92 (by kernel_rfl) rfl #[.slice A2 l2.length c2, .slice Ao18 t261.length co18] rfl (by (try simp only [List.map_toArray, List.map_cons, List.map_nil]); first | done | rfl | (simp only [List.length_drop, List.length_take]; rfl)) ?_; (with_reducible refine (spec_l01Div.calls k _ _ l2 _ _ t261 t270 t271 _ ?side1 ?side2 ?side3 ?side4 A6.out).mono ?_); (case side1 => exact crC (Kd.C_below HR2.out HB.out)); (case side2 => exact HC2.out); (case side3 => exact crC (Kd.R_reads' HO263.out).2.2); (case side4 => exact (Kd.R_reads' HO263.out).2.1); rintro e w20 ⟨v272, v274, rfl, ho0, ho1, hb⟩; refine ⟨_, rfl, ?_⟩; have HO273 := lwR (nwR (nwR (nwR ho0 HO263) HO267) HO269) HB; have HO275 := lwR (nwR (nwR (nwR ho1 HO263) HO267) HO269) HB; replace HO263 := tldR HO263 hb (Kd.R_base ho0) (Kd.R_base ho1); replace HO267 := tldR HO267 hb (Kd.R_base ho0) (Kd.R_base ho1); replace HO269 := tldR HO269 hb (Kd.R_base ho0) (Kd.R_base ho1); replace BK260 := bkb BK260 hb; replace HB := bst HB hb; (try clear hb); (try clear hb2); (try clear hk); (try clear hi); (try clear ho0); (try clear ho1); obtain ⟨Ao21, co21, eo21⟩ := Kd.R_slice HO273.out; subst eo21; obtain ⟨Ao22, co22, eo22⟩ := Kd.R_slice HO267.out; subst eo22; have hcz23_0 := bce BK260 0 (.bool false); have hcz23_1 := bce BK260 1 (.slice none 0 0); have hcz23_2 := bce BK260 2 (.slice none 0 0); have hfz23_0 := blk_frozen BK260.out 0; have hfz23_1 := blk_frozen BK260.out 1; have hfz23_2 := blk_frozen BK260.out 2))
  refine bodyPost_ret (results_cell_row rfl _ _ gb260 24 #[.bool false, .slice Ao22 t264.length co22, .slice Ao21 t270.length co21] (0, 0) _ rfl (by (with_reducible repeat (first | refine blk_drewN ?_ _ | refine blk_drew ?_ | refine blk_alloc ?_ _)); refine blk_put (cs := #[.bool false, .slice Ao22 t264.length co22, .slice none 0 0]) ?_ 2 _ rfl; (with_reducible repeat (first | refine blk_drewN ?_ _ | refine blk_drew ?_ | refine blk_alloc ?_ _)); refine blk_put (cs := #[.bool false, .slice none 0 0, .slice none 0 0]) ?_ 1 _ rfl; (with_reducible repeat (first | refine blk_drewN ?_ _ | refine blk_drew ?_ | refine blk_alloc ?_ _)); refine blk_put (cs := #[.bool false, .slice none 0 0, .slice none 0 0]) ?_ 0 _ rfl; (with_reducible repeat (first | refine blk_drewN ?_ _ | refine blk_drew ?_ | refine blk_alloc ?_ _)); exact BK260.out) Try.underlying24 rfl (by kernel_rfl)) rfl ?_
  exact ⟨_, _, by first | rfl | (simp only [l02Make_gt]; rfl) | (simp [errW_none, errW_some] <;> rfl) | (simp [*, errW_none, errW_some] <;> rfl), by (with_reducible repeat (first | apply Kd.R_alloc | apply Kd.R_drewN | apply Kd.R_drew)); exact Kd.R_mono (Kd.R_far (p := ⟨gb260, 2, none⟩) (Kd.R_far (p := ⟨gb260, 1, none⟩) (Kd.R_far (p := ⟨gb260, 0, none⟩) (Kd.R_types HO267.out BK260.out (by decide)) (fun _ hk => hk.2) (.bool false)) (fun _ hk => hk.2) (.slice Ao22 t264.length co22)) (fun _ hk => hk.2) (.slice Ao21 t270.length co21)) (fun _ hk => hk.1.1.2), by (with_reducible repeat (first | apply Kd.R_alloc | apply Kd.R_drewN | apply Kd.R_drew)); exact Kd.R_mono (Kd.R_far (p := ⟨gb260, 2, none⟩) (Kd.R_far (p := ⟨gb260, 1, none⟩) (Kd.R_far (p := ⟨gb260, 0, none⟩) (Kd.R_types HO273.out BK260.out (by decide)) (fun _ hk => hk.2) (.bool false)) (fun _ hk => hk.2) (.slice Ao22 t264.length co22)) (fun _ hk => hk.2) (.slice Ao21 t270.length co21)) (fun _ hk => hk.1.1.2), blw HB⟩

def spec_l02Int.f (k : Nat) (a0 : Int) : Option (Bool × List Int × List Int) := if a0 < 0 then ((spec_l01Small.f k (wrap64 (-a0))).bind fun t517 => (some (true, t517, (([1] : List Int))))) else ((spec_l01Small.f k a0).bind fun t523 => (some (false, t523, (([1] : List Int)))))
theorem spec_l02Int.mono : ∀ a0 k, LeO (spec_l02Int.f k a0) (spec_l02Int.f (k + 1) a0) := by
 intro a0 k
 unfold spec_l02Int.f
 repeat' first
   | (with_reducible exact spec_l01Small.mono _ _)
   | (with_reducible exact LeO.refl _)
   | (with_reducible exact LeO.none _)
   | (with_reducible refine LeO.ite ?_ ?_)
   | (with_reducible refine LeO.bind ?_ (fun _ => ?_))
   | exact spec_l01Small.mono _ _
   | exact LeO.none _
   | refine LeO.ite ?_ ?_
   | refine LeO.bind ?_ (fun _ => ?_)
set_option maxHeartbeats 8000000 in
set_option maxRecDepth 100000 in
theorem spec_l02Int.calls (k : Nat) (a0 : Int) (r1 : Bool) (r2 : List Int) (r3 : List Int) (w : World) (h : spec_l02Int.f k a0 = some (r1, r2, r3)) :
  Calls Try.prog 46 #[.int .i64 a0] w fun e w' => ∃ v1_ v2_ : Value, e = .returned (.agg #[.bool r1, v1_, v2_]) ∧ Kd.R (Kd.int .i64) 3 w' w.heap.size (fun k_ => nO k_ v2_) v1_ r2 ∧ Kd.R (Kd.int .i64) 3 w' w.heap.size (fun k_ => nO k_ v1_) v2_ r3 ∧ Below w.heap.size w w' := by
 have hu24 := Try.underlying24
 have HB := Aside0.mk (Below.refl w.heap.size w)
 have H : (if a0 < 0 then ((spec_l01Small.f k (wrap64 (-a0))).bind fun t517 => (some (true, t517, (([1] : List Int))))) else ((spec_l01Small.f k a0).bind fun t523 => (some (false, t523, (([1] : List Int)))))) = some (r1, r2, r3) := h
 clear h
 by_cases c2 : a0 < 0
 ·
  rw [if_pos c2] at H
  have c2b0 : decide (a0 < 0) = true := decide_eq_true c2
  clear c2
  replace H := Option.bind_eq_some_iff.mp H
  obtain ⟨t517, A30, H⟩ := H
  replace H : (some (true, t517, (([1] : List Int)))) = some (r1, r2, r3) := H
  have A3 := Aside0.mk A30
  clear A30
  obtain ⟨y520, hy520⟩ : ∃ y_ : List Int, y_ = (([1] : List Int)) := ⟨_, rfl⟩
  replace H : (some (true, t517, y520)) = some (r1, r2, r3) := by first | (rw [hy520]; with_reducible exact H) | (have H2_ := (Option.bind_some _ _).symm.trans H; rw [hy520]; with_reducible exact H2_) | (have H2_ := (Option.bind_some _ _).symm.trans H; with_reducible exact H2_) | with_reducible exact H | (rw [hy520]; exact H) | exact H
  have Ny520 := Aside0.mk hy520
  clear hy520
  simp only [Option.some.injEq, Prod.mk.injEq] at H
  obtain ⟨rfl, rfl, rfl⟩ := H
  go_enter Try.func46, Try.ntmps46
  go_wp2_with (first | ((with_reducible refine gate_dst (N := 2) rfl ?_); refine box_event ?hg (N := 2) ?hd (cs := #[.bool false, .slice none 0 0, .slice none 0 0]) (t := 24) ?hr ?_; (case hd => rfl); (case hg => rfl); (case hr => first | (go_simp; done) | (go_simp; rfl)); intro gb516 hg w4 hbox hb; have BK516 := Aside0.mk (hbox); have GW516 := geh hg HB; have GE516 := geh hg HB; replace HB := bst HB hb; clear hb hbox hg) | ((with_reducible refine gate_callee (f := 91) rfl ?_); refine goesL_ (some 7) rfl rfl Try.func91 (by kernel_rfl) rfl #[.int .i64 (wrap64 (-a0))] rfl (by (try simp only [List.map_toArray, List.map_cons, List.map_nil]); first | done | rfl | (simp only [List.length_drop, List.length_take]; rfl)) ?_; (with_reducible refine (spec_l01Small.calls k (wrap64 (-a0)) t517 _ A3.out).mono ?_); rintro e w5 ⟨v518, rfl, ho0, hb⟩; refine ⟨_, rfl, ?_⟩; have HO519 := lwR ho0 HB; replace BK516 := bkb BK516 hb; replace HB := bst HB hb; (try clear hb); (try clear hb2); (try clear hk); (try clear hi); (try clear ho0)) | ((with_reducible refine gate_dst (N := 8) rfl ?_); refine Kd.R_lit (Kd.int .i64) _ 3 ?hg (N := 8) ?hd (xs := ([1] : List Int)) (inner := [.int .i64 1]) (ok := fun _ => True) (okp := fun _ => True) ?hr ?hp (fun _ hk => hk) trivial (Below.refl _ _) (Nat.le_refl _) (by simp) ?_; (case hd => rfl); (case hg => rfl); (case hr => first | (go_simp; done) | (go_simp; rfl)); (case hp => exact (Reps.one (show Kd.M (Kd.int .i64) _ _ _ 1 [.int .i64 1] from rfl) (Reps.none _ _))); intro v521 w6 ho7 hb hg_ hnew_; clear hg_ hnew_; (first | rw [← Ny520.out] at ho7 | (simp only [Int.reduceToNat] at ho7; rw [← Ny520.out] at ho7)); have HO522 := lwR (nwR ho7 HO519) HB; replace HO519 := eldR HO519 (Kd.R_base ho7) hb; replace BK516 := bkb BK516 hb; replace HB := bst HB hb; clear hb ho7; obtain ⟨Ao8, co8, eo8⟩ := Kd.R_slice HO522.out; subst eo8; obtain ⟨Ao9, co9, eo9⟩ := Kd.R_slice HO519.out; subst eo9; have hcz10_0 := bce BK516 0 (.bool false); have hcz10_1 := bce BK516 1 (.slice none 0 0); have hcz10_2 := bce BK516 2 (.slice none 0 0); have hfz10_0 := blk_frozen BK516.out 0; have hfz10_1 := blk_frozen BK516.out 1; have hfz10_2 := blk_frozen BK516.out 2))
  refine bodyPost_ret (results_cell_row rfl _ _ gb516 24 #[.bool true, .slice Ao9 t517.length co9, .slice Ao8 y520.length co8] (0, 0) _ rfl (by (with_reducible repeat (first | refine blk_drewN ?_ _ | refine blk_drew ?_ | refine blk_alloc ?_ _)); refine blk_put (cs := #[.bool true, .slice Ao9 t517.length co9, .slice none 0 0]) ?_ 2 _ rfl; (with_reducible repeat (first | refine blk_drewN ?_ _ | refine blk_drew ?_ | refine blk_alloc ?_ _)); refine blk_put (cs := #[.bool true, .slice none 0 0, .slice none 0 0]) ?_ 1 _ rfl; (with_reducible repeat (first | refine blk_drewN ?_ _ | refine blk_drew ?_ | refine blk_alloc ?_ _)); refine blk_put (cs := #[.bool false, .slice none 0 0, .slice none 0 0]) ?_ 0 _ rfl; (with_reducible repeat (first | refine blk_drewN ?_ _ | refine blk_drew ?_ | refine blk_alloc ?_ _)); exact BK516.out) Try.underlying24 rfl (by kernel_rfl)) rfl ?_
  exact ⟨_, _, by first | rfl | (simp [errW_none, errW_some] <;> rfl) | (simp [*, errW_none, errW_some] <;> rfl), by (with_reducible repeat (first | apply Kd.R_alloc | apply Kd.R_drewN | apply Kd.R_drew)); exact Kd.R_mono (Kd.R_far (p := ⟨gb516, 2, none⟩) (Kd.R_far (p := ⟨gb516, 1, none⟩) (Kd.R_far (p := ⟨gb516, 0, none⟩) (Kd.R_types HO519.out BK516.out (by decide)) (fun _ hk => hk.2) (.bool true)) (fun _ hk => hk.2) (.slice Ao9 t517.length co9)) (fun _ hk => hk.2) (.slice Ao8 y520.length co8)) (fun _ hk => hk.1.2), by (with_reducible repeat (first | apply Kd.R_alloc | apply Kd.R_drewN | apply Kd.R_drew)); exact Kd.R_mono (Kd.R_far (p := ⟨gb516, 2, none⟩) (Kd.R_far (p := ⟨gb516, 1, none⟩) (Kd.R_far (p := ⟨gb516, 0, none⟩) (Kd.R_types HO522.out BK516.out (by decide)) (fun _ hk => hk.2) (.bool true)) (fun _ hk => hk.2) (.slice Ao9 t517.length co9)) (fun _ hk => hk.2) (.slice Ao8 y520.length co8)) (fun _ hk => hk.1.2), blw HB⟩
 ·
  rw [if_neg c2] at H
  have c2b0 : decide (a0 < 0) = false := decide_eq_false c2
  clear c2
  replace H := Option.bind_eq_some_iff.mp H
  obtain ⟨t523, A110, H⟩ := H
  replace H : (some (false, t523, (([1] : List Int)))) = some (r1, r2, r3) := H
  have A11 := Aside0.mk A110
  clear A110
  obtain ⟨y526, hy526⟩ : ∃ y_ : List Int, y_ = (([1] : List Int)) := ⟨_, rfl⟩
  replace H : (some (false, t523, y526)) = some (r1, r2, r3) := by first | (rw [hy526]; with_reducible exact H) | (have H2_ := (Option.bind_some _ _).symm.trans H; rw [hy526]; with_reducible exact H2_) | (have H2_ := (Option.bind_some _ _).symm.trans H; with_reducible exact H2_) | with_reducible exact H | (rw [hy526]; exact H) | exact H
  have Ny526 := Aside0.mk hy526
  clear hy526
  simp only [Option.some.injEq, Prod.mk.injEq] at H
  obtain ⟨rfl, rfl, rfl⟩ := H
  go_enter Try.func46, Try.ntmps46
  go_wp2_with (first | ((with_reducible refine gate_dst (N := 2) rfl ?_); refine box_event ?hg (N := 2) ?hd (cs := #[.bool false, .slice none 0 0, .slice none 0 0]) (t := 24) ?hr ?_; (case hd => rfl); (case hg => rfl); (case hr => first | (go_simp; done) | (go_simp; rfl)); intro gb516 hg w12 hbox hb; have BK516 := Aside0.mk (hbox); have GW516 := geh hg HB; have GE516 := geh hg HB; replace HB := bst HB hb; clear hb hbox hg) | ((with_reducible refine gate_callee (f := 91) rfl ?_); refine goesL_ (some 11) rfl rfl Try.func91 (by kernel_rfl) rfl #[.int .i64 a0] rfl (by (try simp only [List.map_toArray, List.map_cons, List.map_nil]); first | done | rfl | (simp only [List.length_drop, List.length_take]; rfl)) ?_; (with_reducible refine (spec_l01Small.calls k a0 t523 _ A11.out).mono ?_); rintro e w13 ⟨v524, rfl, ho0, hb⟩; refine ⟨_, rfl, ?_⟩; have HO525 := lwR ho0 HB; replace BK516 := bkb BK516 hb; replace HB := bst HB hb; (try clear hb); (try clear hb2); (try clear hk); (try clear hi); (try clear ho0)) | ((with_reducible refine gate_dst (N := 12) rfl ?_); refine Kd.R_lit (Kd.int .i64) _ 3 ?hg (N := 12) ?hd (xs := ([1] : List Int)) (inner := [.int .i64 1]) (ok := fun _ => True) (okp := fun _ => True) ?hr ?hp (fun _ hk => hk) trivial (Below.refl _ _) (Nat.le_refl _) (by simp) ?_; (case hd => rfl); (case hg => rfl); (case hr => first | (go_simp; done) | (go_simp; rfl)); (case hp => exact (Reps.one (show Kd.M (Kd.int .i64) _ _ _ 1 [.int .i64 1] from rfl) (Reps.none _ _))); intro v527 w14 ho15 hb hg_ hnew_; clear hg_ hnew_; (first | rw [← Ny526.out] at ho15 | (simp only [Int.reduceToNat] at ho15; rw [← Ny526.out] at ho15)); have HO528 := lwR (nwR ho15 HO525) HB; replace HO525 := eldR HO525 (Kd.R_base ho15) hb; replace BK516 := bkb BK516 hb; replace HB := bst HB hb; clear hb ho15; obtain ⟨Ao16, co16, eo16⟩ := Kd.R_slice HO528.out; subst eo16; obtain ⟨Ao17, co17, eo17⟩ := Kd.R_slice HO525.out; subst eo17; have hcz18_0 := bce BK516 0 (.bool false); have hcz18_1 := bce BK516 1 (.slice none 0 0); have hcz18_2 := bce BK516 2 (.slice none 0 0); have hfz18_0 := blk_frozen BK516.out 0; have hfz18_1 := blk_frozen BK516.out 1; have hfz18_2 := blk_frozen BK516.out 2))
  refine bodyPost_ret (results_cell_row rfl _ _ gb516 24 #[.bool false, .slice Ao17 t523.length co17, .slice Ao16 y526.length co16] (0, 0) _ rfl (by (with_reducible repeat (first | refine blk_drewN ?_ _ | refine blk_drew ?_ | refine blk_alloc ?_ _)); refine blk_put (cs := #[.bool false, .slice Ao17 t523.length co17, .slice none 0 0]) ?_ 2 _ rfl; (with_reducible repeat (first | refine blk_drewN ?_ _ | refine blk_drew ?_ | refine blk_alloc ?_ _)); refine blk_put (cs := #[.bool false, .slice none 0 0, .slice none 0 0]) ?_ 1 _ rfl; (with_reducible repeat (first | refine blk_drewN ?_ _ | refine blk_drew ?_ | refine blk_alloc ?_ _)); refine blk_put (cs := #[.bool false, .slice none 0 0, .slice none 0 0]) ?_ 0 _ rfl; (with_reducible repeat (first | refine blk_drewN ?_ _ | refine blk_drew ?_ | refine blk_alloc ?_ _)); exact BK516.out) Try.underlying24 rfl (by kernel_rfl)) rfl ?_
  exact ⟨_, _, by first | rfl | (simp [errW_none, errW_some] <;> rfl) | (simp [*, errW_none, errW_some] <;> rfl), by (with_reducible repeat (first | apply Kd.R_alloc | apply Kd.R_drewN | apply Kd.R_drew)); exact Kd.R_mono (Kd.R_far (p := ⟨gb516, 2, none⟩) (Kd.R_far (p := ⟨gb516, 1, none⟩) (Kd.R_far (p := ⟨gb516, 0, none⟩) (Kd.R_types HO525.out BK516.out (by decide)) (fun _ hk => hk.2) (.bool false)) (fun _ hk => hk.2) (.slice Ao17 t523.length co17)) (fun _ hk => hk.2) (.slice Ao16 y526.length co16)) (fun _ hk => hk.1.2), by (with_reducible repeat (first | apply Kd.R_alloc | apply Kd.R_drewN | apply Kd.R_drew)); exact Kd.R_mono (Kd.R_far (p := ⟨gb516, 2, none⟩) (Kd.R_far (p := ⟨gb516, 1, none⟩) (Kd.R_far (p := ⟨gb516, 0, none⟩) (Kd.R_types HO528.out BK516.out (by decide)) (fun _ hk => hk.2) (.bool false)) (fun _ hk => hk.2) (.slice Ao17 t523.length co17)) (fun _ hk => hk.2) (.slice Ao16 y526.length co16)) (fun _ hk => hk.1.2), blw HB⟩

def impl_whole.f (k : Nat) (a0 : Int) : Option (Bool × List Int × List Int) := if a0 < 0 then ((impl_natOf.f k (wrap64 (-a0))).bind fun t583 => ((impl_one.f).bind fun t586 => (some (true, t583, t586)))) else ((impl_natOf.f k a0).bind fun t589 => ((impl_one.f).bind fun t592 => (some (false, t589, t592))))
theorem impl_whole.mono : ∀ a0 k, LeO (impl_whole.f k a0) (impl_whole.f (k + 1) a0) := by
 intro a0 k
 unfold impl_whole.f
 repeat' first
   | (with_reducible exact impl_natOf.mono _ _)
   | (with_reducible exact LeO.refl _)
   | (with_reducible exact LeO.none _)
   | (with_reducible refine LeO.ite ?_ ?_)
   | (with_reducible refine LeO.bind ?_ (fun _ => ?_))
   | exact impl_natOf.mono _ _
   | exact LeO.none _
   | refine LeO.ite ?_ ?_
   | refine LeO.bind ?_ (fun _ => ?_)
set_option maxHeartbeats 8000000 in
set_option maxRecDepth 100000 in
theorem impl_whole.calls (k : Nat) (a0 : Int) (r1 : Bool) (r2 : List Int) (r3 : List Int) (w : World) (h : impl_whole.f k a0 = some (r1, r2, r3)) :
  Calls Try.prog 48 #[.int .i64 a0] w fun e w' => ∃ v1_ v2_ : Value, e = .returned (.agg #[.bool r1, v1_, v2_]) ∧ Kd.R (Kd.int .i64) 3 w' w.heap.size (fun k_ => nO k_ v2_) v1_ r2 ∧ Kd.R (Kd.int .i64) 3 w' w.heap.size (fun k_ => nO k_ v1_) v2_ r3 ∧ Below w.heap.size w w' := by
 have hu24 := Try.underlying24
 have HB := Aside0.mk (Below.refl w.heap.size w)
 have H : (if a0 < 0 then ((impl_natOf.f k (wrap64 (-a0))).bind fun t583 => ((impl_one.f).bind fun t586 => (some (true, t583, t586)))) else ((impl_natOf.f k a0).bind fun t589 => ((impl_one.f).bind fun t592 => (some (false, t589, t592))))) = some (r1, r2, r3) := h
 clear h
 by_cases c2 : a0 < 0
 ·
  rw [if_pos c2] at H
  have c2b0 : decide (a0 < 0) = true := decide_eq_true c2
  clear c2
  replace H := Option.bind_eq_some_iff.mp H
  obtain ⟨t583, A30, H⟩ := H
  replace H : ((impl_one.f).bind fun t586 => (some (true, t583, t586))) = some (r1, r2, r3) := H
  have A3 := Aside0.mk A30
  clear A30
  replace H := Option.bind_eq_some_iff.mp H
  obtain ⟨t586, A40, H⟩ := H
  replace H : (some (true, t583, t586)) = some (r1, r2, r3) := H
  have A4 := Aside0.mk A40
  clear A40
  simp only [Option.some.injEq, Prod.mk.injEq] at H
  obtain ⟨rfl, rfl, rfl⟩ := H
  go_enter Try.func48, Try.ntmps48
  go_wp2_with (first | ((with_reducible refine gate_dst (N := 2) rfl ?_); refine box_event ?hg (N := 2) ?hd (cs := #[.bool false, .slice none 0 0, .slice none 0 0]) (t := 24) ?hr ?_; (case hd => rfl); (case hg => rfl); (case hr => first | (go_simp; done) | (go_simp; rfl)); intro gb582 hg w5 hbox hb; have BK582 := Aside0.mk (hbox); have GW582 := geh hg HB; have GE582 := geh hg HB; replace HB := bst HB hb; clear hb hbox hg) | ((with_reducible refine gate_callee (f := 93) rfl ?_); refine goesL_ (some 7) rfl rfl Try.func93 (by kernel_rfl) rfl #[.int .i64 (wrap64 (-a0))] rfl (by (try simp only [List.map_toArray, List.map_cons, List.map_nil]); first | done | rfl | (simp only [List.length_drop, List.length_take]; rfl)) ?_; (with_reducible refine (impl_natOf.calls k (wrap64 (-a0)) t583 _ A3.out).mono ?_); rintro e w6 ⟨v584, rfl, ho0, hb⟩; refine ⟨_, rfl, ?_⟩; have HO585 := lwR ho0 HB; replace BK582 := bkb BK582 hb; replace HB := bst HB hb; (try clear hb); (try clear hb2); (try clear hk); (try clear hi); (try clear ho0)) | ((with_reducible refine gate_callee (f := 62) rfl ?_); refine goesL_ (some 8) rfl rfl Try.func62 (by kernel_rfl) rfl #[] rfl (by (try simp only [List.map_toArray, List.map_cons, List.map_nil]); first | done | rfl | (simp only [List.length_drop, List.length_take]; rfl)) ?_; (with_reducible refine (impl_one.calls  t586 _ A4.out).mono ?_); rintro e w7 ⟨v587, rfl, ho0, hb⟩; refine ⟨_, rfl, ?_⟩; have HO588 := lwR (nwR ho0 HO585) HB; replace HO585 := eldR HO585 (Kd.R_base ho0) hb; replace BK582 := bkb BK582 hb; replace HB := bst HB hb; (try clear hb); (try clear hb2); (try clear hk); (try clear hi); (try clear ho0); obtain ⟨Ao8, co8, eo8⟩ := Kd.R_slice HO588.out; subst eo8; obtain ⟨Ao9, co9, eo9⟩ := Kd.R_slice HO585.out; subst eo9; have hcz10_0 := bce BK582 0 (.bool false); have hcz10_1 := bce BK582 1 (.slice none 0 0); have hcz10_2 := bce BK582 2 (.slice none 0 0); have hfz10_0 := blk_frozen BK582.out 0; have hfz10_1 := blk_frozen BK582.out 1; have hfz10_2 := blk_frozen BK582.out 2))
  refine bodyPost_ret (results_cell_row rfl _ _ gb582 24 #[.bool true, .slice Ao9 t583.length co9, .slice Ao8 t586.length co8] (0, 0) _ rfl (by (with_reducible repeat (first | refine blk_drewN ?_ _ | refine blk_drew ?_ | refine blk_alloc ?_ _)); refine blk_put (cs := #[.bool true, .slice Ao9 t583.length co9, .slice none 0 0]) ?_ 2 _ rfl; (with_reducible repeat (first | refine blk_drewN ?_ _ | refine blk_drew ?_ | refine blk_alloc ?_ _)); refine blk_put (cs := #[.bool true, .slice none 0 0, .slice none 0 0]) ?_ 1 _ rfl; (with_reducible repeat (first | refine blk_drewN ?_ _ | refine blk_drew ?_ | refine blk_alloc ?_ _)); refine blk_put (cs := #[.bool false, .slice none 0 0, .slice none 0 0]) ?_ 0 _ rfl; (with_reducible repeat (first | refine blk_drewN ?_ _ | refine blk_drew ?_ | refine blk_alloc ?_ _)); exact BK582.out) Try.underlying24 rfl (by kernel_rfl)) rfl ?_
  exact ⟨_, _, by first | rfl | (simp [errW_none, errW_some] <;> rfl) | (simp [*, errW_none, errW_some] <;> rfl), by (with_reducible repeat (first | apply Kd.R_alloc | apply Kd.R_drewN | apply Kd.R_drew)); exact Kd.R_mono (Kd.R_far (p := ⟨gb582, 2, none⟩) (Kd.R_far (p := ⟨gb582, 1, none⟩) (Kd.R_far (p := ⟨gb582, 0, none⟩) (Kd.R_types HO585.out BK582.out (by decide)) (fun _ hk => hk.2) (.bool true)) (fun _ hk => hk.2) (.slice Ao9 t583.length co9)) (fun _ hk => hk.2) (.slice Ao8 t586.length co8)) (fun _ hk => hk.1.2), by (with_reducible repeat (first | apply Kd.R_alloc | apply Kd.R_drewN | apply Kd.R_drew)); exact Kd.R_mono (Kd.R_far (p := ⟨gb582, 2, none⟩) (Kd.R_far (p := ⟨gb582, 1, none⟩) (Kd.R_far (p := ⟨gb582, 0, none⟩) (Kd.R_types HO588.out BK582.out (by decide)) (fun _ hk => hk.2) (.bool true)) (fun _ hk => hk.2) (.slice Ao9 t583.length co9)) (fun _ hk => hk.2) (.slice Ao8 t586.length co8)) (fun _ hk => hk.1.2), blw HB⟩
 ·
  rw [if_neg c2] at H
  have c2b0 : decide (a0 < 0) = false := decide_eq_false c2
  clear c2
  replace H := Option.bind_eq_some_iff.mp H
  obtain ⟨t589, A110, H⟩ := H
  replace H : ((impl_one.f).bind fun t592 => (some (false, t589, t592))) = some (r1, r2, r3) := H
  have A11 := Aside0.mk A110
  clear A110
  replace H := Option.bind_eq_some_iff.mp H
  obtain ⟨t592, A120, H⟩ := H
  replace H : (some (false, t589, t592)) = some (r1, r2, r3) := H
  have A12 := Aside0.mk A120
  clear A120
  simp only [Option.some.injEq, Prod.mk.injEq] at H
  obtain ⟨rfl, rfl, rfl⟩ := H
  go_enter Try.func48, Try.ntmps48
  go_wp2_with (first | ((with_reducible refine gate_dst (N := 2) rfl ?_); refine box_event ?hg (N := 2) ?hd (cs := #[.bool false, .slice none 0 0, .slice none 0 0]) (t := 24) ?hr ?_; (case hd => rfl); (case hg => rfl); (case hr => first | (go_simp; done) | (go_simp; rfl)); intro gb582 hg w13 hbox hb; have BK582 := Aside0.mk (hbox); have GW582 := geh hg HB; have GE582 := geh hg HB; replace HB := bst HB hb; clear hb hbox hg) | ((with_reducible refine gate_callee (f := 93) rfl ?_); refine goesL_ (some 11) rfl rfl Try.func93 (by kernel_rfl) rfl #[.int .i64 a0] rfl (by (try simp only [List.map_toArray, List.map_cons, List.map_nil]); first | done | rfl | (simp only [List.length_drop, List.length_take]; rfl)) ?_; (with_reducible refine (impl_natOf.calls k a0 t589 _ A11.out).mono ?_); rintro e w14 ⟨v590, rfl, ho0, hb⟩; refine ⟨_, rfl, ?_⟩; have HO591 := lwR ho0 HB; replace BK582 := bkb BK582 hb; replace HB := bst HB hb; (try clear hb); (try clear hb2); (try clear hk); (try clear hi); (try clear ho0)) | ((with_reducible refine gate_callee (f := 62) rfl ?_); refine goesL_ (some 12) rfl rfl Try.func62 (by kernel_rfl) rfl #[] rfl (by (try simp only [List.map_toArray, List.map_cons, List.map_nil]); first | done | rfl | (simp only [List.length_drop, List.length_take]; rfl)) ?_; (with_reducible refine (impl_one.calls  t592 _ A12.out).mono ?_); rintro e w15 ⟨v593, rfl, ho0, hb⟩; refine ⟨_, rfl, ?_⟩; have HO594 := lwR (nwR ho0 HO591) HB; replace HO591 := eldR HO591 (Kd.R_base ho0) hb; replace BK582 := bkb BK582 hb; replace HB := bst HB hb; (try clear hb); (try clear hb2); (try clear hk); (try clear hi); (try clear ho0); obtain ⟨Ao16, co16, eo16⟩ := Kd.R_slice HO594.out; subst eo16; obtain ⟨Ao17, co17, eo17⟩ := Kd.R_slice HO591.out; subst eo17; have hcz18_0 := bce BK582 0 (.bool false); have hcz18_1 := bce BK582 1 (.slice none 0 0); have hcz18_2 := bce BK582 2 (.slice none 0 0); have hfz18_0 := blk_frozen BK582.out 0; have hfz18_1 := blk_frozen BK582.out 1; have hfz18_2 := blk_frozen BK582.out 2))
  refine bodyPost_ret (results_cell_row rfl _ _ gb582 24 #[.bool false, .slice Ao17 t589.length co17, .slice Ao16 t592.length co16] (0, 0) _ rfl (by (with_reducible repeat (first | refine blk_drewN ?_ _ | refine blk_drew ?_ | refine blk_alloc ?_ _)); refine blk_put (cs := #[.bool false, .slice Ao17 t589.length co17, .slice none 0 0]) ?_ 2 _ rfl; (with_reducible repeat (first | refine blk_drewN ?_ _ | refine blk_drew ?_ | refine blk_alloc ?_ _)); refine blk_put (cs := #[.bool false, .slice none 0 0, .slice none 0 0]) ?_ 1 _ rfl; (with_reducible repeat (first | refine blk_drewN ?_ _ | refine blk_drew ?_ | refine blk_alloc ?_ _)); refine blk_put (cs := #[.bool false, .slice none 0 0, .slice none 0 0]) ?_ 0 _ rfl; (with_reducible repeat (first | refine blk_drewN ?_ _ | refine blk_drew ?_ | refine blk_alloc ?_ _)); exact BK582.out) Try.underlying24 rfl (by kernel_rfl)) rfl ?_
  exact ⟨_, _, by first | rfl | (simp [errW_none, errW_some] <;> rfl) | (simp [*, errW_none, errW_some] <;> rfl), by (with_reducible repeat (first | apply Kd.R_alloc | apply Kd.R_drewN | apply Kd.R_drew)); exact Kd.R_mono (Kd.R_far (p := ⟨gb582, 2, none⟩) (Kd.R_far (p := ⟨gb582, 1, none⟩) (Kd.R_far (p := ⟨gb582, 0, none⟩) (Kd.R_types HO591.out BK582.out (by decide)) (fun _ hk => hk.2) (.bool false)) (fun _ hk => hk.2) (.slice Ao17 t589.length co17)) (fun _ hk => hk.2) (.slice Ao16 t592.length co16)) (fun _ hk => hk.1.2), by (with_reducible repeat (first | apply Kd.R_alloc | apply Kd.R_drewN | apply Kd.R_drew)); exact Kd.R_mono (Kd.R_far (p := ⟨gb582, 2, none⟩) (Kd.R_far (p := ⟨gb582, 1, none⟩) (Kd.R_far (p := ⟨gb582, 0, none⟩) (Kd.R_types HO594.out BK582.out (by decide)) (fun _ hk => hk.2) (.bool false)) (fun _ hk => hk.2) (.slice Ao17 t589.length co17)) (fun _ hk => hk.2) (.slice Ao16 t592.length co16)) (fun _ hk => hk.1.2), blw HB⟩

end Go.Proofs.Ytacdaijalkkogaa.Q
