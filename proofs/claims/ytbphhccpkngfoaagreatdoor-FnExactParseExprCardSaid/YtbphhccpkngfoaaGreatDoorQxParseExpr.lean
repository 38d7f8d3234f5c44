-- written by a program of this claim's session (myprint.py) out of the translation; Lean checks it.
import Derived.Test.YtbphhccpkngfoaaGreatDoorQx0
import Derived.Test.YtbphhccpkngfoaaGreatDoorWords
import Derived.Test.YtbphhccpkngfoaaGreatDoorQxl05Parse
import Derived.Test.YtbphhccpkngfoaaGreatDoorQsm
import Derived.Test.YtbphhccpkngfoaaGreatDoorQxparse
namespace Go.Proofs.YtbphhccpkngfoaaGreatDoor.Q
open Go.RowKit Go.Proofs.YtbphhccpkngfoaaGreatDoorW.PrintWords Go.Proofs.YtbphhccpkngfoaaGreatDoorW.PrintLast Go.Proofs.YtbphhccpkngfoaaGreatDoorW.PrintMore
attribute [local go_sem] max2_int min2_int max_two min_two max_three min_three max_four min_four   -- for this text's walks alone
set_option linter.unusedVariables false
set_option linter.unusedSimpArgs false

def spec_ParseExpr.f (k : Nat) (a0 : ByteArray) : Option ((List (S49)) × Int) := if (a0.size : Int) > 65536 then (some (([] : List (S49)), 2)) else ((spec_l05Parse.f k a0).bind fun btA6 => (some (btA6.1, btA6.2)))
set_option maxHeartbeats 8000000 in
set_option maxRecDepth 100000 in
theorem spec_ParseExpr.calls (k : Nat) (a0 : ByteArray) (r1 : List (S49)) (r2 : Int) (w : World) (h : spec_ParseExpr.f k a0 = some (r1, r2)) :
  Calls Tryz.prog 4 #[.string a0] w fun e w' => ∃ v0_ : Value, e = .returned (.tuple #[.agg #[v0_], .int .i64 r2]) ∧ Kd.R k49 49 w' w.heap.size (fun _ => True) v0_ r1 ∧ Below w.heap.size w w' := by
 have hu24 := Tryz.underlying24
 have HB := Aside0.mk (Below.refl w.heap.size w)
 have H : (if (a0.size : Int) > 65536 then (some (([] : List (S49)), 2)) else ((spec_l05Parse.f k a0).bind fun btA6 => (some (btA6.1, btA6.2)))) = some (r1, r2) := h
 clear h
 by_cases c2 : (a0.size : Int) > 65536
 ·
  rw [if_pos c2] at H
  have c2b0 : decide (65536 < (a0.size : Int)) = true := decide_eq_true c2
  have c2b1 : decide (65536 < a0.size) = true := decide_eq_true (by omega)
  clear c2
  simp only [Option.some.injEq, Prod.mk.injEq] at H
  obtain ⟨rfl, rfl⟩ := H
  go_enter Tryz.func4, Tryz.ntmps4
  go_wp2_with (first | ((with_reducible refine gate_dst (N := 2) rfl ?_); refine bx_ (N := 2) (cs := #[.slice none 0 0]) (t := 24) ?_; intro gbA1 hg w3 hbox hb; have BKA1 := Aside0.mk (hbox); have GWA1 := geh hg HB; have GEA1 := geh hg HB; replace HB := bst HB hb; clear hb hbox hg; have hcz4_0 := bce BKA1 0 (.slice none 0 0); have hfz4_0 := blk_frozen BKA1.out 0))
  refine bodyPost_ret (results_ct rfl _ _ gbA1 24 #[.slice none 0 0] (0, 0) _ rfl (by (with_reducible repeat (first | refine blk_drewN ?_ _ | refine blk_drew ?_ | refine blk_alloc ?_ _)); refine blk_put (cs := #[.slice none 0 0]) ?_ 0 _ rfl; (with_reducible repeat (first | refine blk_drewN ?_ _ | refine blk_drew ?_ | refine blk_alloc ?_ _)); exact BKA1.out) Tryz.underlying24 rfl (by kernel_rfl)) rfl ?_
  exact ⟨_, er_, by first | exact Kd.R_nil _ _ _ _ _ | exact Kd.N_nil _ _ _ _ _ | exact Kd.V_nil _ _ _ _ _ | exact Kd.Q_nil _ _ _ _ _ | exact Kd.S_nil _ _ _ _ _, blw HB⟩
 ·
  rw [if_neg c2] at H
  have c2b0 : decide (65536 < (a0.size : Int)) = false := decide_eq_false c2
  have c2b1 : decide (65536 < a0.size) = false := decide_eq_false (by omega)
  clear c2
  replace H := Option.bind_eq_some_iff.mp H
  obtain ⟨⟨tA6, tA7⟩, A50, H⟩ := H
  replace H : (some (tA6, tA7)) = some (r1, r2) := H
  have A5 := Aside0.mk A50
  clear A50
  simp only [Option.some.injEq, Prod.mk.injEq] at H
  obtain ⟨rfl, rfl⟩ := H
  go_enter Tryz.func4, Tryz.ntmps4
  go_wp2_with (first | ((with_reducible refine gate_dst (N := 2) rfl ?_); refine bx_ (N := 2) (cs := #[.slice none 0 0]) (t := 24) ?_; intro gbA1 hg w6 hbox hb; have BKA1 := Aside0.mk (hbox); have GWA1 := geh hg HB; have GEA1 := geh hg HB; replace HB := bst HB hb; clear hb hbox hg) | ((with_reducible refine gate_callee (f := 9) rfl ?_); refine gL_ (some 9) Tryz.func9 #[.string a0] ?_; (with_reducible refine (spec_l05Parse.calls k a0 tA6 tA7 _ A5.out).mono ?_); rintro e w7 ⟨vB2, rfl, ho0, hb⟩; refine ⟨_, rfl, ?_⟩; have HOA8 := lwR ho0 HB; replace BKA1 := bkb BKA1 hb; replace HB := bst HB hb; (try clear hb); (try clear hb2); (try clear hk); (try clear hi); (try clear ho0); obtain ⟨Ao8, co8, eo8⟩ := Kd.R_slice HOA8.out; subst eo8; have hcz9_0 := bce BKA1 0 (.slice none 0 0); have hfz9_0 := blk_frozen BKA1.out 0))
  refine bodyPost_ret (results_ct rfl _ _ gbA1 24 #[.slice Ao8 tA6.length co8] (0, 0) _ rfl (by (with_reducible repeat (first | refine blk_drewN ?_ _ | refine blk_drew ?_ | refine blk_alloc ?_ _)); refine blk_put (cs := #[.slice none 0 0]) ?_ 0 _ rfl; (with_reducible repeat (first | refine blk_drewN ?_ _ | refine blk_drew ?_ | refine blk_alloc ?_ _)); exact BKA1.out) Tryz.underlying24 rfl (by kernel_rfl)) rfl ?_
  exact ⟨_, er_, (crN HOA8 BKA1 fun _ hk => trivial), blw HB⟩

def impl_ParseExpr.f (k : Nat) (a0 : ByteArray) : Option ((List (S49)) × Int) := (impl_longCode.f k 65536 (([(a0.size : Int)] : List Int))).bind fun tA2 => (if tA2 = 0 then ((impl_parse.f k a0).bind fun btA3 => (some (btA3.1, btA3.2))) else (some (([] : List (S49)), tA2)))
set_option maxHeartbeats 8000000 in
set_option maxRecDepth 100000 in
theorem impl_ParseExpr.calls (k : Nat) (a0 : ByteArray) (r1 : List (S49)) (r2 : Int) (w : World) (hg_ : LxW w) (h : impl_ParseExpr.f k a0 = some (r1, r2)) :
  Calls Tryz.prog 5 #[.string a0] w fun e w' => ∃ v0_ : Value, e = .returned (.tuple #[.agg #[v0_], .int .i64 r2]) ∧ Kd.R k49 49 w' w.heap.size (fun _ => True) v0_ r1 ∧ Below w.heap.size w w' := by
 have hu24 := Tryz.underlying24
 have HB := Aside0.mk (Below.refl w.heap.size w)
 have HG := Aside0.mk hg_
 clear hg_
 have H : ((impl_longCode.f k 65536 (([(a0.size : Int)] : List Int))).bind fun tA2 => (if tA2 = 0 then ((impl_parse.f k a0).bind fun btA3 => (some (btA3.1, btA3.2))) else (some (([] : List (S49)), tA2)))) = some (r1, r2) := h
 clear h
 obtain ⟨yA4, hy309⟩ : ∃ y_ : List Int, y_ = (([(a0.size : Int)] : List Int)) := ⟨_, rfl⟩
 replace H : ((impl_longCode.f k 65536 yA4).bind fun tA2 => (if tA2 = 0 then ((impl_parse.f k a0).bind fun btA3 => (some (btA3.1, btA3.2))) else (some (([] : List (S49)), tA2)))) = some (r1, r2) := by subst hy309; first | with_reducible exact H | with_reducible exact (Option.bind_some _ _).symm.trans H | exact H
 have NyA4 := Aside0.mk hy309
 clear hy309
 replace H := Option.bind_eq_some_iff.mp H
 obtain ⟨tA2, A20, H⟩ := H
 replace H : (if tA2 = 0 then ((impl_parse.f k a0).bind fun btA3 => (some (btA3.1, btA3.2))) else (some (([] : List (S49)), tA2))) = some (r1, r2) := H
 have A2 := Aside0.mk A20
 clear A20
 by_cases c3 : tA2 = 0
 ·
  rw [if_pos c3] at H
  have c3b0 : (tA2 == 0) = true := beq_iff_eq.mpr c3
  have c3b1 : (tA2 != 0) = false := bne_eq_false_iff_eq.mpr c3
  clear c3
  replace H := Option.bind_eq_some_iff.mp H
  obtain ⟨⟨tA3, tA9⟩, A40, H⟩ := H
  replace H : (some (tA3, tA9)) = some (r1, r2) := H
  have A4 := Aside0.mk A40
  clear A40
  simp only [Option.some.injEq, Prod.mk.injEq] at H
  obtain ⟨rfl, rfl⟩ := H
  go_enter Tryz.func5, Tryz.ntmps5
  go_wp2_with (first | ((with_reducible refine gate_dst (N := 2) rfl ?_); refine bx_ (N := 2) (cs := #[.slice none 0 0]) (t := 24) ?_; intro gbA0 hg w5 hbox hb; have BKA0 := Aside0.mk (hbox); have GWA0 := geh hg HB; have GEA0 := geh hg HB; replace HB := bst HB hb; clear hb hbox hg) | ((with_reducible refine gate_dst (N := 7) rfl ?_); refine Kd.R_lit (Kd.int .i64) _ 3 ?hg (N := 7) ?hd (xs := ([(a0.size : Int)] : List Int)) (inner := [.int .i64 (a0.size : Int)]) (ok := fun _ => True) (okp := fun _ => True) ?hr ?hp (fun _ hk => hk) trivial (Below.refl _ _) (Nat.le_refl _) (by simp) ?_; (case hd => rfl); (case hg => rfl); (case hr => first | (go_simp; done) | (go_simp; rfl)); (case hp => exact (Reps.one (show Kd.M (Kd.int .i64) _ _ _ (a0.size : Int) [.int .i64 (a0.size : Int)] from rfl) (Reps.none _ _))); intro vB1 w6 ho7 hb hg_ hnew_; clear hg_ hnew_; (first | rw [← NyA4.out] at ho7 | (simp only [Int.reduceToNat] at ho7; rw [← NyA4.out] at ho7)); have HOA5 := lwR ho7 HB; replace BKA0 := bkb BKA0 hb; replace HB := bst HB hb; clear hb ho7; obtain ⟨Ao8, co8, eo8⟩ := Kd.R_slice HOA5.out; subst eo8) | ((with_reducible refine gate_callee (f := 10) rfl ?_); refine gL_ (some 8) Tryz.func10 #[.int .i64 65536, .slice Ao8 yA4.length co8] ?_; (with_reducible refine (impl_longCode.calls k 65536 _ _ yA4 tA2 _ ?side1 ?side2 A2.out).mono ?_); (case side1 => exact crC (Kd.R_reads' HOA5.out).2.2); (case side2 => exact (Kd.R_reads' HOA5.out).2.1); rintro e w' ⟨rfl, ⟨nd, rfl⟩⟩; refine ⟨_, rfl, ?_⟩; (try (rw [drewN_self w6]; generalize hq_ : World.drewN w6 _ = w6; replace HOA5 : Aside0 (Kd.R (Kd.int .i64) 3 w6 w.heap.size (fun _ => True) (.slice Ao8 yA4.length co8) yA4) := ⟨by rw [← hq_]; exact (crR HOA5)⟩; replace BKA0 : Aside0 (w6.heap[gbA0]? = some (.cells #[.slice none 0 0] 24 (0, 0))) := ⟨by rw [← hq_]; exact (crb BKA0)⟩; replace HB : Aside0 (Below w.heap.size w w6) := ⟨by rw [← hq_]; exact (blw HB)⟩; clear hq_))) | ((with_reducible refine gate_callee (f := 11) rfl ?_); refine gL_ (some 14) Tryz.func11 #[.string a0] ?_; (with_reducible refine (impl_parse.calls k a0 tA3 tA9 _ (lxW_below HG.out (blw HB) (Nat.le_refl _)) A4.out).mono ?_); rintro e w9 ⟨vB3, rfl, ho0, hb⟩; refine ⟨_, rfl, ?_⟩; replace HOA5 := rblR HOA5 hb; have HOB0 := lwR ho0 HB; replace BKA0 := bkb BKA0 hb; replace HB := bst HB hb; (try clear hb); (try clear hb2); (try clear hk); (try clear hi); (try clear ho0); obtain ⟨Ao10, co10, eo10⟩ := Kd.R_slice HOB0.out; subst eo10; have hcz11_0 := bce BKA0 0 (.slice none 0 0); have hfz11_0 := blk_frozen BKA0.out 0))
  refine bodyPost_ret (results_ct rfl _ _ gbA0 24 #[.slice Ao10 tA3.length co10] (0, 0) _ rfl (by (with_reducible repeat (first | refine blk_drewN ?_ _ | refine blk_drew ?_ | refine blk_alloc ?_ _)); refine blk_put (cs := #[.slice none 0 0]) ?_ 0 _ rfl; (with_reducible repeat (first | refine blk_drewN ?_ _ | refine blk_drew ?_ | refine blk_alloc ?_ _)); exact BKA0.out) Tryz.underlying24 rfl (by kernel_rfl)) rfl ?_
  exact ⟨_, er_, (crN HOB0 BKA0 fun _ hk => trivial), blw HB⟩
 ·
  rw [if_neg c3] at H
  have c3b0 : (tA2 == 0) = false := beq_eq_false_iff_ne.mpr c3
  have c3b1 : (tA2 != 0) = true := bne_iff_ne.mpr c3
  simp only [Option.some.injEq, Prod.mk.injEq] at H
  obtain ⟨rfl, rfl⟩ := H
  go_enter Tryz.func5, Tryz.ntmps5
  go_wp2_with (first | ((with_reducible refine gate_dst (N := 2) rfl ?_); refine bx_ (N := 2) (cs := #[.slice none 0 0]) (t := 24) ?_; intro gbA0 hg w12 hbox hb; have BKA0 := Aside0.mk (hbox); have GWA0 := geh hg HB; have GEA0 := geh hg HB; replace HB := bst HB hb; clear hb hbox hg) | ((with_reducible refine gate_dst (N := 7) rfl ?_); refine Kd.R_lit (Kd.int .i64) _ 3 ?hg (N := 7) ?hd (xs := ([(a0.size : Int)] : List Int)) (inner := [.int .i64 (a0.size : Int)]) (ok := fun _ => True) (okp := fun _ => True) ?hr ?hp (fun _ hk => hk) trivial (Below.refl _ _) (Nat.le_refl _) (by simp) ?_; (case hd => rfl); (case hg => rfl); (case hr => first | (go_simp; done) | (go_simp; rfl)); (case hp => exact (Reps.one (show Kd.M (Kd.int .i64) _ _ _ (a0.size : Int) [.int .i64 (a0.size : Int)] from rfl) (Reps.none _ _))); intro vB1 w13 ho14 hb hg_ hnew_; clear hg_ hnew_; (first | rw [← NyA4.out] at ho14 | (simp only [Int.reduceToNat] at ho14; rw [← NyA4.out] at ho14)); have HOA5 := lwR ho14 HB; replace BKA0 := bkb BKA0 hb; replace HB := bst HB hb; clear hb ho14; obtain ⟨Ao15, co15, eo15⟩ := Kd.R_slice HOA5.out; subst eo15) | ((with_reducible refine gate_callee (f := 10) rfl ?_); refine gL_ (some 8) Tryz.func10 #[.int .i64 65536, .slice Ao15 yA4.length co15] ?_; (with_reducible refine (impl_longCode.calls k 65536 _ _ yA4 tA2 _ ?side1 ?side2 A2.out).mono ?_); (case side1 => exact crC (Kd.R_reads' HOA5.out).2.2); (case side2 => exact (Kd.R_reads' HOA5.out).2.1); rintro e w' ⟨rfl, ⟨nd, rfl⟩⟩; refine ⟨_, rfl, ?_⟩; (try (rw [drewN_self w13]; generalize hq_ : World.drewN w13 _ = w13; replace HOA5 : Aside0 (Kd.R (Kd.int .i64) 3 w13 w.heap.size (fun _ => True) (.slice Ao15 yA4.length co15) yA4) := ⟨by rw [← hq_]; exact (crR HOA5)⟩; replace BKA0 : Aside0 (w13.heap[gbA0]? = some (.cells #[.slice none 0 0] 24 (0, 0))) := ⟨by rw [← hq_]; exact (crb BKA0)⟩; replace HB : Aside0 (Below w.heap.size w w13) := ⟨by rw [← hq_]; exact (blw HB)⟩; clear hq_)); have hcz16_0 := bce BKA0 0 (.slice none 0 0); have hfz16_0 := blk_frozen BKA0.out 0))
  refine bodyPost_ret (results_ct rfl _ _ gbA0 24 #[.slice none 0 0] (0, 0) _ rfl (by (with_reducible repeat (first | refine blk_drewN ?_ _ | refine blk_drew ?_ | refine blk_alloc ?_ _)); refine blk_put (cs := #[.slice none 0 0]) ?_ 0 _ rfl; (with_reducible repeat (first | refine blk_drewN ?_ _ | refine blk_drew ?_ | refine blk_alloc ?_ _)); exact BKA0.out) Tryz.underlying24 rfl (by kernel_rfl)) rfl ?_
  exact ⟨_, er_, by first | exact Kd.R_nil _ _ _ _ _ | exact Kd.N_nil _ _ _ _ _ | exact Kd.V_nil _ _ _ _ _ | exact Kd.Q_nil _ _ _ _ _ | exact Kd.S_nil _ _ _ _ _, blw HB⟩

end Go.Proofs.YtbphhccpkngfoaaGreatDoor.Q
