-- written by a program of this claim's session (myprint.py) out of the translation; Lean checks it.
import Derived.Test.YtacdaijalkkogaaQx0
import Derived.Test.YtacdaijalkkogaaSq
import Derived.Test.YtacdaijalkkogaaQxrk
import Derived.Test.YtacdaijalkkogaaQxrsp
import Derived.Test.YtacdaijalkkogaaQxrim
namespace Go.Proofs.Ytacdaijalkkogaa.Q
open Go.RowKit Go.Proofs.YtacdaijalkkogaaW.PrintWords Go.Proofs.YtacdaijalkkogaaW.PrintLast Go.Proofs.YtacdaijalkkogaaW.PrintMore
attribute [local go_sem] max2_int min2_int max_two min_two max_three min_three max_four min_four   -- for this text's walks alone
set_option linter.unusedVariables false
set_option linter.unusedSimpArgs false

def spec_DivRat.f (k : Nat) (a0_0 : Bool) (l0_1 : List Int) (l0_2 : List Int) (a1_0 : Bool) (l1_1 : List Int) (l1_2 : List Int) : Option (Bool × List Int × List Int × Int) := (spec_l02Ask.f k a0_0 l0_1 l0_2 a1_0 l1_1 l1_2).bind fun t1045 => (if t1045 = true then ((spec_l02Zero.f a1_0 l1_1 l1_2).bind fun t1046 => (if t1046 = true then (some (false, ([] : List Int), ([] : List Int), 9)) else ((spec_l02Div.f k a0_0 l0_1 l0_2 a1_0 l1_1 l1_2).bind fun bt1047 => ((spec_l02Fit.f bt1047.1 bt1047.2.1 bt1047.2.2).bind fun bt1054 => (some (bt1054.1, bt1054.2.1, bt1054.2.2.1, bt1054.2.2.2)))))) else (some (false, ([] : List Int), ([] : List Int), 1)))
theorem spec_DivRat.mono : ∀ a0 a1 a2 a3 a4 a5 k, LeO (spec_DivRat.f k a0 a1 a2 a3 a4 a5) (spec_DivRat.f (k + 1) a0 a1 a2 a3 a4 a5) := by
 intro a0 a1 a2 a3 a4 a5 k
 unfold spec_DivRat.f
 repeat' first
   | (with_reducible exact spec_l02Ask.mono _ _ _ _ _ _ _)
   | (with_reducible exact spec_l02Div.mono _ _ _ _ _ _ _)
   | (with_reducible exact LeO.refl _)
   | (with_reducible exact LeO.none _)
   | (with_reducible refine LeO.ite ?_ ?_)
   | (with_reducible refine LeO.bind ?_ (fun _ => ?_))
   | exact spec_l02Ask.mono _ _ _ _ _ _ _
   | exact spec_l02Div.mono _ _ _ _ _ _ _
   | exact LeO.none _
   | refine LeO.ite ?_ ?_
   | refine LeO.bind ?_ (fun _ => ?_)
set_option maxHeartbeats 8000000 in
set_option maxRecDepth 100000 in
theorem spec_DivRat.calls (k : Nat) (a0_0 : Bool) (A0_1 : Option Addr) (c0_1 : Nat) (l0_1 : List Int) (A0_2 : Option Addr) (c0_2 : Nat) (l0_2 : List Int) (a1_0 : Bool) (A1_1 : Option Addr) (c1_1 : Nat) (l1_1 : List Int) (A1_2 : Option Addr) (c1_2 : Nat) (l1_2 : List Int) (r1 : Bool) (r2 : List Int) (r3 : List Int) (r4 : Int) (w : World) (hr0_1 : Kd.C (Kd.int .i64) w A0_1 l0_1.length l0_1) (hc0_1 : l0_1.length ≤ c0_1) (hr0_2 : Kd.C (Kd.int .i64) w A0_2 l0_2.length l0_2) (hc0_2 : l0_2.length ≤ c0_2) (hr1_1 : Kd.C (Kd.int .i64) w A1_1 l1_1.length l1_1) (hc1_1 : l1_1.length ≤ c1_1) (hr1_2 : Kd.C (Kd.int .i64) w A1_2 l1_2.length l1_2) (hc1_2 : l1_2.length ≤ c1_2) (h : spec_DivRat.f k a0_0 l0_1 l0_2 a1_0 l1_1 l1_2 = some (r1, r2, r3, r4)) :
  Calls Try.prog 32 #[.agg #[.bool a0_0, .slice A0_1 l0_1.length c0_1, .slice A0_2 l0_2.length c0_2], .agg #[.bool a1_0, .slice A1_1 l1_1.length c1_1, .slice A1_2 l1_2.length c1_2]] w fun e w' => ∃ v1_ v2_ : Value, e = .returned (.tuple #[.agg #[.bool r1, v1_, v2_], .int .i64 r4]) ∧ Kd.R (Kd.int .i64) 3 w' w.heap.size (fun k_ => nO k_ v2_) v1_ r2 ∧ Kd.R (Kd.int .i64) 3 w' w.heap.size (fun k_ => nO k_ v1_) v2_ r3 ∧ Below w.heap.size w w' := by
 have hu24 := Try.underlying24
 have HR0_1 := Aside0.mk hr0_1
 have HC0_1 := Aside0.mk hc0_1
 clear hr0_1 hc0_1
 have HR0_2 := Aside0.mk hr0_2
 have HC0_2 := Aside0.mk hc0_2
 clear hr0_2 hc0_2
 have HR1_1 := Aside0.mk hr1_1
 have HC1_1 := Aside0.mk hc1_1
 clear hr1_1 hc1_1
 have HR1_2 := Aside0.mk hr1_2
 have HC1_2 := Aside0.mk hc1_2
 clear hr1_2 hc1_2
 have HB := Aside0.mk (Below.refl w.heap.size w)
 have H : ((spec_l02Ask.f k a0_0 l0_1 l0_2 a1_0 l1_1 l1_2).bind fun t1045 => (if t1045 = true then ((spec_l02Zero.f a1_0 l1_1 l1_2).bind fun t1046 => (if t1046 = true then (some (false, ([] : List Int), ([] : List Int), 9)) else ((spec_l02Div.f k a0_0 l0_1 l0_2 a1_0 l1_1 l1_2).bind fun bt1047 => ((spec_l02Fit.f bt1047.1 bt1047.2.1 bt1047.2.2).bind fun bt1054 => (some (bt1054.1, bt1054.2.1, bt1054.2.2.1, bt1054.2.2.2)))))) else (some (false, ([] : List Int), ([] : List Int), 1)))) = some (r1, r2, r3, r4) := h
 clear h
 replace H := Option.bind_eq_some_iff.mp H
 obtain ⟨t1045, A30, H⟩ := H
 replace H : (if t1045 = true then ((spec_l02Zero.f a1_0 l1_1 l1_2).bind fun t1046 => (if t1046 = true then (some (false, ([] : List Int), ([] : List Int), 9)) else ((spec_l02Div.f k a0_0 l0_1 l0_2 a1_0 l1_1 l1_2).bind fun bt1047 => ((spec_l02Fit.f bt1047.1 bt1047.2.1 bt1047.2.2).bind fun bt1054 => (some (bt1054.1, bt1054.2.1, bt1054.2.2.1, bt1054.2.2.2)))))) else (some (false, ([] : List Int), ([] : List Int), 1))) = some (r1, r2, r3, r4) := H
 have A3 := Aside0.mk A30
 clear A30
 by_cases c4 : t1045 = true
 ·
  subst c4
  have H1 : ((spec_l02Zero.f a1_0 l1_1 l1_2).bind fun t1046 => (if t1046 = true then (some (false, ([] : List Int), ([] : List Int), 9)) else ((spec_l02Div.f k a0_0 l0_1 l0_2 a1_0 l1_1 l1_2).bind fun bt1047 => ((spec_l02Fit.f bt1047.1 bt1047.2.1 bt1047.2.2).bind fun bt1054 => (some (bt1054.1, bt1054.2.1, bt1054.2.2.1, bt1054.2.2.2)))))) = some (r1, r2, r3, r4) := by rw [if_pos rfl] at H; exact H
  clear H
  have H := H1
  clear H1
  replace H := Option.bind_eq_some_iff.mp H
  obtain ⟨t1046, A50, H⟩ := H
  replace H : (if t1046 = true then (some (false, ([] : List Int), ([] : List Int), 9)) else ((spec_l02Div.f k a0_0 l0_1 l0_2 a1_0 l1_1 l1_2).bind fun bt1047 => ((spec_l02Fit.f bt1047.1 bt1047.2.1 bt1047.2.2).bind fun bt1054 => (some (bt1054.1, bt1054.2.1, bt1054.2.2.1, bt1054.2.2.2))))) = some (r1, r2, r3, r4) := H
  have A5 := Aside0.mk A50
  clear A50
  by_cases c6 : t1046 = true
  ·
   subst c6
   have H1 : (some (false, ([] : List Int), ([] : List Int), 9)) = some (r1, r2, r3, r4) := by rw [if_pos rfl] at H; exact H
   clear H
   have H := H1
   clear H1
   simp only [Option.some.injEq, Prod.mk.injEq] at H
   obtain ⟨rfl, rfl, rfl, rfl⟩ := H
   go_enter Try.func32, Try.ntmps32
   go_wp2_with (first | ((with_reducible refine gate_dst (N := 2) rfl ?_); refine box_event ?hg (N := 2) ?hd (cs := #[.bool a0_0, .slice A0_1 l0_1.length c0_1, .slice A0_2 l0_2.length c0_2]) (t := 24) ?hr ?_; (case hd => rfl); (case hg => rfl); (case hr => first | (go_simp; done) | (go_simp; rfl)); intro gb1042 hg w7 hbox hb; have BK1042 := Aside0.mk (hbox); have GW1042 := geh hg HB; have GE1042 := geh hg HB; replace HB := bst HB hb; clear hb hbox hg) | ((with_reducible refine gate_dst (N := 3) rfl ?_); refine box_event ?hg (N := 3) ?hd (cs := #[.bool a1_0, .slice A1_1 l1_1.length c1_1, .slice A1_2 l1_2.length c1_2]) (t := 24) ?hr ?_; (case hd => rfl); (case hg => rfl); (case hr => first | (go_simp; done) | (go_simp; rfl)); intro gb1043 hg w8 hbox hb; have BK1043 := Aside0.mk (hbox); have GW1043 := geh hg HB; have GE1043 := geh hg HB; replace HB := bst HB hb; have NB1042_1043 := nlt hg BK1042; have NB1043_1042 := ngt hg BK1042; replace BK1042 := bkb BK1042 hb; clear hb hbox hg) | ((with_reducible refine gate_dst (N := 4) rfl ?_); refine box_event ?hg (N := 4) ?hd (cs := #[.bool false, .slice none 0 0, .slice none 0 0]) (t := 24) ?hr ?_; (case hd => rfl); (case hg => rfl); (case hr => first | (go_simp; done) | (go_simp; rfl)); intro gb1044 hg w9 hbox hb; have BK1044 := Aside0.mk (hbox); have GW1044 := geh hg HB; have GE1044 := geh hg HB; replace HB := bst HB hb; have NB1042_1044 := nlt hg BK1042; have NB1044_1042 := ngt hg BK1042; replace BK1042 := bkb BK1042 hb; have NB1043_1044 := nlt hg BK1043; have NB1044_1043 := ngt hg BK1043; replace BK1043 := bkb BK1043 hb; clear hb hbox hg; have hnb10 := NB1042_1043.out; have hnc10 := NB1043_1042.out; have hnb11 := NB1042_1044.out; have hnc11 := NB1044_1042.out; have hcz12_0 := bce BK1042 0 (.bool a0_0); have hcz12_1 := bce BK1042 1 (.slice A0_1 l0_1.length c0_1); have hcz12_2 := bce BK1042 2 (.slice A0_2 l0_2.length c0_2); have hfz12_0 := blk_frozen BK1042.out 0; have hfz12_1 := blk_frozen BK1042.out 1; have hfz12_2 := blk_frozen BK1042.out 2; have hnb13 := NB1043_1044.out; have hnc13 := NB1044_1043.out; have hcz14_0 := bce BK1043 0 (.bool a1_0); have hcz14_1 := bce BK1043 1 (.slice A1_1 l1_1.length c1_1); have hcz14_2 := bce BK1043 2 (.slice A1_2 l1_2.length c1_2); have hfz14_0 := blk_frozen BK1043.out 0; have hfz14_1 := blk_frozen BK1043.out 1; have hfz14_2 := blk_frozen BK1043.out 2) | ((with_reducible refine gate_callee (f := 67) rfl ?_); refine goesL_ (some 8) rfl rfl Try.func67 (by kernel_rfl) rfl #[.agg #[.bool a0_0, .slice A0_1 l0_1.length c0_1, .slice A0_2 l0_2.length c0_2], .agg #[.bool a1_0, .slice A1_1 l1_1.length c1_1, .slice A1_2 l1_2.length c1_2]] rfl (by (try simp only [List.map_toArray, List.map_cons, List.map_nil]); first | done | rfl | (simp only [List.length_drop, List.length_take]; rfl)) ?_; (with_reducible refine (spec_l02Ask.calls k a0_0 _ _ l0_1 _ _ l0_2 a1_0 _ _ l1_1 _ _ l1_2 true _ ?side1 ?side2 ?side3 ?side4 ?side5 ?side6 ?side7 ?side8 A3.out).mono ?_); (case side1 => exact crC (Kd.C_below HR0_1.out HB.out)); (case side2 => exact HC0_1.out); (case side3 => exact crC (Kd.C_below HR0_2.out HB.out)); (case side4 => exact HC0_2.out); (case side5 => exact crC (Kd.C_below HR1_1.out HB.out)); (case side6 => exact HC1_1.out); (case side7 => exact crC (Kd.C_below HR1_2.out HB.out)); (case side8 => exact HC1_2.out); rintro e w15 ⟨rfl, hb⟩; refine ⟨_, rfl, ?_⟩; replace BK1042 := bkb BK1042 hb; replace BK1043 := bkb BK1043 hb; replace BK1044 := bkb BK1044 hb; replace HB := bst HB hb; (try clear hb); (try clear hb2); (try clear hk); (try clear hi); have hcz16_0 := bce BK1043 0 (.bool a1_0); have hcz16_1 := bce BK1043 1 (.slice A1_1 l1_1.length c1_1); have hcz16_2 := bce BK1043 2 (.slice A1_2 l1_2.length c1_2); have hfz16_0 := blk_frozen BK1043.out 0; have hfz16_1 := blk_frozen BK1043.out 1; have hfz16_2 := blk_frozen BK1043.out 2) | ((with_reducible refine gate_callee (f := 78) rfl ?_); refine goesL_ (some 12) rfl rfl Try.func78 (by kernel_rfl) rfl #[.agg #[.bool a1_0, .slice A1_1 l1_1.length c1_1, .slice A1_2 l1_2.length c1_2]] rfl (by (try simp only [List.map_toArray, List.map_cons, List.map_nil]); first | done | rfl | (simp only [List.length_drop, List.length_take]; rfl)) ?_; (with_reducible refine (spec_l02Zero.calls a1_0 _ _ l1_1 _ _ l1_2 true _ ?side1 ?side2 ?side3 ?side4 A5.out).mono ?_); (case side1 => exact crC (Kd.C_below HR1_1.out HB.out)); (case side2 => exact HC1_1.out); (case side3 => exact crC (Kd.C_below HR1_2.out HB.out)); (case side4 => exact HC1_2.out); rintro e w17 ⟨rfl, hb⟩; refine ⟨_, rfl, ?_⟩; replace BK1042 := bkb BK1042 hb; replace BK1043 := bkb BK1043 hb; replace BK1044 := bkb BK1044 hb; replace HB := bst HB hb; (try clear hb); (try clear hb2); (try clear hk); (try clear hi); have hcz18_0 := bce BK1044 0 (.bool false); have hcz18_1 := bce BK1044 1 (.slice none 0 0); have hcz18_2 := bce BK1044 2 (.slice none 0 0); have hfz18_0 := blk_frozen BK1044.out 0; have hfz18_1 := blk_frozen BK1044.out 1; have hfz18_2 := blk_frozen BK1044.out 2))
   refine bodyPost_ret (results_ct rfl _ _ gb1044 24 #[.bool false, .slice none 0 0, .slice none 0 0] (0, 0) _ rfl (by (with_reducible repeat (first | refine blk_drewN ?_ _ | refine blk_drew ?_ | refine blk_alloc ?_ _)); refine blk_put (cs := #[.bool false, .slice none 0 0, .slice none 0 0]) ?_ 2 _ rfl; (with_reducible repeat (first | refine blk_drewN ?_ _ | refine blk_drew ?_ | refine blk_alloc ?_ _)); refine blk_put (cs := #[.bool false, .slice none 0 0, .slice none 0 0]) ?_ 1 _ rfl; (with_reducible repeat (first | refine blk_drewN ?_ _ | refine blk_drew ?_ | refine blk_alloc ?_ _)); refine blk_put (cs := #[.bool false, .slice none 0 0, .slice none 0 0]) ?_ 0 _ rfl; (with_reducible repeat (first | refine blk_drewN ?_ _ | refine blk_drew ?_ | refine blk_alloc ?_ _)); exact BK1044.out) Try.underlying24 rfl (by kernel_rfl)) rfl ?_
   exact ⟨_, _, by first | rfl | (simp [errW_none, errW_some] <;> rfl) | (simp [*, errW_none, errW_some] <;> rfl), by first | exact Kd.R_nil _ _ _ _ _ | exact Kd.N_nil _ _ _ _ _ | exact Kd.V_nil _ _ _ _ _ | exact Kd.Q_nil _ _ _ _ _ | exact Kd.S_nil _ _ _ _ _, by first | exact Kd.R_nil _ _ _ _ _ | exact Kd.N_nil _ _ _ _ _ | exact Kd.V_nil _ _ _ _ _ | exact Kd.Q_nil _ _ _ _ _ | exact Kd.S_nil _ _ _ _ _, blw HB⟩
  ·
   replace c6 := Bool.eq_false_iff.mpr c6
   subst c6
   have H1 : ((spec_l02Div.f k a0_0 l0_1 l0_2 a1_0 l1_1 l1_2).bind fun bt1047 => ((spec_l02Fit.f bt1047.1 bt1047.2.1 bt1047.2.2).bind fun bt1054 => (some (bt1054.1, bt1054.2.1, bt1054.2.2.1, bt1054.2.2.2)))) = some (r1, r2, r3, r4) := by rw [if_neg (show ¬ (false = true) by decide)] at H; exact H
   clear H
   have H := H1
   clear H1
   replace H := Option.bind_eq_some_iff.mp H
   obtain ⟨⟨t1047, t1048, t1051⟩, A190, H⟩ := H
   replace H : ((spec_l02Fit.f t1047 t1048 t1051).bind fun bt1054 => (some (bt1054.1, bt1054.2.1, bt1054.2.2.1, bt1054.2.2.2))) = some (r1, r2, r3, r4) := H
   have A19 := Aside0.mk A190
   clear A190
   replace H := Option.bind_eq_some_iff.mp H
   obtain ⟨⟨t1054, t1055, t1058, t1061⟩, A200, H⟩ := H
   replace H : (some (t1054, t1055, t1058, t1061)) = some (r1, r2, r3, r4) := H
   have A20 := Aside0.mk A200
   clear A200
   simp only [Option.some.injEq, Prod.mk.injEq] at H
   obtain ⟨rfl, rfl, rfl, rfl⟩ := H
   go_enter Try.func32, Try.ntmps32
   go_wp2_with (first | ((with_reducible refine gate_dst (N := 2) rfl ?_); refine box_event ?hg (N := 2) ?hd (cs := #[.bool a0_0, .slice A0_1 l0_1.length c0_1, .slice A0_2 l0_2.length c0_2]) (t := 24) ?hr ?_; (case hd => rfl); (case hg => rfl); (case hr => first | (go_simp; done) | (go_simp; rfl)); intro gb1042 hg w21 hbox hb; have BK1042 := Aside0.mk (hbox); have GW1042 := geh hg HB; have GE1042 := geh hg HB; replace HB := bst HB hb; clear hb hbox hg) | ((with_reducible refine gate_dst (N := 3) rfl ?_); refine box_event ?hg (N := 3) ?hd (cs := #[.bool a1_0, .slice A1_1 l1_1.length c1_1, .slice A1_2 l1_2.length c1_2]) (t := 24) ?hr ?_; (case hd => rfl); (case hg => rfl); (case hr => first | (go_simp; done) | (go_simp; rfl)); intro gb1043 hg w22 hbox hb; have BK1043 := Aside0.mk (hbox); have GW1043 := geh hg HB; have GE1043 := geh hg HB; replace HB := bst HB hb; have NB1042_1043 := nlt hg BK1042; have NB1043_1042 := ngt hg BK1042; replace BK1042 := bkb BK1042 hb; clear hb hbox hg) | ((with_reducible refine gate_dst (N := 4) rfl ?_); refine box_event ?hg (N := 4) ?hd (cs := #[.bool false, .slice none 0 0, .slice none 0 0]) (t := 24) ?hr ?_; (case hd => rfl); (case hg => rfl); (case hr => first | (go_simp; done) | (go_simp; rfl)); intro gb1044 hg w23 hbox hb; have BK1044 := Aside0.mk (hbox); have GW1044 := geh hg HB; have GE1044 := geh hg HB; replace HB := bst HB hb; have NB1042_1044 := nlt hg BK1042; have NB1044_1042 := ngt hg BK1042; replace BK1042 := bkb BK1042 hb; have NB1043_1044 := nlt hg BK1043; have NB1044_1043 := ngt hg BK1043; replace BK1043 := bkb BK1043 hb; clear hb hbox hg; have hnb24 := NB1042_1043.out; have hnc24 := NB1043_1042.out; have hnb25 := NB1042_1044.out; have hnc25 := NB1044_1042.out; have hcz26_0 := bce BK1042 0 (.bool a0_0); have hcz26_1 := bce BK1042 1 (.slice A0_1 l0_1.length c0_1); have hcz26_2 := bce BK1042 2 (.slice A0_2 l0_2.length c0_2); have hfz26_0 := blk_frozen BK1042.out 0; have hfz26_1 := blk_frozen BK1042.out 1; have hfz26_2 := blk_frozen BK1042.out 2; have hnb27 := NB1043_1044.out; have hnc27 := NB1044_1043.out; have hcz28_0 := bce BK1043 0 (.bool a1_0); have hcz28_1 := bce BK1043 1 (.slice A1_1 l1_1.length c1_1); have hcz28_2 := bce BK1043 2 (.slice A1_2 l1_2.length c1_2); have hfz28_0 := blk_frozen BK1043.out 0; have hfz28_1 := blk_frozen BK1043.out 1; have hfz28_2 := blk_frozen BK1043.out 2) | ((with_reducible refine gate_callee (f := 67) rfl ?_); refine goesL_ (some 8) rfl rfl Try.func67 (by kernel_rfl) rfl #[.agg #[.bool a0_0, .slice A0_1 l0_1.length c0_1, .slice A0_2 l0_2.length c0_2], .agg #[.bool a1_0, .slice A1_1 l1_1.length c1_1, .slice A1_2 l1_2.length c1_2]] rfl (by (try simp only [List.map_toArray, List.map_cons, List.map_nil]); first | done | rfl | (simp only [List.length_drop, List.length_take]; rfl)) ?_; (with_reducible refine (spec_l02Ask.calls k a0_0 _ _ l0_1 _ _ l0_2 a1_0 _ _ l1_1 _ _ l1_2 true _ ?side1 ?side2 ?side3 ?side4 ?side5 ?side6 ?side7 ?side8 A3.out).mono ?_); (case side1 => exact crC (Kd.C_below HR0_1.out HB.out)); (case side2 => exact HC0_1.out); (case side3 => exact crC (Kd.C_below HR0_2.out HB.out)); (case side4 => exact HC0_2.out); (case side5 => exact crC (Kd.C_below HR1_1.out HB.out)); (case side6 => exact HC1_1.out); (case side7 => exact crC (Kd.C_below HR1_2.out HB.out)); (case side8 => exact HC1_2.out); rintro e w29 ⟨rfl, hb⟩; refine ⟨_, rfl, ?_⟩; replace BK1042 := bkb BK1042 hb; replace BK1043 := bkb BK1043 hb; replace BK1044 := bkb BK1044 hb; replace HB := bst HB hb; (try clear hb); (try clear hb2); (try clear hk); (try clear hi); have hcz30_0 := bce BK1043 0 (.bool a1_0); have hcz30_1 := bce BK1043 1 (.slice A1_1 l1_1.length c1_1); have hcz30_2 := bce BK1043 2 (.slice A1_2 l1_2.length c1_2); have hfz30_0 := blk_frozen BK1043.out 0; have hfz30_1 := blk_frozen BK1043.out 1; have hfz30_2 := blk_frozen BK1043.out 2) | ((with_reducible refine gate_callee (f := 78) rfl ?_); refine goesL_ (some 12) rfl rfl Try.func78 (by kernel_rfl) rfl #[.agg #[.bool a1_0, .slice A1_1 l1_1.length c1_1, .slice A1_2 l1_2.length c1_2]] rfl (by (try simp only [List.map_toArray, List.map_cons, List.map_nil]); first | done | rfl | (simp only [List.length_drop, List.length_take]; rfl)) ?_; (with_reducible refine (spec_l02Zero.calls a1_0 _ _ l1_1 _ _ l1_2 false _ ?side1 ?side2 ?side3 ?side4 A5.out).mono ?_); (case side1 => exact crC (Kd.C_below HR1_1.out HB.out)); (case side2 => exact HC1_1.out); (case side3 => exact crC (Kd.C_below HR1_2.out HB.out)); (case side4 => exact HC1_2.out); rintro e w31 ⟨rfl, hb⟩; refine ⟨_, rfl, ?_⟩; replace BK1042 := bkb BK1042 hb; replace BK1043 := bkb BK1043 hb; replace BK1044 := bkb BK1044 hb; replace HB := bst HB hb; (try clear hb); (try clear hb2); (try clear hk); (try clear hi); have hcz32_0 := bce BK1042 0 (.bool a0_0); have hcz32_1 := bce BK1042 1 (.slice A0_1 l0_1.length c0_1); have hcz32_2 := bce BK1042 2 (.slice A0_2 l0_2.length c0_2); have hfz32_0 := blk_frozen BK1042.out 0; have hfz32_1 := blk_frozen BK1042.out 1; have hfz32_2 := blk_frozen BK1042.out 2; have hcz33_0 := bce BK1043 0 (.bool a1_0); have hcz33_1 := bce BK1043 1 (.slice A1_1 l1_1.length c1_1); have hcz33_2 := bce BK1043 2 (.slice A1_2 l1_2.length c1_2); have hfz33_0 := blk_frozen BK1043.out 0; have hfz33_1 := blk_frozen BK1043.out 1; have hfz33_2 := blk_frozen BK1043.out 2) | ((with_reducible refine gate_callee (f := 79) rfl ?_); refine goesL_ (some 16) rfl rfl Try.func79 (by kernel_rfl) rfl #[.agg #[.bool a0_0, .slice A0_1 l0_1.length c0_1, .slice A0_2 l0_2.length c0_2], .agg #[.bool a1_0, .slice A1_1 l1_1.length c1_1, .slice A1_2 l1_2.length c1_2]] rfl (by (try simp only [List.map_toArray, List.map_cons, List.map_nil]); first | done | rfl | (simp only [List.length_drop, List.length_take]; rfl)) ?_; (with_reducible refine (spec_l02Div.calls k a0_0 _ _ l0_1 _ _ l0_2 a1_0 _ _ l1_1 _ _ l1_2 t1047 t1048 t1051 _ ?side1 ?side2 ?side3 ?side4 ?side5 ?side6 ?side7 ?side8 A19.out).mono ?_); (case side1 => exact crC (Kd.C_below HR0_1.out HB.out)); (case side2 => exact HC0_1.out); (case side3 => exact crC (Kd.C_below HR0_2.out HB.out)); (case side4 => exact HC0_2.out); (case side5 => exact crC (Kd.C_below HR1_1.out HB.out)); (case side6 => exact HC1_1.out); (case side7 => exact crC (Kd.C_below HR1_2.out HB.out)); (case side8 => exact HC1_2.out); rintro e w34 ⟨v1049, v1052, rfl, ho0, ho1, hb⟩; refine ⟨_, rfl, ?_⟩; have HO1050 := lwR ho0 HB; have HO1053 := lwR ho1 HB; replace BK1042 := bkb BK1042 hb; replace BK1043 := bkb BK1043 hb; replace BK1044 := bkb BK1044 hb; replace HB := bst HB hb; (try clear hb); (try clear hb2); (try clear hk); (try clear hi); (try clear ho0); (try clear ho1); obtain ⟨Ao35, co35, eo35⟩ := Kd.R_slice HO1050.out; subst eo35; obtain ⟨Ao36, co36, eo36⟩ := Kd.R_slice HO1053.out; subst eo36) | ((with_reducible refine gate_callee (f := 70) rfl ?_); refine goesL_ (some 17) rfl rfl Try.func70 (by kernel_rfl) rfl #[.agg #[.bool t1047, .slice Ao35 t1048.length co35, .slice Ao36 t1051.length co36]] rfl (by (try simp only [List.map_toArray, List.map_cons, List.map_nil]); first | done | rfl | (simp only [List.length_drop, List.length_take]; rfl)) ?_; (with_reducible refine (spec_l02Fit.calls t1047 _ _ t1048 _ _ t1051 t1054 t1055 t1058 t1061 _ ?side1 ?side2 ?side3 ?side4 A20.out).mono ?_); (case side1 => exact crC (Kd.R_reads' HO1050.out).2.2); (case side2 => exact (Kd.R_reads' HO1050.out).2.1); (case side3 => exact crC (Kd.R_reads' HO1053.out).2.2); (case side4 => exact (Kd.R_reads' HO1053.out).2.1); rintro e w37 ⟨v1056, v1059, rfl, ho0, ho1, hb⟩; refine ⟨_, rfl, ?_⟩; have HO1057 := lwR (nwR (nwR ho0 HO1050) HO1053) HB; have HO1060 := lwR (nwR (nwR ho1 HO1050) HO1053) HB; replace HO1050 := tldR HO1050 hb (Kd.R_base ho0) (Kd.R_base ho1); replace HO1053 := tldR HO1053 hb (Kd.R_base ho0) (Kd.R_base ho1); replace BK1042 := bkb BK1042 hb; replace BK1043 := bkb BK1043 hb; replace BK1044 := bkb BK1044 hb; replace HB := bst HB hb; (try clear hb); (try clear hb2); (try clear hk); (try clear hi); (try clear ho0); (try clear ho1); have hcz38_0 := bce BK1044 0 (.bool false); have hcz38_1 := bce BK1044 1 (.slice none 0 0); have hcz38_2 := bce BK1044 2 (.slice none 0 0); have hfz38_0 := blk_frozen BK1044.out 0; have hfz38_1 := blk_frozen BK1044.out 1; have hfz38_2 := blk_frozen BK1044.out 2; obtain ⟨Ao39, co39, eo39⟩ := Kd.R_slice HO1057.out; subst eo39; obtain ⟨Ao40, co40, eo40⟩ := Kd.R_slice HO1060.out; subst eo40))
   refine bodyPost_ret (results_ct rfl _ _ gb1044 24 #[.bool t1054, .slice Ao39 t1055.length co39, .slice Ao40 t1058.length co40] (0, 0) _ rfl (by (with_reducible repeat (first | refine blk_drewN ?_ _ | refine blk_drew ?_ | refine blk_alloc ?_ _)); refine blk_put (cs := #[.bool t1054, .slice Ao39 t1055.length co39, .slice none 0 0]) ?_ 2 _ rfl; (with_reducible repeat (first | refine blk_drewN ?_ _ | refine blk_drew ?_ | refine blk_alloc ?_ _)); refine blk_put (cs := #[.bool t1054, .slice none 0 0, .slice none 0 0]) ?_ 1 _ rfl; (with_reducible repeat (first | refine blk_drewN ?_ _ | refine blk_drew ?_ | refine blk_alloc ?_ _)); refine blk_put (cs := #[.bool false, .slice none 0 0, .slice none 0 0]) ?_ 0 _ rfl; (with_reducible repeat (first | refine blk_drewN ?_ _ | refine blk_drew ?_ | refine blk_alloc ?_ _)); exact BK1044.out) Try.underlying24 rfl (by kernel_rfl)) rfl ?_
   exact ⟨_, _, by first | rfl | (simp [errW_none, errW_some] <;> rfl) | (simp [*, errW_none, errW_some] <;> rfl), by (with_reducible repeat (first | apply Kd.R_alloc | apply Kd.R_drewN | apply Kd.R_drew)); exact Kd.R_mono (Kd.R_far (p := ⟨gb1044, 2, none⟩) (Kd.R_far (p := ⟨gb1044, 1, none⟩) (Kd.R_far (p := ⟨gb1044, 0, none⟩) (Kd.R_types HO1057.out BK1044.out (by decide)) (fun _ hk => hk.2) (.bool t1054)) (fun _ hk => hk.2) (.slice Ao39 t1055.length co39)) (fun _ hk => hk.2) (.slice Ao40 t1058.length co40)) (fun _ hk => hk.1.1.1), by (with_reducible repeat (first | apply Kd.R_alloc | apply Kd.R_drewN | apply Kd.R_drew)); exact Kd.R_mono (Kd.R_far (p := ⟨gb1044, 2, none⟩) (Kd.R_far (p := ⟨gb1044, 1, none⟩) (Kd.R_far (p := ⟨gb1044, 0, none⟩) (Kd.R_types HO1060.out BK1044.out (by decide)) (fun _ hk => hk.2) (.bool t1054)) (fun _ hk => hk.2) (.slice Ao39 t1055.length co39)) (fun _ hk => hk.2) (.slice Ao40 t1058.length co40)) (fun _ hk => hk.1.1.1), blw HB⟩
 ·
  replace c4 := Bool.eq_false_iff.mpr c4
  subst c4
  have H1 : (some (false, ([] : List Int), ([] : List Int), 1)) = some (r1, r2, r3, r4) := by rw [if_neg (show ¬ (false = true) by decide)] at H; exact H
  clear H
  have H := H1
  clear H1
  simp only [Option.some.injEq, Prod.mk.injEq] at H
  obtain ⟨rfl, rfl, rfl, rfl⟩ := H
  go_enter Try.func32, Try.ntmps32
  go_wp2_with (first | ((with_reducible refine gate_dst (N := 2) rfl ?_); refine box_event ?hg (N := 2) ?hd (cs := #[.bool a0_0, .slice A0_1 l0_1.length c0_1, .slice A0_2 l0_2.length c0_2]) (t := 24) ?hr ?_; (case hd => rfl); (case hg => rfl); (case hr => first | (go_simp; done) | (go_simp; rfl)); intro gb1042 hg w41 hbox hb; have BK1042 := Aside0.mk (hbox); have GW1042 := geh hg HB; have GE1042 := geh hg HB; replace HB := bst HB hb; clear hb hbox hg) | ((with_reducible refine gate_dst (N := 3) rfl ?_); refine box_event ?hg (N := 3) ?hd (cs := #[.bool a1_0, .slice A1_1 l1_1.length c1_1, .slice A1_2 l1_2.length c1_2]) (t := 24) ?hr ?_; (case hd => rfl); (case hg => rfl); (case hr => first | (go_simp; done) | (go_simp; rfl)); intro gb1043 hg w42 hbox hb; have BK1043 := Aside0.mk (hbox); have GW1043 := geh hg HB; have GE1043 := geh hg HB; replace HB := bst HB hb; have NB1042_1043 := nlt hg BK1042; have NB1043_1042 := ngt hg BK1042; replace BK1042 := bkb BK1042 hb; clear hb hbox hg) | ((with_reducible refine gate_dst (N := 4) rfl ?_); refine box_event ?hg (N := 4) ?hd (cs := #[.bool false, .slice none 0 0, .slice none 0 0]) (t := 24) ?hr ?_; (case hd => rfl); (case hg => rfl); (case hr => first | (go_simp; done) | (go_simp; rfl)); intro gb1044 hg w43 hbox hb; have BK1044 := Aside0.mk (hbox); have GW1044 := geh hg HB; have GE1044 := geh hg HB; replace HB := bst HB hb; have NB1042_1044 := nlt hg BK1042; have NB1044_1042 := ngt hg BK1042; replace BK1042 := bkb BK1042 hb; have NB1043_1044 := nlt hg BK1043; have NB1044_1043 := ngt hg BK1043; replace BK1043 := bkb BK1043 hb; clear hb hbox hg; have hnb44 := NB1042_1043.out; have hnc44 := NB1043_1042.out; have hnb45 := NB1042_1044.out; have hnc45 := NB1044_1042.out; have hcz46_0 := bce BK1042 0 (.bool a0_0); have hcz46_1 := bce BK1042 1 (.slice A0_1 l0_1.length c0_1); have hcz46_2 := bce BK1042 2 (.slice A0_2 l0_2.length c0_2); have hfz46_0 := blk_frozen BK1042.out 0; have hfz46_1 := blk_frozen BK1042.out 1; have hfz46_2 := blk_frozen BK1042.out 2; have hnb47 := NB1043_1044.out; have hnc47 := NB1044_1043.out; have hcz48_0 := bce BK1043 0 (.bool a1_0); have hcz48_1 := bce BK1043 1 (.slice A1_1 l1_1.length c1_1); have hcz48_2 := bce BK1043 2 (.slice A1_2 l1_2.length c1_2); have hfz48_0 := blk_frozen BK1043.out 0; have hfz48_1 := blk_frozen BK1043.out 1; have hfz48_2 := blk_frozen BK1043.out 2) | ((with_reducible refine gate_callee (f := 67) rfl ?_); refine goesL_ (some 8) rfl rfl Try.func67 (by kernel_rfl) rfl #[.agg #[.bool a0_0, .slice A0_1 l0_1.length c0_1, .slice A0_2 l0_2.length c0_2], .agg #[.bool a1_0, .slice A1_1 l1_1.length c1_1, .slice A1_2 l1_2.length c1_2]] rfl (by (try simp only [List.map_toArray, List.map_cons, List.map_nil]); first | done | rfl | (simp only [List.length_drop, List.length_take]; rfl)) ?_; (with_reducible refine (spec_l02Ask.calls k a0_0 _ _ l0_1 _ _ l0_2 a1_0 _ _ l1_1 _ _ l1_2 false _ ?side1 ?side2 ?side3 ?side4 ?side5 ?side6 ?side7 ?side8 A3.out).mono ?_); (case side1 => exact crC (Kd.C_below HR0_1.out HB.out)); (case side2 => exact HC0_1.out); (case side3 => exact crC (Kd.C_below HR0_2.out HB.out)); (case side4 => exact HC0_2.out); (case side5 => exact crC (Kd.C_below HR1_1.out HB.out)); (case side6 => exact HC1_1.out); (case side7 => exact crC (Kd.C_below HR1_2.out HB.out)); (case side8 => exact HC1_2.out); rintro e w49 ⟨rfl, hb⟩; refine ⟨_, rfl, ?_⟩; replace BK1042 := bkb BK1042 hb; replace BK1043 := bkb BK1043 hb; replace BK1044 := bkb BK1044 hb; replace HB := bst HB hb; (try clear hb); (try clear hb2); (try clear hk); (try clear hi); have hcz50_0 := bce BK1044 0 (.bool false); have hcz50_1 := bce BK1044 1 (.slice none 0 0); have hcz50_2 := bce BK1044 2 (.slice none 0 0); have hfz50_0 := blk_frozen BK1044.out 0; have hfz50_1 := blk_frozen BK1044.out 1; have hfz50_2 := blk_frozen BK1044.out 2))
  refine bodyPost_ret (results_ct rfl _ _ gb1044 24 #[.bool false, .slice none 0 0, .slice none 0 0] (0, 0) _ rfl (by (with_reducible repeat (first | refine blk_drewN ?_ _ | refine blk_drew ?_ | refine blk_alloc ?_ _)); refine blk_put (cs := #[.bool false, .slice none 0 0, .slice none 0 0]) ?_ 2 _ rfl; (with_reducible repeat (first | refine blk_drewN ?_ _ | refine blk_drew ?_ | refine blk_alloc ?_ _)); refine blk_put (cs := #[.bool false, .slice none 0 0, .slice none 0 0]) ?_ 1 _ rfl; (with_reducible repeat (first | refine blk_drewN ?_ _ | refine blk_drew ?_ | refine blk_alloc ?_ _)); refine blk_put (cs := #[.bool false, .slice none 0 0, .slice none 0 0]) ?_ 0 _ rfl; (with_reducible repeat (first | refine blk_drewN ?_ _ | refine blk_drew ?_ | refine blk_alloc ?_ _)); exact BK1044.out) Try.underlying24 rfl (by kernel_rfl)) rfl ?_
  exact ⟨_, _, by first | rfl | (simp [errW_none, errW_some] <;> rfl) | (simp [*, errW_none, errW_some] <;> rfl), by first | exact Kd.R_nil _ _ _ _ _ | exact Kd.N_nil _ _ _ _ _ | exact Kd.V_nil _ _ _ _ _ | exact Kd.Q_nil _ _ _ _ _ | exact Kd.S_nil _ _ _ _ _, by first | exact Kd.R_nil _ _ _ _ _ | exact Kd.N_nil _ _ _ _ _ | exact Kd.V_nil _ _ _ _ _ | exact Kd.Q_nil _ _ _ _ _ | exact Kd.S_nil _ _ _ _ _, blw HB⟩

def impl_DivRat.f (k : Nat) (a0_0 : Bool) (l0_1 : List Int) (l0_2 : List Int) (a1_0 : Bool) (l1_1 : List Int) (l1_2 : List Int) : Option (Bool × List Int × List Int × Int) := (impl_ratsCode.f k (([(⟨a0_0, l0_1, l0_2⟩ : S24), (⟨a1_0, l1_1, l1_2⟩ : S24)] : List (S24)))).bind fun t1134 => ((impl_Rat_isZero.f a1_0 l1_1 l1_2).bind fun t1135 => ((impl_unless.f (!t1135) 9).bind fun t1136 => ((impl_first.f k (([t1134, t1136] : List Int))).bind fun t1140 => (if t1140 = 0 then ((impl_Rat_over.f k a0_0 l0_1 l0_2 a1_0 l1_1 l1_2).bind fun bt1141 => ((impl_fullRat.f bt1141.1 bt1141.2.1 bt1141.2.2).bind fun bt1148 => (some (bt1148.1, bt1148.2.1, bt1148.2.2.1, bt1148.2.2.2)))) else (some (false, ([] : List Int), ([] : List Int), t1140))))))
theorem impl_DivRat.mono : ∀ a0 a1 a2 a3 a4 a5 k, LeO (impl_DivRat.f k a0 a1 a2 a3 a4 a5) (impl_DivRat.f (k + 1) a0 a1 a2 a3 a4 a5) := by
 intro a0 a1 a2 a3 a4 a5 k
 unfold impl_DivRat.f
 repeat' first
   | (with_reducible exact impl_Rat_over.mono _ _ _ _ _ _ _)
   | (with_reducible exact impl_first.mono _ _)
   | (with_reducible exact impl_ratsCode.mono _ _)
   | (with_reducible exact LeO.refl _)
   | (with_reducible exact LeO.none _)
   | (with_reducible refine LeO.ite ?_ ?_)
   | (with_reducible refine LeO.bind ?_ (fun _ => ?_))
   | exact impl_Rat_over.mono _ _ _ _ _ _ _
   | exact impl_first.mono _ _
   | exact impl_ratsCode.mono _ _
   | exact LeO.none _
   | refine LeO.ite ?_ ?_
   | refine LeO.bind ?_ (fun _ => ?_)
def impl_DivRat.T1 : Bool × List (List Nat × List Nat) := (true, [([], []), ([], []), ([0, 1], [0, 1]), ([2], [2]), ([], []), ([4, 3], [4]), ([5], [5]), ([6, 5], [6]), ([3, 7], [3, 7]), ([8, 7], [8]), ([9, 9, 0, 1, 2, 3, 4, 5, 6, 7, 8, 9], [9])])
def impl_DivRat.B1 : List Nat := [0, 0, 3, 7, 0, 31, 63, 127, 255, 511, 1023]
theorem impl_DivRat.tab1 : rtab .any (opsOf Try.f33 1) = impl_DivRat.T1 := by kernel_rfl
theorem impl_DivRat.bits1 : waitsOk impl_DivRat.T1.2 impl_DivRat.B1 = true := by kernel_rfl
set_option maxHeartbeats 8000000 in
set_option maxRecDepth 100000 in
theorem impl_DivRat.calls (k : Nat) (a0_0 : Bool) (P0_1_ : Nat → Prop) (A0_1 : Option Addr) (c0_1 : Nat) (l0_1 : List Int) (P0_2_ : Nat → Prop) (A0_2 : Option Addr) (c0_2 : Nat) (l0_2 : List Int) (a1_0 : Bool) (P1_1_ : Nat → Prop) (A1_1 : Option Addr) (c1_1 : Nat) (l1_1 : List Int) (P1_2_ : Nat → Prop) (A1_2 : Option Addr) (c1_2 : Nat) (l1_2 : List Int) (r1 : Bool) (r2 : List Int) (r3 : List Int) (r4 : Int) (w : World) (hs0_1 : Kd.V (Kd.int .i64) 3 w w.heap.size (fun k_ => P0_1_ k_) (.slice A0_1 l0_1.length c0_1) l0_1) (hs0_2 : Kd.V (Kd.int .i64) 3 w w.heap.size (fun k_ => P0_2_ k_) (.slice A0_2 l0_2.length c0_2) l0_2) (hs1_1 : Kd.V (Kd.int .i64) 3 w w.heap.size (fun k_ => P1_1_ k_) (.slice A1_1 l1_1.length c1_1) l1_1) (hs1_2 : Kd.V (Kd.int .i64) 3 w w.heap.size (fun k_ => P1_2_ k_) (.slice A1_2 l1_2.length c1_2) l1_2) (h : impl_DivRat.f k a0_0 l0_1 l0_2 a1_0 l1_1 l1_2 = some (r1, r2, r3, r4)) :
  Calls Try.prog 33 #[.agg #[.bool a0_0, .slice A0_1 l0_1.length c0_1, .slice A0_2 l0_2.length c0_2], .agg #[.bool a1_0, .slice A1_1 l1_1.length c1_1, .slice A1_2 l1_2.length c1_2]] w fun e w' => ∃ v1_ v2_ : Value, e = .returned (.tuple #[.agg #[.bool r1, v1_, v2_], .int .i64 r4]) ∧ Kd.R (Kd.int .i64) 3 w' w.heap.size (fun k_ => (w.heap.size ≤ k_) ∧ nO k_ v2_) v1_ r2 ∧ Kd.R (Kd.int .i64) 3 w' w.heap.size (fun k_ => (w.heap.size ≤ k_) ∧ nO k_ v1_) v2_ r3 ∧ Below w.heap.size w w' := by
 have hu24 := Try.underlying24
 have HO0_1 := Aside0.mk (show Kd.V (Kd.int .i64) 3 w w.heap.size (fun k_ => ((P0_1_ k_ ∨ P0_2_ k_ ∨ P1_1_ k_ ∨ P1_2_ k_) ∨ w.heap.size ≤ k_)) (.slice A0_1 l0_1.length c0_1) l0_1 from Kd.V_mono hs0_1 (fun k_ hk => .inl (.inl hk)))
 have HO0_2 := Aside0.mk (show Kd.V (Kd.int .i64) 3 w w.heap.size (fun k_ => ((P0_1_ k_ ∨ P0_2_ k_ ∨ P1_1_ k_ ∨ P1_2_ k_) ∨ w.heap.size ≤ k_)) (.slice A0_2 l0_2.length c0_2) l0_2 from Kd.V_mono hs0_2 (fun k_ hk => .inl (.inr (.inl hk))))
 have HO1_1 := Aside0.mk (show Kd.V (Kd.int .i64) 3 w w.heap.size (fun k_ => ((P0_1_ k_ ∨ P0_2_ k_ ∨ P1_1_ k_ ∨ P1_2_ k_) ∨ w.heap.size ≤ k_)) (.slice A1_1 l1_1.length c1_1) l1_1 from Kd.V_mono hs1_1 (fun k_ hk => .inl (.inr (.inr (.inl hk)))))
 have HO1_2 := Aside0.mk (show Kd.V (Kd.int .i64) 3 w w.heap.size (fun k_ => ((P0_1_ k_ ∨ P0_2_ k_ ∨ P1_1_ k_ ∨ P1_2_ k_) ∨ w.heap.size ≤ k_)) (.slice A1_2 l1_2.length c1_2) l1_2 from Kd.V_mono hs1_2 (fun k_ hk => .inl (.inr (.inr (.inr hk)))))
 have HB := Aside0.mk (Below.refl w.heap.size w)
 have H : ((impl_ratsCode.f k (([(⟨a0_0, l0_1, l0_2⟩ : S24), (⟨a1_0, l1_1, l1_2⟩ : S24)] : List (S24)))).bind fun t1134 => ((impl_Rat_isZero.f a1_0 l1_1 l1_2).bind fun t1135 => ((impl_unless.f (!t1135) 9).bind fun t1136 => ((impl_first.f k (([t1134, t1136] : List Int))).bind fun t1140 => (if t1140 = 0 then ((impl_Rat_over.f k a0_0 l0_1 l0_2 a1_0 l1_1 l1_2).bind fun bt1141 => ((impl_fullRat.f bt1141.1 bt1141.2.1 bt1141.2.2).bind fun bt1148 => (some (bt1148.1, bt1148.2.1, bt1148.2.2.1, bt1148.2.2.2)))) else (some (false, ([] : List Int), ([] : List Int), t1140))))))) = some (r1, r2, r3, r4) := h
 clear h
 obtain ⟨y1131, hy1131⟩ : ∃ y_ : List (S24), y_ = (([(⟨a0_0, l0_1, l0_2⟩ : S24), (⟨a1_0, l1_1, l1_2⟩ : S24)] : List (S24))) := ⟨_, rfl⟩
 replace H : ((impl_ratsCode.f k y1131).bind fun t1134 => ((impl_Rat_isZero.f a1_0 l1_1 l1_2).bind fun t1135 => ((impl_unless.f (!t1135) 9).bind fun t1136 => ((impl_first.f k (([t1134, t1136] : List Int))).bind fun t1140 => (if t1140 = 0 then ((impl_Rat_over.f k a0_0 l0_1 l0_2 a1_0 l1_1 l1_2).bind fun bt1141 => ((impl_fullRat.f bt1141.1 bt1141.2.1 bt1141.2.2).bind fun bt1148 => (some (bt1148.1, bt1148.2.1, bt1148.2.2.1, bt1148.2.2.2)))) else (some (false, ([] : List Int), ([] : List Int), t1140))))))) = some (r1, r2, r3, r4) := by first | (rw [hy1131]; with_reducible exact H) | (have H2_ := (Option.bind_some _ _).symm.trans H; rw [hy1131]; with_reducible exact H2_) | (have H2_ := (Option.bind_some _ _).symm.trans H; with_reducible exact H2_) | with_reducible exact H | (rw [hy1131]; exact H) | exact H
 have Ny1131 := Aside0.mk hy1131
 clear hy1131
 replace H := Option.bind_eq_some_iff.mp H
 obtain ⟨t1134, A30, H⟩ := H
 replace H : ((impl_Rat_isZero.f a1_0 l1_1 l1_2).bind fun t1135 => ((impl_unless.f (!t1135) 9).bind fun t1136 => ((impl_first.f k (([t1134, t1136] : List Int))).bind fun t1140 => (if t1140 = 0 then ((impl_Rat_over.f k a0_0 l0_1 l0_2 a1_0 l1_1 l1_2).bind fun bt1141 => ((impl_fullRat.f bt1141.1 bt1141.2.1 bt1141.2.2).bind fun bt1148 => (some (bt1148.1, bt1148.2.1, bt1148.2.2.1, bt1148.2.2.2)))) else (some (false, ([] : List Int), ([] : List Int), t1140)))))) = some (r1, r2, r3, r4) := H
 have A3 := Aside0.mk A30
 clear A30
 replace H := Option.bind_eq_some_iff.mp H
 obtain ⟨t1135, A40, H⟩ := H
 replace H : ((impl_unless.f (!t1135) 9).bind fun t1136 => ((impl_first.f k (([t1134, t1136] : List Int))).bind fun t1140 => (if t1140 = 0 then ((impl_Rat_over.f k a0_0 l0_1 l0_2 a1_0 l1_1 l1_2).bind fun bt1141 => ((impl_fullRat.f bt1141.1 bt1141.2.1 bt1141.2.2).bind fun bt1148 => (some (bt1148.1, bt1148.2.1, bt1148.2.2.1, bt1148.2.2.2)))) else (some (false, ([] : List Int), ([] : List Int), t1140))))) = some (r1, r2, r3, r4) := H
 have A4 := Aside0.mk A40
 clear A40
 replace H := Option.bind_eq_some_iff.mp H
 obtain ⟨t1136, A50, H⟩ := H
 replace H : ((impl_first.f k (([t1134, t1136] : List Int))).bind fun t1140 => (if t1140 = 0 then ((impl_Rat_over.f k a0_0 l0_1 l0_2 a1_0 l1_1 l1_2).bind fun bt1141 => ((impl_fullRat.f bt1141.1 bt1141.2.1 bt1141.2.2).bind fun bt1148 => (some (bt1148.1, bt1148.2.1, bt1148.2.2.1, bt1148.2.2.2)))) else (some (false, ([] : List Int), ([] : List Int), t1140)))) = some (r1, r2, r3, r4) := H
 have A5 := Aside0.mk A50
 clear A50
 obtain ⟨y1137, hy1137⟩ : ∃ y_ : List Int, y_ = (([t1134, t1136] : List Int)) := ⟨_, rfl⟩
 replace H : ((impl_first.f k y1137).bind fun t1140 => (if t1140 = 0 then ((impl_Rat_over.f k a0_0 l0_1 l0_2 a1_0 l1_1 l1_2).bind fun bt1141 => ((impl_fullRat.f bt1141.1 bt1141.2.1 bt1141.2.2).bind fun bt1148 => (some (bt1148.1, bt1148.2.1, bt1148.2.2.1, bt1148.2.2.2)))) else (some (false, ([] : List Int), ([] : List Int), t1140)))) = some (r1, r2, r3, r4) := by first | (rw [hy1137]; with_reducible exact H) | (have H2_ := (Option.bind_some _ _).symm.trans H; rw [hy1137]; with_reducible exact H2_) | (have H2_ := (Option.bind_some _ _).symm.trans H; with_reducible exact H2_) | with_reducible exact H | (rw [hy1137]; exact H) | exact H
 have Ny1137 := Aside0.mk hy1137
 clear hy1137
 replace H := Option.bind_eq_some_iff.mp H
 obtain ⟨t1140, A60, H⟩ := H
 replace H : (if t1140 = 0 then ((impl_Rat_over.f k a0_0 l0_1 l0_2 a1_0 l1_1 l1_2).bind fun bt1141 => ((impl_fullRat.f bt1141.1 bt1141.2.1 bt1141.2.2).bind fun bt1148 => (some (bt1148.1, bt1148.2.1, bt1148.2.2.1, bt1148.2.2.2)))) else (some (false, ([] : List Int), ([] : List Int), t1140))) = some (r1, r2, r3, r4) := H
 have A6 := Aside0.mk A60
 clear A60
 by_cases c7 : t1140 = 0
 ·
  rw [if_pos c7] at H
  have c7b0 : (t1140 == 0) = true := beq_iff_eq.mpr c7
  have c7b1 : (t1140 != 0) = false := bne_eq_false_iff_eq.mpr c7
  clear c7
  replace H := Option.bind_eq_some_iff.mp H
  obtain ⟨⟨t1141, t1142, t1145⟩, A80, H⟩ := H
  replace H : ((impl_fullRat.f t1141 t1142 t1145).bind fun bt1148 => (some (bt1148.1, bt1148.2.1, bt1148.2.2.1, bt1148.2.2.2))) = some (r1, r2, r3, r4) := H
  have A8 := Aside0.mk A80
  clear A80
  replace H := Option.bind_eq_some_iff.mp H
  obtain ⟨⟨t1148, t1149, t1152, t1155⟩, A90, H⟩ := H
  replace H : (some (t1148, t1149, t1152, t1155)) = some (r1, r2, r3, r4) := H
  have A9 := Aside0.mk A90
  clear A90
  simp only [Option.some.injEq, Prod.mk.injEq] at H
  obtain ⟨rfl, rfl, rfl, rfl⟩ := H
  go_enter Try.func33, Try.ntmps33
  try go_wp2_with (first | ((with_reducible refine gate_dst (N := 2) rfl ?_); refine box_event ?hg (N := 2) ?hd (cs := #[.bool a0_0, .slice A0_1 l0_1.length c0_1, .slice A0_2 l0_2.length c0_2]) (t := 24) ?hr ?_; (case hd => rfl); (case hg => rfl); (case hr => first | (go_simp; done) | (go_simp; rfl)); intro gb1128 hg w10 hbox hb; replace HO0_1 := elbV HO0_1 hg hb; replace HO0_2 := elbV HO0_2 hg hb; replace HO1_1 := elbV HO1_1 hg hb; replace HO1_2 := elbV HO1_2 hg hb; have BK1128 := Aside0.mk (hbox); have GW1128 := geh hg HB; have GE1128 := geh hg HB; replace HB := bst HB hb; clear hb hbox hg) | ((with_reducible refine gate_dst (N := 3) rfl ?_); refine box_event ?hg (N := 3) ?hd (cs := #[.bool a1_0, .slice A1_1 l1_1.length c1_1, .slice A1_2 l1_2.length c1_2]) (t := 24) ?hr ?_; (case hd => rfl); (case hg => rfl); (case hr => first | (go_simp; done) | (go_simp; rfl)); intro gb1129 hg w11 hbox hb; replace HO0_1 := elbV HO0_1 hg hb; replace HO0_2 := elbV HO0_2 hg hb; replace HO1_1 := elbV HO1_1 hg hb; replace HO1_2 := elbV HO1_2 hg hb; have BK1129 := Aside0.mk (hbox); have GW1129 := geh hg HB; have GE1129 := geh hg HB; replace HB := bst HB hb; have NB1128_1129 := nlt hg BK1128; have NB1129_1128 := ngt hg BK1128; replace BK1128 := bkb BK1128 hb; clear hb hbox hg) | ((with_reducible refine gate_dst (N := 4) rfl ?_); refine box_event ?hg (N := 4) ?hd (cs := #[.bool false, .slice none 0 0, .slice none 0 0]) (t := 24) ?hr ?_; (case hd => rfl); (case hg => rfl); (case hr => first | (go_simp; done) | (go_simp; rfl)); intro gb1130 hg w12 hbox hb; replace HO0_1 := elbV HO0_1 hg hb; replace HO0_2 := elbV HO0_2 hg hb; replace HO1_1 := elbV HO1_1 hg hb; replace HO1_2 := elbV HO1_2 hg hb; have BK1130 := Aside0.mk (hbox); have GW1130 := geh hg HB; have GE1130 := geh hg HB; replace HB := bst HB hb; have NB1128_1130 := nlt hg BK1128; have NB1130_1128 := ngt hg BK1128; replace BK1128 := bkb BK1128 hb; have NB1129_1130 := nlt hg BK1129; have NB1130_1129 := ngt hg BK1129; replace BK1129 := bkb BK1129 hb; clear hb hbox hg))
  replace HO0_1 := Aside0.mk (Kd.V_drew HO0_1.out)
  replace HO0_2 := Aside0.mk (Kd.V_drew HO0_2.out)
  replace HO1_1 := Aside0.mk (Kd.V_drew HO1_1.out)
  replace HO1_2 := Aside0.mk (Kd.V_drew HO1_2.out)
  replace BK1128 := Aside0.mk (blk_drew BK1128.out)
  replace BK1129 := Aside0.mk (blk_drew BK1129.out)
  replace BK1130 := Aside0.mk (blk_drew BK1130.out)
  replace HB := Aside0.mk (below_drew1 HB.out)
  refine start_ (n := 11) (S := fun w' => w'.cell? ⟨gb1128, 0, none⟩ = some (.bool a0_0) ∧ w'.cell? ⟨gb1128, 1, none⟩ = some (.slice A0_1 l0_1.length c0_1) ∧ w'.cell? ⟨gb1128, 2, none⟩ = some (.slice A0_2 l0_2.length c0_2) ∧ w'.cell? ⟨gb1129, 0, none⟩ = some (.bool a1_0) ∧ w'.cell? ⟨gb1129, 1, none⟩ = some (.slice A1_1 l1_1.length c1_1) ∧ w'.cell? ⟨gb1129, 2, none⟩ = some (.slice A1_2 l1_2.length c1_2)) (ds := []) #[false, false, false, false, false, false, false, false, false, false, false] (by kernel_rfl) rfl rfl ⟨bce BK1128 0 _, bce BK1128 1 _, bce BK1128 2 _, bce BK1129 0 _, bce BK1129 1 _, bce BK1129 2 _⟩ (fun hHeld => ?_); refine with_tabW impl_DivRat.tab1 impl_DivRat.bits1 (fun HT_ HW_ => ?_)
  generalize w12.drew = w13 at HO0_1 HO0_2 HO1_1 HO1_2 BK1128 BK1129 BK1130 HB hHeld ⊢
  refine take_ (i := 0) (N := some 7) (v := ?_) (a' := ?_) #[true, false, false, false, false, false, false, false, false, false, false] rfl rfl (take_ofW HT_.out HW_.out (by kernel_rfl)) (fun _ _ _ h => h) (Or.inl ⟨by rfl, ?_⟩) hHeld ?_ ?_
  rotate_left
  ·
   rintro w' ⟨s0, s1, s2, s3, s4, s5⟩
   go_simp
   with_reducible rfl
  rotate_left
  ·
   simp only [Act.put, List.setIfInBounds_toArray, List.set_cons_zero, List.set_cons_succ, i64_w, i32_w]
   rfl
  refine take_ (i := 1) (N := some 8) (v := ?_) (a' := ?_) #[true, true, false, false, false, false, false, false, false, false, false] rfl rfl (take_ofW HT_.out HW_.out (by kernel_rfl)) (fun _ _ _ h => h) (Or.inl ⟨by rfl, ?_⟩) hHeld ?_ ?_
  rotate_left
  ·
   rintro w' ⟨s0, s1, s2, s3, s4, s5⟩
   go_simp
   with_reducible rfl
  rotate_left
  ·
   simp only [Act.put, List.setIfInBounds_toArray, List.set_cons_zero, List.set_cons_succ, i64_w, i32_w]
   rfl
  refine take_ (i := 4) (N := some 11) (v := ?_) (a' := ?_) #[true, true, false, false, true, false, false, false, false, false, false] rfl rfl (take_ofW HT_.out HW_.out (by kernel_rfl)) (fun _ _ _ h => h) (Or.inl ⟨by rfl, ?_⟩) hHeld ?_ ?_
  rotate_left
  ·
   rintro w' ⟨s0, s1, s2, s3, s4, s5⟩
   go_simp
   with_reducible rfl
  rotate_left
  ·
   simp only [Act.put, List.setIfInBounds_toArray, List.set_cons_zero, List.set_cons_succ, i64_w, i32_w]
   rfl
  refine one_ (i := 2) (N := some 9) #[true, true, true, false, true, false, false, false, false, false, false] rfl rfl (one_of HT_.out (by kernel_rfl)) (by decide) (fun K hK => ?_)
  refine Kd.N_lit_step k24 _ 24 ?hg (N' := 9) ?hd (xs := ([(⟨a0_0, l0_1, l0_2⟩ : S24), (⟨a1_0, l1_1, l1_2⟩ : S24)] : List (S24))) (inner := [.bool a0_0, .slice A0_1 l0_1.length c0_1, .slice A0_2 l0_2.length c0_2, .bool a1_0, .slice A1_1 l1_1.length c1_1, .slice A1_2 l1_2.length c1_2]) (ok := (fun k_ => ((P0_1_ k_ ∨ P0_2_ k_ ∨ P1_1_ k_ ∨ P1_2_ k_) ∨ w.heap.size ≤ k_) ∧ k_ ≠ gb1128 ∧ k_ ≠ gb1129 ∧ k_ ≠ gb1130)) (okp := (fun k_ => ((P0_1_ k_ ∨ P0_2_ k_ ∨ P1_1_ k_ ∨ P1_2_ k_) ∨ w.heap.size ≤ k_) ∧ k_ ≠ gb1128 ∧ k_ ≠ gb1129 ∧ k_ ≠ gb1130)) ?hr ?hp (fun _ hk => hk) ((show ∀ k_, w13.heap.size ≤ k_ → (fun k_ => ((P0_1_ k_ ∨ P0_2_ k_ ∨ P1_1_ k_ ∨ P1_2_ k_) ∨ w.heap.size ≤ k_) ∧ k_ ≠ gb1128 ∧ k_ ≠ gb1129 ∧ k_ ≠ gb1130) k_ from fun k_ hk => ⟨(.inr (Nat.le_trans (bsz HB) hk)), Kd.freshB (g := gb1128) (o := .cells #[.bool a0_0, .slice A0_1 l0_1.length c0_1, .slice A0_2 l0_2.length c0_2] 24 (0, 0)) (crb BK1128) k_ hk, Kd.freshB (g := gb1129) (o := .cells #[.bool a1_0, .slice A1_1 l1_1.length c1_1, .slice A1_2 l1_2.length c1_2] 24 (0, 0)) (crb BK1129) k_ hk, Kd.freshB (g := gb1130) (o := .cells #[.bool false, .slice none 0 0, .slice none 0 0] 24 (0, 0)) (crb BK1130) k_ hk⟩) _ (Nat.le_refl _)) (Below.refl _ _) (Nat.le_refl _) (by simp) ?_; (case hd => rfl); (case hg => rfl); (case hr => first | (go_simp; done) | (go_simp; rfl)); (case hp => exact (Reps.c3 (show Kd.FK k24 _ _ (⟨a0_0, l0_1, l0_2⟩ : S24) [.bool a0_0, .slice A0_1 l0_1.length c0_1, .slice A0_2 l0_2.length c0_2] from (k24_mkF _ _ (⟨a0_0, l0_1, l0_2⟩ : S24) (Kd.V_reads' (Kd.V_mono (ok' := (fun k_ => ((P0_1_ k_ ∨ P0_2_ k_ ∨ P1_1_ k_ ∨ P1_2_ k_) ∨ w.heap.size ≤ k_) ∧ k_ ≠ gb1128 ∧ k_ ≠ gb1129 ∧ k_ ≠ gb1130)) (HO0_1.out) (fun k_ hk => ⟨hk.1.1.1, ⟨hk.1.1.2, ⟨hk.1.2, hk.2⟩⟩⟩))).2.1 (Kd.V_F (Kd.V_mono (ok' := (fun k_ => ((P0_1_ k_ ∨ P0_2_ k_ ∨ P1_1_ k_ ∨ P1_2_ k_) ∨ w.heap.size ≤ k_) ∧ k_ ≠ gb1128 ∧ k_ ≠ gb1129 ∧ k_ ≠ gb1130)) (HO0_1.out) (fun k_ hk => ⟨hk.1.1.1, ⟨hk.1.1.2, ⟨hk.1.2, hk.2⟩⟩⟩))) (Kd.V_reads' (Kd.V_mono (ok' := (fun k_ => ((P0_1_ k_ ∨ P0_2_ k_ ∨ P1_1_ k_ ∨ P1_2_ k_) ∨ w.heap.size ≤ k_) ∧ k_ ≠ gb1128 ∧ k_ ≠ gb1129 ∧ k_ ≠ gb1130)) (HO0_2.out) (fun k_ hk => ⟨hk.1.1.1, ⟨hk.1.1.2, ⟨hk.1.2, hk.2⟩⟩⟩))).2.1 (Kd.V_F (Kd.V_mono (ok' := (fun k_ => ((P0_1_ k_ ∨ P0_2_ k_ ∨ P1_1_ k_ ∨ P1_2_ k_) ∨ w.heap.size ≤ k_) ∧ k_ ≠ gb1128 ∧ k_ ≠ gb1129 ∧ k_ ≠ gb1130)) (HO0_2.out) (fun k_ hk => ⟨hk.1.1.1, ⟨hk.1.1.2, ⟨hk.1.2, hk.2⟩⟩⟩))))) (Reps.c3 (show Kd.FK k24 _ _ (⟨a1_0, l1_1, l1_2⟩ : S24) [.bool a1_0, .slice A1_1 l1_1.length c1_1, .slice A1_2 l1_2.length c1_2] from (k24_mkF _ _ (⟨a1_0, l1_1, l1_2⟩ : S24) (Kd.V_reads' (Kd.V_mono (ok' := (fun k_ => ((P0_1_ k_ ∨ P0_2_ k_ ∨ P1_1_ k_ ∨ P1_2_ k_) ∨ w.heap.size ≤ k_) ∧ k_ ≠ gb1128 ∧ k_ ≠ gb1129 ∧ k_ ≠ gb1130)) (HO1_1.out) (fun k_ hk => ⟨hk.1.1.1, ⟨hk.1.1.2, ⟨hk.1.2, hk.2⟩⟩⟩))).2.1 (Kd.V_F (Kd.V_mono (ok' := (fun k_ => ((P0_1_ k_ ∨ P0_2_ k_ ∨ P1_1_ k_ ∨ P1_2_ k_) ∨ w.heap.size ≤ k_) ∧ k_ ≠ gb1128 ∧ k_ ≠ gb1129 ∧ k_ ≠ gb1130)) (HO1_1.out) (fun k_ hk => ⟨hk.1.1.1, ⟨hk.1.1.2, ⟨hk.1.2, hk.2⟩⟩⟩))) (Kd.V_reads' (Kd.V_mono (ok' := (fun k_ => ((P0_1_ k_ ∨ P0_2_ k_ ∨ P1_1_ k_ ∨ P1_2_ k_) ∨ w.heap.size ≤ k_) ∧ k_ ≠ gb1128 ∧ k_ ≠ gb1129 ∧ k_ ≠ gb1130)) (HO1_2.out) (fun k_ hk => ⟨hk.1.1.1, ⟨hk.1.1.2, ⟨hk.1.2, hk.2⟩⟩⟩))).2.1 (Kd.V_F (Kd.V_mono (ok' := (fun k_ => ((P0_1_ k_ ∨ P0_2_ k_ ∨ P1_1_ k_ ∨ P1_2_ k_) ∨ w.heap.size ≤ k_) ∧ k_ ≠ gb1128 ∧ k_ ≠ gb1129 ∧ k_ ≠ gb1130)) (HO1_2.out) (fun k_ hk => ⟨hk.1.1.1, ⟨hk.1.1.2, ⟨hk.1.2, hk.2⟩⟩⟩))))) (Reps.none _ _))))
  intro v1132 w14 ho15 hb hg_ hnew_
  clear hg_ hnew_
  (first | rw [← Ny1131.out] at ho15 | (simp only [Int.reduceToNat] at ho15; rw [← Ny1131.out] at ho15))
  replace HO0_1 := eldV HO0_1 (Kd.N_base ho15) hb
  replace HO0_2 := eldV HO0_2 (Kd.N_base ho15) hb
  replace HO1_1 := eldV HO1_1 (Kd.N_base ho15) hb
  replace HO1_2 := eldV HO1_2 (Kd.N_base ho15) hb
  have HO1133 := Aside0.mk (Kd.N_lower ho15 (bsz HB))
  replace BK1128 := bkb BK1128 hb
  replace BK1129 := bkb BK1129 hb
  replace BK1130 := bkb BK1130 hb
  replace HB := bst HB hb
  clear hb ho15
  obtain ⟨Ao16, co16, eo16⟩ := Kd.N_slice HO1133.out
  (first | subst eo16 | (injection eo16 with f1_ f2_ f3_; have f4_ := f1_.symm; have f5_ := f3_.symm; clear f1_ f2_ f3_; subst f4_; subst f5_))
  refine hK.out _ _ ⟨bce BK1128 0 _, bce BK1128 1 _, bce BK1128 2 _, bce BK1129 0 _, bce BK1129 1 _, bce BK1129 2 _⟩ (fun hHeld => ?_)
  clear hK K
  refine norm_ (a' := ?_) ?_ ?_
  rotate_left
  ·
   show Act.put _ (some 9) _ = _
   simp only [Act.put, List.setIfInBounds_toArray, List.set_cons_zero, List.set_cons_succ, i64_w, i32_w]
   rfl
  refine one_ (i := 3) (N := some 10) #[true, true, true, true, true, false, false, false, false, false, false] rfl rfl (one_of HT_.out (by kernel_rfl)) (by decide) (fun K hK => ?_)
  refine goes_ Try.func65 (by kernel_rfl) rfl #[.slice Ao16 y1131.length co16] (by rfl) rfl rfl (by (try simp only [List.map_toArray, List.map_cons, List.map_nil]); first | done | rfl | (simp only [List.length_drop, List.length_take]; rfl)) ?_
  with_reducible refine (impl_ratsCode.calls k _ _ y1131 t1134 _ ?side1 ?side2 A3.out).mono ?_
  (case side1 => exact crC (Kd.N_reads' HO1133.out).2.2)
  (case side2 => exact (Kd.N_reads' HO1133.out).2.1)
  rintro e w17 ⟨rfl, hb⟩
  refine ⟨_, rfl, ?_⟩
  replace HO0_1 := rblV HO0_1 hb
  replace HO0_2 := rblV HO0_2 hb
  replace HO1_1 := rblV HO1_1 hb
  replace HO1_2 := rblV HO1_2 hb
  replace HO1133 := Aside0.mk (Kd.N_below (by (with_reducible repeat (first | apply Kd.N_alloc | apply Kd.N_drewN | apply Kd.N_drew)); exact HO1133.out) hb)
  replace BK1128 := bkb BK1128 hb
  replace BK1129 := bkb BK1129 hb
  replace BK1130 := bkb BK1130 hb
  replace HB := bst HB hb
  (try clear hb)
  (try clear hb2)
  (try clear hk)
  (try clear hi)
  refine hK.out _ _ ⟨bce BK1128 0 _, bce BK1128 1 _, bce BK1128 2 _, bce BK1129 0 _, bce BK1129 1 _, bce BK1129 2 _⟩ (fun hHeld => ?_)
  clear hK K
  refine norm_ (a' := ?_) ?_ ?_
  rotate_left
  ·
   show Act.put _ (some 10) _ = _
   simp only [Act.put, List.setIfInBounds_toArray, List.set_cons_zero, List.set_cons_succ, i64_w, i32_w]
   rfl
  refine one_ (i := 5) (N := some 12) #[true, true, true, true, true, true, false, false, false, false, false] rfl rfl (one_of HT_.out (by kernel_rfl)) (by decide) (fun K hK => ?_)
  refine goes_ Try.func59 (by kernel_rfl) rfl #[.agg #[.bool a1_0, .slice A1_1 l1_1.length c1_1, .slice A1_2 l1_2.length c1_2]] (by rfl) rfl rfl (by (try simp only [List.map_toArray, List.map_cons, List.map_nil]); first | done | rfl | (simp only [List.length_drop, List.length_take]; rfl)) ?_
  with_reducible refine (impl_Rat_isZero.calls a1_0 _ _ l1_1 _ _ l1_2 t1135 _ ?side1 ?side2 ?side3 ?side4 A4.out).mono ?_
  (case side1 => exact crC (Kd.V_reads' HO1_1.out).2.2)
  (case side2 => exact (Kd.V_reads' HO1_1.out).2.1)
  (case side3 => exact crC (Kd.V_reads' HO1_2.out).2.2)
  (case side4 => exact (Kd.V_reads' HO1_2.out).2.1)
  rintro e w18 ⟨rfl, hb⟩
  refine ⟨_, rfl, ?_⟩
  replace HO0_1 := rblV HO0_1 hb
  replace HO0_2 := rblV HO0_2 hb
  replace HO1_1 := rblV HO1_1 hb
  replace HO1_2 := rblV HO1_2 hb
  replace HO1133 := Aside0.mk (Kd.N_below (by (with_reducible repeat (first | apply Kd.N_alloc | apply Kd.N_drewN | apply Kd.N_drew)); exact HO1133.out) hb)
  replace BK1128 := bkb BK1128 hb
  replace BK1129 := bkb BK1129 hb
  replace BK1130 := bkb BK1130 hb
  replace HB := bst HB hb
  (try clear hb)
  (try clear hb2)
  (try clear hk)
  (try clear hi)
  refine hK.out _ _ ⟨bce BK1128 0 _, bce BK1128 1 _, bce BK1128 2 _, bce BK1129 0 _, bce BK1129 1 _, bce BK1129 2 _⟩ (fun hHeld => ?_)
  clear hK K
  refine norm_ (a' := ?_) ?_ ?_
  rotate_left
  ·
   show Act.put _ (some 12) _ = _
   simp only [Act.put, List.setIfInBounds_toArray, List.set_cons_zero, List.set_cons_succ, i64_w, i32_w]
   rfl
  refine pure_ (i := 6) (N := some 13) (v := ?_) (a' := ?_) #[true, true, true, true, true, true, true, false, false, false, false] rfl rfl (any_of HT_.out (by kernel_rfl)) (fun _ _ _ h => h) (Or.inl ⟨by rfl, ?_⟩) ?_ ?_
  rotate_left
  ·
   intro w'
   go_simp
   with_reducible rfl
  rotate_left
  ·
   simp only [Act.put, List.setIfInBounds_toArray, List.set_cons_zero, List.set_cons_succ, i64_w, i32_w]
   rfl
  refine one_ (i := 7) (N := some 14) #[true, true, true, true, true, true, true, true, false, false, false] rfl rfl (one_of HT_.out (by kernel_rfl)) (by decide) (fun K hK => ?_)
  refine goes_ Try.func81 (by kernel_rfl) rfl #[.bool (!t1135), .int .i64 9] (by rfl) rfl rfl (by (try simp only [List.map_toArray, List.map_cons, List.map_nil]); first | done | rfl | (simp only [List.length_drop, List.length_take]; rfl)) ?_
  with_reducible refine (impl_unless.calls (!t1135) 9 t1136 _ A5.out).mono ?_
  rintro e w' ⟨rfl, ⟨nd, rfl⟩⟩
  refine ⟨_, rfl, ?_⟩
  refine hK.out _ _ ⟨bce BK1128 0 _, bce BK1128 1 _, bce BK1128 2 _, bce BK1129 0 _, bce BK1129 1 _, bce BK1129 2 _⟩ (fun hHeld => ?_)
  clear hK K
  refine norm_ (a' := ?_) ?_ ?_
  rotate_left
  ·
   show Act.put _ (some 14) _ = _
   simp only [Act.put, List.setIfInBounds_toArray, List.set_cons_zero, List.set_cons_succ, i64_w, i32_w]
   rfl
  refine one_ (i := 8) (N := some 15) #[true, true, true, true, true, true, true, true, true, false, false] rfl rfl (one_of HT_.out (by kernel_rfl)) (by decide) (fun K hK => ?_)
  refine Kd.R_lit_step (Kd.int .i64) _ 3 ?hg (N := 15) ?hd (xs := ([t1134, t1136] : List Int)) (inner := [.int .i64 t1134, .int .i64 t1136]) (ok := fun _ => True) (okp := fun _ => True) ?hr ?hp (fun _ hk => hk) trivial (Below.refl _ _) (Nat.le_refl _) (by simp) ?_; (case hd => rfl); (case hg => rfl); (case hr => first | (go_simp; done) | (go_simp; rfl)); (case hp => exact (Reps.one (show Kd.M (Kd.int .i64) _ _ _ t1134 [.int .i64 t1134] from rfl) (Reps.one (show Kd.M (Kd.int .i64) _ _ _ t1136 [.int .i64 t1136] from rfl) (Reps.none _ _))))
  intro v1138 w19 ho20 hb hg_ hnew_
  clear hg_ hnew_
  (first | rw [← Ny1137.out] at ho20 | (simp only [Int.reduceToNat] at ho20; rw [← Ny1137.out] at ho20))
  replace HO0_1 := eldV HO0_1 (Kd.R_base ho20) hb
  replace HO0_2 := eldV HO0_2 (Kd.R_base ho20) hb
  replace HO1_1 := eldV HO1_1 (Kd.R_base ho20) hb
  replace HO1_2 := eldV HO1_2 (Kd.R_base ho20) hb
  replace HO1133 := Aside0.mk (Kd.N_elder' (by (with_reducible repeat (first | apply Kd.N_alloc | apply Kd.N_drewN | apply Kd.N_drew)); exact HO1133.out) (Kd.R_base ho20) hb)
  have HO1139 := lwR (Kd.R_newM (M := fun k_ => (w.heap.size ≤ k_)) ho20 (bsz HB) (fun k_ h_ => h_)) HB
  replace BK1128 := bkb BK1128 hb
  replace BK1129 := bkb BK1129 hb
  replace BK1130 := bkb BK1130 hb
  replace HB := bst HB hb
  clear hb ho20
  obtain ⟨Ao21, co21, eo21⟩ := Kd.R_slice HO1139.out
  (first | subst eo21 | (injection eo21 with f1_ f2_ f3_; have f4_ := f1_.symm; have f5_ := f3_.symm; clear f1_ f2_ f3_; subst f4_; subst f5_))
  refine hK.out _ _ ⟨bce BK1128 0 _, bce BK1128 1 _, bce BK1128 2 _, bce BK1129 0 _, bce BK1129 1 _, bce BK1129 2 _⟩ (fun hHeld => ?_)
  clear hK K
  refine norm_ (a' := ?_) ?_ ?_
  rotate_left
  ·
   show Act.put _ (some 15) _ = _
   simp only [Act.put, List.setIfInBounds_toArray, List.set_cons_zero, List.set_cons_succ, i64_w, i32_w]
   rfl
  refine one_ (i := 9) (N := some 16) #[true, true, true, true, true, true, true, true, true, true, false] rfl rfl (one_of HT_.out (by kernel_rfl)) (by decide) (fun K hK => ?_)
  refine goes_ Try.func80 (by kernel_rfl) rfl #[.slice Ao21 y1137.length co21] (by rfl) rfl rfl (by (try simp only [List.map_toArray, List.map_cons, List.map_nil]); first | done | rfl | (simp only [List.length_drop, List.length_take]; rfl)) ?_
  with_reducible refine (impl_first.calls k _ _ y1137 t1140 _ ?side1 ?side2 A6.out).mono ?_
  (case side1 => exact crC (Kd.R_reads' HO1139.out).2.2)
  (case side2 => exact (Kd.R_reads' HO1139.out).2.1)
  rintro e w' ⟨rfl, ⟨nd, rfl⟩⟩
  refine ⟨_, rfl, ?_⟩
  refine hK.out _ _ ⟨bce BK1128 0 _, bce BK1128 1 _, bce BK1128 2 _, bce BK1129 0 _, bce BK1129 1 _, bce BK1129 2 _⟩ (fun hHeld => ?_)
  clear hK K
  refine norm_ (a' := ?_) ?_ ?_
  rotate_left
  ·
   show Act.put _ (some 16) _ = _
   simp only [Act.put, List.setIfInBounds_toArray, List.set_cons_zero, List.set_cons_succ, i64_w, i32_w]
   rfl
  refine pure_ (i := 10) (N := some 6) (v := ?_) (a' := ?_) #[true, true, true, true, true, true, true, true, true, true, true] rfl rfl (any_of HT_.out (by kernel_rfl)) (fun _ _ _ h => h) (Or.inl ⟨by rfl, ?_⟩) ?_ ?_
  rotate_left
  ·
   intro w'
   go_simp
   with_reducible rfl
  rotate_left
  ·
   simp only [Act.put, List.setIfInBounds_toArray, List.set_cons_zero, List.set_cons_succ, i64_w, i32_w]
   rfl
  refine done_ (done_of HT_.out (by kernel_rfl)) ?_
  have hnb22 := NB1128_1129.out
  have hnc22 := NB1129_1128.out
  have hnb23 := NB1128_1130.out
  have hnc23 := NB1130_1128.out
  have hcz24_0 := bce BK1128 0 (.bool a0_0)
  have hcz24_1 := bce BK1128 1 (.slice A0_1 l0_1.length c0_1)
  have hcz24_2 := bce BK1128 2 (.slice A0_2 l0_2.length c0_2)
  have hfz24_0 := blk_frozen BK1128.out 0
  have hfz24_1 := blk_frozen BK1128.out 1
  have hfz24_2 := blk_frozen BK1128.out 2
  have hnb25 := NB1129_1130.out
  have hnc25 := NB1130_1129.out
  have hcz26_0 := bce BK1129 0 (.bool a1_0)
  have hcz26_1 := bce BK1129 1 (.slice A1_1 l1_1.length c1_1)
  have hcz26_2 := bce BK1129 2 (.slice A1_2 l1_2.length c1_2)
  have hfz26_0 := blk_frozen BK1129.out 0
  have hfz26_1 := blk_frozen BK1129.out 1
  have hfz26_2 := blk_frozen BK1129.out 2
  try go_wp2_with (first | ((with_reducible refine gate_callee (f := 49) rfl ?_); refine goesL_ (some 23) rfl rfl Try.func49 (by kernel_rfl) rfl #[.agg #[.bool a0_0, .slice A0_1 l0_1.length c0_1, .slice A0_2 l0_2.length c0_2], .agg #[.bool a1_0, .slice A1_1 l1_1.length c1_1, .slice A1_2 l1_2.length c1_2]] rfl (by (try simp only [List.map_toArray, List.map_cons, List.map_nil]); first | done | rfl | (simp only [List.length_drop, List.length_take]; rfl)) ?_; (with_reducible refine (impl_Rat_over.calls k a0_0 _ _ l0_1 _ _ l0_2 a1_0 _ _ l1_1 _ _ l1_2 t1141 t1142 t1145 _ ?side1 ?side2 ?side3 ?side4 ?side5 ?side6 ?side7 ?side8 A8.out).mono ?_); (case side1 => exact crC (Kd.V_reads' HO0_1.out).2.2); (case side2 => exact (Kd.V_reads' HO0_1.out).2.1); (case side3 => exact crC (Kd.V_reads' HO0_2.out).2.2); (case side4 => exact (Kd.V_reads' HO0_2.out).2.1); (case side5 => exact crC (Kd.V_reads' HO1_1.out).2.2); (case side6 => exact (Kd.V_reads' HO1_1.out).2.1); (case side7 => exact crC (Kd.V_reads' HO1_2.out).2.2); (case side8 => exact (Kd.V_reads' HO1_2.out).2.1); rintro e w27 ⟨v1143, v1146, rfl, ho0, ho1, hb⟩; refine ⟨_, rfl, ?_⟩; replace HO0_1 := tldV HO0_1 hb (Kd.R_base ho0) (Kd.R_base ho1); replace HO0_2 := tldV HO0_2 hb (Kd.R_base ho0) (Kd.R_base ho1); replace HO1_1 := tldV HO1_1 hb (Kd.R_base ho0) (Kd.R_base ho1); replace HO1_2 := tldV HO1_2 hb (Kd.R_base ho0) (Kd.R_base ho1); replace HO1133 := Aside0.mk (Kd.N_mono (Kd.N_told (Kd.N_told (Kd.N_old (by (with_reducible repeat (first | apply Kd.N_alloc | apply Kd.N_drewN | apply Kd.N_drew)); exact HO1133.out) hb) (Kd.R_base ho0)) (Kd.R_base ho1)) (fun _ h_ => h_.1)); have HO1144 := lwR (nwR (Kd.R_newM (M := fun k_ => (w.heap.size ≤ k_)) ho0 (bsz HB) (fun k_ h_ => h_)) HO1139) HB; have HO1147 := lwR (nwR (Kd.R_newM (M := fun k_ => (w.heap.size ≤ k_)) ho1 (bsz HB) (fun k_ h_ => h_)) HO1139) HB; replace HO1139 := tldR HO1139 hb (Kd.R_base ho0) (Kd.R_base ho1); replace BK1128 := bkb BK1128 hb; replace BK1129 := bkb BK1129 hb; replace BK1130 := bkb BK1130 hb; replace HB := bst HB hb; (try clear hb); (try clear hb2); (try clear hk); (try clear hi); (try clear ho0); (try clear ho1); obtain ⟨Ao28, co28, eo28⟩ := Kd.R_slice HO1144.out; subst eo28; obtain ⟨Ao29, co29, eo29⟩ := Kd.R_slice HO1147.out; subst eo29) | ((with_reducible refine gate_callee (f := 77) rfl ?_); refine goesL_ (some 24) rfl rfl Try.func77 (by kernel_rfl) rfl #[.agg #[.bool t1141, .slice Ao28 t1142.length co28, .slice Ao29 t1145.length co29]] rfl (by (try simp only [List.map_toArray, List.map_cons, List.map_nil]); first | done | rfl | (simp only [List.length_drop, List.length_take]; rfl)) ?_; (with_reducible refine (impl_fullRat.calls t1141 (fun k_ => some k_ = (.slice Ao28 t1142.length co28 : Value).ownBlock) (.slice Ao28 t1142.length co28) t1142 (fun k_ => some k_ = (.slice Ao29 t1145.length co29 : Value).ownBlock) (.slice Ao29 t1145.length co29) t1145 t1148 t1149 t1152 t1155 w _ ?side1 ?side2 ?side3 ?side4 ?side5 A9.out).mono ?_); (case side1 => repeat (first | (with_reducible first | exact HB.out | apply below_alloc | apply pw_below_drewN | apply below_drew1 | refine below_set ?_ GE1128.out | refine below_set ?_ GE1129.out | refine below_set ?_ GE1130.out) | exact HB.out)); (case side2 => exact Kd.R_tight rfl HO1144.out); (case side3 => exact fun k_ e_ => (HO1144.out.1 k_ e_.symm).1.2); (case side4 => exact Kd.R_tight rfl HO1147.out); (case side5 => exact fun k_ e_ => (HO1147.out.1 k_ e_.symm).1.2); rintro e w30 ⟨v1150, v1153, rfl, ho0, ho1, hb, hkp⟩; refine ⟨_, rfl, ?_⟩; replace HO0_1 := Aside0.mk (Kd.V_mono (ok' := fun k_ => ((P0_1_ k_ ∨ P0_2_ k_ ∨ P1_1_ k_ ∨ P1_2_ k_) ∨ w.heap.size ≤ k_) ∧ nO k_ (.slice Ao16 y1131.length co16) ∧ nO k_ (.slice Ao21 y1137.length co21) ∧ k_ ≠ gb1128 ∧ k_ ≠ gb1129 ∧ k_ ≠ gb1130 ∧ nO k_ v1150 ∧ nO k_ v1153) (Kd.V_keptB (HO0_1.out) hkp (fun k_ hk_ hs_ => Or.elim hs_ (fun e_ => (hk_.1.2) e_) (fun e_ => (hk_.2) e_))) (fun k_ hk_ => ⟨hk_.1.1.1.1.1.1.1.1, hk_.1.1.1.1.2, hk_.1.1.1.2, hk_.1.1.1.1.1.1.1.2, hk_.1.1.1.1.1.1.2, hk_.1.1.1.1.1.2, fun e_ => Or.elim (ho0.1 k_ e_.symm).1 (fun hs_ => hk_.2.1 hs_) (fun hn_ => Nat.not_le.2 hk_.2.2 hn_), fun e_ => Or.elim (ho1.1 k_ e_.symm).1 (fun hs_ => hk_.2.1 hs_) (fun hn_ => Nat.not_le.2 hk_.2.2 hn_)⟩)); replace HO0_2 := Aside0.mk (Kd.V_mono (ok' := fun k_ => ((P0_1_ k_ ∨ P0_2_ k_ ∨ P1_1_ k_ ∨ P1_2_ k_) ∨ w.heap.size ≤ k_) ∧ nO k_ (.slice Ao16 y1131.length co16) ∧ nO k_ (.slice Ao21 y1137.length co21) ∧ k_ ≠ gb1128 ∧ k_ ≠ gb1129 ∧ k_ ≠ gb1130 ∧ nO k_ v1150 ∧ nO k_ v1153) (Kd.V_keptB (HO0_2.out) hkp (fun k_ hk_ hs_ => Or.elim hs_ (fun e_ => (hk_.1.2) e_) (fun e_ => (hk_.2) e_))) (fun k_ hk_ => ⟨hk_.1.1.1.1.1.1.1.1, hk_.1.1.1.1.2, hk_.1.1.1.2, hk_.1.1.1.1.1.1.1.2, hk_.1.1.1.1.1.1.2, hk_.1.1.1.1.1.2, fun e_ => Or.elim (ho0.1 k_ e_.symm).1 (fun hs_ => hk_.2.1 hs_) (fun hn_ => Nat.not_le.2 hk_.2.2 hn_), fun e_ => Or.elim (ho1.1 k_ e_.symm).1 (fun hs_ => hk_.2.1 hs_) (fun hn_ => Nat.not_le.2 hk_.2.2 hn_)⟩)); replace HO1_1 := Aside0.mk (Kd.V_mono (ok' := fun k_ => ((P0_1_ k_ ∨ P0_2_ k_ ∨ P1_1_ k_ ∨ P1_2_ k_) ∨ w.heap.size ≤ k_) ∧ nO k_ (.slice Ao16 y1131.length co16) ∧ nO k_ (.slice Ao21 y1137.length co21) ∧ k_ ≠ gb1128 ∧ k_ ≠ gb1129 ∧ k_ ≠ gb1130 ∧ nO k_ v1150 ∧ nO k_ v1153) (Kd.V_keptB (HO1_1.out) hkp (fun k_ hk_ hs_ => Or.elim hs_ (fun e_ => (hk_.1.2) e_) (fun e_ => (hk_.2) e_))) (fun k_ hk_ => ⟨hk_.1.1.1.1.1.1.1.1, hk_.1.1.1.1.2, hk_.1.1.1.2, hk_.1.1.1.1.1.1.1.2, hk_.1.1.1.1.1.1.2, hk_.1.1.1.1.1.2, fun e_ => Or.elim (ho0.1 k_ e_.symm).1 (fun hs_ => hk_.2.1 hs_) (fun hn_ => Nat.not_le.2 hk_.2.2 hn_), fun e_ => Or.elim (ho1.1 k_ e_.symm).1 (fun hs_ => hk_.2.1 hs_) (fun hn_ => Nat.not_le.2 hk_.2.2 hn_)⟩)); replace HO1_2 := Aside0.mk (Kd.V_mono (ok' := fun k_ => ((P0_1_ k_ ∨ P0_2_ k_ ∨ P1_1_ k_ ∨ P1_2_ k_) ∨ w.heap.size ≤ k_) ∧ nO k_ (.slice Ao16 y1131.length co16) ∧ nO k_ (.slice Ao21 y1137.length co21) ∧ k_ ≠ gb1128 ∧ k_ ≠ gb1129 ∧ k_ ≠ gb1130 ∧ nO k_ v1150 ∧ nO k_ v1153) (Kd.V_keptB (HO1_2.out) hkp (fun k_ hk_ hs_ => Or.elim hs_ (fun e_ => (hk_.1.2) e_) (fun e_ => (hk_.2) e_))) (fun k_ hk_ => ⟨hk_.1.1.1.1.1.1.1.1, hk_.1.1.1.1.2, hk_.1.1.1.2, hk_.1.1.1.1.1.1.1.2, hk_.1.1.1.1.1.1.2, hk_.1.1.1.1.1.2, fun e_ => Or.elim (ho0.1 k_ e_.symm).1 (fun hs_ => hk_.2.1 hs_) (fun hn_ => Nat.not_le.2 hk_.2.2 hn_), fun e_ => Or.elim (ho1.1 k_ e_.symm).1 (fun hs_ => hk_.2.1 hs_) (fun hn_ => Nat.not_le.2 hk_.2.2 hn_)⟩)); replace BK1128 := Aside0.mk (blk_kept (crb BK1128) hkp (fun hs_ => Or.elim hs_ (fun e_ => (fun e_ => (Kd.R_ne HO1144.out BK1128.out (by decide)) e_) e_) (fun e_ => (fun e_ => (Kd.R_ne HO1147.out BK1128.out (by decide)) e_) e_))); replace BK1129 := Aside0.mk (blk_kept (crb BK1129) hkp (fun hs_ => Or.elim hs_ (fun e_ => (fun e_ => (Kd.R_ne HO1144.out BK1129.out (by decide)) e_) e_) (fun e_ => (fun e_ => (Kd.R_ne HO1147.out BK1129.out (by decide)) e_) e_))); replace BK1130 := Aside0.mk (blk_kept (crb BK1130) hkp (fun hs_ => Or.elim hs_ (fun e_ => (fun e_ => (Kd.R_ne HO1144.out BK1130.out (by decide)) e_) e_) (fun e_ => (fun e_ => (Kd.R_ne HO1147.out BK1130.out (by decide)) e_) e_))); replace HO1133 := Aside0.mk (Kd.N_mono (ok' := fun k_ => ((P0_1_ k_ ∨ P0_2_ k_ ∨ P1_1_ k_ ∨ P1_2_ k_) ∨ w.heap.size ≤ k_) ∧ nO k_ (.slice Ao21 y1137.length co21) ∧ k_ ≠ gb1128 ∧ k_ ≠ gb1129 ∧ k_ ≠ gb1130 ∧ nO k_ v1150 ∧ nO k_ v1153) (Kd.N_keptB (HO1133.out) hkp (fun k_ hk_ hs_ => Or.elim hs_ (fun e_ => (hk_.1.2) e_) (fun e_ => (hk_.2) e_))) (fun k_ hk_ => ⟨hk_.1.1.1.1.1, hk_.1.1.1.2, hk_.1.1.1.1.2.1, hk_.1.1.1.1.2.2.1, hk_.1.1.1.1.2.2.2, fun e_ => Or.elim (ho0.1 k_ e_.symm).1 (fun hs_ => hk_.2.1 hs_) (fun hn_ => Nat.not_le.2 hk_.2.2 hn_), fun e_ => Or.elim (ho1.1 k_ e_.symm).1 (fun hs_ => hk_.2.1 hs_) (fun hn_ => Nat.not_le.2 hk_.2.2 hn_)⟩)); have HO1151 := Aside0.mk (Kd.R_mono (ok' := fun k_ => (w.heap.size ≤ k_) ∧ nO k_ v1153 ∧ nO k_ (.slice Ao21 y1137.length co21)) ho0 (fun k_ hk_ => ⟨Or.elim hk_.1 (fun hs_ => Or.elim hs_ (fun hs_ => (HO1144.out.1 k_ (hs_).symm).1.1) (fun hs_ => (HO1147.out.1 k_ (hs_).symm).1.1)) (fun hn_ => (Nat.le_trans (bsz HB) hn_)), hk_.2, Or.elim hk_.1 (fun hs_ => Or.elim hs_ (fun hs_ => fun e_ => (((HO1139.out).1 k_ e_.symm).1.2) hs_) (fun hs_ => fun e_ => (((HO1139.out).1 k_ e_.symm).2) hs_)) (fun hn_ => (Kd.fresh' (Kd.R_lt (crR HO1139)) k_ hn_))⟩)); have HO1154 := Aside0.mk (Kd.R_mono (ok' := fun k_ => (w.heap.size ≤ k_) ∧ nO k_ v1150 ∧ nO k_ (.slice Ao21 y1137.length co21)) ho1 (fun k_ hk_ => ⟨Or.elim hk_.1 (fun hs_ => Or.elim hs_ (fun hs_ => (HO1144.out.1 k_ (hs_).symm).1.1) (fun hs_ => (HO1147.out.1 k_ (hs_).symm).1.1)) (fun hn_ => (Nat.le_trans (bsz HB) hn_)), hk_.2, Or.elim hk_.1 (fun hs_ => Or.elim hs_ (fun hs_ => fun e_ => (((HO1139.out).1 k_ e_.symm).1.2) hs_) (fun hs_ => fun e_ => (((HO1139.out).1 k_ e_.symm).2) hs_)) (fun hn_ => (Kd.fresh' (Kd.R_lt (crR HO1139)) k_ hn_))⟩)); replace HO1139 := Aside0.mk (Kd.R_mono (ok' := fun k_ => (w.heap.size ≤ k_) ∧ nO k_ v1150 ∧ nO k_ v1153) (Kd.R_keptB (HO1139.out) hkp (fun k_ hk_ hs_ => Or.elim hs_ (fun e_ => (hk_.1.2) e_) (fun e_ => (hk_.2) e_))) (fun k_ hk_ => ⟨hk_.1.1.1.1, fun e_ => Or.elim (ho0.1 k_ e_.symm).1 (fun hs_ => hk_.2.1 hs_) (fun hn_ => Nat.not_le.2 hk_.2.2 hn_), fun e_ => Or.elim (ho1.1 k_ e_.symm).1 (fun hs_ => hk_.2.1 hs_) (fun hn_ => Nat.not_le.2 hk_.2.2 hn_)⟩)); replace HB := Aside0.mk (hb); clear HO1144 HO1147; (try clear hb); (try clear hkp); (try clear ho0); (try clear ho1); have hcz31_0 := bce BK1130 0 (.bool false); have hcz31_1 := bce BK1130 1 (.slice none 0 0); have hcz31_2 := bce BK1130 2 (.slice none 0 0); have hfz31_0 := blk_frozen BK1130.out 0; have hfz31_1 := blk_frozen BK1130.out 1; have hfz31_2 := blk_frozen BK1130.out 2; obtain ⟨Ao32, co32, eo32⟩ := Kd.R_slice HO1151.out; subst eo32; obtain ⟨Ao33, co33, eo33⟩ := Kd.R_slice HO1154.out; subst eo33))
  refine bodyPost_ret (results_ct rfl _ _ gb1130 24 #[.bool t1148, .slice Ao32 t1149.length co32, .slice Ao33 t1152.length co33] (0, 0) _ rfl (by (with_reducible repeat (first | refine blk_drewN ?_ _ | refine blk_drew ?_ | refine blk_alloc ?_ _)); refine blk_put (cs := #[.bool t1148, .slice Ao32 t1149.length co32, .slice none 0 0]) ?_ 2 _ rfl; (with_reducible repeat (first | refine blk_drewN ?_ _ | refine blk_drew ?_ | refine blk_alloc ?_ _)); refine blk_put (cs := #[.bool t1148, .slice none 0 0, .slice none 0 0]) ?_ 1 _ rfl; (with_reducible repeat (first | refine blk_drewN ?_ _ | refine blk_drew ?_ | refine blk_alloc ?_ _)); refine blk_put (cs := #[.bool false, .slice none 0 0, .slice none 0 0]) ?_ 0 _ rfl; (with_reducible repeat (first | refine blk_drewN ?_ _ | refine blk_drew ?_ | refine blk_alloc ?_ _)); exact BK1130.out) Try.underlying24 rfl (by kernel_rfl)) rfl ?_
  exact ⟨_, _, by first | rfl | (simp [errW_none, errW_some] <;> rfl) | (simp [*, errW_none, errW_some] <;> rfl), by (with_reducible repeat (first | apply Kd.R_alloc | apply Kd.R_drewN | apply Kd.R_drew)); exact Kd.R_mono (Kd.R_far (p := ⟨gb1130, 2, none⟩) (Kd.R_far (p := ⟨gb1130, 1, none⟩) (Kd.R_far (p := ⟨gb1130, 0, none⟩) (Kd.R_types HO1151.out BK1130.out (by decide)) (fun _ hk => hk.2) (.bool t1148)) (fun _ hk => hk.2) (.slice Ao32 t1149.length co32)) (fun _ hk => hk.2) (.slice Ao33 t1152.length co33)) (fun _ hk => ⟨hk.1.1, hk.1.2.1⟩), by (with_reducible repeat (first | apply Kd.R_alloc | apply Kd.R_drewN | apply Kd.R_drew)); exact Kd.R_mono (Kd.R_far (p := ⟨gb1130, 2, none⟩) (Kd.R_far (p := ⟨gb1130, 1, none⟩) (Kd.R_far (p := ⟨gb1130, 0, none⟩) (Kd.R_types HO1154.out BK1130.out (by decide)) (fun _ hk => hk.2) (.bool t1148)) (fun _ hk => hk.2) (.slice Ao32 t1149.length co32)) (fun _ hk => hk.2) (.slice Ao33 t1152.length co33)) (fun _ hk => ⟨hk.1.1, hk.1.2.1⟩), blw HB⟩
 ·
  rw [if_neg c7] at H
  have c7b0 : (t1140 == 0) = false := beq_eq_false_iff_ne.mpr c7
  have c7b1 : (t1140 != 0) = true := bne_iff_ne.mpr c7
  simp only [Option.some.injEq, Prod.mk.injEq] at H
  obtain ⟨rfl, rfl, rfl, rfl⟩ := H
  go_enter Try.func33, Try.ntmps33
  try go_wp2_with (first | ((with_reducible refine gate_dst (N := 2) rfl ?_); refine box_event ?hg (N := 2) ?hd (cs := #[.bool a0_0, .slice A0_1 l0_1.length c0_1, .slice A0_2 l0_2.length c0_2]) (t := 24) ?hr ?_; (case hd => rfl); (case hg => rfl); (case hr => first | (go_simp; done) | (go_simp; rfl)); intro gb1128 hg w34 hbox hb; replace HO0_1 := elbV HO0_1 hg hb; replace HO0_2 := elbV HO0_2 hg hb; replace HO1_1 := elbV HO1_1 hg hb; replace HO1_2 := elbV HO1_2 hg hb; have BK1128 := Aside0.mk (hbox); have GW1128 := geh hg HB; have GE1128 := geh hg HB; replace HB := bst HB hb; clear hb hbox hg) | ((with_reducible refine gate_dst (N := 3) rfl ?_); refine box_event ?hg (N := 3) ?hd (cs := #[.bool a1_0, .slice A1_1 l1_1.length c1_1, .slice A1_2 l1_2.length c1_2]) (t := 24) ?hr ?_; (case hd => rfl); (case hg => rfl); (case hr => first | (go_simp; done) | (go_simp; rfl)); intro gb1129 hg w35 hbox hb; replace HO0_1 := elbV HO0_1 hg hb; replace HO0_2 := elbV HO0_2 hg hb; replace HO1_1 := elbV HO1_1 hg hb; replace HO1_2 := elbV HO1_2 hg hb; have BK1129 := Aside0.mk (hbox); have GW1129 := geh hg HB; have GE1129 := geh hg HB; replace HB := bst HB hb; have NB1128_1129 := nlt hg BK1128; have NB1129_1128 := ngt hg BK1128; replace BK1128 := bkb BK1128 hb; clear hb hbox hg) | ((with_reducible refine gate_dst (N := 4) rfl ?_); refine box_event ?hg (N := 4) ?hd (cs := #[.bool false, .slice none 0 0, .slice none 0 0]) (t := 24) ?hr ?_; (case hd => rfl); (case hg => rfl); (case hr => first | (go_simp; done) | (go_simp; rfl)); intro gb1130 hg w36 hbox hb; replace HO0_1 := elbV HO0_1 hg hb; replace HO0_2 := elbV HO0_2 hg hb; replace HO1_1 := elbV HO1_1 hg hb; replace HO1_2 := elbV HO1_2 hg hb; have BK1130 := Aside0.mk (hbox); have GW1130 := geh hg HB; have GE1130 := geh hg HB; replace HB := bst HB hb; have NB1128_1130 := nlt hg BK1128; have NB1130_1128 := ngt hg BK1128; replace BK1128 := bkb BK1128 hb; have NB1129_1130 := nlt hg BK1129; have NB1130_1129 := ngt hg BK1129; replace BK1129 := bkb BK1129 hb; clear hb hbox hg))
  replace HO0_1 := Aside0.mk (Kd.V_drew HO0_1.out)
  replace HO0_2 := Aside0.mk (Kd.V_drew HO0_2.out)
  replace HO1_1 := Aside0.mk (Kd.V_drew HO1_1.out)
  replace HO1_2 := Aside0.mk (Kd.V_drew HO1_2.out)
  replace BK1128 := Aside0.mk (blk_drew BK1128.out)
  replace BK1129 := Aside0.mk (blk_drew BK1129.out)
  replace BK1130 := Aside0.mk (blk_drew BK1130.out)
  replace HB := Aside0.mk (below_drew1 HB.out)
  refine start_ (n := 11) (S := fun w' => w'.cell? ⟨gb1128, 0, none⟩ = some (.bool a0_0) ∧ w'.cell? ⟨gb1128, 1, none⟩ = some (.slice A0_1 l0_1.length c0_1) ∧ w'.cell? ⟨gb1128, 2, none⟩ = some (.slice A0_2 l0_2.length c0_2) ∧ w'.cell? ⟨gb1129, 0, none⟩ = some (.bool a1_0) ∧ w'.cell? ⟨gb1129, 1, none⟩ = some (.slice A1_1 l1_1.length c1_1) ∧ w'.cell? ⟨gb1129, 2, none⟩ = some (.slice A1_2 l1_2.length c1_2)) (ds := []) #[false, false, false, false, false, false, false, false, false, false, false] (by kernel_rfl) rfl rfl ⟨bce BK1128 0 _, bce BK1128 1 _, bce BK1128 2 _, bce BK1129 0 _, bce BK1129 1 _, bce BK1129 2 _⟩ (fun hHeld => ?_); refine with_tabW impl_DivRat.tab1 impl_DivRat.bits1 (fun HT_ HW_ => ?_)
  generalize w36.drew = w37 at HO0_1 HO0_2 HO1_1 HO1_2 BK1128 BK1129 BK1130 HB hHeld ⊢
  refine take_ (i := 0) (N := some 7) (v := ?_) (a' := ?_) #[true, false, false, false, false, false, false, false, false, false, false] rfl rfl (take_ofW HT_.out HW_.out (by kernel_rfl)) (fun _ _ _ h => h) (Or.inl ⟨by rfl, ?_⟩) hHeld ?_ ?_
  rotate_left
  ·
   rintro w' ⟨s0, s1, s2, s3, s4, s5⟩
   go_simp
   with_reducible rfl
  rotate_left
  ·
   simp only [Act.put, List.setIfInBounds_toArray, List.set_cons_zero, List.set_cons_succ, i64_w, i32_w]
   rfl
  refine take_ (i := 1) (N := some 8) (v := ?_) (a' := ?_) #[true, true, false, false, false, false, false, false, false, false, false] rfl rfl (take_ofW HT_.out HW_.out (by kernel_rfl)) (fun _ _ _ h => h) (Or.inl ⟨by rfl, ?_⟩) hHeld ?_ ?_
  rotate_left
  ·
   rintro w' ⟨s0, s1, s2, s3, s4, s5⟩
   go_simp
   with_reducible rfl
  rotate_left
  ·
   simp only [Act.put, List.setIfInBounds_toArray, List.set_cons_zero, List.set_cons_succ, i64_w, i32_w]
   rfl
  refine take_ (i := 4) (N := some 11) (v := ?_) (a' := ?_) #[true, true, false, false, true, false, false, false, false, false, false] rfl rfl (take_ofW HT_.out HW_.out (by kernel_rfl)) (fun _ _ _ h => h) (Or.inl ⟨by rfl, ?_⟩) hHeld ?_ ?_
  rotate_left
  ·
   rintro w' ⟨s0, s1, s2, s3, s4, s5⟩
   go_simp
   with_reducible rfl
  rotate_left
  ·
   simp only [Act.put, List.setIfInBounds_toArray, List.set_cons_zero, List.set_cons_succ, i64_w, i32_w]
   rfl
  refine one_ (i := 2) (N := some 9) #[true, true, true, false, true, false, false, false, false, false, false] rfl rfl (one_of HT_.out (by kernel_rfl)) (by decide) (fun K hK => ?_)
  refine Kd.N_lit_step k24 _ 24 ?hg (N' := 9) ?hd (xs := ([(⟨a0_0, l0_1, l0_2⟩ : S24), (⟨a1_0, l1_1, l1_2⟩ : S24)] : List (S24))) (inner := [.bool a0_0, .slice A0_1 l0_1.length c0_1, .slice A0_2 l0_2.length c0_2, .bool a1_0, .slice A1_1 l1_1.length c1_1, .slice A1_2 l1_2.length c1_2]) (ok := (fun k_ => ((P0_1_ k_ ∨ P0_2_ k_ ∨ P1_1_ k_ ∨ P1_2_ k_) ∨ w.heap.size ≤ k_) ∧ k_ ≠ gb1128 ∧ k_ ≠ gb1129 ∧ k_ ≠ gb1130)) (okp := (fun k_ => ((P0_1_ k_ ∨ P0_2_ k_ ∨ P1_1_ k_ ∨ P1_2_ k_) ∨ w.heap.size ≤ k_) ∧ k_ ≠ gb1128 ∧ k_ ≠ gb1129 ∧ k_ ≠ gb1130)) ?hr ?hp (fun _ hk => hk) ((show ∀ k_, w37.heap.size ≤ k_ → (fun k_ => ((P0_1_ k_ ∨ P0_2_ k_ ∨ P1_1_ k_ ∨ P1_2_ k_) ∨ w.heap.size ≤ k_) ∧ k_ ≠ gb1128 ∧ k_ ≠ gb1129 ∧ k_ ≠ gb1130) k_ from fun k_ hk => ⟨(.inr (Nat.le_trans (bsz HB) hk)), Kd.freshB (g := gb1128) (o := .cells #[.bool a0_0, .slice A0_1 l0_1.length c0_1, .slice A0_2 l0_2.length c0_2] 24 (0, 0)) (crb BK1128) k_ hk, Kd.freshB (g := gb1129) (o := .cells #[.bool a1_0, .slice A1_1 l1_1.length c1_1, .slice A1_2 l1_2.length c1_2] 24 (0, 0)) (crb BK1129) k_ hk, Kd.freshB (g := gb1130) (o := .cells #[.bool false, .slice none 0 0, .slice none 0 0] 24 (0, 0)) (crb BK1130) k_ hk⟩) _ (Nat.le_refl _)) (Below.refl _ _) (Nat.le_refl _) (by simp) ?_; (case hd => rfl); (case hg => rfl); (case hr => first | (go_simp; done) | (go_simp; rfl)); (case hp => exact (Reps.c3 (show Kd.FK k24 _ _ (⟨a0_0, l0_1, l0_2⟩ : S24) [.bool a0_0, .slice A0_1 l0_1.length c0_1, .slice A0_2 l0_2.length c0_2] from (k24_mkF _ _ (⟨a0_0, l0_1, l0_2⟩ : S24) (Kd.V_reads' (Kd.V_mono (ok' := (fun k_ => ((P0_1_ k_ ∨ P0_2_ k_ ∨ P1_1_ k_ ∨ P1_2_ k_) ∨ w.heap.size ≤ k_) ∧ k_ ≠ gb1128 ∧ k_ ≠ gb1129 ∧ k_ ≠ gb1130)) (HO0_1.out) (fun k_ hk => ⟨hk.1.1.1, ⟨hk.1.1.2, ⟨hk.1.2, hk.2⟩⟩⟩))).2.1 (Kd.V_F (Kd.V_mono (ok' := (fun k_ => ((P0_1_ k_ ∨ P0_2_ k_ ∨ P1_1_ k_ ∨ P1_2_ k_) ∨ w.heap.size ≤ k_) ∧ k_ ≠ gb1128 ∧ k_ ≠ gb1129 ∧ k_ ≠ gb1130)) (HO0_1.out) (fun k_ hk => ⟨hk.1.1.1, ⟨hk.1.1.2, ⟨hk.1.2, hk.2⟩⟩⟩))) (Kd.V_reads' (Kd.V_mono (ok' := (fun k_ => ((P0_1_ k_ ∨ P0_2_ k_ ∨ P1_1_ k_ ∨ P1_2_ k_) ∨ w.heap.size ≤ k_) ∧ k_ ≠ gb1128 ∧ k_ ≠ gb1129 ∧ k_ ≠ gb1130)) (HO0_2.out) (fun k_ hk => ⟨hk.1.1.1, ⟨hk.1.1.2, ⟨hk.1.2, hk.2⟩⟩⟩))).2.1 (Kd.V_F (Kd.V_mono (ok' := (fun k_ => ((P0_1_ k_ ∨ P0_2_ k_ ∨ P1_1_ k_ ∨ P1_2_ k_) ∨ w.heap.size ≤ k_) ∧ k_ ≠ gb1128 ∧ k_ ≠ gb1129 ∧ k_ ≠ gb1130)) (HO0_2.out) (fun k_ hk => ⟨hk.1.1.1, ⟨hk.1.1.2, ⟨hk.1.2, hk.2⟩⟩⟩))))) (Reps.c3 (show Kd.FK k24 _ _ (⟨a1_0, l1_1, l1_2⟩ : S24) [.bool a1_0, .slice A1_1 l1_1.length c1_1, .slice A1_2 l1_2.length c1_2] from (k24_mkF _ _ (⟨a1_0, l1_1, l1_2⟩ : S24) (Kd.V_reads' (Kd.V_mono (ok' := (fun k_ => ((P0_1_ k_ ∨ P0_2_ k_ ∨ P1_1_ k_ ∨ P1_2_ k_) ∨ w.heap.size ≤ k_) ∧ k_ ≠ gb1128 ∧ k_ ≠ gb1129 ∧ k_ ≠ gb1130)) (HO1_1.out) (fun k_ hk => ⟨hk.1.1.1, ⟨hk.1.1.2, ⟨hk.1.2, hk.2⟩⟩⟩))).2.1 (Kd.V_F (Kd.V_mono (ok' := (fun k_ => ((P0_1_ k_ ∨ P0_2_ k_ ∨ P1_1_ k_ ∨ P1_2_ k_) ∨ w.heap.size ≤ k_) ∧ k_ ≠ gb1128 ∧ k_ ≠ gb1129 ∧ k_ ≠ gb1130)) (HO1_1.out) (fun k_ hk => ⟨hk.1.1.1, ⟨hk.1.1.2, ⟨hk.1.2, hk.2⟩⟩⟩))) (Kd.V_reads' (Kd.V_mono (ok' := (fun k_ => ((P0_1_ k_ ∨ P0_2_ k_ ∨ P1_1_ k_ ∨ P1_2_ k_) ∨ w.heap.size ≤ k_) ∧ k_ ≠ gb1128 ∧ k_ ≠ gb1129 ∧ k_ ≠ gb1130)) (HO1_2.out) (fun k_ hk => ⟨hk.1.1.1, ⟨hk.1.1.2, ⟨hk.1.2, hk.2⟩⟩⟩))).2.1 (Kd.V_F (Kd.V_mono (ok' := (fun k_ => ((P0_1_ k_ ∨ P0_2_ k_ ∨ P1_1_ k_ ∨ P1_2_ k_) ∨ w.heap.size ≤ k_) ∧ k_ ≠ gb1128 ∧ k_ ≠ gb1129 ∧ k_ ≠ gb1130)) (HO1_2.out) (fun k_ hk => ⟨hk.1.1.1, ⟨hk.1.1.2, ⟨hk.1.2, hk.2⟩⟩⟩))))) (Reps.none _ _))))
  intro v1132 w38 ho39 hb hg_ hnew_
  clear hg_ hnew_
  (first | rw [← Ny1131.out] at ho39 | (simp only [Int.reduceToNat] at ho39; rw [← Ny1131.out] at ho39))
  replace HO0_1 := eldV HO0_1 (Kd.N_base ho39) hb
  replace HO0_2 := eldV HO0_2 (Kd.N_base ho39) hb
  replace HO1_1 := eldV HO1_1 (Kd.N_base ho39) hb
  replace HO1_2 := eldV HO1_2 (Kd.N_base ho39) hb
  have HO1133 := Aside0.mk (Kd.N_lower ho39 (bsz HB))
  replace BK1128 := bkb BK1128 hb
  replace BK1129 := bkb BK1129 hb
  replace BK1130 := bkb BK1130 hb
  replace HB := bst HB hb
  clear hb ho39
  obtain ⟨Ao40, co40, eo40⟩ := Kd.N_slice HO1133.out
  (first | subst eo40 | (injection eo40 with f1_ f2_ f3_; have f4_ := f1_.symm; have f5_ := f3_.symm; clear f1_ f2_ f3_; subst f4_; subst f5_))
  refine hK.out _ _ ⟨bce BK1128 0 _, bce BK1128 1 _, bce BK1128 2 _, bce BK1129 0 _, bce BK1129 1 _, bce BK1129 2 _⟩ (fun hHeld => ?_)
  clear hK K
  refine norm_ (a' := ?_) ?_ ?_
  rotate_left
  ·
   show Act.put _ (some 9) _ = _
   simp only [Act.put, List.setIfInBounds_toArray, List.set_cons_zero, List.set_cons_succ, i64_w, i32_w]
   rfl
  refine one_ (i := 3) (N := some 10) #[true, true, true, true, true, false, false, false, false, false, false] rfl rfl (one_of HT_.out (by kernel_rfl)) (by decide) (fun K hK => ?_)
  refine goes_ Try.func65 (by kernel_rfl) rfl #[.slice Ao40 y1131.length co40] (by rfl) rfl rfl (by (try simp only [List.map_toArray, List.map_cons, List.map_nil]); first | done | rfl | (simp only [List.length_drop, List.length_take]; rfl)) ?_
  with_reducible refine (impl_ratsCode.calls k _ _ y1131 t1134 _ ?side1 ?side2 A3.out).mono ?_
  (case side1 => exact crC (Kd.N_reads' HO1133.out).2.2)
  (case side2 => exact (Kd.N_reads' HO1133.out).2.1)
  rintro e w41 ⟨rfl, hb⟩
  refine ⟨_, rfl, ?_⟩
  replace HO0_1 := rblV HO0_1 hb
  replace HO0_2 := rblV HO0_2 hb
  replace HO1_1 := rblV HO1_1 hb
  replace HO1_2 := rblV HO1_2 hb
  replace HO1133 := Aside0.mk (Kd.N_below (by (with_reducible repeat (first | apply Kd.N_alloc | apply Kd.N_drewN | apply Kd.N_drew)); exact HO1133.out) hb)
  replace BK1128 := bkb BK1128 hb
  replace BK1129 := bkb BK1129 hb
  replace BK1130 := bkb BK1130 hb
  replace HB := bst HB hb
  (try clear hb)
  (try clear hb2)
  (try clear hk)
  (try clear hi)
  refine hK.out _ _ ⟨bce BK1128 0 _, bce BK1128 1 _, bce BK1128 2 _, bce BK1129 0 _, bce BK1129 1 _, bce BK1129 2 _⟩ (fun hHeld => ?_)
  clear hK K
  refine norm_ (a' := ?_) ?_ ?_
  rotate_left
  ·
   show Act.put _ (some 10) _ = _
   simp only [Act.put, List.setIfInBounds_toArray, List.set_cons_zero, List.set_cons_succ, i64_w, i32_w]
   rfl
  refine one_ (i := 5) (N := some 12) #[true, true, true, true, true, true, false, false, false, false, false] rfl rfl (one_of HT_.out (by kernel_rfl)) (by decide) (fun K hK => ?_)
  refine goes_ Try.func59 (by kernel_rfl) rfl #[.agg #[.bool a1_0, .slice A1_1 l1_1.length c1_1, .slice A1_2 l1_2.length c1_2]] (by rfl) rfl rfl (by (try simp only [List.map_toArray, List.map_cons, List.map_nil]); first | done | rfl | (simp only [List.length_drop, List.length_take]; rfl)) ?_
  with_reducible refine (impl_Rat_isZero.calls a1_0 _ _ l1_1 _ _ l1_2 t1135 _ ?side1 ?side2 ?side3 ?side4 A4.out).mono ?_
  (case side1 => exact crC (Kd.V_reads' HO1_1.out).2.2)
  (case side2 => exact (Kd.V_reads' HO1_1.out).2.1)
  (case side3 => exact crC (Kd.V_reads' HO1_2.out).2.2)
  (case side4 => exact (Kd.V_reads' HO1_2.out).2.1)
  rintro e w42 ⟨rfl, hb⟩
  refine ⟨_, rfl, ?_⟩
  replace HO0_1 := rblV HO0_1 hb
  replace HO0_2 := rblV HO0_2 hb
  replace HO1_1 := rblV HO1_1 hb
  replace HO1_2 := rblV HO1_2 hb
  replace HO1133 := Aside0.mk (Kd.N_below (by (with_reducible repeat (first | apply Kd.N_alloc | apply Kd.N_drewN | apply Kd.N_drew)); exact HO1133.out) hb)
  replace BK1128 := bkb BK1128 hb
  replace BK1129 := bkb BK1129 hb
  replace BK1130 := bkb BK1130 hb
  replace HB := bst HB hb
  (try clear hb)
  (try clear hb2)
  (try clear hk)
  (try clear hi)
  refine hK.out _ _ ⟨bce BK1128 0 _, bce BK1128 1 _, bce BK1128 2 _, bce BK1129 0 _, bce BK1129 1 _, bce BK1129 2 _⟩ (fun hHeld => ?_)
  clear hK K
  refine norm_ (a' := ?_) ?_ ?_
  rotate_left
  ·
   show Act.put _ (some 12) _ = _
   simp only [Act.put, List.setIfInBounds_toArray, List.set_cons_zero, List.set_cons_succ, i64_w, i32_w]
   rfl
  refine pure_ (i := 6) (N := some 13) (v := ?_) (a' := ?_) #[true, true, true, true, true, true, true, false, false, false, false] rfl rfl (any_of HT_.out (by kernel_rfl)) (fun _ _ _ h => h) (Or.inl ⟨by rfl, ?_⟩) ?_ ?_
  rotate_left
  ·
   intro w'
   go_simp
   with_reducible rfl
  rotate_left
  ·
   simp only [Act.put, List.setIfInBounds_toArray, List.set_cons_zero, List.set_cons_succ, i64_w, i32_w]
   rfl
  refine one_ (i := 7) (N := some 14) #[true, true, true, true, true, true, true, true, false, false, false] rfl rfl (one_of HT_.out (by kernel_rfl)) (by decide) (fun K hK => ?_)
  refine goes_ Try.func81 (by kernel_rfl) rfl #[.bool (!t1135), .int .i64 9] (by rfl) rfl rfl (by (try simp only [List.map_toArray, List.map_cons, List.map_nil]); first | done | rfl | (simp only [List.length_drop, List.length_take]; rfl)) ?_
  with_reducible refine (impl_unless.calls (!t1135) 9 t1136 _ A5.out).mono ?_
  rintro e w' ⟨rfl, ⟨nd, rfl⟩⟩
  refine ⟨_, rfl, ?_⟩
  refine hK.out _ _ ⟨bce BK1128 0 _, bce BK1128 1 _, bce BK1128 2 _, bce BK1129 0 _, bce BK1129 1 _, bce BK1129 2 _⟩ (fun hHeld => ?_)
  clear hK K
  refine norm_ (a' := ?_) ?_ ?_
  rotate_left
  ·
   show Act.put _ (some 14) _ = _
   simp only [Act.put, List.setIfInBounds_toArray, List.set_cons_zero, List.set_cons_succ, i64_w, i32_w]
   rfl
  refine one_ (i := 8) (N := some 15) #[true, true, true, true, true, true, true, true, true, false, false] rfl rfl (one_of HT_.out (by kernel_rfl)) (by decide) (fun K hK => ?_)
  refine Kd.R_lit_step (Kd.int .i64) _ 3 ?hg (N := 15) ?hd (xs := ([t1134, t1136] : List Int)) (inner := [.int .i64 t1134, .int .i64 t1136]) (ok := fun _ => True) (okp := fun _ => True) ?hr ?hp (fun _ hk => hk) trivial (Below.refl _ _) (Nat.le_refl _) (by simp) ?_; (case hd => rfl); (case hg => rfl); (case hr => first | (go_simp; done) | (go_simp; rfl)); (case hp => exact (Reps.one (show Kd.M (Kd.int .i64) _ _ _ t1134 [.int .i64 t1134] from rfl) (Reps.one (show Kd.M (Kd.int .i64) _ _ _ t1136 [.int .i64 t1136] from rfl) (Reps.none _ _))))
  intro v1138 w43 ho44 hb hg_ hnew_
  clear hg_ hnew_
  (first | rw [← Ny1137.out] at ho44 | (simp only [Int.reduceToNat] at ho44; rw [← Ny1137.out] at ho44))
  replace HO0_1 := eldV HO0_1 (Kd.R_base ho44) hb
  replace HO0_2 := eldV HO0_2 (Kd.R_base ho44) hb
  replace HO1_1 := eldV HO1_1 (Kd.R_base ho44) hb
  replace HO1_2 := eldV HO1_2 (Kd.R_base ho44) hb
  replace HO1133 := Aside0.mk (Kd.N_elder' (by (with_reducible repeat (first | apply Kd.N_alloc | apply Kd.N_drewN | apply Kd.N_drew)); exact HO1133.out) (Kd.R_base ho44) hb)
  have HO1139 := lwR (Kd.R_newM (M := fun k_ => (w.heap.size ≤ k_)) ho44 (bsz HB) (fun k_ h_ => h_)) HB
  replace BK1128 := bkb BK1128 hb
  replace BK1129 := bkb BK1129 hb
  replace BK1130 := bkb BK1130 hb
  replace HB := bst HB hb
  clear hb ho44
  obtain ⟨Ao45, co45, eo45⟩ := Kd.R_slice HO1139.out
  (first | subst eo45 | (injection eo45 with f1_ f2_ f3_; have f4_ := f1_.symm; have f5_ := f3_.symm; clear f1_ f2_ f3_; subst f4_; subst f5_))
  refine hK.out _ _ ⟨bce BK1128 0 _, bce BK1128 1 _, bce BK1128 2 _, bce BK1129 0 _, bce BK1129 1 _, bce BK1129 2 _⟩ (fun hHeld => ?_)
  clear hK K
  refine norm_ (a' := ?_) ?_ ?_
  rotate_left
  ·
   show Act.put _ (some 15) _ = _
   simp only [Act.put, List.setIfInBounds_toArray, List.set_cons_zero, List.set_cons_succ, i64_w, i32_w]
   rfl
  refine one_ (i := 9) (N := some 16) #[true, true, true, true, true, true, true, true, true, true, false] rfl rfl (one_of HT_.out (by kernel_rfl)) (by decide) (fun K hK => ?_)
  refine goes_ Try.func80 (by kernel_rfl) rfl #[.slice Ao45 y1137.length co45] (by rfl) rfl rfl (by (try simp only [List.map_toArray, List.map_cons, List.map_nil]); first | done | rfl | (simp only [List.length_drop, List.length_take]; rfl)) ?_
  with_reducible refine (impl_first.calls k _ _ y1137 t1140 _ ?side1 ?side2 A6.out).mono ?_
  (case side1 => exact crC (Kd.R_reads' HO1139.out).2.2)
  (case side2 => exact (Kd.R_reads' HO1139.out).2.1)
  rintro e w' ⟨rfl, ⟨nd, rfl⟩⟩
  refine ⟨_, rfl, ?_⟩
  refine hK.out _ _ ⟨bce BK1128 0 _, bce BK1128 1 _, bce BK1128 2 _, bce BK1129 0 _, bce BK1129 1 _, bce BK1129 2 _⟩ (fun hHeld => ?_)
  clear hK K
  refine norm_ (a' := ?_) ?_ ?_
  rotate_left
  ·
   show Act.put _ (some 16) _ = _
   simp only [Act.put, List.setIfInBounds_toArray, List.set_cons_zero, List.set_cons_succ, i64_w, i32_w]
   rfl
  refine pure_ (i := 10) (N := some 6) (v := ?_) (a' := ?_) #[true, true, true, true, true, true, true, true, true, true, true] rfl rfl (any_of HT_.out (by kernel_rfl)) (fun _ _ _ h => h) (Or.inl ⟨by rfl, ?_⟩) ?_ ?_
  rotate_left
  ·
   intro w'
   go_simp
   with_reducible rfl
  rotate_left
  ·
   simp only [Act.put, List.setIfInBounds_toArray, List.set_cons_zero, List.set_cons_succ, i64_w, i32_w]
   rfl
  refine done_ (done_of HT_.out (by kernel_rfl)) ?_
  have hnb46 := NB1130_1128.out
  have hnc46 := NB1128_1130.out
  have hnb47 := NB1130_1129.out
  have hnc47 := NB1129_1130.out
  have hcz48_0 := bce BK1130 0 (.bool false)
  have hcz48_1 := bce BK1130 1 (.slice none 0 0)
  have hcz48_2 := bce BK1130 2 (.slice none 0 0)
  have hfz48_0 := blk_frozen BK1130.out 0
  have hfz48_1 := blk_frozen BK1130.out 1
  have hfz48_2 := blk_frozen BK1130.out 2
  try go_wp2
  refine bodyPost_ret (results_ct rfl _ _ gb1130 24 #[.bool false, .slice none 0 0, .slice none 0 0] (0, 0) _ rfl (by (with_reducible repeat (first | refine blk_drewN ?_ _ | refine blk_drew ?_ | refine blk_alloc ?_ _)); refine blk_put (cs := #[.bool false, .slice none 0 0, .slice none 0 0]) ?_ 2 _ rfl; (with_reducible repeat (first | refine blk_drewN ?_ _ | refine blk_drew ?_ | refine blk_alloc ?_ _)); refine blk_put (cs := #[.bool false, .slice none 0 0, .slice none 0 0]) ?_ 1 _ rfl; (with_reducible repeat (first | refine blk_drewN ?_ _ | refine blk_drew ?_ | refine blk_alloc ?_ _)); refine blk_put (cs := #[.bool false, .slice none 0 0, .slice none 0 0]) ?_ 0 _ rfl; (with_reducible repeat (first | refine blk_drewN ?_ _ | refine blk_drew ?_ | refine blk_alloc ?_ _)); exact BK1130.out) Try.underlying24 rfl (by kernel_rfl)) rfl ?_
  exact ⟨_, _, by first | rfl | (simp [errW_none, errW_some] <;> rfl) | (simp [*, errW_none, errW_some] <;> rfl), by first | exact Kd.R_nil _ _ _ _ _ | exact Kd.N_nil _ _ _ _ _ | exact Kd.V_nil _ _ _ _ _ | exact Kd.Q_nil _ _ _ _ _ | exact Kd.S_nil _ _ _ _ _, by first | exact Kd.R_nil _ _ _ _ _ | exact Kd.N_nil _ _ _ _ _ | exact Kd.V_nil _ _ _ _ _ | exact Kd.Q_nil _ _ _ _ _ | exact Kd.S_nil _ _ _ _ _, blw HB⟩

end Go.Proofs.Ytacdaijalkkogaa.Q
