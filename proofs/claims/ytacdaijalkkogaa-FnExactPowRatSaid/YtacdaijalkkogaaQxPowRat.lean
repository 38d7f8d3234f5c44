-- written by a program of this claim's session (myprint.py) out of the translation; Lean checks it.
import Derived.Test.YtacdaijalkkogaaQx0
import Derived.Test.YtacdaijalkkogaaSq
import Derived.Test.YtacdaijalkkogaaQxbase
import Derived.Test.YtacdaijalkkogaaQxrk
import Derived.Test.YtacdaijalkkogaaQxrsp
import Derived.Test.YtacdaijalkkogaaQxrsq
import Derived.Test.YtacdaijalkkogaaQxrim
import Derived.Test.YtacdaijalkkogaaQxrin
namespace Go.Proofs.Ytacdaijalkkogaa.Q
open Go.RowKit Go.Proofs.YtacdaijalkkogaaW.PrintWords Go.Proofs.YtacdaijalkkogaaW.PrintLast Go.Proofs.YtacdaijalkkogaaW.PrintMore
attribute [local go_sem] max2_int min2_int max_two min_two max_three min_three max_four min_four   -- for this text's walks alone
set_option linter.unusedVariables false
set_option linter.unusedSimpArgs false

def spec_PowRat.f (k : Nat) (a0_0 : Bool) (l0_1 : List Int) (l0_2 : List Int) (a1 : Int) : Option (Bool × List Int × List Int × Int) := (spec_RatOK.f k a0_0 l0_1 l0_2).bind fun t564 => (if t564 = true then ((spec_l01In.f a1 0 8).bind fun t565 => (if t565 = true then ((spec_l02Pow.f k a0_0 l0_1 l0_2 a1).bind fun bt566 => ((spec_l02Fit.f bt566.1 bt566.2.1 bt566.2.2).bind fun bt573 => (some (bt573.1, bt573.2.1, bt573.2.2.1, bt573.2.2.2)))) else (some (false, ([] : List Int), ([] : List Int), 4)))) else (some (false, ([] : List Int), ([] : List Int), 1)))
theorem spec_PowRat.mono : ∀ a0 a1 a2 a3 k, LeO (spec_PowRat.f k a0 a1 a2 a3) (spec_PowRat.f (k + 1) a0 a1 a2 a3) := by
 intro a0 a1 a2 a3 k
 unfold spec_PowRat.f
 repeat' first
   | (with_reducible exact spec_RatOK.mono _ _ _ _)
   | (with_reducible exact spec_l02Pow.mono _ _ _ _ _)
   | (with_reducible exact LeO.refl _)
   | (with_reducible exact LeO.none _)
   | (with_reducible refine LeO.ite ?_ ?_)
   | (with_reducible refine LeO.bind ?_ (fun _ => ?_))
   | exact spec_RatOK.mono _ _ _ _
   | exact spec_l02Pow.mono _ _ _ _ _
   | exact LeO.none _
   | refine LeO.ite ?_ ?_
   | refine LeO.bind ?_ (fun _ => ?_)
set_option maxHeartbeats 8000000 in
set_option maxRecDepth 100000 in
theorem spec_PowRat.calls (k : Nat) (a0_0 : Bool) (A0_1 : Option Addr) (c0_1 : Nat) (l0_1 : List Int) (A0_2 : Option Addr) (c0_2 : Nat) (l0_2 : List Int) (a1 : Int) (r1 : Bool) (r2 : List Int) (r3 : List Int) (r4 : Int) (w : World) (hr0_1 : Kd.C (Kd.int .i64) w A0_1 l0_1.length l0_1) (hc0_1 : l0_1.length ≤ c0_1) (hr0_2 : Kd.C (Kd.int .i64) w A0_2 l0_2.length l0_2) (hc0_2 : l0_2.length ≤ c0_2) (h : spec_PowRat.f k a0_0 l0_1 l0_2 a1 = some (r1, r2, r3, r4)) :
  Calls Try.prog 34 #[.agg #[.bool a0_0, .slice A0_1 l0_1.length c0_1, .slice A0_2 l0_2.length c0_2], .int .i64 a1] w fun e w' => ∃ v1_ v2_ : Value, e = .returned (.tuple #[.agg #[.bool r1, v1_, v2_], .int .i64 r4]) ∧ Kd.R (Kd.int .i64) 3 w' w.heap.size (fun k_ => nO k_ v2_) v1_ r2 ∧ Kd.R (Kd.int .i64) 3 w' w.heap.size (fun k_ => nO k_ v1_) v2_ r3 ∧ Below w.heap.size w w' := by
 have hu24 := Try.underlying24
 have HR0_1 := Aside0.mk hr0_1
 have HC0_1 := Aside0.mk hc0_1
 clear hr0_1 hc0_1
 have HR0_2 := Aside0.mk hr0_2
 have HC0_2 := Aside0.mk hc0_2
 clear hr0_2 hc0_2
 have HB := Aside0.mk (Below.refl w.heap.size w)
 have H : ((spec_RatOK.f k a0_0 l0_1 l0_2).bind fun t564 => (if t564 = true then ((spec_l01In.f a1 0 8).bind fun t565 => (if t565 = true then ((spec_l02Pow.f k a0_0 l0_1 l0_2 a1).bind fun bt566 => ((spec_l02Fit.f bt566.1 bt566.2.1 bt566.2.2).bind fun bt573 => (some (bt573.1, bt573.2.1, bt573.2.2.1, bt573.2.2.2)))) else (some (false, ([] : List Int), ([] : List Int), 4)))) else (some (false, ([] : List Int), ([] : List Int), 1)))) = some (r1, r2, r3, r4) := h
 clear h
 replace H := Option.bind_eq_some_iff.mp H
 obtain ⟨t564, A30, H⟩ := H
 replace H : (if t564 = true then ((spec_l01In.f a1 0 8).bind fun t565 => (if t565 = true then ((spec_l02Pow.f k a0_0 l0_1 l0_2 a1).bind fun bt566 => ((spec_l02Fit.f bt566.1 bt566.2.1 bt566.2.2).bind fun bt573 => (some (bt573.1, bt573.2.1, bt573.2.2.1, bt573.2.2.2)))) else (some (false, ([] : List Int), ([] : List Int), 4)))) else (some (false, ([] : List Int), ([] : List Int), 1))) = some (r1, r2, r3, r4) := H
 have A3 := Aside0.mk A30
 clear A30
 by_cases c4 : t564 = true
 ·
  subst c4
  have H1 : ((spec_l01In.f a1 0 8).bind fun t565 => (if t565 = true then ((spec_l02Pow.f k a0_0 l0_1 l0_2 a1).bind fun bt566 => ((spec_l02Fit.f bt566.1 bt566.2.1 bt566.2.2).bind fun bt573 => (some (bt573.1, bt573.2.1, bt573.2.2.1, bt573.2.2.2)))) else (some (false, ([] : List Int), ([] : List Int), 4)))) = some (r1, r2, r3, r4) := by rw [if_pos rfl] at H; exact H
  clear H
  have H := H1
  clear H1
  replace H := Option.bind_eq_some_iff.mp H
  obtain ⟨t565, A50, H⟩ := H
  replace H : (if t565 = true then ((spec_l02Pow.f k a0_0 l0_1 l0_2 a1).bind fun bt566 => ((spec_l02Fit.f bt566.1 bt566.2.1 bt566.2.2).bind fun bt573 => (some (bt573.1, bt573.2.1, bt573.2.2.1, bt573.2.2.2)))) else (some (false, ([] : List Int), ([] : List Int), 4))) = some (r1, r2, r3, r4) := H
  have A5 := Aside0.mk A50
  clear A50
  by_cases c6 : t565 = true
  ·
   subst c6
   have H1 : ((spec_l02Pow.f k a0_0 l0_1 l0_2 a1).bind fun bt566 => ((spec_l02Fit.f bt566.1 bt566.2.1 bt566.2.2).bind fun bt573 => (some (bt573.1, bt573.2.1, bt573.2.2.1, bt573.2.2.2)))) = some (r1, r2, r3, r4) := by rw [if_pos rfl] at H; exact H
   clear H
   have H := H1
   clear H1
   replace H := Option.bind_eq_some_iff.mp H
   obtain ⟨⟨t566, t567, t570⟩, A70, H⟩ := H
   replace H : ((spec_l02Fit.f t566 t567 t570).bind fun bt573 => (some (bt573.1, bt573.2.1, bt573.2.2.1, bt573.2.2.2))) = some (r1, r2, r3, r4) := H
   have A7 := Aside0.mk A70
   clear A70
   replace H := Option.bind_eq_some_iff.mp H
   obtain ⟨⟨t573, t574, t577, t580⟩, A80, H⟩ := H
   replace H : (some (t573, t574, t577, t580)) = some (r1, r2, r3, r4) := H
   have A8 := Aside0.mk A80
   clear A80
   simp only [Option.some.injEq, Prod.mk.injEq] at H
   obtain ⟨rfl, rfl, rfl, rfl⟩ := H
   go_enter Try.func34, Try.ntmps34
   go_wp2_with (first | ((with_reducible refine gate_dst (N := 2) rfl ?_); refine box_event ?hg (N := 2) ?hd (cs := #[.bool a0_0, .slice A0_1 l0_1.length c0_1, .slice A0_2 l0_2.length c0_2]) (t := 24) ?hr ?_; (case hd => rfl); (case hg => rfl); (case hr => first | (go_simp; done) | (go_simp; rfl)); intro gb562 hg w9 hbox hb; have BK562 := Aside0.mk (hbox); have GW562 := geh hg HB; have GE562 := geh hg HB; replace HB := bst HB hb; clear hb hbox hg) | ((with_reducible refine gate_dst (N := 4) rfl ?_); refine box_event ?hg (N := 4) ?hd (cs := #[.bool false, .slice none 0 0, .slice none 0 0]) (t := 24) ?hr ?_; (case hd => rfl); (case hg => rfl); (case hr => first | (go_simp; done) | (go_simp; rfl)); intro gb563 hg w10 hbox hb; have BK563 := Aside0.mk (hbox); have GW563 := geh hg HB; have GE563 := geh hg HB; replace HB := bst HB hb; have NB562_563 := nlt hg BK562; have NB563_562 := ngt hg BK562; replace BK562 := bkb BK562 hb; clear hb hbox hg; have hnb11 := NB562_563.out; have hnc11 := NB563_562.out; have hcz12_0 := bce BK562 0 (.bool a0_0); have hcz12_1 := bce BK562 1 (.slice A0_1 l0_1.length c0_1); have hcz12_2 := bce BK562 2 (.slice A0_2 l0_2.length c0_2); have hfz12_0 := blk_frozen BK562.out 0; have hfz12_1 := blk_frozen BK562.out 1; have hfz12_2 := blk_frozen BK562.out 2) | ((with_reducible refine gate_callee (f := 21) rfl ?_); refine goesL_ (some 7) rfl rfl Try.func21 (by kernel_rfl) rfl #[.agg #[.bool a0_0, .slice A0_1 l0_1.length c0_1, .slice A0_2 l0_2.length c0_2]] rfl (by (try simp only [List.map_toArray, List.map_cons, List.map_nil]); first | done | rfl | (simp only [List.length_drop, List.length_take]; rfl)) ?_; (with_reducible refine (spec_RatOK.calls k a0_0 _ _ l0_1 _ _ l0_2 true _ ?side1 ?side2 ?side3 ?side4 A3.out).mono ?_); (case side1 => exact crC (Kd.C_below HR0_1.out HB.out)); (case side2 => exact HC0_1.out); (case side3 => exact crC (Kd.C_below HR0_2.out HB.out)); (case side4 => exact HC0_2.out); rintro e w13 ⟨rfl, hb⟩; refine ⟨_, rfl, ?_⟩; replace BK562 := bkb BK562 hb; replace BK563 := bkb BK563 hb; replace HB := bst HB hb; (try clear hb); (try clear hb2); (try clear hk); (try clear hi)) | ((with_reducible refine gate_callee (f := 45) rfl ?_); refine goesL_ (some 11) rfl rfl Try.func45 (by kernel_rfl) rfl #[.int .i64 a1, .int .i64 0, .int .i64 8] rfl (by (try simp only [List.map_toArray, List.map_cons, List.map_nil]); first | done | rfl | (simp only [List.length_drop, List.length_take]; rfl)) ?_; (with_reducible refine (spec_l01In.calls a1 0 8 true _ A5.out).mono ?_); rintro e w' ⟨rfl, ⟨nd, rfl⟩⟩; refine ⟨_, rfl, ?_⟩; (try (rw [drewN_self w13]; generalize hq_ : World.drewN w13 _ = w13; replace BK562 : Aside0 (w13.heap[gb562]? = some (.cells #[.bool a0_0, .slice A0_1 l0_1.length c0_1, .slice A0_2 l0_2.length c0_2] 24 (0, 0))) := ⟨by rw [← hq_]; exact (crb BK562)⟩; replace BK563 : Aside0 (w13.heap[gb563]? = some (.cells #[.bool false, .slice none 0 0, .slice none 0 0] 24 (0, 0))) := ⟨by rw [← hq_]; exact (crb BK563)⟩; replace HB : Aside0 (Below w.heap.size w w13) := ⟨by rw [← hq_]; exact (blw HB)⟩; clear hq_)); have hcz14_0 := bce BK562 0 (.bool a0_0); have hcz14_1 := bce BK562 1 (.slice A0_1 l0_1.length c0_1); have hcz14_2 := bce BK562 2 (.slice A0_2 l0_2.length c0_2); have hfz14_0 := blk_frozen BK562.out 0; have hfz14_1 := blk_frozen BK562.out 1; have hfz14_2 := blk_frozen BK562.out 2) | ((with_reducible refine gate_callee (f := 82) rfl ?_); refine goesL_ (some 16) rfl rfl Try.func82 (by kernel_rfl) rfl #[.agg #[.bool a0_0, .slice A0_1 l0_1.length c0_1, .slice A0_2 l0_2.length c0_2], .int .i64 a1] rfl (by (try simp only [List.map_toArray, List.map_cons, List.map_nil]); first | done | rfl | (simp only [List.length_drop, List.length_take]; rfl)) ?_; (with_reducible refine (spec_l02Pow.calls k a0_0 _ _ l0_1 _ _ l0_2 a1 t566 t567 t570 _ ?side1 ?side2 ?side3 ?side4 A7.out).mono ?_); (case side1 => exact crC (Kd.C_below HR0_1.out HB.out)); (case side2 => exact HC0_1.out); (case side3 => exact crC (Kd.C_below HR0_2.out HB.out)); (case side4 => exact HC0_2.out); rintro e w15 ⟨v568, v571, rfl, ho0, ho1, hb⟩; refine ⟨_, rfl, ?_⟩; have HO569 := lwR ho0 HB; have HO572 := lwR ho1 HB; replace BK562 := bkb BK562 hb; replace BK563 := bkb BK563 hb; replace HB := bst HB hb; (try clear hb); (try clear hb2); (try clear hk); (try clear hi); (try clear ho0); (try clear ho1); obtain ⟨Ao16, co16, eo16⟩ := Kd.R_slice HO569.out; subst eo16; obtain ⟨Ao17, co17, eo17⟩ := Kd.R_slice HO572.out; subst eo17) | ((with_reducible refine gate_callee (f := 70) rfl ?_); refine goesL_ (some 17) rfl rfl Try.func70 (by kernel_rfl) rfl #[.agg #[.bool t566, .slice Ao16 t567.length co16, .slice Ao17 t570.length co17]] rfl (by (try simp only [List.map_toArray, List.map_cons, List.map_nil]); first | done | rfl | (simp only [List.length_drop, List.length_take]; rfl)) ?_; (with_reducible refine (spec_l02Fit.calls t566 _ _ t567 _ _ t570 t573 t574 t577 t580 _ ?side1 ?side2 ?side3 ?side4 A8.out).mono ?_); (case side1 => exact crC (Kd.R_reads' HO569.out).2.2); (case side2 => exact (Kd.R_reads' HO569.out).2.1); (case side3 => exact crC (Kd.R_reads' HO572.out).2.2); (case side4 => exact (Kd.R_reads' HO572.out).2.1); rintro e w18 ⟨v575, v578, rfl, ho0, ho1, hb⟩; refine ⟨_, rfl, ?_⟩; have HO576 := lwR (nwR (nwR ho0 HO569) HO572) HB; have HO579 := lwR (nwR (nwR ho1 HO569) HO572) HB; replace HO569 := tldR HO569 hb (Kd.R_base ho0) (Kd.R_base ho1); replace HO572 := tldR HO572 hb (Kd.R_base ho0) (Kd.R_base ho1); replace BK562 := bkb BK562 hb; replace BK563 := bkb BK563 hb; replace HB := bst HB hb; (try clear hb); (try clear hb2); (try clear hk); (try clear hi); (try clear ho0); (try clear ho1); have hcz19_0 := bce BK563 0 (.bool false); have hcz19_1 := bce BK563 1 (.slice none 0 0); have hcz19_2 := bce BK563 2 (.slice none 0 0); have hfz19_0 := blk_frozen BK563.out 0; have hfz19_1 := blk_frozen BK563.out 1; have hfz19_2 := blk_frozen BK563.out 2; obtain ⟨Ao20, co20, eo20⟩ := Kd.R_slice HO576.out; subst eo20; obtain ⟨Ao21, co21, eo21⟩ := Kd.R_slice HO579.out; subst eo21))
   refine bodyPost_ret (results_ct rfl _ _ gb563 24 #[.bool t573, .slice Ao20 t574.length co20, .slice Ao21 t577.length co21] (0, 0) _ rfl (by (with_reducible repeat (first | refine blk_drewN ?_ _ | refine blk_drew ?_ | refine blk_alloc ?_ _)); refine blk_put (cs := #[.bool t573, .slice Ao20 t574.length co20, .slice none 0 0]) ?_ 2 _ rfl; (with_reducible repeat (first | refine blk_drewN ?_ _ | refine blk_drew ?_ | refine blk_alloc ?_ _)); refine blk_put (cs := #[.bool t573, .slice none 0 0, .slice none 0 0]) ?_ 1 _ rfl; (with_reducible repeat (first | refine blk_drewN ?_ _ | refine blk_drew ?_ | refine blk_alloc ?_ _)); refine blk_put (cs := #[.bool false, .slice none 0 0, .slice none 0 0]) ?_ 0 _ rfl; (with_reducible repeat (first | refine blk_drewN ?_ _ | refine blk_drew ?_ | refine blk_alloc ?_ _)); exact BK563.out) Try.underlying24 rfl (by kernel_rfl)) rfl ?_
   exact ⟨_, _, by first | rfl | (simp [errW_none, errW_some] <;> rfl) | (simp [*, errW_none, errW_some] <;> rfl), by (with_reducible repeat (first | apply Kd.R_alloc | apply Kd.R_drewN | apply Kd.R_drew)); exact Kd.R_mono (Kd.R_far (p := ⟨gb563, 2, none⟩) (Kd.R_far (p := ⟨gb563, 1, none⟩) (Kd.R_far (p := ⟨gb563, 0, none⟩) (Kd.R_types HO576.out BK563.out (by decide)) (fun _ hk => hk.2) (.bool t573)) (fun _ hk => hk.2) (.slice Ao20 t574.length co20)) (fun _ hk => hk.2) (.slice Ao21 t577.length co21)) (fun _ hk => hk.1.1.1), by (with_reducible repeat (first | apply Kd.R_alloc | apply Kd.R_drewN | apply Kd.R_drew)); exact Kd.R_mono (Kd.R_far (p := ⟨gb563, 2, none⟩) (Kd.R_far (p := ⟨gb563, 1, none⟩) (Kd.R_far (p := ⟨gb563, 0, none⟩) (Kd.R_types HO579.out BK563.out (by decide)) (fun _ hk => hk.2) (.bool t573)) (fun _ hk => hk.2) (.slice Ao20 t574.length co20)) (fun _ hk => hk.2) (.slice Ao21 t577.length co21)) (fun _ hk => hk.1.1.1), blw HB⟩
  ·
   replace c6 := Bool.eq_false_iff.mpr c6
   subst c6
   have H1 : (some (false, ([] : List Int), ([] : List Int), 4)) = some (r1, r2, r3, r4) := by rw [if_neg (show ¬ (false = true) by decide)] at H; exact H
   clear H
   have H := H1
   clear H1
   simp only [Option.some.injEq, Prod.mk.injEq] at H
   obtain ⟨rfl, rfl, rfl, rfl⟩ := H
   go_enter Try.func34, Try.ntmps34
   go_wp2_with (first | ((with_reducible refine gate_dst (N := 2) rfl ?_); refine box_event ?hg (N := 2) ?hd (cs := #[.bool a0_0, .slice A0_1 l0_1.length c0_1, .slice A0_2 l0_2.length c0_2]) (t := 24) ?hr ?_; (case hd => rfl); (case hg => rfl); (case hr => first | (go_simp; done) | (go_simp; rfl)); intro gb562 hg w22 hbox hb; have BK562 := Aside0.mk (hbox); have GW562 := geh hg HB; have GE562 := geh hg HB; replace HB := bst HB hb; clear hb hbox hg) | ((with_reducible refine gate_dst (N := 4) rfl ?_); refine box_event ?hg (N := 4) ?hd (cs := #[.bool false, .slice none 0 0, .slice none 0 0]) (t := 24) ?hr ?_; (case hd => rfl); (case hg => rfl); (case hr => first | (go_simp; done) | (go_simp; rfl)); intro gb563 hg w23 hbox hb; have BK563 := Aside0.mk (hbox); have GW563 := geh hg HB; have GE563 := geh hg HB; replace HB := bst HB hb; have NB562_563 := nlt hg BK562; have NB563_562 := ngt hg BK562; replace BK562 := bkb BK562 hb; clear hb hbox hg; have hnb24 := NB562_563.out; have hnc24 := NB563_562.out; have hcz25_0 := bce BK562 0 (.bool a0_0); have hcz25_1 := bce BK562 1 (.slice A0_1 l0_1.length c0_1); have hcz25_2 := bce BK562 2 (.slice A0_2 l0_2.length c0_2); have hfz25_0 := blk_frozen BK562.out 0; have hfz25_1 := blk_frozen BK562.out 1; have hfz25_2 := blk_frozen BK562.out 2) | ((with_reducible refine gate_callee (f := 21) rfl ?_); refine goesL_ (some 7) rfl rfl Try.func21 (by kernel_rfl) rfl #[.agg #[.bool a0_0, .slice A0_1 l0_1.length c0_1, .slice A0_2 l0_2.length c0_2]] rfl (by (try simp only [List.map_toArray, List.map_cons, List.map_nil]); first | done | rfl | (simp only [List.length_drop, List.length_take]; rfl)) ?_; (with_reducible refine (spec_RatOK.calls k a0_0 _ _ l0_1 _ _ l0_2 true _ ?side1 ?side2 ?side3 ?side4 A3.out).mono ?_); (case side1 => exact crC (Kd.C_below HR0_1.out HB.out)); (case side2 => exact HC0_1.out); (case side3 => exact crC (Kd.C_below HR0_2.out HB.out)); (case side4 => exact HC0_2.out); rintro e w26 ⟨rfl, hb⟩; refine ⟨_, rfl, ?_⟩; replace BK562 := bkb BK562 hb; replace BK563 := bkb BK563 hb; replace HB := bst HB hb; (try clear hb); (try clear hb2); (try clear hk); (try clear hi)) | ((with_reducible refine gate_callee (f := 45) rfl ?_); refine goesL_ (some 11) rfl rfl Try.func45 (by kernel_rfl) rfl #[.int .i64 a1, .int .i64 0, .int .i64 8] rfl (by (try simp only [List.map_toArray, List.map_cons, List.map_nil]); first | done | rfl | (simp only [List.length_drop, List.length_take]; rfl)) ?_; (with_reducible refine (spec_l01In.calls a1 0 8 false _ A5.out).mono ?_); rintro e w' ⟨rfl, ⟨nd, rfl⟩⟩; refine ⟨_, rfl, ?_⟩; (try (rw [drewN_self w26]; generalize hq_ : World.drewN w26 _ = w26; replace BK562 : Aside0 (w26.heap[gb562]? = some (.cells #[.bool a0_0, .slice A0_1 l0_1.length c0_1, .slice A0_2 l0_2.length c0_2] 24 (0, 0))) := ⟨by rw [← hq_]; exact (crb BK562)⟩; replace BK563 : Aside0 (w26.heap[gb563]? = some (.cells #[.bool false, .slice none 0 0, .slice none 0 0] 24 (0, 0))) := ⟨by rw [← hq_]; exact (crb BK563)⟩; replace HB : Aside0 (Below w.heap.size w w26) := ⟨by rw [← hq_]; exact (blw HB)⟩; clear hq_)); have hcz27_0 := bce BK563 0 (.bool false); have hcz27_1 := bce BK563 1 (.slice none 0 0); have hcz27_2 := bce BK563 2 (.slice none 0 0); have hfz27_0 := blk_frozen BK563.out 0; have hfz27_1 := blk_frozen BK563.out 1; have hfz27_2 := blk_frozen BK563.out 2))
   refine bodyPost_ret (results_ct rfl _ _ gb563 24 #[.bool false, .slice none 0 0, .slice none 0 0] (0, 0) _ rfl (by (with_reducible repeat (first | refine blk_drewN ?_ _ | refine blk_drew ?_ | refine blk_alloc ?_ _)); refine blk_put (cs := #[.bool false, .slice none 0 0, .slice none 0 0]) ?_ 2 _ rfl; (with_reducible repeat (first | refine blk_drewN ?_ _ | refine blk_drew ?_ | refine blk_alloc ?_ _)); refine blk_put (cs := #[.bool false, .slice none 0 0, .slice none 0 0]) ?_ 1 _ rfl; (with_reducible repeat (first | refine blk_drewN ?_ _ | refine blk_drew ?_ | refine blk_alloc ?_ _)); refine blk_put (cs := #[.bool false, .slice none 0 0, .slice none 0 0]) ?_ 0 _ rfl; (with_reducible repeat (first | refine blk_drewN ?_ _ | refine blk_drew ?_ | refine blk_alloc ?_ _)); exact BK563.out) Try.underlying24 rfl (by kernel_rfl)) rfl ?_
   exact ⟨_, _, by first | rfl | (simp [errW_none, errW_some] <;> rfl) | (simp [*, errW_none, errW_some] <;> rfl), by first | exact Kd.R_nil _ _ _ _ _ | exact Kd.N_nil _ _ _ _ _ | exact Kd.V_nil _ _ _ _ _ | exact Kd.Q_nil _ _ _ _ _ | exact Kd.S_nil _ _ _ _ _, by first | exact Kd.R_nil _ _ _ _ _ | exact Kd.N_nil _ _ _ _ _ | exact Kd.V_nil _ _ _ _ _ | exact Kd.Q_nil _ _ _ _ _ | exact Kd.S_nil _ _ _ _ _, blw HB⟩
 ·
  replace c4 := Bool.eq_false_iff.mpr c4
  subst c4
  have H1 : (some (false, ([] : List Int), ([] : List Int), 1)) = some (r1, r2, r3, r4) := by rw [if_neg (show ¬ (false = true) by decide)] at H; exact H
  clear H
  have H := H1
  clear H1
  simp only [Option.some.injEq, Prod.mk.injEq] at H
  obtain ⟨rfl, rfl, rfl, rfl⟩ := H
  go_enter Try.func34, Try.ntmps34
  go_wp2_with (first | ((with_reducible refine gate_dst (N := 2) rfl ?_); refine box_event ?hg (N := 2) ?hd (cs := #[.bool a0_0, .slice A0_1 l0_1.length c0_1, .slice A0_2 l0_2.length c0_2]) (t := 24) ?hr ?_; (case hd => rfl); (case hg => rfl); (case hr => first | (go_simp; done) | (go_simp; rfl)); intro gb562 hg w28 hbox hb; have BK562 := Aside0.mk (hbox); have GW562 := geh hg HB; have GE562 := geh hg HB; replace HB := bst HB hb; clear hb hbox hg) | ((with_reducible refine gate_dst (N := 4) rfl ?_); refine box_event ?hg (N := 4) ?hd (cs := #[.bool false, .slice none 0 0, .slice none 0 0]) (t := 24) ?hr ?_; (case hd => rfl); (case hg => rfl); (case hr => first | (go_simp; done) | (go_simp; rfl)); intro gb563 hg w29 hbox hb; have BK563 := Aside0.mk (hbox); have GW563 := geh hg HB; have GE563 := geh hg HB; replace HB := bst HB hb; have NB562_563 := nlt hg BK562; have NB563_562 := ngt hg BK562; replace BK562 := bkb BK562 hb; clear hb hbox hg; have hnb30 := NB562_563.out; have hnc30 := NB563_562.out; have hcz31_0 := bce BK562 0 (.bool a0_0); have hcz31_1 := bce BK562 1 (.slice A0_1 l0_1.length c0_1); have hcz31_2 := bce BK562 2 (.slice A0_2 l0_2.length c0_2); have hfz31_0 := blk_frozen BK562.out 0; have hfz31_1 := blk_frozen BK562.out 1; have hfz31_2 := blk_frozen BK562.out 2) | ((with_reducible refine gate_callee (f := 21) rfl ?_); refine goesL_ (some 7) rfl rfl Try.func21 (by kernel_rfl) rfl #[.agg #[.bool a0_0, .slice A0_1 l0_1.length c0_1, .slice A0_2 l0_2.length c0_2]] rfl (by (try simp only [List.map_toArray, List.map_cons, List.map_nil]); first | done | rfl | (simp only [List.length_drop, List.length_take]; rfl)) ?_; (with_reducible refine (spec_RatOK.calls k a0_0 _ _ l0_1 _ _ l0_2 false _ ?side1 ?side2 ?side3 ?side4 A3.out).mono ?_); (case side1 => exact crC (Kd.C_below HR0_1.out HB.out)); (case side2 => exact HC0_1.out); (case side3 => exact crC (Kd.C_below HR0_2.out HB.out)); (case side4 => exact HC0_2.out); rintro e w32 ⟨rfl, hb⟩; refine ⟨_, rfl, ?_⟩; replace BK562 := bkb BK562 hb; replace BK563 := bkb BK563 hb; replace HB := bst HB hb; (try clear hb); (try clear hb2); (try clear hk); (try clear hi); have hcz33_0 := bce BK563 0 (.bool false); have hcz33_1 := bce BK563 1 (.slice none 0 0); have hcz33_2 := bce BK563 2 (.slice none 0 0); have hfz33_0 := blk_frozen BK563.out 0; have hfz33_1 := blk_frozen BK563.out 1; have hfz33_2 := blk_frozen BK563.out 2))
  refine bodyPost_ret (results_ct rfl _ _ gb563 24 #[.bool false, .slice none 0 0, .slice none 0 0] (0, 0) _ rfl (by (with_reducible repeat (first | refine blk_drewN ?_ _ | refine blk_drew ?_ | refine blk_alloc ?_ _)); refine blk_put (cs := #[.bool false, .slice none 0 0, .slice none 0 0]) ?_ 2 _ rfl; (with_reducible repeat (first | refine blk_drewN ?_ _ | refine blk_drew ?_ | refine blk_alloc ?_ _)); refine blk_put (cs := #[.bool false, .slice none 0 0, .slice none 0 0]) ?_ 1 _ rfl; (with_reducible repeat (first | refine blk_drewN ?_ _ | refine blk_drew ?_ | refine blk_alloc ?_ _)); refine blk_put (cs := #[.bool false, .slice none 0 0, .slice none 0 0]) ?_ 0 _ rfl; (with_reducible repeat (first | refine blk_drewN ?_ _ | refine blk_drew ?_ | refine blk_alloc ?_ _)); exact BK563.out) Try.underlying24 rfl (by kernel_rfl)) rfl ?_
  exact ⟨_, _, by first | rfl | (simp [errW_none, errW_some] <;> rfl) | (simp [*, errW_none, errW_some] <;> rfl), by first | exact Kd.R_nil _ _ _ _ _ | exact Kd.N_nil _ _ _ _ _ | exact Kd.V_nil _ _ _ _ _ | exact Kd.Q_nil _ _ _ _ _ | exact Kd.S_nil _ _ _ _ _, by first | exact Kd.R_nil _ _ _ _ _ | exact Kd.N_nil _ _ _ _ _ | exact Kd.V_nil _ _ _ _ _ | exact Kd.Q_nil _ _ _ _ _ | exact Kd.S_nil _ _ _ _ _, blw HB⟩

def impl_PowRat.j0 : Nat → Int → Int → Bool → List Int → List Int → Option (Bool × List Int × List Int × Int)
 | 0, _, _, _, _, _ => none
 | k + 1, x1, x6, x630000, x630001, x630002 => if x6 = 0 then ((impl_Rat_pow.f k x630000 x630001 x630002 x1).bind fun bt645 => ((impl_fullRat.f bt645.1 bt645.2.1 bt645.2.2).bind fun bt652 => (some (bt652.1, bt652.2.1, bt652.2.2.1, bt652.2.2.2)))) else (some (false, ([] : List Int), ([] : List Int), x6))
def impl_PowRat.f (k : Nat) (a0_0 : Bool) (l0_1 : List Int) (l0_2 : List Int) (a1 : Int) : Option (Bool × List Int × List Int × Int) := (impl_ratsCode.f k (([(⟨a0_0, l0_1, l0_2⟩ : S24)] : List (S24)))).bind fun t634 => (if 0 ≤ a1 then ((impl_unless.f (decide (a1 ≤ 8)) 4).bind fun t635 => ((impl_first.f k (([t634, t635] : List Int))).bind fun t639 => (impl_PowRat.j0 k a1 t639 a0_0 l0_1 l0_2))) else ((impl_unless.f false 4).bind fun t640 => ((impl_first.f k (([t634, t640] : List Int))).bind fun t644 => (impl_PowRat.j0 k a1 t644 a0_0 l0_1 l0_2))))
theorem impl_PowRat.mono_l : ∀ k, (∀ y0 y1 y2 y3 y4, LeO (impl_PowRat.j0 k y0 y1 y2 y3 y4) (impl_PowRat.j0 (k + 1) y0 y1 y2 y3 y4))
 | 0 => fun _ _ _ _ _ r h => by simp [impl_PowRat.j0] at h
 | k + 1 => by
  have ih0 := impl_PowRat.mono_l k
  ·
   intro y0 y1 y2 y3 y4
   unfold impl_PowRat.j0
   repeat' first
   | (with_reducible exact ih0 _ _ _ _ _)
   | (with_reducible exact impl_Rat_pow.mono _ _ _ _ _)
   | (with_reducible exact impl_first.mono _ _)
   | (with_reducible exact impl_ratsCode.mono _ _)
   | (with_reducible exact LeO.refl _)
   | (with_reducible exact LeO.none _)
   | (with_reducible refine LeO.ite ?_ ?_)
   | (with_reducible refine LeO.bind ?_ (fun _ => ?_))
   | exact ih0 _ _ _ _ _
   | exact impl_Rat_pow.mono _ _ _ _ _
   | exact impl_first.mono _ _
   | exact impl_ratsCode.mono _ _
   | exact LeO.none _
   | refine LeO.ite ?_ ?_
   | refine LeO.bind ?_ (fun _ => ?_)
theorem impl_PowRat.mono : ∀ a0 a1 a2 a3 k, LeO (impl_PowRat.f k a0 a1 a2 a3) (impl_PowRat.f (k + 1) a0 a1 a2 a3) := by
 intro a0 a1 a2 a3 k
 have ih0 := impl_PowRat.mono_l k
 unfold impl_PowRat.f
 repeat' first
   | (with_reducible exact ih0 _ _ _ _ _)
   | (with_reducible exact impl_Rat_pow.mono _ _ _ _ _)
   | (with_reducible exact impl_first.mono _ _)
   | (with_reducible exact impl_ratsCode.mono _ _)
   | (with_reducible exact LeO.refl _)
   | (with_reducible exact LeO.none _)
   | (with_reducible refine LeO.ite ?_ ?_)
   | (with_reducible refine LeO.bind ?_ (fun _ => ?_))
   | exact ih0 _ _ _ _ _
   | exact impl_Rat_pow.mono _ _ _ _ _
   | exact impl_first.mono _ _
   | exact impl_ratsCode.mono _ _
   | exact LeO.none _
   | refine LeO.ite ?_ ?_
   | refine LeO.bind ?_ (fun _ => ?_)
set_option maxHeartbeats 8000000 in
set_option maxRecDepth 100000 in
theorem impl_PowRat.calls (k : Nat) (a0_0 : Bool) (P0_1_ : Nat → Prop) (A0_1 : Option Addr) (c0_1 : Nat) (l0_1 : List Int) (P0_2_ : Nat → Prop) (A0_2 : Option Addr) (c0_2 : Nat) (l0_2 : List Int) (a1 : Int) (r1 : Bool) (r2 : List Int) (r3 : List Int) (r4 : Int) (w : World) (hs0_1 : Kd.V (Kd.int .i64) 3 w w.heap.size (fun k_ => P0_1_ k_) (.slice A0_1 l0_1.length c0_1) l0_1) (hs0_2 : Kd.V (Kd.int .i64) 3 w w.heap.size (fun k_ => P0_2_ k_) (.slice A0_2 l0_2.length c0_2) l0_2) (h : impl_PowRat.f k a0_0 l0_1 l0_2 a1 = some (r1, r2, r3, r4)) :
  Calls Try.prog 35 #[.agg #[.bool a0_0, .slice A0_1 l0_1.length c0_1, .slice A0_2 l0_2.length c0_2], .int .i64 a1] w fun e w' => ∃ v1_ v2_ : Value, e = .returned (.tuple #[.agg #[.bool r1, v1_, v2_], .int .i64 r4]) ∧ Kd.R (Kd.int .i64) 3 w' w.heap.size (fun k_ => (w.heap.size ≤ k_) ∧ nO k_ v2_) v1_ r2 ∧ Kd.R (Kd.int .i64) 3 w' w.heap.size (fun k_ => (w.heap.size ≤ k_) ∧ nO k_ v1_) v2_ r3 ∧ Below w.heap.size w w' := by
 have hu24 := Try.underlying24
 have HO0_1 := Aside0.mk (show Kd.V (Kd.int .i64) 3 w w.heap.size (fun k_ => ((P0_1_ k_ ∨ P0_2_ k_) ∨ w.heap.size ≤ k_)) (.slice A0_1 l0_1.length c0_1) l0_1 from Kd.V_mono hs0_1 (fun k_ hk => .inl (.inl hk)))
 have HO0_2 := Aside0.mk (show Kd.V (Kd.int .i64) 3 w w.heap.size (fun k_ => ((P0_1_ k_ ∨ P0_2_ k_) ∨ w.heap.size ≤ k_)) (.slice A0_2 l0_2.length c0_2) l0_2 from Kd.V_mono hs0_2 (fun k_ hk => .inl (.inr hk)))
 have HB := Aside0.mk (Below.refl w.heap.size w)
 have H : ((impl_ratsCode.f k (([(⟨a0_0, l0_1, l0_2⟩ : S24)] : List (S24)))).bind fun t634 => (if 0 ≤ a1 then ((impl_unless.f (decide (a1 ≤ 8)) 4).bind fun t635 => ((impl_first.f k (([t634, t635] : List Int))).bind fun t639 => (impl_PowRat.j0 k a1 t639 a0_0 l0_1 l0_2))) else ((impl_unless.f false 4).bind fun t640 => ((impl_first.f k (([t634, t640] : List Int))).bind fun t644 => (impl_PowRat.j0 k a1 t644 a0_0 l0_1 l0_2))))) = some (r1, r2, r3, r4) := h
 clear h
 have HC3 := Aside0.mk H
 clear H
 go_enter Try.func35, Try.ntmps35
 go_upto_region 1 with (first | ((with_reducible refine gate_dst (N := 2) rfl ?_); refine box_event ?hg (N := 2) ?hd (cs := #[.bool a0_0, .slice A0_1 l0_1.length c0_1, .slice A0_2 l0_2.length c0_2]) (t := 24) ?hr ?_; (case hd => rfl); (case hg => rfl); (case hr => first | (go_simp; done) | (go_simp; rfl)); intro gb629 hg w4 hbox hb; replace HO0_1 := elbV HO0_1 hg hb; replace HO0_2 := elbV HO0_2 hg hb; have BK629 := Aside0.mk (hbox); have GW629 := geh hg HB; have GE629 := geh hg HB; replace HB := bst HB hb; clear hb hbox hg) | ((with_reducible refine gate_dst (N := 4) rfl ?_); refine box_event ?hg (N := 4) ?hd (cs := #[.bool false, .slice none 0 0, .slice none 0 0]) (t := 24) ?hr ?_; (case hd => rfl); (case hg => rfl); (case hr => first | (go_simp; done) | (go_simp; rfl)); intro gb630 hg w5 hbox hb; replace HO0_1 := elbV HO0_1 hg hb; replace HO0_2 := elbV HO0_2 hg hb; have BK630 := Aside0.mk (hbox); have GW630 := geh hg HB; have GE630 := geh hg HB; replace HB := bst HB hb; have NB629_630 := nlt hg BK629; have NB630_629 := ngt hg BK629; replace BK629 := bkb BK629 hb; clear hb hbox hg))
 (try simp only [Act.put, List.setIfInBounds_toArray, List.set_cons_zero, List.set_cons_succ])
 go_cut [6] (fun v6 wc => ∃ (kq : Nat) (x6_2 : Int), v6 = .int .i64 x6_2 ∧ Aside0 (impl_PowRat.j0 kq a1 x6_2 a0_0 l0_1 l0_2 = some (r1, r2, r3, r4)) ∧ Aside0 (kq ≤ k) ∧ Aside0 (Kd.V (Kd.int .i64) 3 wc w.heap.size (fun k_ => ((P0_1_ k_ ∨ P0_2_ k_) ∨ w.heap.size ≤ k_) ∧ k_ ≠ gb629 ∧ k_ ≠ gb630) (.slice A0_1 l0_1.length c0_1) l0_1) ∧ Aside0 (Kd.V (Kd.int .i64) 3 wc w.heap.size (fun k_ => ((P0_1_ k_ ∨ P0_2_ k_) ∨ w.heap.size ≤ k_) ∧ k_ ≠ gb629 ∧ k_ ≠ gb630) (.slice A0_2 l0_2.length c0_2) l0_2) ∧ Aside0 (wc.heap[gb629]? = some (.cells #[.bool a0_0, (.slice A0_1 l0_1.length c0_1), (.slice A0_2 l0_2.length c0_2)] 24 (0, 0))) ∧ Aside0 (wc.heap[gb630]? = some (.cells #[.bool false, (.slice none 0 0), (.slice none 0 0)] 24 (0, 0))) ∧ Aside0 (Below w.heap.size w wc))
 case first =>
  have H := HC3.out
  clear HC3
  obtain ⟨y631, hy631⟩ : ∃ y_ : List (S24), y_ = (([(⟨a0_0, l0_1, l0_2⟩ : S24)] : List (S24))) := ⟨_, rfl⟩
  replace H : ((impl_ratsCode.f k y631).bind fun t634 => (if 0 ≤ a1 then ((impl_unless.f (decide (a1 ≤ 8)) 4).bind fun t635 => ((impl_first.f k (([t634, t635] : List Int))).bind fun t639 => (impl_PowRat.j0 k a1 t639 a0_0 l0_1 l0_2))) else ((impl_unless.f false 4).bind fun t640 => ((impl_first.f k (([t634, t640] : List Int))).bind fun t644 => (impl_PowRat.j0 k a1 t644 a0_0 l0_1 l0_2))))) = some (r1, r2, r3, r4) := by first | (rw [hy631]; with_reducible exact H) | (have H2_ := (Option.bind_some _ _).symm.trans H; rw [hy631]; with_reducible exact H2_) | (have H2_ := (Option.bind_some _ _).symm.trans H; with_reducible exact H2_) | with_reducible exact H | (rw [hy631]; exact H) | exact H
  have Ny631 := Aside0.mk hy631
  clear hy631
  replace H := Option.bind_eq_some_iff.mp H
  obtain ⟨t634, A60, H⟩ := H
  replace H : (if 0 ≤ a1 then ((impl_unless.f (decide (a1 ≤ 8)) 4).bind fun t635 => ((impl_first.f k (([t634, t635] : List Int))).bind fun t639 => (impl_PowRat.j0 k a1 t639 a0_0 l0_1 l0_2))) else ((impl_unless.f false 4).bind fun t640 => ((impl_first.f k (([t634, t640] : List Int))).bind fun t644 => (impl_PowRat.j0 k a1 t644 a0_0 l0_1 l0_2)))) = some (r1, r2, r3, r4) := H
  have A6 := Aside0.mk A60
  clear A60
  by_cases c7 : 0 ≤ a1
  ·
   rw [if_pos c7] at H
   have c7b0 : decide (0 ≤ a1) = true := decide_eq_true c7
   clear c7
   (first | rw [c7b0] | (simp only [i64_w, i32_w]; rw [c7b0]) | skip)
   replace H := Option.bind_eq_some_iff.mp H
   obtain ⟨t635, A80, H⟩ := H
   replace H : ((impl_first.f k (([t634, t635] : List Int))).bind fun t639 => (impl_PowRat.j0 k a1 t639 a0_0 l0_1 l0_2)) = some (r1, r2, r3, r4) := H
   have A8 := Aside0.mk A80
   clear A80
   obtain ⟨y636, hy636⟩ : ∃ y_ : List Int, y_ = (([t634, t635] : List Int)) := ⟨_, rfl⟩
   replace H : ((impl_first.f k y636).bind fun t639 => (impl_PowRat.j0 k a1 t639 a0_0 l0_1 l0_2)) = some (r1, r2, r3, r4) := by first | (rw [hy636]; with_reducible exact H) | (have H2_ := (Option.bind_some _ _).symm.trans H; rw [hy636]; with_reducible exact H2_) | (have H2_ := (Option.bind_some _ _).symm.trans H; with_reducible exact H2_) | with_reducible exact H | (rw [hy636]; exact H) | exact H
   have Ny636 := Aside0.mk hy636
   clear hy636
   replace H := Option.bind_eq_some_iff.mp H
   obtain ⟨t639, A90, H⟩ := H
   replace H : (impl_PowRat.j0 k a1 t639 a0_0 l0_1 l0_2) = some (r1, r2, r3, r4) := H
   have A9 := Aside0.mk A90
   clear A90
   have H' := Aside0.mk H
   clear H
   have hnb10 := NB629_630.out
   have hnc10 := NB630_629.out
   have hcz11_0 := bce BK629 0 (.bool a0_0)
   have hcz11_1 := bce BK629 1 (.slice A0_1 l0_1.length c0_1)
   have hcz11_2 := bce BK629 2 (.slice A0_2 l0_2.length c0_2)
   have hfz11_0 := blk_frozen BK629.out 0
   have hfz11_1 := blk_frozen BK629.out 1
   have hfz11_2 := blk_frozen BK629.out 2
   go_wp2_with (first | ((with_reducible refine gate_dst (N := 8) rfl ?_); refine Kd.N_lit k24 _ 24 ?hg (N' := 8) ?hd (xs := ([(⟨a0_0, l0_1, l0_2⟩ : S24)] : List (S24))) (inner := [.bool a0_0, .slice A0_1 l0_1.length c0_1, .slice A0_2 l0_2.length c0_2]) (ok := (fun k_ => ((P0_1_ k_ ∨ P0_2_ k_) ∨ w.heap.size ≤ k_) ∧ k_ ≠ gb629 ∧ k_ ≠ gb630)) (okp := (fun k_ => ((P0_1_ k_ ∨ P0_2_ k_) ∨ w.heap.size ≤ k_) ∧ k_ ≠ gb629 ∧ k_ ≠ gb630)) ?hr ?hp (fun _ hk => hk) ((show ∀ k_, w5.heap.size ≤ k_ → (fun k_ => ((P0_1_ k_ ∨ P0_2_ k_) ∨ w.heap.size ≤ k_) ∧ k_ ≠ gb629 ∧ k_ ≠ gb630) k_ from fun k_ hk => ⟨(.inr (Nat.le_trans (bsz HB) hk)), Kd.freshB (g := gb629) (o := .cells #[.bool a0_0, .slice A0_1 l0_1.length c0_1, .slice A0_2 l0_2.length c0_2] 24 (0, 0)) (crb BK629) k_ hk, Kd.freshB (g := gb630) (o := .cells #[.bool false, .slice none 0 0, .slice none 0 0] 24 (0, 0)) (crb BK630) k_ hk⟩) _ (Nat.le_refl _)) (Below.refl _ _) (Nat.le_refl _) (by simp) ?_; (case hd => rfl); (case hg => rfl); (case hr => first | (go_simp; done) | (go_simp; rfl)); (case hp => exact (Reps.c3 (show Kd.FK k24 _ _ (⟨a0_0, l0_1, l0_2⟩ : S24) [.bool a0_0, .slice A0_1 l0_1.length c0_1, .slice A0_2 l0_2.length c0_2] from (k24_mkF _ _ (⟨a0_0, l0_1, l0_2⟩ : S24) (Kd.V_reads' (Kd.V_mono (ok' := (fun k_ => ((P0_1_ k_ ∨ P0_2_ k_) ∨ w.heap.size ≤ k_) ∧ k_ ≠ gb629 ∧ k_ ≠ gb630)) (HO0_1.out) (fun k_ hk => ⟨hk.1.1, ⟨hk.1.2, hk.2⟩⟩))).2.1 (Kd.V_F (Kd.V_mono (ok' := (fun k_ => ((P0_1_ k_ ∨ P0_2_ k_) ∨ w.heap.size ≤ k_) ∧ k_ ≠ gb629 ∧ k_ ≠ gb630)) (HO0_1.out) (fun k_ hk => ⟨hk.1.1, ⟨hk.1.2, hk.2⟩⟩))) (Kd.V_reads' (Kd.V_mono (ok' := (fun k_ => ((P0_1_ k_ ∨ P0_2_ k_) ∨ w.heap.size ≤ k_) ∧ k_ ≠ gb629 ∧ k_ ≠ gb630)) (HO0_2.out) (fun k_ hk => ⟨hk.1.1, ⟨hk.1.2, hk.2⟩⟩))).2.1 (Kd.V_F (Kd.V_mono (ok' := (fun k_ => ((P0_1_ k_ ∨ P0_2_ k_) ∨ w.heap.size ≤ k_) ∧ k_ ≠ gb629 ∧ k_ ≠ gb630)) (HO0_2.out) (fun k_ hk => ⟨hk.1.1, ⟨hk.1.2, hk.2⟩⟩))))) (Reps.none _ _))); intro v632 w12 ho13 hb hg_ hnew_; clear hg_ hnew_; (first | rw [← Ny631.out] at ho13 | (simp only [Int.reduceToNat] at ho13; rw [← Ny631.out] at ho13)); replace HO0_1 := eldV HO0_1 (Kd.N_base ho13) hb; replace HO0_2 := eldV HO0_2 (Kd.N_base ho13) hb; have HO633 := Aside0.mk (Kd.N_lower ho13 (bsz HB)); replace BK629 := bkb BK629 hb; replace BK630 := bkb BK630 hb; replace HB := bst HB hb; clear hb ho13; obtain ⟨Ao14, co14, eo14⟩ := Kd.N_slice HO633.out; subst eo14) | ((with_reducible refine gate_callee (f := 65) rfl ?_); refine goesL_ (some 9) rfl rfl Try.func65 (by kernel_rfl) rfl #[.slice Ao14 y631.length co14] rfl (by (try simp only [List.map_toArray, List.map_cons, List.map_nil]); first | done | rfl | (simp only [List.length_drop, List.length_take]; rfl)) ?_; (with_reducible refine (impl_ratsCode.calls k _ _ y631 t634 _ ?side1 ?side2 A6.out).mono ?_); (case side1 => exact crC (Kd.N_reads' HO633.out).2.2); (case side2 => exact (Kd.N_reads' HO633.out).2.1); rintro e w15 ⟨rfl, hb⟩; refine ⟨_, rfl, ?_⟩; replace HO0_1 := rblV HO0_1 hb; replace HO0_2 := rblV HO0_2 hb; replace HO633 := Aside0.mk (Kd.N_below (by (with_reducible repeat (first | apply Kd.N_alloc | apply Kd.N_drewN | apply Kd.N_drew)); exact HO633.out) hb); replace BK629 := bkb BK629 hb; replace BK630 := bkb BK630 hb; replace HB := bst HB hb; (try clear hb); (try clear hb2); (try clear hk); (try clear hi)) | ((with_reducible refine gate_callee (f := 81) rfl ?_); refine goesL_ (some 16) rfl rfl Try.func81 (by kernel_rfl) rfl #[.bool (decide (a1 ≤ 8)), .int .i64 4] rfl (by (try simp only [List.map_toArray, List.map_cons, List.map_nil]); first | done | rfl | (simp only [List.length_drop, List.length_take]; rfl)) ?_; (with_reducible refine (impl_unless.calls (decide (a1 ≤ 8)) 4 t635 _ A8.out).mono ?_); rintro e w' ⟨rfl, ⟨nd, rfl⟩⟩; refine ⟨_, rfl, ?_⟩) | ((with_reducible refine gate_dst (N := 17) rfl ?_); refine Kd.R_lit (Kd.int .i64) _ 3 ?hg (N := 17) ?hd (xs := ([t634, t635] : List Int)) (inner := [.int .i64 t634, .int .i64 t635]) (ok := fun _ => True) (okp := fun _ => True) ?hr ?hp (fun _ hk => hk) trivial (Below.refl _ _) (Nat.le_refl _) (by simp) ?_; (case hd => rfl); (case hg => rfl); (case hr => first | (go_simp; done) | (go_simp; rfl)); (case hp => exact (Reps.one (show Kd.M (Kd.int .i64) _ _ _ t634 [.int .i64 t634] from rfl) (Reps.one (show Kd.M (Kd.int .i64) _ _ _ t635 [.int .i64 t635] from rfl) (Reps.none _ _)))); intro v637 w16 ho17 hb hg_ hnew_; clear hg_ hnew_; (first | rw [← Ny636.out] at ho17 | (simp only [Int.reduceToNat] at ho17; rw [← Ny636.out] at ho17)); replace HO0_1 := eldV HO0_1 (Kd.R_base ho17) hb; replace HO0_2 := eldV HO0_2 (Kd.R_base ho17) hb; replace HO633 := Aside0.mk (Kd.N_elder' (by (with_reducible repeat (first | apply Kd.N_alloc | apply Kd.N_drewN | apply Kd.N_drew)); exact HO633.out) (Kd.R_base ho17) hb); have HO638 := lwR (Kd.R_newM (M := fun k_ => (w.heap.size ≤ k_)) ho17 (bsz HB) (fun k_ h_ => h_)) HB; replace BK629 := bkb BK629 hb; replace BK630 := bkb BK630 hb; replace HB := bst HB hb; clear hb ho17; obtain ⟨Ao18, co18, eo18⟩ := Kd.R_slice HO638.out; subst eo18) | ((with_reducible refine gate_callee (f := 80) rfl ?_); refine goesL_ (some 18) rfl rfl Try.func80 (by kernel_rfl) rfl #[.slice Ao18 y636.length co18] rfl (by (try simp only [List.map_toArray, List.map_cons, List.map_nil]); first | done | rfl | (simp only [List.length_drop, List.length_take]; rfl)) ?_; (with_reducible refine (impl_first.calls k _ _ y636 t639 _ ?side1 ?side2 A9.out).mono ?_); (case side1 => exact crC (Kd.R_reads' HO638.out).2.2); (case side2 => exact (Kd.R_reads' HO638.out).2.1); rintro e w' ⟨rfl, ⟨nd, rfl⟩⟩; refine ⟨_, rfl, ?_⟩))
   go_meet
   case rel => exact ⟨_, (t639), (by first | rfl | (simp; done) | (simp [*]; done)), H', ⟨by first | omega | exact Nat.le_refl _⟩, ⟨by (with_reducible repeat (first | apply Kd.V_alloc | apply Kd.V_drewN | apply Kd.V_drew)); exact Kd.V_mono HO0_1.out (fun _ hk => ⟨hk.1.1.1.1, ⟨hk.1.1.1.2, hk.1.1.2⟩⟩)⟩, ⟨by (with_reducible repeat (first | apply Kd.V_alloc | apply Kd.V_drewN | apply Kd.V_drew)); exact Kd.V_mono HO0_2.out (fun _ hk => ⟨hk.1.1.1.1, ⟨hk.1.1.1.2, hk.1.1.2⟩⟩)⟩, ⟨crb BK629⟩, ⟨crb BK630⟩, ⟨blw HB⟩⟩
  ·
   rw [if_neg c7] at H
   have c7b0 : decide (0 ≤ a1) = false := decide_eq_false c7
   clear c7
   (first | rw [c7b0] | (simp only [i64_w, i32_w]; rw [c7b0]) | skip)
   replace H := Option.bind_eq_some_iff.mp H
   obtain ⟨t640, A190, H⟩ := H
   replace H : ((impl_first.f k (([t634, t640] : List Int))).bind fun t644 => (impl_PowRat.j0 k a1 t644 a0_0 l0_1 l0_2)) = some (r1, r2, r3, r4) := H
   have A19 := Aside0.mk A190
   clear A190
   obtain ⟨y641, hy641⟩ : ∃ y_ : List Int, y_ = (([t634, t640] : List Int)) := ⟨_, rfl⟩
   replace H : ((impl_first.f k y641).bind fun t644 => (impl_PowRat.j0 k a1 t644 a0_0 l0_1 l0_2)) = some (r1, r2, r3, r4) := by first | (rw [hy641]; with_reducible exact H) | (have H2_ := (Option.bind_some _ _).symm.trans H; rw [hy641]; with_reducible exact H2_) | (have H2_ := (Option.bind_some _ _).symm.trans H; with_reducible exact H2_) | with_reducible exact H | (rw [hy641]; exact H) | exact H
   have Ny641 := Aside0.mk hy641
   clear hy641
   replace H := Option.bind_eq_some_iff.mp H
   obtain ⟨t644, A200, H⟩ := H
   replace H : (impl_PowRat.j0 k a1 t644 a0_0 l0_1 l0_2) = some (r1, r2, r3, r4) := H
   have A20 := Aside0.mk A200
   clear A200
   have H' := Aside0.mk H
   clear H
   have hnb21 := NB629_630.out
   have hnc21 := NB630_629.out
   have hcz22_0 := bce BK629 0 (.bool a0_0)
   have hcz22_1 := bce BK629 1 (.slice A0_1 l0_1.length c0_1)
   have hcz22_2 := bce BK629 2 (.slice A0_2 l0_2.length c0_2)
   have hfz22_0 := blk_frozen BK629.out 0
   have hfz22_1 := blk_frozen BK629.out 1
   have hfz22_2 := blk_frozen BK629.out 2
   go_wp2_with (first | ((with_reducible refine gate_dst (N := 8) rfl ?_); refine Kd.N_lit k24 _ 24 ?hg (N' := 8) ?hd (xs := ([(⟨a0_0, l0_1, l0_2⟩ : S24)] : List (S24))) (inner := [.bool a0_0, .slice A0_1 l0_1.length c0_1, .slice A0_2 l0_2.length c0_2]) (ok := (fun k_ => ((P0_1_ k_ ∨ P0_2_ k_) ∨ w.heap.size ≤ k_) ∧ k_ ≠ gb629 ∧ k_ ≠ gb630)) (okp := (fun k_ => ((P0_1_ k_ ∨ P0_2_ k_) ∨ w.heap.size ≤ k_) ∧ k_ ≠ gb629 ∧ k_ ≠ gb630)) ?hr ?hp (fun _ hk => hk) ((show ∀ k_, w5.heap.size ≤ k_ → (fun k_ => ((P0_1_ k_ ∨ P0_2_ k_) ∨ w.heap.size ≤ k_) ∧ k_ ≠ gb629 ∧ k_ ≠ gb630) k_ from fun k_ hk => ⟨(.inr (Nat.le_trans (bsz HB) hk)), Kd.freshB (g := gb629) (o := .cells #[.bool a0_0, .slice A0_1 l0_1.length c0_1, .slice A0_2 l0_2.length c0_2] 24 (0, 0)) (crb BK629) k_ hk, Kd.freshB (g := gb630) (o := .cells #[.bool false, .slice none 0 0, .slice none 0 0] 24 (0, 0)) (crb BK630) k_ hk⟩) _ (Nat.le_refl _)) (Below.refl _ _) (Nat.le_refl _) (by simp) ?_; (case hd => rfl); (case hg => rfl); (case hr => first | (go_simp; done) | (go_simp; rfl)); (case hp => exact (Reps.c3 (show Kd.FK k24 _ _ (⟨a0_0, l0_1, l0_2⟩ : S24) [.bool a0_0, .slice A0_1 l0_1.length c0_1, .slice A0_2 l0_2.length c0_2] from (k24_mkF _ _ (⟨a0_0, l0_1, l0_2⟩ : S24) (Kd.V_reads' (Kd.V_mono (ok' := (fun k_ => ((P0_1_ k_ ∨ P0_2_ k_) ∨ w.heap.size ≤ k_) ∧ k_ ≠ gb629 ∧ k_ ≠ gb630)) (HO0_1.out) (fun k_ hk => ⟨hk.1.1, ⟨hk.1.2, hk.2⟩⟩))).2.1 (Kd.V_F (Kd.V_mono (ok' := (fun k_ => ((P0_1_ k_ ∨ P0_2_ k_) ∨ w.heap.size ≤ k_) ∧ k_ ≠ gb629 ∧ k_ ≠ gb630)) (HO0_1.out) (fun k_ hk => ⟨hk.1.1, ⟨hk.1.2, hk.2⟩⟩))) (Kd.V_reads' (Kd.V_mono (ok' := (fun k_ => ((P0_1_ k_ ∨ P0_2_ k_) ∨ w.heap.size ≤ k_) ∧ k_ ≠ gb629 ∧ k_ ≠ gb630)) (HO0_2.out) (fun k_ hk => ⟨hk.1.1, ⟨hk.1.2, hk.2⟩⟩))).2.1 (Kd.V_F (Kd.V_mono (ok' := (fun k_ => ((P0_1_ k_ ∨ P0_2_ k_) ∨ w.heap.size ≤ k_) ∧ k_ ≠ gb629 ∧ k_ ≠ gb630)) (HO0_2.out) (fun k_ hk => ⟨hk.1.1, ⟨hk.1.2, hk.2⟩⟩))))) (Reps.none _ _))); intro v632 w23 ho24 hb hg_ hnew_; clear hg_ hnew_; (first | rw [← Ny631.out] at ho24 | (simp only [Int.reduceToNat] at ho24; rw [← Ny631.out] at ho24)); replace HO0_1 := eldV HO0_1 (Kd.N_base ho24) hb; replace HO0_2 := eldV HO0_2 (Kd.N_base ho24) hb; have HO633 := Aside0.mk (Kd.N_lower ho24 (bsz HB)); replace BK629 := bkb BK629 hb; replace BK630 := bkb BK630 hb; replace HB := bst HB hb; clear hb ho24; obtain ⟨Ao25, co25, eo25⟩ := Kd.N_slice HO633.out; subst eo25) | ((with_reducible refine gate_callee (f := 65) rfl ?_); refine goesL_ (some 9) rfl rfl Try.func65 (by kernel_rfl) rfl #[.slice Ao25 y631.length co25] rfl (by (try simp only [List.map_toArray, List.map_cons, List.map_nil]); first | done | rfl | (simp only [List.length_drop, List.length_take]; rfl)) ?_; (with_reducible refine (impl_ratsCode.calls k _ _ y631 t634 _ ?side1 ?side2 A6.out).mono ?_); (case side1 => exact crC (Kd.N_reads' HO633.out).2.2); (case side2 => exact (Kd.N_reads' HO633.out).2.1); rintro e w26 ⟨rfl, hb⟩; refine ⟨_, rfl, ?_⟩; replace HO0_1 := rblV HO0_1 hb; replace HO0_2 := rblV HO0_2 hb; replace HO633 := Aside0.mk (Kd.N_below (by (with_reducible repeat (first | apply Kd.N_alloc | apply Kd.N_drewN | apply Kd.N_drew)); exact HO633.out) hb); replace BK629 := bkb BK629 hb; replace BK630 := bkb BK630 hb; replace HB := bst HB hb; (try clear hb); (try clear hb2); (try clear hk); (try clear hi)) | ((with_reducible refine gate_callee (f := 81) rfl ?_); refine goesL_ (some 16) rfl rfl Try.func81 (by kernel_rfl) rfl #[.bool false, .int .i64 4] rfl (by (try simp only [List.map_toArray, List.map_cons, List.map_nil]); first | done | rfl | (simp only [List.length_drop, List.length_take]; rfl)) ?_; (with_reducible refine (impl_unless.calls false 4 t640 _ A19.out).mono ?_); rintro e w' ⟨rfl, ⟨nd, rfl⟩⟩; refine ⟨_, rfl, ?_⟩) | ((with_reducible refine gate_dst (N := 17) rfl ?_); refine Kd.R_lit (Kd.int .i64) _ 3 ?hg (N := 17) ?hd (xs := ([t634, t640] : List Int)) (inner := [.int .i64 t634, .int .i64 t640]) (ok := fun _ => True) (okp := fun _ => True) ?hr ?hp (fun _ hk => hk) trivial (Below.refl _ _) (Nat.le_refl _) (by simp) ?_; (case hd => rfl); (case hg => rfl); (case hr => first | (go_simp; done) | (go_simp; rfl)); (case hp => exact (Reps.one (show Kd.M (Kd.int .i64) _ _ _ t634 [.int .i64 t634] from rfl) (Reps.one (show Kd.M (Kd.int .i64) _ _ _ t640 [.int .i64 t640] from rfl) (Reps.none _ _)))); intro v642 w27 ho28 hb hg_ hnew_; clear hg_ hnew_; (first | rw [← Ny641.out] at ho28 | (simp only [Int.reduceToNat] at ho28; rw [← Ny641.out] at ho28)); replace HO0_1 := eldV HO0_1 (Kd.R_base ho28) hb; replace HO0_2 := eldV HO0_2 (Kd.R_base ho28) hb; replace HO633 := Aside0.mk (Kd.N_elder' (by (with_reducible repeat (first | apply Kd.N_alloc | apply Kd.N_drewN | apply Kd.N_drew)); exact HO633.out) (Kd.R_base ho28) hb); have HO643 := lwR (Kd.R_newM (M := fun k_ => (w.heap.size ≤ k_)) ho28 (bsz HB) (fun k_ h_ => h_)) HB; replace BK629 := bkb BK629 hb; replace BK630 := bkb BK630 hb; replace HB := bst HB hb; clear hb ho28; obtain ⟨Ao29, co29, eo29⟩ := Kd.R_slice HO643.out; subst eo29) | ((with_reducible refine gate_callee (f := 80) rfl ?_); refine goesL_ (some 18) rfl rfl Try.func80 (by kernel_rfl) rfl #[.slice Ao29 y641.length co29] rfl (by (try simp only [List.map_toArray, List.map_cons, List.map_nil]); first | done | rfl | (simp only [List.length_drop, List.length_take]; rfl)) ?_; (with_reducible refine (impl_first.calls k _ _ y641 t644 _ ?side1 ?side2 A20.out).mono ?_); (case side1 => exact crC (Kd.R_reads' HO643.out).2.2); (case side2 => exact (Kd.R_reads' HO643.out).2.1); rintro e w' ⟨rfl, ⟨nd, rfl⟩⟩; refine ⟨_, rfl, ?_⟩))
   go_meet
   case rel => exact ⟨_, (t644), (by first | rfl | (simp; done) | (simp [*]; done)), H', ⟨by first | omega | exact Nat.le_refl _⟩, ⟨by (with_reducible repeat (first | apply Kd.V_alloc | apply Kd.V_drewN | apply Kd.V_drew)); exact Kd.V_mono HO0_1.out (fun _ hk => ⟨hk.1.1.1.1, ⟨hk.1.1.1.2, hk.1.1.2⟩⟩)⟩, ⟨by (with_reducible repeat (first | apply Kd.V_alloc | apply Kd.V_drewN | apply Kd.V_drew)); exact Kd.V_mono HO0_2.out (fun _ hk => ⟨hk.1.1.1.1, ⟨hk.1.1.1.2, hk.1.1.2⟩⟩)⟩, ⟨crb BK629⟩, ⟨crb BK630⟩, ⟨blw HB⟩⟩
 case rest =>
  clear HC3
  try clear c1
  try clear c2
  try clear p2
  try clear c3
  try clear c6
  try clear c7
  try clear c7b0
  try clear c8
  try clear c10
  try clear c21
  try clear hcz11_0
  try clear hcz11_1
  try clear hcz11_2
  try clear hcz22_0
  try clear hcz22_1
  try clear hcz22_2
  try clear hfz11_0
  try clear hfz11_1
  try clear hfz11_2
  try clear hfz22_0
  try clear hfz22_1
  try clear hfz22_2
  obtain ⟨kq, x6_2, rfl, HA, HJ2, HO_630001, HO_630002, BK629, BK630, HB⟩ := hcut
  cases kq with
  | zero => exact absurd HA.out (by simp [impl_PowRat.j0])
  | succ kj2 =>
   have H := HA.out
   clear HA
   simp only [impl_PowRat.j0] at H
   by_cases c30 : x6_2 = 0
   ·
    rw [if_pos c30] at H
    have c30b0 : (x6_2 == 0) = true := beq_iff_eq.mpr c30
    have c30b1 : (x6_2 != 0) = false := bne_eq_false_iff_eq.mpr c30
    clear c30
    replace H := Option.bind_eq_some_iff.mp H
    obtain ⟨⟨t645, t646, t649⟩, A310, H⟩ := H
    replace H : ((impl_fullRat.f t645 t646 t649).bind fun bt652 => (some (bt652.1, bt652.2.1, bt652.2.2.1, bt652.2.2.2))) = some (r1, r2, r3, r4) := H
    have A31 := Aside0.mk A310
    clear A310
    replace H := Option.bind_eq_some_iff.mp H
    obtain ⟨⟨t652, t653, t656, t659⟩, A320, H⟩ := H
    replace H : (some (t652, t653, t656, t659)) = some (r1, r2, r3, r4) := H
    have A32 := Aside0.mk A320
    clear A320
    simp only [Option.some.injEq, Prod.mk.injEq] at H
    obtain ⟨rfl, rfl, rfl, rfl⟩ := H
    have hnb33 := NB629_630.out
    have hnc33 := NB630_629.out
    have hcz34_0 := bce BK629 0 (.bool a0_0)
    have hcz34_1 := bce BK629 1 (.slice A0_1 l0_1.length c0_1)
    have hcz34_2 := bce BK629 2 (.slice A0_2 l0_2.length c0_2)
    have hfz34_0 := blk_frozen BK629.out 0
    have hfz34_1 := blk_frozen BK629.out 1
    have hfz34_2 := blk_frozen BK629.out 2
    go_wp2_with (first | ((with_reducible refine gate_callee (f := 83) rfl ?_); refine goesL_ (some 25) rfl rfl Try.func83 (by kernel_rfl) rfl #[.agg #[.bool a0_0, .slice A0_1 l0_1.length c0_1, .slice A0_2 l0_2.length c0_2], .int .i64 a1] rfl (by (try simp only [List.map_toArray, List.map_cons, List.map_nil]); first | done | rfl | (simp only [List.length_drop, List.length_take]; rfl)) ?_; (with_reducible refine (impl_Rat_pow.calls kj2 a0_0 _ _ l0_1 _ _ l0_2 a1 t645 t646 t649 _ ?side1 ?side2 ?side3 ?side4 A31.out).mono ?_); (case side1 => exact crC (Kd.V_reads' HO_630001.out).2.2); (case side2 => exact (Kd.V_reads' HO_630001.out).2.1); (case side3 => exact crC (Kd.V_reads' HO_630002.out).2.2); (case side4 => exact (Kd.V_reads' HO_630002.out).2.1); rintro e w35 ⟨v647, v650, rfl, ho0, ho1, hb⟩; refine ⟨_, rfl, ?_⟩; replace HO_630001 := tldV HO_630001 hb (Kd.R_base ho0) (Kd.R_base ho1); replace HO_630002 := tldV HO_630002 hb (Kd.R_base ho0) (Kd.R_base ho1); have HO648 := lwR (Kd.R_newM (M := fun k_ => (w.heap.size ≤ k_)) ho0 (bsz HB) (fun k_ h_ => h_)) HB; have HO651 := lwR (Kd.R_newM (M := fun k_ => (w.heap.size ≤ k_)) ho1 (bsz HB) (fun k_ h_ => h_)) HB; replace BK629 := bkb BK629 hb; replace BK630 := bkb BK630 hb; replace HB := bst HB hb; (try clear hb); (try clear hb2); (try clear hk); (try clear hi); (try clear ho0); (try clear ho1); obtain ⟨Ao36, co36, eo36⟩ := Kd.R_slice HO648.out; subst eo36; obtain ⟨Ao37, co37, eo37⟩ := Kd.R_slice HO651.out; subst eo37) | ((with_reducible refine gate_callee (f := 77) rfl ?_); refine goesL_ (some 26) rfl rfl Try.func77 (by kernel_rfl) rfl #[.agg #[.bool t645, .slice Ao36 t646.length co36, .slice Ao37 t649.length co37]] rfl (by (try simp only [List.map_toArray, List.map_cons, List.map_nil]); first | done | rfl | (simp only [List.length_drop, List.length_take]; rfl)) ?_; (with_reducible refine (impl_fullRat.calls t645 (fun k_ => some k_ = (.slice Ao36 t646.length co36 : Value).ownBlock) (.slice Ao36 t646.length co36) t646 (fun k_ => some k_ = (.slice Ao37 t649.length co37 : Value).ownBlock) (.slice Ao37 t649.length co37) t649 t652 t653 t656 t659 w _ ?side1 ?side2 ?side3 ?side4 ?side5 A32.out).mono ?_); (case side1 => repeat (first | (with_reducible first | exact HB.out | apply below_alloc | apply pw_below_drewN | apply below_drew1 | refine below_set ?_ GE629.out | refine below_set ?_ GE630.out) | exact HB.out)); (case side2 => exact Kd.R_tight rfl HO648.out); (case side3 => exact fun k_ e_ => (HO648.out.1 k_ e_.symm).2); (case side4 => exact Kd.R_tight rfl HO651.out); (case side5 => exact fun k_ e_ => (HO651.out.1 k_ e_.symm).2); rintro e w38 ⟨v654, v657, rfl, ho0, ho1, hb, hkp⟩; refine ⟨_, rfl, ?_⟩; replace HO_630001 := Aside0.mk (Kd.V_mono (ok' := fun k_ => ((P0_1_ k_ ∨ P0_2_ k_) ∨ w.heap.size ≤ k_) ∧ k_ ≠ gb629 ∧ k_ ≠ gb630 ∧ nO k_ v654 ∧ nO k_ v657) (Kd.V_keptB (HO_630001.out) hkp (fun k_ hk_ hs_ => Or.elim hs_ (fun e_ => (hk_.1.2) e_) (fun e_ => (hk_.2) e_))) (fun k_ hk_ => ⟨hk_.1.1.1.1, hk_.1.1.1.2.1, hk_.1.1.1.2.2, fun e_ => Or.elim (ho0.1 k_ e_.symm).1 (fun hs_ => hk_.2.1 hs_) (fun hn_ => Nat.not_le.2 hk_.2.2 hn_), fun e_ => Or.elim (ho1.1 k_ e_.symm).1 (fun hs_ => hk_.2.1 hs_) (fun hn_ => Nat.not_le.2 hk_.2.2 hn_)⟩)); replace HO_630002 := Aside0.mk (Kd.V_mono (ok' := fun k_ => ((P0_1_ k_ ∨ P0_2_ k_) ∨ w.heap.size ≤ k_) ∧ k_ ≠ gb629 ∧ k_ ≠ gb630 ∧ nO k_ v654 ∧ nO k_ v657) (Kd.V_keptB (HO_630002.out) hkp (fun k_ hk_ hs_ => Or.elim hs_ (fun e_ => (hk_.1.2) e_) (fun e_ => (hk_.2) e_))) (fun k_ hk_ => ⟨hk_.1.1.1.1, hk_.1.1.1.2.1, hk_.1.1.1.2.2, fun e_ => Or.elim (ho0.1 k_ e_.symm).1 (fun hs_ => hk_.2.1 hs_) (fun hn_ => Nat.not_le.2 hk_.2.2 hn_), fun e_ => Or.elim (ho1.1 k_ e_.symm).1 (fun hs_ => hk_.2.1 hs_) (fun hn_ => Nat.not_le.2 hk_.2.2 hn_)⟩)); replace BK629 := Aside0.mk (blk_kept (crb BK629) hkp (fun hs_ => Or.elim hs_ (fun e_ => (fun e_ => (Kd.R_ne HO648.out BK629.out (by decide)) e_) e_) (fun e_ => (fun e_ => (Kd.R_ne HO651.out BK629.out (by decide)) e_) e_))); replace BK630 := Aside0.mk (blk_kept (crb BK630) hkp (fun hs_ => Or.elim hs_ (fun e_ => (fun e_ => (Kd.R_ne HO648.out BK630.out (by decide)) e_) e_) (fun e_ => (fun e_ => (Kd.R_ne HO651.out BK630.out (by decide)) e_) e_))); have HO655 := Aside0.mk (Kd.R_mono (ok' := fun k_ => (w.heap.size ≤ k_) ∧ nO k_ v657) ho0 (fun k_ hk_ => ⟨Or.elim hk_.1 (fun hs_ => Or.elim hs_ (fun hs_ => (HO648.out.1 k_ (hs_).symm).1) (fun hs_ => (HO651.out.1 k_ (hs_).symm).1)) (fun hn_ => (Nat.le_trans (bsz HB) hn_)), hk_.2⟩)); have HO658 := Aside0.mk (Kd.R_mono (ok' := fun k_ => (w.heap.size ≤ k_) ∧ nO k_ v654) ho1 (fun k_ hk_ => ⟨Or.elim hk_.1 (fun hs_ => Or.elim hs_ (fun hs_ => (HO648.out.1 k_ (hs_).symm).1) (fun hs_ => (HO651.out.1 k_ (hs_).symm).1)) (fun hn_ => (Nat.le_trans (bsz HB) hn_)), hk_.2⟩)); replace HB := Aside0.mk (hb); clear HO648 HO651; (try clear hb); (try clear hkp); (try clear ho0); (try clear ho1); have hcz39_0 := bce BK630 0 (.bool false); have hcz39_1 := bce BK630 1 (.slice none 0 0); have hcz39_2 := bce BK630 2 (.slice none 0 0); have hfz39_0 := blk_frozen BK630.out 0; have hfz39_1 := blk_frozen BK630.out 1; have hfz39_2 := blk_frozen BK630.out 2; obtain ⟨Ao40, co40, eo40⟩ := Kd.R_slice HO655.out; subst eo40; obtain ⟨Ao41, co41, eo41⟩ := Kd.R_slice HO658.out; subst eo41))
    refine bodyPost_ret (results_ct rfl _ _ gb630 24 #[.bool t652, .slice Ao40 t653.length co40, .slice Ao41 t656.length co41] (0, 0) _ rfl (by (with_reducible repeat (first | refine blk_drewN ?_ _ | refine blk_drew ?_ | refine blk_alloc ?_ _)); refine blk_put (cs := #[.bool t652, .slice Ao40 t653.length co40, .slice none 0 0]) ?_ 2 _ rfl; (with_reducible repeat (first | refine blk_drewN ?_ _ | refine blk_drew ?_ | refine blk_alloc ?_ _)); refine blk_put (cs := #[.bool t652, .slice none 0 0, .slice none 0 0]) ?_ 1 _ rfl; (with_reducible repeat (first | refine blk_drewN ?_ _ | refine blk_drew ?_ | refine blk_alloc ?_ _)); refine blk_put (cs := #[.bool false, .slice none 0 0, .slice none 0 0]) ?_ 0 _ rfl; (with_reducible repeat (first | refine blk_drewN ?_ _ | refine blk_drew ?_ | refine blk_alloc ?_ _)); exact BK630.out) Try.underlying24 rfl (by kernel_rfl)) rfl ?_
    exact ⟨_, _, by first | rfl | (simp [errW_none, errW_some] <;> rfl) | (simp [*, errW_none, errW_some] <;> rfl), by (with_reducible repeat (first | apply Kd.R_alloc | apply Kd.R_drewN | apply Kd.R_drew)); exact Kd.R_mono (Kd.R_far (p := ⟨gb630, 2, none⟩) (Kd.R_far (p := ⟨gb630, 1, none⟩) (Kd.R_far (p := ⟨gb630, 0, none⟩) (Kd.R_types HO655.out BK630.out (by decide)) (fun _ hk => hk.2) (.bool t652)) (fun _ hk => hk.2) (.slice Ao40 t653.length co40)) (fun _ hk => hk.2) (.slice Ao41 t656.length co41)) (fun _ hk => ⟨hk.1.1, hk.1.2⟩), by (with_reducible repeat (first | apply Kd.R_alloc | apply Kd.R_drewN | apply Kd.R_drew)); exact Kd.R_mono (Kd.R_far (p := ⟨gb630, 2, none⟩) (Kd.R_far (p := ⟨gb630, 1, none⟩) (Kd.R_far (p := ⟨gb630, 0, none⟩) (Kd.R_types HO658.out BK630.out (by decide)) (fun _ hk => hk.2) (.bool t652)) (fun _ hk => hk.2) (.slice Ao40 t653.length co40)) (fun _ hk => hk.2) (.slice Ao41 t656.length co41)) (fun _ hk => ⟨hk.1.1, hk.1.2⟩), blw HB⟩
   ·
    rw [if_neg c30] at H
    have c30b0 : (x6_2 == 0) = false := beq_eq_false_iff_ne.mpr c30
    have c30b1 : (x6_2 != 0) = true := bne_iff_ne.mpr c30
    simp only [Option.some.injEq, Prod.mk.injEq] at H
    obtain ⟨rfl, rfl, rfl, rfl⟩ := H
    have hnb42 := NB630_629.out
    have hnc42 := NB629_630.out
    have hcz43_0 := bce BK630 0 (.bool false)
    have hcz43_1 := bce BK630 1 (.slice none 0 0)
    have hcz43_2 := bce BK630 2 (.slice none 0 0)
    have hfz43_0 := blk_frozen BK630.out 0
    have hfz43_1 := blk_frozen BK630.out 1
    have hfz43_2 := blk_frozen BK630.out 2
    go_wp2
    refine bodyPost_ret (results_ct rfl _ _ gb630 24 #[.bool false, .slice none 0 0, .slice none 0 0] (0, 0) _ rfl (by (with_reducible repeat (first | refine blk_drewN ?_ _ | refine blk_drew ?_ | refine blk_alloc ?_ _)); refine blk_put (cs := #[.bool false, .slice none 0 0, .slice none 0 0]) ?_ 2 _ rfl; (with_reducible repeat (first | refine blk_drewN ?_ _ | refine blk_drew ?_ | refine blk_alloc ?_ _)); refine blk_put (cs := #[.bool false, .slice none 0 0, .slice none 0 0]) ?_ 1 _ rfl; (with_reducible repeat (first | refine blk_drewN ?_ _ | refine blk_drew ?_ | refine blk_alloc ?_ _)); refine blk_put (cs := #[.bool false, .slice none 0 0, .slice none 0 0]) ?_ 0 _ rfl; (with_reducible repeat (first | refine blk_drewN ?_ _ | refine blk_drew ?_ | refine blk_alloc ?_ _)); exact BK630.out) Try.underlying24 rfl (by kernel_rfl)) rfl ?_
    exact ⟨_, _, by first | rfl | (simp [errW_none, errW_some] <;> rfl) | (simp [*, errW_none, errW_some] <;> rfl), by first | exact Kd.R_nil _ _ _ _ _ | exact Kd.N_nil _ _ _ _ _ | exact Kd.V_nil _ _ _ _ _ | exact Kd.Q_nil _ _ _ _ _ | exact Kd.S_nil _ _ _ _ _, by first | exact Kd.R_nil _ _ _ _ _ | exact Kd.N_nil _ _ _ _ _ | exact Kd.V_nil _ _ _ _ _ | exact Kd.Q_nil _ _ _ _ _ | exact Kd.S_nil _ _ _ _ _, blw HB⟩

end Go.Proofs.Ytacdaijalkkogaa.Q
