-- written by a program of this claim's session (myprint.py) out of the translation; Lean checks it.
import Derived.Test.YtacdaijalkkogaaQx0
import Derived.Test.YtacdaijalkkogaaSq
import Derived.Test.YtacdaijalkkogaaQxcmp
import Derived.Test.YtacdaijalkkogaaQxdiv
import Derived.Test.YtacdaijalkkogaaQxmul
import Derived.Test.YtacdaijalkkogaaQxsub
import Derived.Test.YtacdaijalkkogaaQxrsp
import Derived.Test.YtacdaijalkkogaaQxrmk
import Derived.Test.YtacdaijalkkogaaQxadd
namespace Go.Proofs.Ytacdaijalkkogaa.Q
open Go.RowKit Go.Proofs.YtacdaijalkkogaaW.PrintWords Go.Proofs.YtacdaijalkkogaaW.PrintLast Go.Proofs.YtacdaijalkkogaaW.PrintMore
attribute [local go_sem] max2_int min2_int max_two min_two max_three min_three max_four min_four   -- for this text's walks alone
set_option linter.unusedVariables false
set_option linter.unusedSimpArgs false

def spec_l02Pow.l0 : Nat → Int → Int → Bool → List Int → List Int → Bool → List Int → List Int → Option (Bool × List Int × List Int)
 | 0, _, _, _, _, _, _, _, _ => none
 | k + 1, x1, x6, x546000, x546001, x546002, x555000, x555001, x555002 => if x6 < x1 then ((spec_l02Mul.f k x555000 x555001 x555002 x546000 x546001 x546002).bind fun bt555 => (spec_l02Pow.l0 k x1 (wrap64 (x6 + 1)) x546000 x546001 x546002 bt555.1 bt555.2.1 bt555.2.2)) else (some (x555000, x555001, x555002))
def spec_l02Pow.f (k : Nat) (a0_0 : Bool) (l0_1 : List Int) (l0_2 : List Int) (a1 : Int) : Option (Bool × List Int × List Int) := (spec_l02Int.f k 1).bind fun bt547 => (spec_l02Pow.l0 k a1 0 a0_0 l0_1 l0_2 bt547.1 bt547.2.1 bt547.2.2)
theorem spec_l02Pow.mono_l : ∀ k, (∀ y0 y1 y2 y3 y4 y5 y6 y7, LeO (spec_l02Pow.l0 k y0 y1 y2 y3 y4 y5 y6 y7) (spec_l02Pow.l0 (k + 1) y0 y1 y2 y3 y4 y5 y6 y7))
 | 0 => fun _ _ _ _ _ _ _ _ r h => by simp [spec_l02Pow.l0] at h
 | k + 1 => by
  have ih0 := spec_l02Pow.mono_l k
  ·
   intro y0 y1 y2 y3 y4 y5 y6 y7
   unfold spec_l02Pow.l0
   repeat' first
   | (with_reducible exact ih0 _ _ _ _ _ _ _ _)
   | (with_reducible exact spec_l02Int.mono _ _)
   | (with_reducible exact spec_l02Mul.mono _ _ _ _ _ _ _)
   | (with_reducible exact LeO.refl _)
   | (with_reducible exact LeO.none _)
   | (with_reducible refine LeO.ite ?_ ?_)
   | (with_reducible refine LeO.bind ?_ (fun _ => ?_))
   | exact ih0 _ _ _ _ _ _ _ _
   | exact spec_l02Int.mono _ _
   | exact spec_l02Mul.mono _ _ _ _ _ _ _
   | exact LeO.none _
   | refine LeO.ite ?_ ?_
   | refine LeO.bind ?_ (fun _ => ?_)
theorem spec_l02Pow.mono : ∀ a0 a1 a2 a3 k, LeO (spec_l02Pow.f k a0 a1 a2 a3) (spec_l02Pow.f (k + 1) a0 a1 a2 a3) := by
 intro a0 a1 a2 a3 k
 have ih0 := spec_l02Pow.mono_l k
 unfold spec_l02Pow.f
 repeat' first
   | (with_reducible exact ih0 _ _ _ _ _ _ _ _)
   | (with_reducible exact spec_l02Int.mono _ _)
   | (with_reducible exact spec_l02Mul.mono _ _ _ _ _ _ _)
   | (with_reducible exact LeO.refl _)
   | (with_reducible exact LeO.none _)
   | (with_reducible refine LeO.ite ?_ ?_)
   | (with_reducible refine LeO.bind ?_ (fun _ => ?_))
   | exact ih0 _ _ _ _ _ _ _ _
   | exact spec_l02Int.mono _ _
   | exact spec_l02Mul.mono _ _ _ _ _ _ _
   | exact LeO.none _
   | refine LeO.ite ?_ ?_
   | refine LeO.bind ?_ (fun _ => ?_)
set_option maxHeartbeats 8000000 in
set_option maxRecDepth 100000 in
theorem spec_l02Pow.calls (k : Nat) (a0_0 : Bool) (A0_1 : Option Addr) (c0_1 : Nat) (l0_1 : List Int) (A0_2 : Option Addr) (c0_2 : Nat) (l0_2 : List Int) (a1 : Int) (r1 : Bool) (r2 : List Int) (r3 : List Int) (w : World) (hr0_1 : Kd.C (Kd.int .i64) w A0_1 l0_1.length l0_1) (hc0_1 : l0_1.length ≤ c0_1) (hr0_2 : Kd.C (Kd.int .i64) w A0_2 l0_2.length l0_2) (hc0_2 : l0_2.length ≤ c0_2) (h : spec_l02Pow.f k a0_0 l0_1 l0_2 a1 = some (r1, r2, r3)) :
  Calls Try.prog 82 #[.agg #[.bool a0_0, .slice A0_1 l0_1.length c0_1, .slice A0_2 l0_2.length c0_2], .int .i64 a1] w fun e w' => ∃ v1_ v2_ : Value, e = .returned (.agg #[.bool r1, v1_, v2_]) ∧ Kd.R (Kd.int .i64) 3 w' w.heap.size (fun k_ => nO k_ v2_) v1_ r2 ∧ Kd.R (Kd.int .i64) 3 w' w.heap.size (fun k_ => nO k_ v1_) v2_ r3 ∧ Below w.heap.size w w' := by
 have hu24 := Try.underlying24
 have HR0_1 := Aside0.mk hr0_1
 have HC0_1 := Aside0.mk hc0_1
 clear hr0_1 hc0_1
 have HR0_2 := Aside0.mk hr0_2
 have HC0_2 := Aside0.mk hc0_2
 clear hr0_2 hc0_2
 have HB := Aside0.mk (Below.refl w.heap.size w)
 have H : ((spec_l02Int.f k 1).bind fun bt547 => (spec_l02Pow.l0 k a1 0 a0_0 l0_1 l0_2 bt547.1 bt547.2.1 bt547.2.2)) = some (r1, r2, r3) := h
 clear h
 replace H := Option.bind_eq_some_iff.mp H
 obtain ⟨⟨t547, t548, t551⟩, A30, H⟩ := H
 replace H : (spec_l02Pow.l0 k a1 0 a0_0 l0_1 l0_2 t547 t548 t551) = some (r1, r2, r3) := H
 have A3 := Aside0.mk A30
 clear A30
 have H' := Aside0.mk H
 clear H
 go_enter Try.func82, Try.ntmps82
 go_wp2_with (first | ((with_reducible refine gate_dst (N := 2) rfl ?_); refine box_event ?hg (N := 2) ?hd (cs := #[.bool a0_0, .slice A0_1 l0_1.length c0_1, .slice A0_2 l0_2.length c0_2]) (t := 24) ?hr ?_; (case hd => rfl); (case hg => rfl); (case hr => first | (go_simp; done) | (go_simp; rfl)); intro gb545 hg w4 hbox hb; have BK545 := Aside0.mk (hbox); have GW545 := geh hg HB; have GE545 := geh hg HB; replace HB := bst HB hb; clear hb hbox hg) | ((with_reducible refine gate_dst (N := 4) rfl ?_); refine box_event ?hg (N := 4) ?hd (cs := #[.bool false, .slice none 0 0, .slice none 0 0]) (t := 24) ?hr ?_; (case hd => rfl); (case hg => rfl); (case hr => first | (go_simp; done) | (go_simp; rfl)); intro gb546 hg w5 hbox hb; have BK546 := Aside0.mk (hbox); have GW546 := geh hg HB; have GE546 := geh hg HB; replace HB := bst HB hb; have NB545_546 := nlt hg BK545; have NB546_545 := ngt hg BK545; replace BK545 := bkb BK545 hb; clear hb hbox hg) | ((with_reducible refine gate_callee (f := 46) rfl ?_); refine goesL_ (some 7) rfl rfl Try.func46 (by kernel_rfl) rfl #[.int .i64 1] rfl (by (try simp only [List.map_toArray, List.map_cons, List.map_nil]); first | done | rfl | (simp only [List.length_drop, List.length_take]; rfl)) ?_; (with_reducible refine (spec_l02Int.calls k 1 t547 t548 t551 _ A3.out).mono ?_); rintro e w6 ⟨v549, v552, rfl, ho0, ho1, hb⟩; refine ⟨_, rfl, ?_⟩; have HO550 := lwR ho0 HB; have HO553 := lwR ho1 HB; replace BK545 := bkb BK545 hb; replace BK546 := bkb BK546 hb; replace HB := bst HB hb; (try clear hb); (try clear hb2); (try clear hk); (try clear hi); (try clear ho0); (try clear ho1)) | ((with_reducible refine gate_dst (N := 5) rfl ?_); refine box_event ?hg (N := 5) ?hd (cs := #[.bool false, .slice none 0 0, .slice none 0 0]) (t := 24) ?hr ?_; (case hd => rfl); (case hg => rfl); (case hr => first | (go_simp; done) | (go_simp; rfl)); intro gb554 hg w7 hbox hb; replace HO550 := rblR HO550 hb; replace HO553 := rblR HO553 hb; have BK554 := Aside0.mk (hbox); have GW554 := geh hg HB; have GE554 := geh hg HB; replace HB := bst HB hb; have NB545_554 := nlt hg BK545; have NB554_545 := ngt hg BK545; replace BK545 := bkb BK545 hb; have NB546_554 := nlt hg BK546; have NB554_546 := ngt hg BK546; replace BK546 := bkb BK546 hb; clear hb hbox hg; have hnb8 := NB554_545.out; have hnc8 := NB545_554.out; have hnb9 := NB554_546.out; have hnc9 := NB546_554.out; have hcz10_0 := bce BK554 0 (.bool false); have hcz10_1 := bce BK554 1 (.slice none 0 0); have hcz10_2 := bce BK554 2 (.slice none 0 0); have hfz10_0 := blk_frozen BK554.out 0; have hfz10_1 := blk_frozen BK554.out 1; have hfz10_2 := blk_frozen BK554.out 2; obtain ⟨Ao11, co11, eo11⟩ := Kd.R_slice HO550.out; subst eo11; obtain ⟨Ao12, co12, eo12⟩ := Kd.R_slice HO553.out; subst eo12))
 go_loopg [6] k (fun kq v6 w' => ∃ (x6_1 : Int) (x555000_1 : Bool) (x555001_1 : List Int) (x555002_1 : List Int) (u555001 : Value) (u555002 : Value), v6 = .int .i64 x6_1 ∧ Aside0 (spec_l02Pow.l0 kq a1 x6_1 a0_0 l0_1 l0_2 x555000_1 x555001_1 x555002_1 = some (r1, r2, r3)) ∧ Aside0 (kq ≤ k) ∧ Aside0 (Kd.R (Kd.int .i64) 3 w' w.heap.size (fun k_ => nO k_ u555002) u555001 x555001_1) ∧ Aside0 (Kd.R (Kd.int .i64) 3 w' w.heap.size (fun k_ => nO k_ u555001) u555002 x555002_1) ∧ Aside0 (w'.heap[gb545]? = some (.cells #[.bool a0_0, (.slice A0_1 l0_1.length c0_1), (.slice A0_2 l0_2.length c0_2)] 24 (0, 0))) ∧ Aside0 (w'.heap[gb546]? = some (.cells #[.bool false, (.slice none 0 0), (.slice none 0 0)] 24 (0, 0))) ∧ Aside0 (w'.heap[gb554]? = some (.cells #[.bool x555000_1, u555001, u555002] 24 (0, 0))) ∧ Aside0 (Below w.heap.size w w'))
 case atStart => exact ⟨(0), (t547), (t548), (t551), (.slice Ao11 t548.length co11), (.slice Ao12 t551.length co12), (by first | rfl | (simp; done) | (simp [*]; done)), H', ⟨Nat.le_refl _⟩, ⟨by (with_reducible repeat (first | apply Kd.R_alloc | apply Kd.R_drewN | apply Kd.R_drew)); exact Kd.R_mono (Kd.R_far (p := ⟨gb554, 2, none⟩) (Kd.R_far (p := ⟨gb554, 1, none⟩) (Kd.R_far (p := ⟨gb554, 0, none⟩) (Kd.R_types HO550.out BK554.out (by decide)) (fun _ hk => hk.2) (.bool t547)) (fun _ hk => hk.2) (.slice Ao11 t548.length co11)) (fun _ hk => hk.2) (.slice Ao12 t551.length co12)) (fun _ hk => hk.1)⟩, ⟨by (with_reducible repeat (first | apply Kd.R_alloc | apply Kd.R_drewN | apply Kd.R_drew)); exact Kd.R_mono (Kd.R_far (p := ⟨gb554, 2, none⟩) (Kd.R_far (p := ⟨gb554, 1, none⟩) (Kd.R_far (p := ⟨gb554, 0, none⟩) (Kd.R_types HO553.out BK554.out (by decide)) (fun _ hk => hk.2) (.bool t547)) (fun _ hk => hk.2) (.slice Ao11 t548.length co11)) (fun _ hk => hk.2) (.slice Ao12 t551.length co12)) (fun _ hk => hk.1)⟩, ⟨by (with_reducible repeat (first | refine blk_drewN ?_ _ | refine blk_drew ?_ | refine blk_alloc ?_ _)); refine blk_far ?_ NB545_554.out _; (with_reducible repeat (first | refine blk_drewN ?_ _ | refine blk_drew ?_ | refine blk_alloc ?_ _)); refine blk_far ?_ NB545_554.out _; (with_reducible repeat (first | refine blk_drewN ?_ _ | refine blk_drew ?_ | refine blk_alloc ?_ _)); refine blk_far ?_ NB545_554.out _; (with_reducible repeat (first | refine blk_drewN ?_ _ | refine blk_drew ?_ | refine blk_alloc ?_ _)); exact BK545.out⟩, ⟨by (with_reducible repeat (first | refine blk_drewN ?_ _ | refine blk_drew ?_ | refine blk_alloc ?_ _)); refine blk_far ?_ NB546_554.out _; (with_reducible repeat (first | refine blk_drewN ?_ _ | refine blk_drew ?_ | refine blk_alloc ?_ _)); refine blk_far ?_ NB546_554.out _; (with_reducible repeat (first | refine blk_drewN ?_ _ | refine blk_drew ?_ | refine blk_alloc ?_ _)); refine blk_far ?_ NB546_554.out _; (with_reducible repeat (first | refine blk_drewN ?_ _ | refine blk_drew ?_ | refine blk_alloc ?_ _)); exact BK546.out⟩, ⟨by (with_reducible repeat (first | refine blk_drewN ?_ _ | refine blk_drew ?_ | refine blk_alloc ?_ _)); refine blk_put (cs := #[.bool t547, .slice Ao11 t548.length co11, .slice none 0 0]) ?_ 2 _ rfl; (with_reducible repeat (first | refine blk_drewN ?_ _ | refine blk_drew ?_ | refine blk_alloc ?_ _)); refine blk_put (cs := #[.bool t547, .slice none 0 0, .slice none 0 0]) ?_ 1 _ rfl; (with_reducible repeat (first | refine blk_drewN ?_ _ | refine blk_drew ?_ | refine blk_alloc ?_ _)); refine blk_put (cs := #[.bool false, .slice none 0 0, .slice none 0 0]) ?_ 0 _ rfl; (with_reducible repeat (first | refine blk_drewN ?_ _ | refine blk_drew ?_ | refine blk_alloc ?_ _)); exact BK554.out⟩, ⟨blw HB⟩⟩
 case round =>
  clear H'
  try clear p2
  try clear c4
  try clear c8
  try clear c9
  try clear hcz10_0
  try clear hcz10_1
  try clear hcz10_2
  try clear hfz10_0
  try clear hfz10_1
  try clear hfz10_2
  obtain ⟨x6_1, x555000_1, x555001_1, x555002_1, u555001, u555002, rfl, HA, HK1, HO_555001, HO_555002, BK545, BK546, BK554, HB⟩ := hrel
  cases gk with
  | zero => exact absurd HA.out (by simp [spec_l02Pow.l0])
  | succ k1 =>
   have H := HA.out
   clear HA
   simp only [spec_l02Pow.l0] at H
   by_cases c13 : x6_1 < a1
   ·
    rw [if_pos c13] at H
    have c13b0 : decide (x6_1 < a1) = true := decide_eq_true c13
    clear c13
    replace H := Option.bind_eq_some_iff.mp H
    obtain ⟨⟨t555, t556, t559⟩, A140, H⟩ := H
    replace H : (spec_l02Pow.l0 k1 a1 (wrap64 (x6_1 + 1)) a0_0 l0_1 l0_2 t555 t556 t559) = some (r1, r2, r3) := H
    have A14 := Aside0.mk A140
    clear A140
    have H' := Aside0.mk H
    clear H
    have hnb15 := NB554_545.out
    have hnc15 := NB545_554.out
    have hnb16 := NB554_546.out
    have hnc16 := NB546_554.out
    have hcz17_0 := bce BK554 0 (.bool x555000_1)
    have hcz17_1 := bce BK554 1 (u555001)
    have hcz17_2 := bce BK554 2 (u555002)
    have hfz17_0 := blk_frozen BK554.out 0
    have hfz17_1 := blk_frozen BK554.out 1
    have hfz17_2 := blk_frozen BK554.out 2
    have hnb18 := NB545_546.out
    have hnc18 := NB546_545.out
    have hcz19_0 := bce BK545 0 (.bool a0_0)
    have hcz19_1 := bce BK545 1 (.slice A0_1 l0_1.length c0_1)
    have hcz19_2 := bce BK545 2 (.slice A0_2 l0_2.length c0_2)
    have hfz19_0 := blk_frozen BK545.out 0
    have hfz19_1 := blk_frozen BK545.out 1
    have hfz19_2 := blk_frozen BK545.out 2
    obtain ⟨Ao20, co20, eo20⟩ := Kd.R_slice HO_555001.out
    subst eo20
    obtain ⟨Ao21, co21, eo21⟩ := Kd.R_slice HO_555002.out
    subst eo21
    go_wp2_with (first | ((with_reducible refine gate_callee (f := 71) rfl ?_); refine goesL_ (some 15) rfl rfl Try.func71 (by kernel_rfl) rfl #[.agg #[.bool x555000_1, .slice Ao20 x555001_1.length co20, .slice Ao21 x555002_1.length co21], .agg #[.bool a0_0, .slice A0_1 l0_1.length c0_1, .slice A0_2 l0_2.length c0_2]] rfl (by (try simp only [List.map_toArray, List.map_cons, List.map_nil]); first | done | rfl | (simp only [List.length_drop, List.length_take]; rfl)) ?_; (with_reducible refine (spec_l02Mul.calls k1 x555000_1 _ _ x555001_1 _ _ x555002_1 a0_0 _ _ l0_1 _ _ l0_2 t555 t556 t559 _ ?side1 ?side2 ?side3 ?side4 ?side5 ?side6 ?side7 ?side8 A14.out).mono ?_); (case side1 => exact crC (Kd.R_reads' HO_555001.out).2.2); (case side2 => exact (Kd.R_reads' HO_555001.out).2.1); (case side3 => exact crC (Kd.R_reads' HO_555002.out).2.2); (case side4 => exact (Kd.R_reads' HO_555002.out).2.1); (case side5 => exact crC (Kd.C_below HR0_1.out HB.out)); (case side6 => exact HC0_1.out); (case side7 => exact crC (Kd.C_below HR0_2.out HB.out)); (case side8 => exact HC0_2.out); rintro e w22 ⟨v557, v560, rfl, ho0, ho1, hb⟩; refine ⟨_, rfl, ?_⟩; have HO558 := lwR (nwR (nwR ho0 HO_555001) HO_555002) HB; have HO561 := lwR (nwR (nwR ho1 HO_555001) HO_555002) HB; replace HO_555001 := tldR HO_555001 hb (Kd.R_base ho0) (Kd.R_base ho1); replace HO_555002 := tldR HO_555002 hb (Kd.R_base ho0) (Kd.R_base ho1); replace BK545 := bkb BK545 hb; replace BK546 := bkb BK546 hb; replace BK554 := bkb BK554 hb; replace HB := bst HB hb; (try clear hb); (try clear hb2); (try clear hk); (try clear hi); (try clear ho0); (try clear ho1); have hcz23_0 := bce BK554 0 (.bool x555000_1); have hcz23_1 := bce BK554 1 (.slice Ao20 x555001_1.length co20); have hcz23_2 := bce BK554 2 (.slice Ao21 x555002_1.length co21); have hfz23_0 := blk_frozen BK554.out 0; have hfz23_1 := blk_frozen BK554.out 1; have hfz23_2 := blk_frozen BK554.out 2; obtain ⟨Ao24, co24, eo24⟩ := Kd.R_slice HO558.out; subst eo24; obtain ⟨Ao25, co25, eo25⟩ := Kd.R_slice HO561.out; subst eo25))
    go_roundg k1
    case measure => have := HK1.out; omega
    case rel => exact ⟨(wrap64 (x6_1 + 1)), (t555), (t556), (t559), (.slice Ao24 t556.length co24), (.slice Ao25 t559.length co25), (by first | rfl | (simp; done) | (simp [*]; done)), H', ⟨by have := HK1.out; omega⟩, ⟨by (with_reducible repeat (first | apply Kd.R_alloc | apply Kd.R_drewN | apply Kd.R_drew)); exact Kd.R_mono (Kd.R_far (p := ⟨gb554, 2, none⟩) (Kd.R_far (p := ⟨gb554, 1, none⟩) (Kd.R_far (p := ⟨gb554, 0, none⟩) (Kd.R_types HO558.out BK554.out (by decide)) (fun _ hk => hk.2) (.bool t555)) (fun _ hk => hk.2) (.slice Ao24 t556.length co24)) (fun _ hk => hk.2) (.slice Ao25 t559.length co25)) (fun _ hk => hk.1.1.1)⟩, ⟨by (with_reducible repeat (first | apply Kd.R_alloc | apply Kd.R_drewN | apply Kd.R_drew)); exact Kd.R_mono (Kd.R_far (p := ⟨gb554, 2, none⟩) (Kd.R_far (p := ⟨gb554, 1, none⟩) (Kd.R_far (p := ⟨gb554, 0, none⟩) (Kd.R_types HO561.out BK554.out (by decide)) (fun _ hk => hk.2) (.bool t555)) (fun _ hk => hk.2) (.slice Ao24 t556.length co24)) (fun _ hk => hk.2) (.slice Ao25 t559.length co25)) (fun _ hk => hk.1.1.1)⟩, ⟨by (with_reducible repeat (first | refine blk_drewN ?_ _ | refine blk_drew ?_ | refine blk_alloc ?_ _)); refine blk_far ?_ NB545_554.out _; (with_reducible repeat (first | refine blk_drewN ?_ _ | refine blk_drew ?_ | refine blk_alloc ?_ _)); refine blk_far ?_ NB545_554.out _; (with_reducible repeat (first | refine blk_drewN ?_ _ | refine blk_drew ?_ | refine blk_alloc ?_ _)); refine blk_far ?_ NB545_554.out _; (with_reducible repeat (first | refine blk_drewN ?_ _ | refine blk_drew ?_ | refine blk_alloc ?_ _)); exact BK545.out⟩, ⟨by (with_reducible repeat (first | refine blk_drewN ?_ _ | refine blk_drew ?_ | refine blk_alloc ?_ _)); refine blk_far ?_ NB546_554.out _; (with_reducible repeat (first | refine blk_drewN ?_ _ | refine blk_drew ?_ | refine blk_alloc ?_ _)); refine blk_far ?_ NB546_554.out _; (with_reducible repeat (first | refine blk_drewN ?_ _ | refine blk_drew ?_ | refine blk_alloc ?_ _)); refine blk_far ?_ NB546_554.out _; (with_reducible repeat (first | refine blk_drewN ?_ _ | refine blk_drew ?_ | refine blk_alloc ?_ _)); exact BK546.out⟩, ⟨by (with_reducible repeat (first | refine blk_drewN ?_ _ | refine blk_drew ?_ | refine blk_alloc ?_ _)); refine blk_put (cs := #[.bool t555, .slice Ao24 t556.length co24, .slice Ao21 x555002_1.length co21]) ?_ 2 _ rfl; (with_reducible repeat (first | refine blk_drewN ?_ _ | refine blk_drew ?_ | refine blk_alloc ?_ _)); refine blk_put (cs := #[.bool t555, .slice Ao20 x555001_1.length co20, .slice Ao21 x555002_1.length co21]) ?_ 1 _ rfl; (with_reducible repeat (first | refine blk_drewN ?_ _ | refine blk_drew ?_ | refine blk_alloc ?_ _)); refine blk_put (cs := #[.bool x555000_1, .slice Ao20 x555001_1.length co20, .slice Ao21 x555002_1.length co21]) ?_ 0 _ rfl; (with_reducible repeat (first | refine blk_drewN ?_ _ | refine blk_drew ?_ | refine blk_alloc ?_ _)); exact BK554.out⟩, ⟨blw HB⟩⟩
   ·
    rw [if_neg c13] at H
    have c13b0 : decide (x6_1 < a1) = false := decide_eq_false c13
    clear c13
    simp only [Option.some.injEq, Prod.mk.injEq] at H
    obtain ⟨rfl, rfl, rfl⟩ := H
    have hnb26 := NB554_545.out
    have hnc26 := NB545_554.out
    have hnb27 := NB554_546.out
    have hnc27 := NB546_554.out
    have hcz28_0 := bce BK554 0 (.bool x555000_1)
    have hcz28_1 := bce BK554 1 (u555001)
    have hcz28_2 := bce BK554 2 (u555002)
    have hfz28_0 := blk_frozen BK554.out 0
    have hfz28_1 := blk_frozen BK554.out 1
    have hfz28_2 := blk_frozen BK554.out 2
    have hnb29 := NB546_545.out
    have hnc29 := NB545_546.out
    have hcz30_0 := bce BK546 0 (.bool false)
    have hcz30_1 := bce BK546 1 (.slice none 0 0)
    have hcz30_2 := bce BK546 2 (.slice none 0 0)
    have hfz30_0 := blk_frozen BK546.out 0
    have hfz30_1 := blk_frozen BK546.out 1
    have hfz30_2 := blk_frozen BK546.out 2
    obtain ⟨Ao31, co31, eo31⟩ := Kd.R_slice HO_555001.out
    subst eo31
    obtain ⟨Ao32, co32, eo32⟩ := Kd.R_slice HO_555002.out
    subst eo32
    go_wp2
    refine bodyPost_ret (results_cell_row rfl _ _ gb546 24 #[.bool x555000_1, .slice Ao31 x555001_1.length co31, .slice Ao32 x555002_1.length co32] (0, 0) _ rfl (by (with_reducible repeat (first | refine blk_drewN ?_ _ | refine blk_drew ?_ | refine blk_alloc ?_ _)); refine blk_put (cs := #[.bool x555000_1, .slice Ao31 x555001_1.length co31, .slice none 0 0]) ?_ 2 _ rfl; (with_reducible repeat (first | refine blk_drewN ?_ _ | refine blk_drew ?_ | refine blk_alloc ?_ _)); refine blk_put (cs := #[.bool x555000_1, .slice none 0 0, .slice none 0 0]) ?_ 1 _ rfl; (with_reducible repeat (first | refine blk_drewN ?_ _ | refine blk_drew ?_ | refine blk_alloc ?_ _)); refine blk_put (cs := #[.bool false, .slice none 0 0, .slice none 0 0]) ?_ 0 _ rfl; (with_reducible repeat (first | refine blk_drewN ?_ _ | refine blk_drew ?_ | refine blk_alloc ?_ _)); exact BK546.out) Try.underlying24 rfl (by kernel_rfl)) rfl ?_
    exact ⟨_, _, by first | rfl | (simp [errW_none, errW_some] <;> rfl) | (simp [*, errW_none, errW_some] <;> rfl), by (with_reducible repeat (first | apply Kd.R_alloc | apply Kd.R_drewN | apply Kd.R_drew)); exact Kd.R_mono (Kd.R_far (p := ⟨gb546, 2, none⟩) (Kd.R_far (p := ⟨gb546, 1, none⟩) (Kd.R_far (p := ⟨gb546, 0, none⟩) (Kd.R_types HO_555001.out BK546.out (by decide)) (fun _ hk => hk.2) (.bool x555000_1)) (fun _ hk => hk.2) (.slice Ao31 x555001_1.length co31)) (fun _ hk => hk.2) (.slice Ao32 x555002_1.length co32)) (fun _ hk => hk.1), by (with_reducible repeat (first | apply Kd.R_alloc | apply Kd.R_drewN | apply Kd.R_drew)); exact Kd.R_mono (Kd.R_far (p := ⟨gb546, 2, none⟩) (Kd.R_far (p := ⟨gb546, 1, none⟩) (Kd.R_far (p := ⟨gb546, 0, none⟩) (Kd.R_types HO_555002.out BK546.out (by decide)) (fun _ hk => hk.2) (.bool x555000_1)) (fun _ hk => hk.2) (.slice Ao31 x555001_1.length co31)) (fun _ hk => hk.2) (.slice Ao32 x555002_1.length co32)) (fun _ hk => hk.1), blw HB⟩

end Go.Proofs.Ytacdaijalkkogaa.Q
