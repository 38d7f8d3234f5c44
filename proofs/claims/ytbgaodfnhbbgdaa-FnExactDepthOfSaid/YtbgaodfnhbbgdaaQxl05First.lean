-- written by a program of this claim's session (myprint.py) out of the translation; Lean checks it.
import Derived.Test.YtbgaodfnhbbgdaaQx0
import Derived.Test.YtbgaodfnhbbgdaaQxl05Two
import Derived.Test.YtbgaodfnhbbgdaaQxl05One
namespace Go.Proofs.Ytbgaodfnhbbgdaa.Q
open Go.RowKit Go.Proofs.YtbgaodfnhbbgdaaW.PrintWords Go.Proofs.YtbgaodfnhbbgdaaW.PrintLast Go.Proofs.YtbgaodfnhbbgdaaW.PrintMore
attribute [local go_sem] max2_int min2_int max_two min_two max_three min_three max_four min_four   -- for this text's walks alone
set_option linter.unusedVariables false
set_option linter.unusedSimpArgs false

def spec_l05First.l0 : Nat → Int → List (S46) → Int → Int → Int → Int → Option (Int)
  | 0, _, _, _, _, _, _ => none
  | k + 1, x1, x271000, x273000, x273001, x273002, x273003 => (spec_l05Two.f x273000).bind fun t273 => (if t273 = true then (if 0 ≤ x273001 then (if x273001 < (x271000.length : Int) then (spec_l05First.l0 k x273001 x271000 ((rd_T46 x271000 x273001).f0) ((rd_T46 x271000 x273001).f1) ((rd_T46 x271000 x273001).f2) ((rd_T46 x271000 x273001).f3)) else (none)) else (none)) else ((spec_l05One.f x273000).bind fun t275 => (if t275 = true then (if 0 ≤ x273001 then (if x273001 < (x271000.length : Int) then (spec_l05First.l0 k x273001 x271000 ((rd_T46 x271000 x273001).f0) ((rd_T46 x271000 x273001).f1) ((rd_T46 x271000 x273001).f2) ((rd_T46 x271000 x273001).f3)) else (none)) else (none)) else (some x1))))
def spec_l05First.f (k : Nat) (l0_0 : List (S46)) (a1 : Int) : Option (Int) := if 0 ≤ a1 then (if a1 < (l0_0.length : Int) then (spec_l05First.l0 k a1 l0_0 ((rd_T46 l0_0 a1).f0) ((rd_T46 l0_0 a1).f1) ((rd_T46 l0_0 a1).f2) ((rd_T46 l0_0 a1).f3)) else (none)) else (none)
theorem spec_l05First.mono_l : ∀ k, (∀ y0 y1 y2 y3 y4 y5, LeO (spec_l05First.l0 k y0 y1 y2 y3 y4 y5) (spec_l05First.l0 (k + 1) y0 y1 y2 y3 y4 y5))
  | 0 => fun _ _ _ _ _ _ r h => by simp [spec_l05First.l0] at h
  | k + 1 => by
    have ih0 := spec_l05First.mono_l k
    · intro y0 y1 y2 y3 y4 y5
      unfold spec_l05First.l0
      repeat' first
      | (with_reducible exact ih0 _ _ _ _ _ _)
      | (with_reducible exact LeO.refl _)
      | (with_reducible exact LeO.none _)
      | (with_reducible refine LeO.ite ?_ ?_)
      | (with_reducible refine LeO.bind ?_ (fun _ => ?_))
      | exact ih0 _ _ _ _ _ _
      | exact LeO.none _
      | refine LeO.ite ?_ ?_
      | refine LeO.bind ?_ (fun _ => ?_)
theorem spec_l05First.mono : ∀ a0 a1 k, LeO (spec_l05First.f k a0 a1) (spec_l05First.f (k + 1) a0 a1) := by
  intro a0 a1 k
  have ih0 := spec_l05First.mono_l k
  unfold spec_l05First.f
  repeat' first
      | (with_reducible exact ih0 _ _ _ _ _ _)
      | (with_reducible exact LeO.refl _)
      | (with_reducible exact LeO.none _)
      | (with_reducible refine LeO.ite ?_ ?_)
      | (with_reducible refine LeO.bind ?_ (fun _ => ?_))
      | exact ih0 _ _ _ _ _ _
      | exact LeO.none _
      | refine LeO.ite ?_ ?_
      | refine LeO.bind ?_ (fun _ => ?_)
set_option maxHeartbeats 8000000 in
set_option maxRecDepth 100000 in
theorem spec_l05First.calls (k : Nat) (A0_0 : Option Addr) (c0_0 : Nat) (l0_0 : List (S46)) (a1 : Int) (r : Int) (w : World) (hr0_0 : Kd.C k46 w A0_0 l0_0.length l0_0) (hc0_0 : l0_0.length ≤ c0_0) (h : spec_l05First.f k l0_0 a1 = some r) :
    Calls Try.prog 54 #[.agg #[.slice A0_0 l0_0.length c0_0], .int .i64 a1] w fun e w' => e = .returned (.int .i64 r) ∧ Below w.heap.size w w' := by
  have hu41 := Try.underlying41
  have hu46 := Try.underlying46
  have HR0_0 := Aside0.mk hr0_0
  have HC0_0 := Aside0.mk hc0_0
  clear hr0_0 hc0_0
  have HB := Aside0.mk (Below.refl w.heap.size w)
  have H : (if 0 ≤ a1 then (if a1 < (l0_0.length : Int) then (spec_l05First.l0 k a1 l0_0 ((rd_T46 l0_0 a1).f0) ((rd_T46 l0_0 a1).f1) ((rd_T46 l0_0 a1).f2) ((rd_T46 l0_0 a1).f3)) else (none)) else (none)) = some r := h
  clear h
  by_cases c3 : 0 ≤ a1
  · rw [if_pos c3] at H
    have c3b0 : decide (0 ≤ a1) = true := decide_eq_true c3
    clear c3
    by_cases c4 : a1 < (l0_0.length : Int)
    · rw [if_pos c4] at H
      have c4b0 : decide (a1 < (l0_0.length : Int)) = true := decide_eq_true c4
      clear c4
      have H' := Aside0.mk H
      clear H
      go_enter Try.func54, Try.ntmps54
      go_wp2_with (first | ((with_reducible refine gate_dst (N := 2) rfl ?_); refine box_event ?hg (N := 2) ?hd (cs := #[.slice A0_0 l0_0.length c0_0]) (t := 41) ?hr ?_; (case hd => rfl); (case hg => rfl); (case hr => first | (go_simp; done) | (go_simp; rfl)); intro gb270 hg w5 hbox hb; have n0_ := Aside0.mk (below_step (by repeat (first | (with_reducible first | exact HB.out | apply below_alloc | apply pw_below_drewN | apply below_drew1) | exact HB.out)) hb); have n1_ := Aside0.mk (hbox); have n2_ := Aside0.mk ((by rw [hg]; exact (below_size (by repeat (first | (with_reducible first | exact HB.out | apply below_alloc | apply pw_below_drewN | apply below_drew1) | exact HB.out))) : w.heap.size ≤ gb270)); have n3_ := Aside0.mk ((by rw [hg]; exact (below_size (by repeat (first | (with_reducible first | exact HB.out | apply below_alloc | apply pw_below_drewN | apply below_drew1) | exact HB.out))) : w.heap.size ≤ gb270)); clear HB; have HB := n0_; have BK270 := n1_; have GW270 := n2_; have GE270 := n3_; clear n0_ n1_ n2_ n3_; clear hb hbox hg; have hcz6_0 : w5.cell? ⟨gb270, 0, none⟩ = some (.slice A0_0 l0_0.length c0_0) := (blk_cell BK270.out 0).trans rfl; have hfz6_0 := blk_frozen BK270.out 0; have p271 : 0 ≤ (a1 : Int) := of_decide_eq_true (by first | (with_reducible assumption) | assumption); have q271 : a1 < (l0_0.length : Int) := of_decide_eq_true (by first | (with_reducible assumption) | assumption); obtain ⟨ad271, e271, hx271_0, hx271_1, hx271_2, hx271_3⟩ := at_T46 HR0_0.out a1 p271 q271; cases e271; replace hx271_0 := (HB.out.cell (World.block_lt_of_cell? w _ hx271_0)).trans hx271_0; replace hx271_1 := (HB.out.cell (World.block_lt_of_cell? w _ hx271_1)).trans hx271_1; replace hx271_2 := (HB.out.cell (World.block_lt_of_cell? w _ hx271_2)).trans hx271_2; replace hx271_3 := (HB.out.cell (World.block_lt_of_cell? w _ hx271_3)).trans hx271_3; replace p271 := eq_true p271; replace q271 := eq_true q271) | ((with_reducible refine gate_dst (N := 5) rfl ?_); refine box_event ?hg (N := 5) ?hd (cs := #[.int .i64 0, .int .i64 0, .int .i64 0, .int .i64 0]) (t := 46) ?hr ?_; (case hd => rfl); (case hg => rfl); (case hr => first | (go_simp; done) | (go_simp; rfl)); intro gb272 hg w7 hbox hb; have n0_ := Aside0.mk (blk_below (g := gb270) (o := .cells #[.slice (some ad271) l0_0.length c0_0] 41 (0, 0)) (by (with_reducible repeat (first | refine blk_drewN ?_ _ | refine blk_drew ?_ | refine blk_alloc ?_ _)); exact BK270.out) hb); have n1_ := Aside0.mk (below_step (by repeat (first | (with_reducible first | exact HB.out | apply below_alloc | apply pw_below_drewN | apply below_drew1 | refine below_set ?_ GE270.out) | exact HB.out)) hb); have n2_ := Aside0.mk (hbox); have n3_ := Aside0.mk ((by rw [hg]; exact (below_size (by repeat (first | (with_reducible first | exact HB.out | apply below_alloc | apply pw_below_drewN | apply below_drew1 | refine below_set ?_ GE270.out) | exact HB.out))) : w.heap.size ≤ gb272)); have n4_ := Aside0.mk ((by rw [hg]; exact (below_size (by repeat (first | (with_reducible first | exact HB.out | apply below_alloc | apply pw_below_drewN | apply below_drew1 | refine below_set ?_ GE270.out) | exact HB.out))) : w.heap.size ≤ gb272)); have n5_ := Aside0.mk ((by rw [hg]; exact Nat.ne_of_lt (blk_lt (g := gb270) (o := .cells #[.slice (some ad271) l0_0.length c0_0] 41 (0, 0)) (by (with_reducible repeat (first | refine blk_drewN ?_ _ | refine blk_drew ?_ | refine blk_alloc ?_ _)); exact BK270.out)) : gb270 ≠ gb272)); have n6_ := Aside0.mk ((by rw [hg]; exact Nat.ne_of_gt (blk_lt (g := gb270) (o := .cells #[.slice (some ad271) l0_0.length c0_0] 41 (0, 0)) (by (with_reducible repeat (first | refine blk_drewN ?_ _ | refine blk_drew ?_ | refine blk_alloc ?_ _)); exact BK270.out)) : gb272 ≠ gb270)); clear BK270; clear HB; have BK270 := n0_; have HB := n1_; have BK272 := n2_; have GW272 := n3_; have GE272 := n4_; have NB270_272 := n5_; have NB272_270 := n6_; clear n0_ n1_ n2_ n3_ n4_ n5_ n6_; clear hb hbox hg; have hnb8 := NB272_270.out; have hnc8 := NB270_272.out; have hcz9_0 : w7.cell? ⟨gb272, 0, none⟩ = some (.int .i64 0) := (blk_cell BK272.out 0).trans rfl; have hcz9_1 : w7.cell? ⟨gb272, 1, none⟩ = some (.int .i64 0) := (blk_cell BK272.out 1).trans rfl; have hcz9_2 : w7.cell? ⟨gb272, 2, none⟩ = some (.int .i64 0) := (blk_cell BK272.out 2).trans rfl; have hcz9_3 : w7.cell? ⟨gb272, 3, none⟩ = some (.int .i64 0) := (blk_cell BK272.out 3).trans rfl; have hfz9_0 := blk_frozen BK272.out 0; have hfz9_1 := blk_frozen BK272.out 1; have hfz9_2 := blk_frozen BK272.out 2; have hfz9_3 := blk_frozen BK272.out 3))
      go_loopg [1] k (fun kq v1 w' => ∃ (x1_1 : Int) (x273000_1 : Int) (x273001_1 : Int) (x273002_1 : Int) (x273003_1 : Int), v1 = .int .i64 x1_1 ∧ Aside0 (spec_l05First.l0 kq x1_1 l0_0 x273000_1 x273001_1 x273002_1 x273003_1 = some r) ∧ Aside0 (kq ≤ k) ∧ Aside0 (w'.heap[gb270]? = some (.cells #[(.slice (some ad271) l0_0.length c0_0)] 41 (0, 0))) ∧ Aside0 (w'.heap[gb272]? = some (.cells #[.int .i64 x273000_1, .int .i64 x273001_1, .int .i64 x273002_1, .int .i64 x273003_1] 46 (0, 0))) ∧ Aside0 (Below w.heap.size w w'))
      case atStart => exact ⟨(a1), ((rd_T46 l0_0 a1).f0), ((rd_T46 l0_0 a1).f1), ((rd_T46 l0_0 a1).f2), ((rd_T46 l0_0 a1).f3), (by first | rfl | (simp; done) | (simp [*]; done)), H', ⟨Nat.le_refl _⟩, ⟨by (with_reducible repeat (first | refine blk_drewN ?_ _ | refine blk_drew ?_ | refine blk_alloc ?_ _)); refine blk_far ?_ NB270_272.out _; (with_reducible repeat (first | refine blk_drewN ?_ _ | refine blk_drew ?_ | refine blk_alloc ?_ _)); refine blk_far ?_ NB270_272.out _; (with_reducible repeat (first | refine blk_drewN ?_ _ | refine blk_drew ?_ | refine blk_alloc ?_ _)); refine blk_far ?_ NB270_272.out _; (with_reducible repeat (first | refine blk_drewN ?_ _ | refine blk_drew ?_ | refine blk_alloc ?_ _)); refine blk_far ?_ NB270_272.out _; (with_reducible repeat (first | refine blk_drewN ?_ _ | refine blk_drew ?_ | refine blk_alloc ?_ _)); exact BK270.out⟩, ⟨by (with_reducible repeat (first | refine blk_drewN ?_ _ | refine blk_drew ?_ | refine blk_alloc ?_ _)); refine blk_put (cs := #[.int .i64 ((rd_T46 l0_0 a1).f0), .int .i64 ((rd_T46 l0_0 a1).f1), .int .i64 ((rd_T46 l0_0 a1).f2), .int .i64 0]) ?_ 3 _ rfl; (with_reducible repeat (first | refine blk_drewN ?_ _ | refine blk_drew ?_ | refine blk_alloc ?_ _)); refine blk_put (cs := #[.int .i64 ((rd_T46 l0_0 a1).f0), .int .i64 ((rd_T46 l0_0 a1).f1), .int .i64 0, .int .i64 0]) ?_ 2 _ rfl; (with_reducible repeat (first | refine blk_drewN ?_ _ | refine blk_drew ?_ | refine blk_alloc ?_ _)); refine blk_put (cs := #[.int .i64 ((rd_T46 l0_0 a1).f0), .int .i64 0, .int .i64 0, .int .i64 0]) ?_ 1 _ rfl; (with_reducible repeat (first | refine blk_drewN ?_ _ | refine blk_drew ?_ | refine blk_alloc ?_ _)); refine blk_put (cs := #[.int .i64 0, .int .i64 0, .int .i64 0, .int .i64 0]) ?_ 0 _ rfl; (with_reducible repeat (first | refine blk_drewN ?_ _ | refine blk_drew ?_ | refine blk_alloc ?_ _)); exact BK272.out⟩, ⟨by repeat (first | (with_reducible first | exact HB.out | apply below_alloc | apply pw_below_drewN | apply below_drew1 | refine below_set ?_ GE270.out | refine below_set ?_ GE272.out) | exact HB.out)⟩⟩
      case round =>
        clear H'
        try clear p2
        try clear q2
        try clear hx2
        try clear c3
        try clear c3b0
        try clear c4
        try clear c4b0
        try clear c5
        try clear c8
        try clear hcz6_0
        try clear hcz9_0
        try clear hcz9_1
        try clear hcz9_2
        try clear hcz9_3
        try clear hfz6_0
        try clear hfz9_0
        try clear hfz9_1
        try clear hfz9_2
        try clear hfz9_3
        try clear hx271_0
        try clear hx271_1
        try clear hx271_2
        try clear hx271_3
        try clear p271
        try clear q271
        obtain ⟨x1_1, x273000_1, x273001_1, x273002_1, x273003_1, rfl, HA, HK1, BK270, BK272, HB⟩ := hrel
        cases gk with
        | zero => exact absurd HA.out (by simp [spec_l05First.l0])
        | succ k1 =>
          have H := HA.out
          clear HA
          simp only [spec_l05First.l0] at H
          replace H := Option.bind_eq_some_iff.mp H
          obtain ⟨t273, A100, H⟩ := H
          replace H : (if t273 = true then (if 0 ≤ x273001_1 then (if x273001_1 < (l0_0.length : Int) then (spec_l05First.l0 k1 x273001_1 l0_0 ((rd_T46 l0_0 x273001_1).f0) ((rd_T46 l0_0 x273001_1).f1) ((rd_T46 l0_0 x273001_1).f2) ((rd_T46 l0_0 x273001_1).f3)) else (none)) else (none)) else ((spec_l05One.f x273000_1).bind fun t275 => (if t275 = true then (if 0 ≤ x273001_1 then (if x273001_1 < (l0_0.length : Int) then (spec_l05First.l0 k1 x273001_1 l0_0 ((rd_T46 l0_0 x273001_1).f0) ((rd_T46 l0_0 x273001_1).f1) ((rd_T46 l0_0 x273001_1).f2) ((rd_T46 l0_0 x273001_1).f3)) else (none)) else (none)) else (some x1_1)))) = some r := H
          have A10 := Aside0.mk A100
          clear A100
          by_cases c11 : t273 = true
          · subst c11
            have H1 : (if 0 ≤ x273001_1 then (if x273001_1 < (l0_0.length : Int) then (spec_l05First.l0 k1 x273001_1 l0_0 ((rd_T46 l0_0 x273001_1).f0) ((rd_T46 l0_0 x273001_1).f1) ((rd_T46 l0_0 x273001_1).f2) ((rd_T46 l0_0 x273001_1).f3)) else (none)) else (none)) = some r := by rw [if_pos rfl] at H; exact H
            clear H
            have H := H1
            clear H1
            by_cases c12 : 0 ≤ x273001_1
            · rw [if_pos c12] at H
              have c12b0 : decide (0 ≤ x273001_1) = true := decide_eq_true c12
              clear c12
              by_cases c13 : x273001_1 < (l0_0.length : Int)
              · rw [if_pos c13] at H
                have c13b0 : decide (x273001_1 < (l0_0.length : Int)) = true := decide_eq_true c13
                clear c13
                have H' := Aside0.mk H
                clear H
                have hnb14 := NB272_270.out
                have hnc14 := NB270_272.out
                have hcz15_0 : wr.cell? ⟨gb272, 0, none⟩ = some (.int .i64 x273000_1) := (blk_cell BK272.out 0).trans rfl
                have hcz15_1 : wr.cell? ⟨gb272, 1, none⟩ = some (.int .i64 x273001_1) := (blk_cell BK272.out 1).trans rfl
                have hcz15_2 : wr.cell? ⟨gb272, 2, none⟩ = some (.int .i64 x273002_1) := (blk_cell BK272.out 2).trans rfl
                have hcz15_3 : wr.cell? ⟨gb272, 3, none⟩ = some (.int .i64 x273003_1) := (blk_cell BK272.out 3).trans rfl
                have hfz15_0 := blk_frozen BK272.out 0
                have hfz15_1 := blk_frozen BK272.out 1
                have hfz15_2 := blk_frozen BK272.out 2
                have hfz15_3 := blk_frozen BK272.out 3
                go_wp2_with (first | ((with_reducible refine gate_callee (f := 53) rfl ?_); refine goesL_ (some 13) rfl rfl Try.func53 (by kernel_rfl) rfl #[.int .i64 x273000_1] rfl (by (try simp only [List.map_toArray, List.map_cons, List.map_nil]); first | done | rfl | (simp only [List.length_drop, List.length_take]; rfl)) ?_; (with_reducible refine (spec_l05Two.calls x273000_1 true _ A10.out).mono ?_); rintro e w' ⟨rfl, ⟨nd, rfl⟩⟩; refine ⟨_, rfl, ?_⟩; (try (rw [drewN_self wr]; generalize hq_ : World.drewN wr _ = wr; have n0_ : Aside0 (wr.heap[gb270]? = some (.cells #[.slice (some ad271) l0_0.length c0_0] 41 (0, 0))) := ⟨by rw [← hq_]; exact (by (with_reducible repeat (first | refine blk_drewN ?_ _ | refine blk_drew ?_ | refine blk_alloc ?_ _)); exact BK270.out)⟩; have n1_ : Aside0 (wr.heap[gb272]? = some (.cells #[.int .i64 x273000_1, .int .i64 x273001_1, .int .i64 x273002_1, .int .i64 x273003_1] 46 (0, 0))) := ⟨by rw [← hq_]; exact (by (with_reducible repeat (first | refine blk_drewN ?_ _ | refine blk_drew ?_ | refine blk_alloc ?_ _)); exact BK272.out)⟩; have n2_ : Aside0 (Below w.heap.size w wr) := ⟨by rw [← hq_]; exact (by repeat (first | (with_reducible first | exact HB.out | apply below_alloc | apply pw_below_drewN | apply below_drew1 | refine below_set ?_ GE270.out | refine below_set ?_ GE272.out) | exact HB.out))⟩; clear BK270 BK272 HB hq_; have BK270 := n0_; have BK272 := n1_; have HB := n2_; clear n0_ n1_ n2_; have hcygb270_0 : wr.cell? ⟨gb270, 0, none⟩ = some (.slice (some ad271) l0_0.length c0_0) := (blk_cell BK270.out 0).trans rfl; have hfygb270_0 := blk_frozen BK270.out 0; have hcygb272_0 : wr.cell? ⟨gb272, 0, none⟩ = some (.int .i64 x273000_1) := (blk_cell BK272.out 0).trans rfl; have hfygb272_0 := blk_frozen BK272.out 0; have hcygb272_1 : wr.cell? ⟨gb272, 1, none⟩ = some (.int .i64 x273001_1) := (blk_cell BK272.out 1).trans rfl; have hfygb272_1 := blk_frozen BK272.out 1; have hcygb272_2 : wr.cell? ⟨gb272, 2, none⟩ = some (.int .i64 x273002_1) := (blk_cell BK272.out 2).trans rfl; have hfygb272_2 := blk_frozen BK272.out 2; have hcygb272_3 : wr.cell? ⟨gb272, 3, none⟩ = some (.int .i64 x273003_1) := (blk_cell BK272.out 3).trans rfl; have hfygb272_3 := blk_frozen BK272.out 3)); have hcz16_0 : wr.cell? ⟨gb270, 0, none⟩ = some (.slice (some ad271) l0_0.length c0_0) := (blk_cell BK270.out 0).trans rfl; have hfz16_0 := blk_frozen BK270.out 0; have p274 : 0 ≤ (x273001_1 : Int) := of_decide_eq_true (by first | (with_reducible assumption) | assumption); have q274 : x273001_1 < (l0_0.length : Int) := of_decide_eq_true (by first | (with_reducible assumption) | assumption); obtain ⟨ad274, e274, hx274_0, hx274_1, hx274_2, hx274_3⟩ := at_T46 HR0_0.out x273001_1 p274 q274; obtain rfl : ad271 = ad274 := (by injection e274); replace hx274_0 := (HB.out.cell (World.block_lt_of_cell? w _ hx274_0)).trans hx274_0; replace hx274_1 := (HB.out.cell (World.block_lt_of_cell? w _ hx274_1)).trans hx274_1; replace hx274_2 := (HB.out.cell (World.block_lt_of_cell? w _ hx274_2)).trans hx274_2; replace hx274_3 := (HB.out.cell (World.block_lt_of_cell? w _ hx274_3)).trans hx274_3; replace p274 := eq_true p274; replace q274 := eq_true q274))
                go_roundg k1
                case measure => have := HK1.out; omega
                case rel => exact ⟨(x273001_1), ((rd_T46 l0_0 x273001_1).f0), ((rd_T46 l0_0 x273001_1).f1), ((rd_T46 l0_0 x273001_1).f2), ((rd_T46 l0_0 x273001_1).f3), (by first | rfl | (simp; done) | (simp [*]; done)), H', ⟨by have := HK1.out; omega⟩, ⟨by (with_reducible repeat (first | refine blk_drewN ?_ _ | refine blk_drew ?_ | refine blk_alloc ?_ _)); refine blk_far ?_ NB270_272.out _; (with_reducible repeat (first | refine blk_drewN ?_ _ | refine blk_drew ?_ | refine blk_alloc ?_ _)); refine blk_far ?_ NB270_272.out _; (with_reducible repeat (first | refine blk_drewN ?_ _ | refine blk_drew ?_ | refine blk_alloc ?_ _)); refine blk_far ?_ NB270_272.out _; (with_reducible repeat (first | refine blk_drewN ?_ _ | refine blk_drew ?_ | refine blk_alloc ?_ _)); refine blk_far ?_ NB270_272.out _; (with_reducible repeat (first | refine blk_drewN ?_ _ | refine blk_drew ?_ | refine blk_alloc ?_ _)); exact BK270.out⟩, ⟨by (with_reducible repeat (first | refine blk_drewN ?_ _ | refine blk_drew ?_ | refine blk_alloc ?_ _)); refine blk_put (cs := #[.int .i64 ((rd_T46 l0_0 x273001_1).f0), .int .i64 ((rd_T46 l0_0 x273001_1).f1), .int .i64 ((rd_T46 l0_0 x273001_1).f2), .int .i64 x273003_1]) ?_ 3 _ rfl; (with_reducible repeat (first | refine blk_drewN ?_ _ | refine blk_drew ?_ | refine blk_alloc ?_ _)); refine blk_put (cs := #[.int .i64 ((rd_T46 l0_0 x273001_1).f0), .int .i64 ((rd_T46 l0_0 x273001_1).f1), .int .i64 x273002_1, .int .i64 x273003_1]) ?_ 2 _ rfl; (with_reducible repeat (first | refine blk_drewN ?_ _ | refine blk_drew ?_ | refine blk_alloc ?_ _)); refine blk_put (cs := #[.int .i64 ((rd_T46 l0_0 x273001_1).f0), .int .i64 x273001_1, .int .i64 x273002_1, .int .i64 x273003_1]) ?_ 1 _ rfl; (with_reducible repeat (first | refine blk_drewN ?_ _ | refine blk_drew ?_ | refine blk_alloc ?_ _)); refine blk_put (cs := #[.int .i64 x273000_1, .int .i64 x273001_1, .int .i64 x273002_1, .int .i64 x273003_1]) ?_ 0 _ rfl; (with_reducible repeat (first | refine blk_drewN ?_ _ | refine blk_drew ?_ | refine blk_alloc ?_ _)); exact BK272.out⟩, ⟨by repeat (first | (with_reducible first | exact HB.out | apply below_alloc | apply pw_below_drewN | apply below_drew1 | refine below_set ?_ GE270.out | refine below_set ?_ GE272.out) | exact HB.out)⟩⟩
              · rw [if_neg c13] at H
                exact absurd H (by simp)
            · rw [if_neg c12] at H
              exact absurd H (by simp)
          · replace c11 := Bool.eq_false_iff.mpr c11
            subst c11
            have H1 : ((spec_l05One.f x273000_1).bind fun t275 => (if t275 = true then (if 0 ≤ x273001_1 then (if x273001_1 < (l0_0.length : Int) then (spec_l05First.l0 k1 x273001_1 l0_0 ((rd_T46 l0_0 x273001_1).f0) ((rd_T46 l0_0 x273001_1).f1) ((rd_T46 l0_0 x273001_1).f2) ((rd_T46 l0_0 x273001_1).f3)) else (none)) else (none)) else (some x1_1))) = some r := by rw [if_neg (show ¬ (false = true) by decide)] at H; exact H
            clear H
            have H := H1
            clear H1
            replace H := Option.bind_eq_some_iff.mp H
            obtain ⟨t275, A170, H⟩ := H
            replace H : (if t275 = true then (if 0 ≤ x273001_1 then (if x273001_1 < (l0_0.length : Int) then (spec_l05First.l0 k1 x273001_1 l0_0 ((rd_T46 l0_0 x273001_1).f0) ((rd_T46 l0_0 x273001_1).f1) ((rd_T46 l0_0 x273001_1).f2) ((rd_T46 l0_0 x273001_1).f3)) else (none)) else (none)) else (some x1_1)) = some r := H
            have A17 := Aside0.mk A170
            clear A170
            by_cases c18 : t275 = true
            · subst c18
              have H1 : (if 0 ≤ x273001_1 then (if x273001_1 < (l0_0.length : Int) then (spec_l05First.l0 k1 x273001_1 l0_0 ((rd_T46 l0_0 x273001_1).f0) ((rd_T46 l0_0 x273001_1).f1) ((rd_T46 l0_0 x273001_1).f2) ((rd_T46 l0_0 x273001_1).f3)) else (none)) else (none)) = some r := by rw [if_pos rfl] at H; exact H
              clear H
              have H := H1
              clear H1
              by_cases c19 : 0 ≤ x273001_1
              · rw [if_pos c19] at H
                have c19b0 : decide (0 ≤ x273001_1) = true := decide_eq_true c19
                clear c19
                by_cases c20 : x273001_1 < (l0_0.length : Int)
                · rw [if_pos c20] at H
                  have c20b0 : decide (x273001_1 < (l0_0.length : Int)) = true := decide_eq_true c20
                  clear c20
                  have H' := Aside0.mk H
                  clear H
                  have hnb21 := NB272_270.out
                  have hnc21 := NB270_272.out
                  have hcz22_0 : wr.cell? ⟨gb272, 0, none⟩ = some (.int .i64 x273000_1) := (blk_cell BK272.out 0).trans rfl
                  have hcz22_1 : wr.cell? ⟨gb272, 1, none⟩ = some (.int .i64 x273001_1) := (blk_cell BK272.out 1).trans rfl
                  have hcz22_2 : wr.cell? ⟨gb272, 2, none⟩ = some (.int .i64 x273002_1) := (blk_cell BK272.out 2).trans rfl
                  have hcz22_3 : wr.cell? ⟨gb272, 3, none⟩ = some (.int .i64 x273003_1) := (blk_cell BK272.out 3).trans rfl
                  have hfz22_0 := blk_frozen BK272.out 0
                  have hfz22_1 := blk_frozen BK272.out 1
                  have hfz22_2 := blk_frozen BK272.out 2
                  have hfz22_3 := blk_frozen BK272.out 3
                  go_wp2_with (first | ((with_reducible refine gate_callee (f := 53) rfl ?_); refine goesL_ (some 13) rfl rfl Try.func53 (by kernel_rfl) rfl #[.int .i64 x273000_1] rfl (by (try simp only [List.map_toArray, List.map_cons, List.map_nil]); first | done | rfl | (simp only [List.length_drop, List.length_take]; rfl)) ?_; (with_reducible refine (spec_l05Two.calls x273000_1 false _ A10.out).mono ?_); rintro e w' ⟨rfl, ⟨nd, rfl⟩⟩; refine ⟨_, rfl, ?_⟩; (try (rw [drewN_self wr]; generalize hq_ : World.drewN wr _ = wr; have n0_ : Aside0 (wr.heap[gb270]? = some (.cells #[.slice (some ad271) l0_0.length c0_0] 41 (0, 0))) := ⟨by rw [← hq_]; exact (by (with_reducible repeat (first | refine blk_drewN ?_ _ | refine blk_drew ?_ | refine blk_alloc ?_ _)); exact BK270.out)⟩; have n1_ : Aside0 (wr.heap[gb272]? = some (.cells #[.int .i64 x273000_1, .int .i64 x273001_1, .int .i64 x273002_1, .int .i64 x273003_1] 46 (0, 0))) := ⟨by rw [← hq_]; exact (by (with_reducible repeat (first | refine blk_drewN ?_ _ | refine blk_drew ?_ | refine blk_alloc ?_ _)); exact BK272.out)⟩; have n2_ : Aside0 (Below w.heap.size w wr) := ⟨by rw [← hq_]; exact (by repeat (first | (with_reducible first | exact HB.out | apply below_alloc | apply pw_below_drewN | apply below_drew1 | refine below_set ?_ GE270.out | refine below_set ?_ GE272.out) | exact HB.out))⟩; clear BK270 BK272 HB hq_; have BK270 := n0_; have BK272 := n1_; have HB := n2_; clear n0_ n1_ n2_; have hcygb270_0 : wr.cell? ⟨gb270, 0, none⟩ = some (.slice (some ad271) l0_0.length c0_0) := (blk_cell BK270.out 0).trans rfl; have hfygb270_0 := blk_frozen BK270.out 0; have hcygb272_0 : wr.cell? ⟨gb272, 0, none⟩ = some (.int .i64 x273000_1) := (blk_cell BK272.out 0).trans rfl; have hfygb272_0 := blk_frozen BK272.out 0; have hcygb272_1 : wr.cell? ⟨gb272, 1, none⟩ = some (.int .i64 x273001_1) := (blk_cell BK272.out 1).trans rfl; have hfygb272_1 := blk_frozen BK272.out 1; have hcygb272_2 : wr.cell? ⟨gb272, 2, none⟩ = some (.int .i64 x273002_1) := (blk_cell BK272.out 2).trans rfl; have hfygb272_2 := blk_frozen BK272.out 2; have hcygb272_3 : wr.cell? ⟨gb272, 3, none⟩ = some (.int .i64 x273003_1) := (blk_cell BK272.out 3).trans rfl; have hfygb272_3 := blk_frozen BK272.out 3))) | (go_at_call 55; (with_reducible refine (spec_l05One.calls x273000_1 true _ A17.out).mono ?_); rintro e w' ⟨rfl, ⟨nd, rfl⟩⟩; (try (rw [drewN_self wr]; generalize hq_ : World.drewN wr _ = wr; have n0_ : Aside0 (wr.heap[gb270]? = some (.cells #[.slice (some ad271) l0_0.length c0_0] 41 (0, 0))) := ⟨by rw [← hq_]; exact (by (with_reducible repeat (first | refine blk_drewN ?_ _ | refine blk_drew ?_ | refine blk_alloc ?_ _)); exact BK270.out)⟩; have n1_ : Aside0 (wr.heap[gb272]? = some (.cells #[.int .i64 x273000_1, .int .i64 x273001_1, .int .i64 x273002_1, .int .i64 x273003_1] 46 (0, 0))) := ⟨by rw [← hq_]; exact (by (with_reducible repeat (first | refine blk_drewN ?_ _ | refine blk_drew ?_ | refine blk_alloc ?_ _)); exact BK272.out)⟩; have n2_ : Aside0 (Below w.heap.size w wr) := ⟨by rw [← hq_]; exact (by repeat (first | (with_reducible first | exact HB.out | apply below_alloc | apply pw_below_drewN | apply below_drew1 | refine below_set ?_ GE270.out | refine below_set ?_ GE272.out) | exact HB.out))⟩; clear BK270 BK272 HB hq_; have BK270 := n0_; have BK272 := n1_; have HB := n2_; clear n0_ n1_ n2_; have hcygb270_0 : wr.cell? ⟨gb270, 0, none⟩ = some (.slice (some ad271) l0_0.length c0_0) := (blk_cell BK270.out 0).trans rfl; have hfygb270_0 := blk_frozen BK270.out 0; have hcygb272_0 : wr.cell? ⟨gb272, 0, none⟩ = some (.int .i64 x273000_1) := (blk_cell BK272.out 0).trans rfl; have hfygb272_0 := blk_frozen BK272.out 0; have hcygb272_1 : wr.cell? ⟨gb272, 1, none⟩ = some (.int .i64 x273001_1) := (blk_cell BK272.out 1).trans rfl; have hfygb272_1 := blk_frozen BK272.out 1; have hcygb272_2 : wr.cell? ⟨gb272, 2, none⟩ = some (.int .i64 x273002_1) := (blk_cell BK272.out 2).trans rfl; have hfygb272_2 := blk_frozen BK272.out 2; have hcygb272_3 : wr.cell? ⟨gb272, 3, none⟩ = some (.int .i64 x273003_1) := (blk_cell BK272.out 3).trans rfl; have hfygb272_3 := blk_frozen BK272.out 3)); have hcz23_0 : wr.cell? ⟨gb270, 0, none⟩ = some (.slice (some ad271) l0_0.length c0_0) := (blk_cell BK270.out 0).trans rfl; have hfz23_0 := blk_frozen BK270.out 0; have p276 : 0 ≤ (x273001_1 : Int) := of_decide_eq_true (by first | (with_reducible assumption) | assumption); have q276 : x273001_1 < (l0_0.length : Int) := of_decide_eq_true (by first | (with_reducible assumption) | assumption); obtain ⟨ad276, e276, hx276_0, hx276_1, hx276_2, hx276_3⟩ := at_T46 HR0_0.out x273001_1 p276 q276; obtain rfl : ad271 = ad276 := (by injection e276); replace hx276_0 := (HB.out.cell (World.block_lt_of_cell? w _ hx276_0)).trans hx276_0; replace hx276_1 := (HB.out.cell (World.block_lt_of_cell? w _ hx276_1)).trans hx276_1; replace hx276_2 := (HB.out.cell (World.block_lt_of_cell? w _ hx276_2)).trans hx276_2; replace hx276_3 := (HB.out.cell (World.block_lt_of_cell? w _ hx276_3)).trans hx276_3; replace p276 := eq_true p276; replace q276 := eq_true q276))
                  go_roundg k1
                  case measure => have := HK1.out; omega
                  case rel => exact ⟨(x273001_1), ((rd_T46 l0_0 x273001_1).f0), ((rd_T46 l0_0 x273001_1).f1), ((rd_T46 l0_0 x273001_1).f2), ((rd_T46 l0_0 x273001_1).f3), (by first | rfl | (simp; done) | (simp [*]; done)), H', ⟨by have := HK1.out; omega⟩, ⟨by (with_reducible repeat (first | refine blk_drewN ?_ _ | refine blk_drew ?_ | refine blk_alloc ?_ _)); refine blk_far ?_ NB270_272.out _; (with_reducible repeat (first | refine blk_drewN ?_ _ | refine blk_drew ?_ | refine blk_alloc ?_ _)); refine blk_far ?_ NB270_272.out _; (with_reducible repeat (first | refine blk_drewN ?_ _ | refine blk_drew ?_ | refine blk_alloc ?_ _)); refine blk_far ?_ NB270_272.out _; (with_reducible repeat (first | refine blk_drewN ?_ _ | refine blk_drew ?_ | refine blk_alloc ?_ _)); refine blk_far ?_ NB270_272.out _; (with_reducible repeat (first | refine blk_drewN ?_ _ | refine blk_drew ?_ | refine blk_alloc ?_ _)); exact BK270.out⟩, ⟨by (with_reducible repeat (first | refine blk_drewN ?_ _ | refine blk_drew ?_ | refine blk_alloc ?_ _)); refine blk_put (cs := #[.int .i64 ((rd_T46 l0_0 x273001_1).f0), .int .i64 ((rd_T46 l0_0 x273001_1).f1), .int .i64 ((rd_T46 l0_0 x273001_1).f2), .int .i64 x273003_1]) ?_ 3 _ rfl; (with_reducible repeat (first | refine blk_drewN ?_ _ | refine blk_drew ?_ | refine blk_alloc ?_ _)); refine blk_put (cs := #[.int .i64 ((rd_T46 l0_0 x273001_1).f0), .int .i64 ((rd_T46 l0_0 x273001_1).f1), .int .i64 x273002_1, .int .i64 x273003_1]) ?_ 2 _ rfl; (with_reducible repeat (first | refine blk_drewN ?_ _ | refine blk_drew ?_ | refine blk_alloc ?_ _)); refine blk_put (cs := #[.int .i64 ((rd_T46 l0_0 x273001_1).f0), .int .i64 x273001_1, .int .i64 x273002_1, .int .i64 x273003_1]) ?_ 1 _ rfl; (with_reducible repeat (first | refine blk_drewN ?_ _ | refine blk_drew ?_ | refine blk_alloc ?_ _)); refine blk_put (cs := #[.int .i64 x273000_1, .int .i64 x273001_1, .int .i64 x273002_1, .int .i64 x273003_1]) ?_ 0 _ rfl; (with_reducible repeat (first | refine blk_drewN ?_ _ | refine blk_drew ?_ | refine blk_alloc ?_ _)); exact BK272.out⟩, ⟨by repeat (first | (with_reducible first | exact HB.out | apply below_alloc | apply pw_below_drewN | apply below_drew1 | refine below_set ?_ GE270.out | refine below_set ?_ GE272.out) | exact HB.out)⟩⟩
                · rw [if_neg c20] at H
                  exact absurd H (by simp)
              · rw [if_neg c19] at H
                exact absurd H (by simp)
            · replace c18 := Bool.eq_false_iff.mpr c18
              subst c18
              have H1 : (some x1_1) = some r := by rw [if_neg (show ¬ (false = true) by decide)] at H; exact H
              clear H
              have H := H1
              clear H1
              obtain rfl := Option.some.inj H
              have hnb24 := NB272_270.out
              have hnc24 := NB270_272.out
              have hcz25_0 : wr.cell? ⟨gb272, 0, none⟩ = some (.int .i64 x273000_1) := (blk_cell BK272.out 0).trans rfl
              have hcz25_1 : wr.cell? ⟨gb272, 1, none⟩ = some (.int .i64 x273001_1) := (blk_cell BK272.out 1).trans rfl
              have hcz25_2 : wr.cell? ⟨gb272, 2, none⟩ = some (.int .i64 x273002_1) := (blk_cell BK272.out 2).trans rfl
              have hcz25_3 : wr.cell? ⟨gb272, 3, none⟩ = some (.int .i64 x273003_1) := (blk_cell BK272.out 3).trans rfl
              have hfz25_0 := blk_frozen BK272.out 0
              have hfz25_1 := blk_frozen BK272.out 1
              have hfz25_2 := blk_frozen BK272.out 2
              have hfz25_3 := blk_frozen BK272.out 3
              go_wp2_with (first | ((with_reducible refine gate_callee (f := 53) rfl ?_); refine goesL_ (some 13) rfl rfl Try.func53 (by kernel_rfl) rfl #[.int .i64 x273000_1] rfl (by (try simp only [List.map_toArray, List.map_cons, List.map_nil]); first | done | rfl | (simp only [List.length_drop, List.length_take]; rfl)) ?_; (with_reducible refine (spec_l05Two.calls x273000_1 false _ A10.out).mono ?_); rintro e w' ⟨rfl, ⟨nd, rfl⟩⟩; refine ⟨_, rfl, ?_⟩) | (go_at_call 55; (with_reducible refine (spec_l05One.calls x273000_1 false _ A17.out).mono ?_); rintro e w' ⟨rfl, ⟨nd, rfl⟩⟩))
              go_ret
              exact ⟨by first | rfl | (simp [errW_none, errW_some] <;> rfl) | (simp [*, errW_none, errW_some] <;> rfl), by repeat (first | (with_reducible first | exact HB.out | apply below_alloc | apply pw_below_drewN | apply below_drew1 | refine below_set ?_ GE270.out | refine below_set ?_ GE272.out) | exact HB.out)⟩
    · rw [if_neg c4] at H
      exact absurd H (by simp)
  · rw [if_neg c3] at H
    exact absurd H (by simp)

end Go.Proofs.Ytbgaodfnhbbgdaa.Q
