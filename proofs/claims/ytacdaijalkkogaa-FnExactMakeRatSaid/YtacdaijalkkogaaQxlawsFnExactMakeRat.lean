-- written by a program of this claim's session (myprint.py) out of the translation; Lean checks it.
import Derived.Test.YtacdaijalkkogaaQx0
import Derived.Test.YtacdaijalkkogaaQxMakeRat
import Derived.Test.YtacdaijalkkogaaQxrlaw
namespace Go.Proofs.Ytacdaijalkkogaa.Q
open Go.RowKit Go.Proofs.YtacdaijalkkogaaW.PrintWords Go.Proofs.YtacdaijalkkogaaW.PrintLast Go.Proofs.YtacdaijalkkogaaW.PrintMore
attribute [local go_sem] max2_int min2_int max_two min_two max_three min_three max_four min_four   -- for this text's walks alone
set_option linter.unusedVariables false
set_option linter.unusedSimpArgs false

mutual
def laws_FnExactMakeRat.j0 : Nat → Int → Int → Int → Bool → Bool → List Int → List Int → Bool → List Int → List Int → Option (Bool)
  | 0, _, _, _, _, _, _, _, _, _, _ => none
  | k + 1, x0, x1, x6, x33, x533000, x533001, x533002, x542000, x542001, x542002 => if x33 = true then (some false) else ((laws_markRat.f k x542000 x542001 x542002 1).bind fun bt543 => ((laws_heldRat.f k x542000 bt543.2.1 bt543.2.2 1).bind fun t546 => (if t546 < 0 then (some false) else (if t546 = bt543.1 then ((impl_MakeRat.f k x0 x1).bind fun bt547 => ((laws_eqRat.f k bt547.1 bt547.2.1 bt547.2.2.1 x533000 x533001 x533002).bind fun t556 => (if t556 = true then (laws_FnExactMakeRat.j1 k bt543.1 (bt547.2.2.2 != x6) x542000 bt543.2.1 bt543.2.2) else (laws_FnExactMakeRat.j1 k bt543.1 true x542000 bt543.2.1 bt543.2.2)))) else (some false)))))
def laws_FnExactMakeRat.j1 : Nat → Int → Bool → Bool → List Int → List Int → Option (Bool)
  | 0, _, _, _, _, _ => none
  | k + 1, x9, x59, x542000, x542001, x542002 => if x59 = true then (some false) else ((laws_heldRat.f k x542000 x542001 x542002 1).bind fun t557 => (if t557 < 0 then (some false) else (if t557 = x9 then (some true) else (some false))))
end
def laws_FnExactMakeRat.f (k : Nat) (a0 : Int) (a1 : Int) : Option (Bool) := (spec_MakeRat.f k a0 a1).bind fun bt524 => ((impl_MakeRat.f k a0 a1).bind fun bt533 => ((laws_eqRat.f k bt533.1 bt533.2.1 bt533.2.2.1 bt524.1 bt524.2.1 bt524.2.2.1).bind fun t542 => (if t542 = true then (laws_FnExactMakeRat.j0 k a0 a1 bt524.2.2.2 (bt533.2.2.2 != bt524.2.2.2) bt524.1 bt524.2.1 bt524.2.2.1 bt533.1 bt533.2.1 bt533.2.2.1) else (laws_FnExactMakeRat.j0 k a0 a1 bt524.2.2.2 true bt524.1 bt524.2.1 bt524.2.2.1 bt533.1 bt533.2.1 bt533.2.2.1))))
theorem laws_FnExactMakeRat.mono_l : ∀ k, (∀ y0 y1 y2 y3 y4 y5 y6 y7 y8 y9, LeO (laws_FnExactMakeRat.j0 k y0 y1 y2 y3 y4 y5 y6 y7 y8 y9) (laws_FnExactMakeRat.j0 (k + 1) y0 y1 y2 y3 y4 y5 y6 y7 y8 y9)) ∧ (∀ y0 y1 y2 y3 y4, LeO (laws_FnExactMakeRat.j1 k y0 y1 y2 y3 y4) (laws_FnExactMakeRat.j1 (k + 1) y0 y1 y2 y3 y4))
  | 0 => ⟨fun _ _ _ _ _ _ _ _ _ _ r h => by simp [laws_FnExactMakeRat.j0] at h, fun _ _ _ _ _ r h => by simp [laws_FnExactMakeRat.j1] at h⟩
  | k + 1 => by
    obtain ⟨ih0, ih1⟩ := laws_FnExactMakeRat.mono_l k
    refine ⟨?_, ?_⟩
    · intro y0 y1 y2 y3 y4 y5 y6 y7 y8 y9
      unfold laws_FnExactMakeRat.j0
      repeat' first
      | (with_reducible exact ih0 _ _ _ _ _ _ _ _ _ _)
      | (with_reducible exact ih1 _ _ _ _ _)
      | (with_reducible exact impl_MakeRat.mono _ _ _)
      | (with_reducible exact laws_eqRat.mono _ _ _ _ _ _ _)
      | (with_reducible exact laws_heldRat.mono _ _ _ _ _)
      | (with_reducible exact laws_markRat.mono _ _ _ _ _)
      | (with_reducible exact spec_MakeRat.mono _ _ _)
      | (with_reducible exact LeO.refl _)
      | (with_reducible exact LeO.none _)
      | (with_reducible refine LeO.ite ?_ ?_)
      | (with_reducible refine LeO.bind ?_ (fun _ => ?_))
      | exact ih0 _ _ _ _ _ _ _ _ _ _
      | exact ih1 _ _ _ _ _
      | exact impl_MakeRat.mono _ _ _
      | exact laws_eqRat.mono _ _ _ _ _ _ _
      | exact laws_heldRat.mono _ _ _ _ _
      | exact laws_markRat.mono _ _ _ _ _
      | exact spec_MakeRat.mono _ _ _
      | exact LeO.none _
      | refine LeO.ite ?_ ?_
      | refine LeO.bind ?_ (fun _ => ?_)
    · intro y0 y1 y2 y3 y4
      unfold laws_FnExactMakeRat.j1
      repeat' first
      | (with_reducible exact ih0 _ _ _ _ _ _ _ _ _ _)
      | (with_reducible exact ih1 _ _ _ _ _)
      | (with_reducible exact impl_MakeRat.mono _ _ _)
      | (with_reducible exact laws_eqRat.mono _ _ _ _ _ _ _)
      | (with_reducible exact laws_heldRat.mono _ _ _ _ _)
      | (with_reducible exact laws_markRat.mono _ _ _ _ _)
      | (with_reducible exact spec_MakeRat.mono _ _ _)
      | (with_reducible exact LeO.refl _)
      | (with_reducible exact LeO.none _)
      | (with_reducible refine LeO.ite ?_ ?_)
      | (with_reducible refine LeO.bind ?_ (fun _ => ?_))
      | exact ih0 _ _ _ _ _ _ _ _ _ _
      | exact ih1 _ _ _ _ _
      | exact impl_MakeRat.mono _ _ _
      | exact laws_eqRat.mono _ _ _ _ _ _ _
      | exact laws_heldRat.mono _ _ _ _ _
      | exact laws_markRat.mono _ _ _ _ _
      | exact spec_MakeRat.mono _ _ _
      | exact LeO.none _
      | refine LeO.ite ?_ ?_
      | refine LeO.bind ?_ (fun _ => ?_)
theorem laws_FnExactMakeRat.mono : ∀ a0 a1 k, LeO (laws_FnExactMakeRat.f k a0 a1) (laws_FnExactMakeRat.f (k + 1) a0 a1) := by
  intro a0 a1 k
  obtain ⟨ih0, ih1⟩ := laws_FnExactMakeRat.mono_l k
  unfold laws_FnExactMakeRat.f
  repeat' first
      | (with_reducible exact ih0 _ _ _ _ _ _ _ _ _ _)
      | (with_reducible exact ih1 _ _ _ _ _)
      | (with_reducible exact impl_MakeRat.mono _ _ _)
      | (with_reducible exact laws_eqRat.mono _ _ _ _ _ _ _)
      | (with_reducible exact laws_heldRat.mono _ _ _ _ _)
      | (with_reducible exact laws_markRat.mono _ _ _ _ _)
      | (with_reducible exact spec_MakeRat.mono _ _ _)
      | (with_reducible exact LeO.refl _)
      | (with_reducible exact LeO.none _)
      | (with_reducible refine LeO.ite ?_ ?_)
      | (with_reducible refine LeO.bind ?_ (fun _ => ?_))
      | exact ih0 _ _ _ _ _ _ _ _ _ _
      | exact ih1 _ _ _ _ _
      | exact impl_MakeRat.mono _ _ _
      | exact laws_eqRat.mono _ _ _ _ _ _ _
      | exact laws_heldRat.mono _ _ _ _ _
      | exact laws_markRat.mono _ _ _ _ _
      | exact spec_MakeRat.mono _ _ _
      | exact LeO.none _
      | refine LeO.ite ?_ ?_
      | refine LeO.bind ?_ (fun _ => ?_)
set_option maxHeartbeats 8000000 in
set_option maxRecDepth 100000 in
theorem laws_FnExactMakeRat.calls (k : Nat) (a0 : Int) (a1 : Int) (r : Bool) (w : World) (h : laws_FnExactMakeRat.f k a0 a1 = some r) (hr_ : r = true) :
    Calls Try.prog 3 #[.int .i64 a0, .int .i64 a1] w fun e w' => e = .returned (.bool r) ∧ Below w.heap.size w w' := by
  have hu24 := Try.underlying24
  have HB := Aside0.mk (Below.refl w.heap.size w)
  have H : ((spec_MakeRat.f k a0 a1).bind fun bt524 => ((impl_MakeRat.f k a0 a1).bind fun bt533 => ((laws_eqRat.f k bt533.1 bt533.2.1 bt533.2.2.1 bt524.1 bt524.2.1 bt524.2.2.1).bind fun t542 => (if t542 = true then (laws_FnExactMakeRat.j0 k a0 a1 bt524.2.2.2 (bt533.2.2.2 != bt524.2.2.2) bt524.1 bt524.2.1 bt524.2.2.1 bt533.1 bt533.2.1 bt533.2.2.1) else (laws_FnExactMakeRat.j0 k a0 a1 bt524.2.2.2 true bt524.1 bt524.2.1 bt524.2.2.1 bt533.1 bt533.2.1 bt533.2.2.1))))) = some r := h
  clear h
  replace H := Option.bind_eq_some_iff.mp H
  obtain ⟨⟨t524, t525, t528, t531⟩, A30, H⟩ := H
  replace H : ((impl_MakeRat.f k a0 a1).bind fun bt533 => ((laws_eqRat.f k bt533.1 bt533.2.1 bt533.2.2.1 t524 t525 t528).bind fun t542 => (if t542 = true then (laws_FnExactMakeRat.j0 k a0 a1 t531 (bt533.2.2.2 != t531) t524 t525 t528 bt533.1 bt533.2.1 bt533.2.2.1) else (laws_FnExactMakeRat.j0 k a0 a1 t531 true t524 t525 t528 bt533.1 bt533.2.1 bt533.2.2.1)))) = some r := H
  have A3 := Aside0.mk A30
  clear A30
  replace H := Option.bind_eq_some_iff.mp H
  obtain ⟨⟨t533, t534, t537, t540⟩, A40, H⟩ := H
  replace H : ((laws_eqRat.f k t533 t534 t537 t524 t525 t528).bind fun t542 => (if t542 = true then (laws_FnExactMakeRat.j0 k a0 a1 t531 (t540 != t531) t524 t525 t528 t533 t534 t537) else (laws_FnExactMakeRat.j0 k a0 a1 t531 true t524 t525 t528 t533 t534 t537))) = some r := H
  have A4 := Aside0.mk A40
  clear A40
  have HC5 := Aside0.mk H
  clear H
  go_enter Try.func3, Try.ntmps3
  go_upto_region 3 with (first | ((with_reducible refine gate_callee (f := 15) rfl ?_); refine goesL_ (some 16) rfl rfl Try.func15 (by kernel_rfl) rfl #[.int .i64 a0, .int .i64 a1] rfl (by (try simp only [List.map_toArray, List.map_cons, List.map_nil]); first | done | rfl | (simp only [List.length_drop, List.length_take]; rfl)) ?_; (with_reducible refine (spec_MakeRat.calls k a0 a1 t524 t525 t528 t531 _ A3.out).mono ?_); rintro e w6 ⟨v526, v529, rfl, ho0, ho1, hb⟩; refine ⟨_, rfl, ?_⟩; have n0_ := Aside0.mk (Kd.R_lower ho0 (below_size (by repeat (first | (with_reducible first | exact HB.out | apply below_alloc | apply pw_below_drewN | apply below_drew1) | exact HB.out)))); have n1_ := Aside0.mk (Kd.R_lower ho1 (below_size (by repeat (first | (with_reducible first | exact HB.out | apply below_alloc | apply pw_below_drewN | apply below_drew1) | exact HB.out)))); have n2_ := Aside0.mk (below_step (by repeat (first | (with_reducible first | exact HB.out | apply below_alloc | apply pw_below_drewN | apply below_drew1) | exact HB.out)) hb); clear HB; have HO527 := n0_; have HO530 := n1_; have HB := n2_; clear n0_ n1_ n2_; (try clear hb); (try clear hb2); (try clear hk); (try clear hi); (try clear ho0); (try clear ho1)) | ((with_reducible refine gate_dst (N := 5) rfl ?_); refine box_event ?hg (N := 5) ?hd (cs := #[.bool false, .slice none 0 0, .slice none 0 0]) (t := 24) ?hr ?_; (case hd => rfl); (case hg => rfl); (case hr => first | (go_simp; done) | (go_simp; rfl)); intro gb532 hg w7 hbox hb; have n0_ := Aside0.mk (Kd.R_below (by (with_reducible repeat (first | apply Kd.R_alloc | apply Kd.R_drewN | apply Kd.R_drew)); exact HO527.out) hb); have n1_ := Aside0.mk (Kd.R_below (by (with_reducible repeat (first | apply Kd.R_alloc | apply Kd.R_drewN | apply Kd.R_drew)); exact HO530.out) hb); have n2_ := Aside0.mk (below_step (by repeat (first | (with_reducible first | exact HB.out | apply below_alloc | apply pw_below_drewN | apply below_drew1) | exact HB.out)) hb); have n3_ := Aside0.mk (hbox); have n4_ := Aside0.mk ((by rw [hg]; exact (below_size (by repeat (first | (with_reducible first | exact HB.out | apply below_alloc | apply pw_below_drewN | apply below_drew1) | exact HB.out))) : w.heap.size ≤ gb532)); have n5_ := Aside0.mk ((by rw [hg]; exact (below_size (by repeat (first | (with_reducible first | exact HB.out | apply below_alloc | apply pw_below_drewN | apply below_drew1) | exact HB.out))) : w.heap.size ≤ gb532)); clear HO527; clear HO530; clear HB; have HO527 := n0_; have HO530 := n1_; have HB := n2_; have BK532 := n3_; have GW532 := n4_; have GE532 := n5_; clear n0_ n1_ n2_ n3_ n4_ n5_; clear hb hbox hg; have hcz8_0 : w7.cell? ⟨gb532, 0, none⟩ = some (.bool false) := (blk_cell BK532.out 0).trans rfl; have hcz8_1 : w7.cell? ⟨gb532, 1, none⟩ = some (.slice none 0 0) := (blk_cell BK532.out 1).trans rfl; have hcz8_2 : w7.cell? ⟨gb532, 2, none⟩ = some (.slice none 0 0) := (blk_cell BK532.out 2).trans rfl; have hfz8_0 := blk_frozen BK532.out 0; have hfz8_1 := blk_frozen BK532.out 1; have hfz8_2 := blk_frozen BK532.out 2; obtain ⟨Ao9, co9, eo9⟩ := Kd.R_slice HO527.out; subst eo9; obtain ⟨Ao10, co10, eo10⟩ := Kd.R_slice HO530.out; subst eo10) | ((with_reducible refine gate_callee (f := 16) rfl ?_); refine goesL_ (some 22) rfl rfl Try.func16 (by kernel_rfl) rfl #[.int .i64 a0, .int .i64 a1] rfl (by (try simp only [List.map_toArray, List.map_cons, List.map_nil]); first | done | rfl | (simp only [List.length_drop, List.length_take]; rfl)) ?_; (with_reducible refine (impl_MakeRat.calls k a0 a1 t533 t534 t537 t540 _ A4.out).mono ?_); rintro e w11 ⟨v535, v538, rfl, ho0, ho1, hb⟩; refine ⟨_, rfl, ?_⟩; have n0_ := Aside0.mk (Kd.R_mono (Kd.R_told (Kd.R_told (Kd.R_old (by (with_reducible repeat (first | apply Kd.R_alloc | apply Kd.R_drewN | apply Kd.R_drew)); exact (Kd.R_mono (Kd.R_far (p := ⟨gb532, 2, none⟩) (Kd.R_far (p := ⟨gb532, 1, none⟩) (Kd.R_far (p := ⟨gb532, 0, none⟩) (Kd.R_types HO527.out BK532.out (by decide)) (fun _ hk => hk.2) (.bool t524)) (fun _ hk => hk.2) (.slice Ao9 t525.length co9)) (fun _ hk => hk.2) (.slice Ao10 t528.length co10)) (fun _ h_ => h_.1))) hb) (Kd.R_base ho0)) (Kd.R_base ho1)) (fun _ h_ => h_.1)); have n1_ := Aside0.mk (Kd.R_mono (Kd.R_told (Kd.R_told (Kd.R_old (by (with_reducible repeat (first | apply Kd.R_alloc | apply Kd.R_drewN | apply Kd.R_drew)); exact (Kd.R_mono (Kd.R_far (p := ⟨gb532, 2, none⟩) (Kd.R_far (p := ⟨gb532, 1, none⟩) (Kd.R_far (p := ⟨gb532, 0, none⟩) (Kd.R_types HO530.out BK532.out (by decide)) (fun _ hk => hk.2) (.bool t524)) (fun _ hk => hk.2) (.slice Ao9 t525.length co9)) (fun _ hk => hk.2) (.slice Ao10 t528.length co10)) (fun _ h_ => h_.1))) hb) (Kd.R_base ho0)) (Kd.R_base ho1)) (fun _ h_ => h_.1)); have n2_ := Aside0.mk (Kd.R_lower (Kd.R_new' (Kd.R_new' ho0 (Kd.R_lt (by (with_reducible repeat (first | apply Kd.R_alloc | apply Kd.R_drewN | apply Kd.R_drew)); exact (Kd.R_mono (Kd.R_far (p := ⟨gb532, 2, none⟩) (Kd.R_far (p := ⟨gb532, 1, none⟩) (Kd.R_far (p := ⟨gb532, 0, none⟩) (Kd.R_types HO527.out BK532.out (by decide)) (fun _ hk => hk.2) (.bool t524)) (fun _ hk => hk.2) (.slice Ao9 t525.length co9)) (fun _ hk => hk.2) (.slice Ao10 t528.length co10)) (fun _ h_ => h_.1))))) (Kd.R_lt (by (with_reducible repeat (first | apply Kd.R_alloc | apply Kd.R_drewN | apply Kd.R_drew)); exact (Kd.R_mono (Kd.R_far (p := ⟨gb532, 2, none⟩) (Kd.R_far (p := ⟨gb532, 1, none⟩) (Kd.R_far (p := ⟨gb532, 0, none⟩) (Kd.R_types HO530.out BK532.out (by decide)) (fun _ hk => hk.2) (.bool t524)) (fun _ hk => hk.2) (.slice Ao9 t525.length co9)) (fun _ hk => hk.2) (.slice Ao10 t528.length co10)) (fun _ h_ => h_.1))))) (below_size (by repeat (first | (with_reducible first | exact HB.out | apply below_alloc | apply pw_below_drewN | apply below_drew1 | refine below_set ?_ GE532.out) | exact HB.out)))); have n3_ := Aside0.mk (Kd.R_lower (Kd.R_new' (Kd.R_new' ho1 (Kd.R_lt (by (with_reducible repeat (first | apply Kd.R_alloc | apply Kd.R_drewN | apply Kd.R_drew)); exact (Kd.R_mono (Kd.R_far (p := ⟨gb532, 2, none⟩) (Kd.R_far (p := ⟨gb532, 1, none⟩) (Kd.R_far (p := ⟨gb532, 0, none⟩) (Kd.R_types HO527.out BK532.out (by decide)) (fun _ hk => hk.2) (.bool t524)) (fun _ hk => hk.2) (.slice Ao9 t525.length co9)) (fun _ hk => hk.2) (.slice Ao10 t528.length co10)) (fun _ h_ => h_.1))))) (Kd.R_lt (by (with_reducible repeat (first | apply Kd.R_alloc | apply Kd.R_drewN | apply Kd.R_drew)); exact (Kd.R_mono (Kd.R_far (p := ⟨gb532, 2, none⟩) (Kd.R_far (p := ⟨gb532, 1, none⟩) (Kd.R_far (p := ⟨gb532, 0, none⟩) (Kd.R_types HO530.out BK532.out (by decide)) (fun _ hk => hk.2) (.bool t524)) (fun _ hk => hk.2) (.slice Ao9 t525.length co9)) (fun _ hk => hk.2) (.slice Ao10 t528.length co10)) (fun _ h_ => h_.1))))) (below_size (by repeat (first | (with_reducible first | exact HB.out | apply below_alloc | apply pw_below_drewN | apply below_drew1 | refine below_set ?_ GE532.out) | exact HB.out)))); have n4_ := Aside0.mk (blk_below (g := gb532) (o := .cells #[.bool t524, .slice Ao9 t525.length co9, .slice Ao10 t528.length co10] 24 (0, 0)) (by (with_reducible repeat (first | refine blk_drewN ?_ _ | refine blk_drew ?_ | refine blk_alloc ?_ _)); refine blk_put (cs := #[.bool t524, .slice Ao9 t525.length co9, .slice none 0 0]) ?_ 2 _ rfl; (with_reducible repeat (first | refine blk_drewN ?_ _ | refine blk_drew ?_ | refine blk_alloc ?_ _)); refine blk_put (cs := #[.bool t524, .slice none 0 0, .slice none 0 0]) ?_ 1 _ rfl; (with_reducible repeat (first | refine blk_drewN ?_ _ | refine blk_drew ?_ | refine blk_alloc ?_ _)); refine blk_put (cs := #[.bool false, .slice none 0 0, .slice none 0 0]) ?_ 0 _ rfl; (with_reducible repeat (first | refine blk_drewN ?_ _ | refine blk_drew ?_ | refine blk_alloc ?_ _)); exact BK532.out) hb); have n5_ := Aside0.mk (below_step (by repeat (first | (with_reducible first | exact HB.out | apply below_alloc | apply pw_below_drewN | apply below_drew1 | refine below_set ?_ GE532.out) | exact HB.out)) hb); clear HO527; clear HO530; clear BK532; clear HB; have HO527 := n0_; have HO530 := n1_; have HO536 := n2_; have HO539 := n3_; have BK532 := n4_; have HB := n5_; clear n0_ n1_ n2_ n3_ n4_ n5_; (try clear hb); (try clear hb2); (try clear hk); (try clear hi); (try clear ho0); (try clear ho1)) | ((with_reducible refine gate_dst (N := 7) rfl ?_); refine box_event ?hg (N := 7) ?hd (cs := #[.bool false, .slice none 0 0, .slice none 0 0]) (t := 24) ?hr ?_; (case hd => rfl); (case hg => rfl); (case hr => first | (go_simp; done) | (go_simp; rfl)); intro gb541 hg w12 hbox hb; have n0_ := Aside0.mk (Kd.R_below (by (with_reducible repeat (first | apply Kd.R_alloc | apply Kd.R_drewN | apply Kd.R_drew)); exact HO527.out) hb); have n1_ := Aside0.mk (Kd.R_below (by (with_reducible repeat (first | apply Kd.R_alloc | apply Kd.R_drewN | apply Kd.R_drew)); exact HO530.out) hb); have n2_ := Aside0.mk (Kd.R_below (by (with_reducible repeat (first | apply Kd.R_alloc | apply Kd.R_drewN | apply Kd.R_drew)); exact HO536.out) hb); have n3_ := Aside0.mk (Kd.R_below (by (with_reducible repeat (first | apply Kd.R_alloc | apply Kd.R_drewN | apply Kd.R_drew)); exact HO539.out) hb); have n4_ := Aside0.mk (blk_below (g := gb532) (o := .cells #[.bool t524, .slice Ao9 t525.length co9, .slice Ao10 t528.length co10] 24 (0, 0)) (by (with_reducible repeat (first | refine blk_drewN ?_ _ | refine blk_drew ?_ | refine blk_alloc ?_ _)); exact BK532.out) hb); have n5_ := Aside0.mk (below_step (by repeat (first | (with_reducible first | exact HB.out | apply below_alloc | apply pw_below_drewN | apply below_drew1 | refine below_set ?_ GE532.out) | exact HB.out)) hb); have n6_ := Aside0.mk (hbox); have n7_ := Aside0.mk ((by rw [hg]; exact (below_size (by repeat (first | (with_reducible first | exact HB.out | apply below_alloc | apply pw_below_drewN | apply below_drew1 | refine below_set ?_ GE532.out) | exact HB.out))) : w.heap.size ≤ gb541)); have n8_ := Aside0.mk ((by rw [hg]; exact (below_size (by repeat (first | (with_reducible first | exact HB.out | apply below_alloc | apply pw_below_drewN | apply below_drew1 | refine below_set ?_ GE532.out) | exact HB.out))) : w.heap.size ≤ gb541)); have n9_ := Aside0.mk ((by rw [hg]; exact Nat.ne_of_lt (blk_lt (g := gb532) (o := .cells #[.bool t524, .slice Ao9 t525.length co9, .slice Ao10 t528.length co10] 24 (0, 0)) (by (with_reducible repeat (first | refine blk_drewN ?_ _ | refine blk_drew ?_ | refine blk_alloc ?_ _)); exact BK532.out)) : gb532 ≠ gb541)); have n10_ := Aside0.mk ((by rw [hg]; exact Nat.ne_of_gt (blk_lt (g := gb532) (o := .cells #[.bool t524, .slice Ao9 t525.length co9, .slice Ao10 t528.length co10] 24 (0, 0)) (by (with_reducible repeat (first | refine blk_drewN ?_ _ | refine blk_drew ?_ | refine blk_alloc ?_ _)); exact BK532.out)) : gb541 ≠ gb532)); clear HO527; clear HO530; clear HO536; clear HO539; clear BK532; clear HB; have HO527 := n0_; have HO530 := n1_; have HO536 := n2_; have HO539 := n3_; have BK532 := n4_; have HB := n5_; have BK541 := n6_; have GW541 := n7_; have GE541 := n8_; have NB532_541 := n9_; have NB541_532 := n10_; clear n0_ n1_ n2_ n3_ n4_ n5_ n6_ n7_ n8_ n9_ n10_; clear hb hbox hg; have hnb13 := NB541_532.out; have hnc13 := NB532_541.out; have hcz14_0 : w12.cell? ⟨gb541, 0, none⟩ = some (.bool false) := (blk_cell BK541.out 0).trans rfl; have hcz14_1 : w12.cell? ⟨gb541, 1, none⟩ = some (.slice none 0 0) := (blk_cell BK541.out 1).trans rfl; have hcz14_2 : w12.cell? ⟨gb541, 2, none⟩ = some (.slice none 0 0) := (blk_cell BK541.out 2).trans rfl; have hfz14_0 := blk_frozen BK541.out 0; have hfz14_1 := blk_frozen BK541.out 1; have hfz14_2 := blk_frozen BK541.out 2; obtain ⟨Ao15, co15, eo15⟩ := Kd.R_slice HO536.out; subst eo15; obtain ⟨Ao16, co16, eo16⟩ := Kd.R_slice HO539.out; subst eo16))
  (try simp only [Act.put, List.setIfInBounds_toArray, List.set_cons_zero, List.set_cons_succ])
  go_cut [33] (fun v33 wc => ∃ (kq : Nat) (x33_4 : Bool), v33 = .bool x33_4 ∧ Aside0 (laws_FnExactMakeRat.j0 kq a0 a1 t531 x33_4 t524 t525 t528 t533 t534 t537 = some r) ∧ Aside0 (kq ≤ k) ∧ Aside0 (Kd.R (Kd.int .i64) 3 wc w.heap.size (fun k_ => some k_ ≠ ((.slice Ao10 t528.length co10) : Value).ownBlock ∧ some k_ ≠ ((.slice Ao15 t534.length co15) : Value).ownBlock ∧ some k_ ≠ ((.slice Ao16 t537.length co16) : Value).ownBlock) (.slice Ao9 t525.length co9) t525) ∧ Aside0 (Kd.R (Kd.int .i64) 3 wc w.heap.size (fun k_ => some k_ ≠ ((.slice Ao9 t525.length co9) : Value).ownBlock ∧ some k_ ≠ ((.slice Ao15 t534.length co15) : Value).ownBlock ∧ some k_ ≠ ((.slice Ao16 t537.length co16) : Value).ownBlock) (.slice Ao10 t528.length co10) t528) ∧ Aside0 (Kd.R (Kd.int .i64) 3 wc w.heap.size (fun k_ => some k_ ≠ ((.slice Ao9 t525.length co9) : Value).ownBlock ∧ some k_ ≠ ((.slice Ao10 t528.length co10) : Value).ownBlock ∧ some k_ ≠ ((.slice Ao16 t537.length co16) : Value).ownBlock) (.slice Ao15 t534.length co15) t534) ∧ Aside0 (Kd.R (Kd.int .i64) 3 wc w.heap.size (fun k_ => some k_ ≠ ((.slice Ao9 t525.length co9) : Value).ownBlock ∧ some k_ ≠ ((.slice Ao10 t528.length co10) : Value).ownBlock ∧ some k_ ≠ ((.slice Ao15 t534.length co15) : Value).ownBlock) (.slice Ao16 t537.length co16) t537) ∧ Aside0 (wc.heap[gb532]? = some (.cells #[.bool t524, (.slice Ao9 t525.length co9), (.slice Ao10 t528.length co10)] 24 (0, 0))) ∧ Aside0 (wc.heap[gb541]? = some (.cells #[.bool t533, (.slice Ao15 t534.length co15), (.slice Ao16 t537.length co16)] 24 (0, 0))) ∧ Aside0 (Below w.heap.size w wc))
  case first =>
    have H := HC5.out
    clear HC5
    replace H := Option.bind_eq_some_iff.mp H
    obtain ⟨t542, A170, H⟩ := H
    replace H : (if t542 = true then (laws_FnExactMakeRat.j0 k a0 a1 t531 (t540 != t531) t524 t525 t528 t533 t534 t537) else (laws_FnExactMakeRat.j0 k a0 a1 t531 true t524 t525 t528 t533 t534 t537)) = some r := H
    have A17 := Aside0.mk A170
    clear A170
    by_cases c18 : t542 = true
    · subst c18
      have H1 : (laws_FnExactMakeRat.j0 k a0 a1 t531 (t540 != t531) t524 t525 t528 t533 t534 t537) = some r := by rw [if_pos rfl] at H; exact H
      clear H
      have H := H1
      clear H1
      have H' := Aside0.mk H
      clear H
      have hnb19 := NB541_532.out
      have hnc19 := NB532_541.out
      have hcz20_0 : w12.cell? ⟨gb541, 0, none⟩ = some (.bool false) := (blk_cell BK541.out 0).trans rfl
      have hcz20_1 : w12.cell? ⟨gb541, 1, none⟩ = some (.slice none 0 0) := (blk_cell BK541.out 1).trans rfl
      have hcz20_2 : w12.cell? ⟨gb541, 2, none⟩ = some (.slice none 0 0) := (blk_cell BK541.out 2).trans rfl
      have hfz20_0 := blk_frozen BK541.out 0
      have hfz20_1 := blk_frozen BK541.out 1
      have hfz20_2 := blk_frozen BK541.out 2
      have hcz21_0 : w12.cell? ⟨gb532, 0, none⟩ = some (.bool t524) := (blk_cell BK532.out 0).trans rfl
      have hcz21_1 : w12.cell? ⟨gb532, 1, none⟩ = some (.slice Ao9 t525.length co9) := (blk_cell BK532.out 1).trans rfl
      have hcz21_2 : w12.cell? ⟨gb532, 2, none⟩ = some (.slice Ao10 t528.length co10) := (blk_cell BK532.out 2).trans rfl
      have hfz21_0 := blk_frozen BK532.out 0
      have hfz21_1 := blk_frozen BK532.out 1
      have hfz21_2 := blk_frozen BK532.out 2
      go_wp2_with (first | ((with_reducible refine gate_callee (f := 17) rfl ?_); refine goesL_ (some 27) rfl rfl Try.func17 (by kernel_rfl) rfl #[.agg #[.bool t533, .slice Ao15 t534.length co15, .slice Ao16 t537.length co16], .agg #[.bool t524, .slice Ao9 t525.length co9, .slice Ao10 t528.length co10]] rfl (by (try simp only [List.map_toArray, List.map_cons, List.map_nil]); first | done | rfl | (simp only [List.length_drop, List.length_take]; rfl)) ?_; (with_reducible refine (laws_eqRat.calls k t533 _ _ t534 _ _ t537 t524 _ _ t525 _ _ t528 true _ ?side1 ?side2 ?side3 ?side4 ?side5 ?side6 ?side7 ?side8 A17.out).mono ?_); (case side1 => refine (Kd.R_reads' (e := 3) (base := w.heap.size) (ok := fun k_ => ((some k_ ≠ (.slice Ao16 t537.length co16 : Value).ownBlock ∧ some k_ ≠ (.slice Ao9 t525.length co9 : Value).ownBlock) ∧ some k_ ≠ (.slice Ao10 t528.length co10 : Value).ownBlock)) (n := t534.length) (c := co15) ?_).2.2; exact (by (with_reducible repeat (first | apply Kd.R_alloc | apply Kd.R_drewN | apply Kd.R_drew)); exact (Kd.R_mono (Kd.R_far (p := ⟨gb541, 2, none⟩) (Kd.R_far (p := ⟨gb541, 1, none⟩) (Kd.R_far (p := ⟨gb541, 0, none⟩) (Kd.R_types HO536.out BK541.out (by decide)) (fun _ hk => hk.2) (.bool t533)) (fun _ hk => hk.2) (.slice Ao15 t534.length co15)) (fun _ hk => hk.2) (.slice Ao16 t537.length co16)) (fun _ h_ => h_.1)))); (case side2 => exact (Kd.R_reads' HO536.out).2.1); (case side3 => refine (Kd.R_reads' (e := 3) (base := w.heap.size) (ok := fun k_ => ((some k_ ≠ (.slice Ao15 t534.length co15 : Value).ownBlock ∧ some k_ ≠ (.slice Ao9 t525.length co9 : Value).ownBlock) ∧ some k_ ≠ (.slice Ao10 t528.length co10 : Value).ownBlock)) (n := t537.length) (c := co16) ?_).2.2; exact (by (with_reducible repeat (first | apply Kd.R_alloc | apply Kd.R_drewN | apply Kd.R_drew)); exact (Kd.R_mono (Kd.R_far (p := ⟨gb541, 2, none⟩) (Kd.R_far (p := ⟨gb541, 1, none⟩) (Kd.R_far (p := ⟨gb541, 0, none⟩) (Kd.R_types HO539.out BK541.out (by decide)) (fun _ hk => hk.2) (.bool t533)) (fun _ hk => hk.2) (.slice Ao15 t534.length co15)) (fun _ hk => hk.2) (.slice Ao16 t537.length co16)) (fun _ h_ => h_.1)))); (case side4 => exact (Kd.R_reads' HO539.out).2.1); (case side5 => refine (Kd.R_reads' (e := 3) (base := w.heap.size) (ok := fun k_ => ((some k_ ≠ (.slice Ao10 t528.length co10 : Value).ownBlock ∧ some k_ ≠ (.slice Ao15 t534.length co15 : Value).ownBlock) ∧ some k_ ≠ (.slice Ao16 t537.length co16 : Value).ownBlock)) (n := t525.length) (c := co9) ?_).2.2; exact (by (with_reducible repeat (first | apply Kd.R_alloc | apply Kd.R_drewN | apply Kd.R_drew)); exact (Kd.R_mono (Kd.R_far (p := ⟨gb541, 2, none⟩) (Kd.R_far (p := ⟨gb541, 1, none⟩) (Kd.R_far (p := ⟨gb541, 0, none⟩) (Kd.R_types HO527.out BK541.out (by decide)) (fun _ hk => hk.2) (.bool t533)) (fun _ hk => hk.2) (.slice Ao15 t534.length co15)) (fun _ hk => hk.2) (.slice Ao16 t537.length co16)) (fun _ h_ => h_.1)))); (case side6 => exact (Kd.R_reads' HO527.out).2.1); (case side7 => refine (Kd.R_reads' (e := 3) (base := w.heap.size) (ok := fun k_ => ((some k_ ≠ (.slice Ao9 t525.length co9 : Value).ownBlock ∧ some k_ ≠ (.slice Ao15 t534.length co15 : Value).ownBlock) ∧ some k_ ≠ (.slice Ao16 t537.length co16 : Value).ownBlock)) (n := t528.length) (c := co10) ?_).2.2; exact (by (with_reducible repeat (first | apply Kd.R_alloc | apply Kd.R_drewN | apply Kd.R_drew)); exact (Kd.R_mono (Kd.R_far (p := ⟨gb541, 2, none⟩) (Kd.R_far (p := ⟨gb541, 1, none⟩) (Kd.R_far (p := ⟨gb541, 0, none⟩) (Kd.R_types HO530.out BK541.out (by decide)) (fun _ hk => hk.2) (.bool t533)) (fun _ hk => hk.2) (.slice Ao15 t534.length co15)) (fun _ hk => hk.2) (.slice Ao16 t537.length co16)) (fun _ h_ => h_.1)))); (case side8 => exact (Kd.R_reads' HO530.out).2.1); rintro e w22 ⟨rfl, hb⟩; refine ⟨_, rfl, ?_⟩; have n0_ := Aside0.mk (Kd.R_below (by (with_reducible repeat (first | apply Kd.R_alloc | apply Kd.R_drewN | apply Kd.R_drew)); exact (Kd.R_mono (Kd.R_far (p := ⟨gb541, 2, none⟩) (Kd.R_far (p := ⟨gb541, 1, none⟩) (Kd.R_far (p := ⟨gb541, 0, none⟩) (Kd.R_types HO527.out BK541.out (by decide)) (fun _ hk => hk.2) (.bool t533)) (fun _ hk => hk.2) (.slice Ao15 t534.length co15)) (fun _ hk => hk.2) (.slice Ao16 t537.length co16)) (fun _ h_ => h_.1))) hb); have n1_ := Aside0.mk (Kd.R_below (by (with_reducible repeat (first | apply Kd.R_alloc | apply Kd.R_drewN | apply Kd.R_drew)); exact (Kd.R_mono (Kd.R_far (p := ⟨gb541, 2, none⟩) (Kd.R_far (p := ⟨gb541, 1, none⟩) (Kd.R_far (p := ⟨gb541, 0, none⟩) (Kd.R_types HO530.out BK541.out (by decide)) (fun _ hk => hk.2) (.bool t533)) (fun _ hk => hk.2) (.slice Ao15 t534.length co15)) (fun _ hk => hk.2) (.slice Ao16 t537.length co16)) (fun _ h_ => h_.1))) hb); have n2_ := Aside0.mk (Kd.R_below (by (with_reducible repeat (first | apply Kd.R_alloc | apply Kd.R_drewN | apply Kd.R_drew)); exact (Kd.R_mono (Kd.R_far (p := ⟨gb541, 2, none⟩) (Kd.R_far (p := ⟨gb541, 1, none⟩) (Kd.R_far (p := ⟨gb541, 0, none⟩) (Kd.R_types HO536.out BK541.out (by decide)) (fun _ hk => hk.2) (.bool t533)) (fun _ hk => hk.2) (.slice Ao15 t534.length co15)) (fun _ hk => hk.2) (.slice Ao16 t537.length co16)) (fun _ h_ => h_.1))) hb); have n3_ := Aside0.mk (Kd.R_below (by (with_reducible repeat (first | apply Kd.R_alloc | apply Kd.R_drewN | apply Kd.R_drew)); exact (Kd.R_mono (Kd.R_far (p := ⟨gb541, 2, none⟩) (Kd.R_far (p := ⟨gb541, 1, none⟩) (Kd.R_far (p := ⟨gb541, 0, none⟩) (Kd.R_types HO539.out BK541.out (by decide)) (fun _ hk => hk.2) (.bool t533)) (fun _ hk => hk.2) (.slice Ao15 t534.length co15)) (fun _ hk => hk.2) (.slice Ao16 t537.length co16)) (fun _ h_ => h_.1))) hb); have n4_ := Aside0.mk (blk_below (g := gb532) (o := .cells #[.bool t524, .slice Ao9 t525.length co9, .slice Ao10 t528.length co10] 24 (0, 0)) (by (with_reducible repeat (first | refine blk_drewN ?_ _ | refine blk_drew ?_ | refine blk_alloc ?_ _)); refine blk_far ?_ NB532_541.out _; (with_reducible repeat (first | refine blk_drewN ?_ _ | refine blk_drew ?_ | refine blk_alloc ?_ _)); refine blk_far ?_ NB532_541.out _; (with_reducible repeat (first | refine blk_drewN ?_ _ | refine blk_drew ?_ | refine blk_alloc ?_ _)); refine blk_far ?_ NB532_541.out _; (with_reducible repeat (first | refine blk_drewN ?_ _ | refine blk_drew ?_ | refine blk_alloc ?_ _)); exact BK532.out) hb); have n5_ := Aside0.mk (blk_below (g := gb541) (o := .cells #[.bool t533, .slice Ao15 t534.length co15, .slice Ao16 t537.length co16] 24 (0, 0)) (by (with_reducible repeat (first | refine blk_drewN ?_ _ | refine blk_drew ?_ | refine blk_alloc ?_ _)); refine blk_put (cs := #[.bool t533, .slice Ao15 t534.length co15, .slice none 0 0]) ?_ 2 _ rfl; (with_reducible repeat (first | refine blk_drewN ?_ _ | refine blk_drew ?_ | refine blk_alloc ?_ _)); refine blk_put (cs := #[.bool t533, .slice none 0 0, .slice none 0 0]) ?_ 1 _ rfl; (with_reducible repeat (first | refine blk_drewN ?_ _ | refine blk_drew ?_ | refine blk_alloc ?_ _)); refine blk_put (cs := #[.bool false, .slice none 0 0, .slice none 0 0]) ?_ 0 _ rfl; (with_reducible repeat (first | refine blk_drewN ?_ _ | refine blk_drew ?_ | refine blk_alloc ?_ _)); exact BK541.out) hb); have n6_ := Aside0.mk (below_step (by repeat (first | (with_reducible first | exact HB.out | apply below_alloc | apply pw_below_drewN | apply below_drew1 | refine below_set ?_ GE532.out | refine below_set ?_ GE541.out) | exact HB.out)) hb); clear HO527; clear HO530; clear HO536; clear HO539; clear BK532; clear BK541; clear HB; have HO527 := n0_; have HO530 := n1_; have HO536 := n2_; have HO539 := n3_; have BK532 := n4_; have BK541 := n5_; have HB := n6_; clear n0_ n1_ n2_ n3_ n4_ n5_ n6_; (try clear hb); (try clear hb2); (try clear hk); (try clear hi)))
      go_meet
      case rel => exact ⟨_, ((t540 != t531)), (by first | rfl | (simp; done) | (simp [*]; done)), H', ⟨by first | omega | exact Nat.le_refl _⟩, ⟨by (with_reducible repeat (first | apply Kd.R_alloc | apply Kd.R_drewN | apply Kd.R_drew)); exact Kd.R_mono HO527.out (fun _ hk => ⟨hk.1.1, ⟨hk.1.2, hk.2⟩⟩)⟩, ⟨by (with_reducible repeat (first | apply Kd.R_alloc | apply Kd.R_drewN | apply Kd.R_drew)); exact Kd.R_mono HO530.out (fun _ hk => ⟨hk.1.1, ⟨hk.1.2, hk.2⟩⟩)⟩, ⟨by (with_reducible repeat (first | apply Kd.R_alloc | apply Kd.R_drewN | apply Kd.R_drew)); exact Kd.R_mono HO536.out (fun _ hk => ⟨hk.1.2, ⟨hk.2, hk.1.1⟩⟩)⟩, ⟨by (with_reducible repeat (first | apply Kd.R_alloc | apply Kd.R_drewN | apply Kd.R_drew)); exact Kd.R_mono HO539.out (fun _ hk => ⟨hk.1.2, ⟨hk.2, hk.1.1⟩⟩)⟩, ⟨by (with_reducible repeat (first | refine blk_drewN ?_ _ | refine blk_drew ?_ | refine blk_alloc ?_ _)); exact BK532.out⟩, ⟨by (with_reducible repeat (first | refine blk_drewN ?_ _ | refine blk_drew ?_ | refine blk_alloc ?_ _)); exact BK541.out⟩, ⟨by repeat (first | (with_reducible first | exact HB.out | apply below_alloc | apply pw_below_drewN | apply below_drew1 | refine below_set ?_ GE532.out | refine below_set ?_ GE541.out) | exact HB.out)⟩⟩
    · replace c18 := Bool.eq_false_iff.mpr c18
      subst c18
      have H1 : (laws_FnExactMakeRat.j0 k a0 a1 t531 true t524 t525 t528 t533 t534 t537) = some r := by rw [if_neg (show ¬ (false = true) by decide)] at H; exact H
      clear H
      have H := H1
      clear H1
      have H' := Aside0.mk H
      clear H
      have hnb23 := NB541_532.out
      have hnc23 := NB532_541.out
      have hcz24_0 : w12.cell? ⟨gb541, 0, none⟩ = some (.bool false) := (blk_cell BK541.out 0).trans rfl
      have hcz24_1 : w12.cell? ⟨gb541, 1, none⟩ = some (.slice none 0 0) := (blk_cell BK541.out 1).trans rfl
      have hcz24_2 : w12.cell? ⟨gb541, 2, none⟩ = some (.slice none 0 0) := (blk_cell BK541.out 2).trans rfl
      have hfz24_0 := blk_frozen BK541.out 0
      have hfz24_1 := blk_frozen BK541.out 1
      have hfz24_2 := blk_frozen BK541.out 2
      have hcz25_0 : w12.cell? ⟨gb532, 0, none⟩ = some (.bool t524) := (blk_cell BK532.out 0).trans rfl
      have hcz25_1 : w12.cell? ⟨gb532, 1, none⟩ = some (.slice Ao9 t525.length co9) := (blk_cell BK532.out 1).trans rfl
      have hcz25_2 : w12.cell? ⟨gb532, 2, none⟩ = some (.slice Ao10 t528.length co10) := (blk_cell BK532.out 2).trans rfl
      have hfz25_0 := blk_frozen BK532.out 0
      have hfz25_1 := blk_frozen BK532.out 1
      have hfz25_2 := blk_frozen BK532.out 2
      go_wp2_with (first | ((with_reducible refine gate_callee (f := 17) rfl ?_); refine goesL_ (some 27) rfl rfl Try.func17 (by kernel_rfl) rfl #[.agg #[.bool t533, .slice Ao15 t534.length co15, .slice Ao16 t537.length co16], .agg #[.bool t524, .slice Ao9 t525.length co9, .slice Ao10 t528.length co10]] rfl (by (try simp only [List.map_toArray, List.map_cons, List.map_nil]); first | done | rfl | (simp only [List.length_drop, List.length_take]; rfl)) ?_; (with_reducible refine (laws_eqRat.calls k t533 _ _ t534 _ _ t537 t524 _ _ t525 _ _ t528 false _ ?side1 ?side2 ?side3 ?side4 ?side5 ?side6 ?side7 ?side8 A17.out).mono ?_); (case side1 => refine (Kd.R_reads' (e := 3) (base := w.heap.size) (ok := fun k_ => ((some k_ ≠ (.slice Ao16 t537.length co16 : Value).ownBlock ∧ some k_ ≠ (.slice Ao9 t525.length co9 : Value).ownBlock) ∧ some k_ ≠ (.slice Ao10 t528.length co10 : Value).ownBlock)) (n := t534.length) (c := co15) ?_).2.2; exact (by (with_reducible repeat (first | apply Kd.R_alloc | apply Kd.R_drewN | apply Kd.R_drew)); exact (Kd.R_mono (Kd.R_far (p := ⟨gb541, 2, none⟩) (Kd.R_far (p := ⟨gb541, 1, none⟩) (Kd.R_far (p := ⟨gb541, 0, none⟩) (Kd.R_types HO536.out BK541.out (by decide)) (fun _ hk => hk.2) (.bool t533)) (fun _ hk => hk.2) (.slice Ao15 t534.length co15)) (fun _ hk => hk.2) (.slice Ao16 t537.length co16)) (fun _ h_ => h_.1)))); (case side2 => exact (Kd.R_reads' HO536.out).2.1); (case side3 => refine (Kd.R_reads' (e := 3) (base := w.heap.size) (ok := fun k_ => ((some k_ ≠ (.slice Ao15 t534.length co15 : Value).ownBlock ∧ some k_ ≠ (.slice Ao9 t525.length co9 : Value).ownBlock) ∧ some k_ ≠ (.slice Ao10 t528.length co10 : Value).ownBlock)) (n := t537.length) (c := co16) ?_).2.2; exact (by (with_reducible repeat (first | apply Kd.R_alloc | apply Kd.R_drewN | apply Kd.R_drew)); exact (Kd.R_mono (Kd.R_far (p := ⟨gb541, 2, none⟩) (Kd.R_far (p := ⟨gb541, 1, none⟩) (Kd.R_far (p := ⟨gb541, 0, none⟩) (Kd.R_types HO539.out BK541.out (by decide)) (fun _ hk => hk.2) (.bool t533)) (fun _ hk => hk.2) (.slice Ao15 t534.length co15)) (fun _ hk => hk.2) (.slice Ao16 t537.length co16)) (fun _ h_ => h_.1)))); (case side4 => exact (Kd.R_reads' HO539.out).2.1); (case side5 => refine (Kd.R_reads' (e := 3) (base := w.heap.size) (ok := fun k_ => ((some k_ ≠ (.slice Ao10 t528.length co10 : Value).ownBlock ∧ some k_ ≠ (.slice Ao15 t534.length co15 : Value).ownBlock) ∧ some k_ ≠ (.slice Ao16 t537.length co16 : Value).ownBlock)) (n := t525.length) (c := co9) ?_).2.2; exact (by (with_reducible repeat (first | apply Kd.R_alloc | apply Kd.R_drewN | apply Kd.R_drew)); exact (Kd.R_mono (Kd.R_far (p := ⟨gb541, 2, none⟩) (Kd.R_far (p := ⟨gb541, 1, none⟩) (Kd.R_far (p := ⟨gb541, 0, none⟩) (Kd.R_types HO527.out BK541.out (by decide)) (fun _ hk => hk.2) (.bool t533)) (fun _ hk => hk.2) (.slice Ao15 t534.length co15)) (fun _ hk => hk.2) (.slice Ao16 t537.length co16)) (fun _ h_ => h_.1)))); (case side6 => exact (Kd.R_reads' HO527.out).2.1); (case side7 => refine (Kd.R_reads' (e := 3) (base := w.heap.size) (ok := fun k_ => ((some k_ ≠ (.slice Ao9 t525.length co9 : Value).ownBlock ∧ some k_ ≠ (.slice Ao15 t534.length co15 : Value).ownBlock) ∧ some k_ ≠ (.slice Ao16 t537.length co16 : Value).ownBlock)) (n := t528.length) (c := co10) ?_).2.2; exact (by (with_reducible repeat (first | apply Kd.R_alloc | apply Kd.R_drewN | apply Kd.R_drew)); exact (Kd.R_mono (Kd.R_far (p := ⟨gb541, 2, none⟩) (Kd.R_far (p := ⟨gb541, 1, none⟩) (Kd.R_far (p := ⟨gb541, 0, none⟩) (Kd.R_types HO530.out BK541.out (by decide)) (fun _ hk => hk.2) (.bool t533)) (fun _ hk => hk.2) (.slice Ao15 t534.length co15)) (fun _ hk => hk.2) (.slice Ao16 t537.length co16)) (fun _ h_ => h_.1)))); (case side8 => exact (Kd.R_reads' HO530.out).2.1); rintro e w26 ⟨rfl, hb⟩; refine ⟨_, rfl, ?_⟩; have n0_ := Aside0.mk (Kd.R_below (by (with_reducible repeat (first | apply Kd.R_alloc | apply Kd.R_drewN | apply Kd.R_drew)); exact (Kd.R_mono (Kd.R_far (p := ⟨gb541, 2, none⟩) (Kd.R_far (p := ⟨gb541, 1, none⟩) (Kd.R_far (p := ⟨gb541, 0, none⟩) (Kd.R_types HO527.out BK541.out (by decide)) (fun _ hk => hk.2) (.bool t533)) (fun _ hk => hk.2) (.slice Ao15 t534.length co15)) (fun _ hk => hk.2) (.slice Ao16 t537.length co16)) (fun _ h_ => h_.1))) hb); have n1_ := Aside0.mk (Kd.R_below (by (with_reducible repeat (first | apply Kd.R_alloc | apply Kd.R_drewN | apply Kd.R_drew)); exact (Kd.R_mono (Kd.R_far (p := ⟨gb541, 2, none⟩) (Kd.R_far (p := ⟨gb541, 1, none⟩) (Kd.R_far (p := ⟨gb541, 0, none⟩) (Kd.R_types HO530.out BK541.out (by decide)) (fun _ hk => hk.2) (.bool t533)) (fun _ hk => hk.2) (.slice Ao15 t534.length co15)) (fun _ hk => hk.2) (.slice Ao16 t537.length co16)) (fun _ h_ => h_.1))) hb); have n2_ := Aside0.mk (Kd.R_below (by (with_reducible repeat (first | apply Kd.R_alloc | apply Kd.R_drewN | apply Kd.R_drew)); exact (Kd.R_mono (Kd.R_far (p := ⟨gb541, 2, none⟩) (Kd.R_far (p := ⟨gb541, 1, none⟩) (Kd.R_far (p := ⟨gb541, 0, none⟩) (Kd.R_types HO536.out BK541.out (by decide)) (fun _ hk => hk.2) (.bool t533)) (fun _ hk => hk.2) (.slice Ao15 t534.length co15)) (fun _ hk => hk.2) (.slice Ao16 t537.length co16)) (fun _ h_ => h_.1))) hb); have n3_ := Aside0.mk (Kd.R_below (by (with_reducible repeat (first | apply Kd.R_alloc | apply Kd.R_drewN | apply Kd.R_drew)); exact (Kd.R_mono (Kd.R_far (p := ⟨gb541, 2, none⟩) (Kd.R_far (p := ⟨gb541, 1, none⟩) (Kd.R_far (p := ⟨gb541, 0, none⟩) (Kd.R_types HO539.out BK541.out (by decide)) (fun _ hk => hk.2) (.bool t533)) (fun _ hk => hk.2) (.slice Ao15 t534.length co15)) (fun _ hk => hk.2) (.slice Ao16 t537.length co16)) (fun _ h_ => h_.1))) hb); have n4_ := Aside0.mk (blk_below (g := gb532) (o := .cells #[.bool t524, .slice Ao9 t525.length co9, .slice Ao10 t528.length co10] 24 (0, 0)) (by (with_reducible repeat (first | refine blk_drewN ?_ _ | refine blk_drew ?_ | refine blk_alloc ?_ _)); refine blk_far ?_ NB532_541.out _; (with_reducible repeat (first | refine blk_drewN ?_ _ | refine blk_drew ?_ | refine blk_alloc ?_ _)); refine blk_far ?_ NB532_541.out _; (with_reducible repeat (first | refine blk_drewN ?_ _ | refine blk_drew ?_ | refine blk_alloc ?_ _)); refine blk_far ?_ NB532_541.out _; (with_reducible repeat (first | refine blk_drewN ?_ _ | refine blk_drew ?_ | refine blk_alloc ?_ _)); exact BK532.out) hb); have n5_ := Aside0.mk (blk_below (g := gb541) (o := .cells #[.bool t533, .slice Ao15 t534.length co15, .slice Ao16 t537.length co16] 24 (0, 0)) (by (with_reducible repeat (first | refine blk_drewN ?_ _ | refine blk_drew ?_ | refine blk_alloc ?_ _)); refine blk_put (cs := #[.bool t533, .slice Ao15 t534.length co15, .slice none 0 0]) ?_ 2 _ rfl; (with_reducible repeat (first | refine blk_drewN ?_ _ | refine blk_drew ?_ | refine blk_alloc ?_ _)); refine blk_put (cs := #[.bool t533, .slice none 0 0, .slice none 0 0]) ?_ 1 _ rfl; (with_reducible repeat (first | refine blk_drewN ?_ _ | refine blk_drew ?_ | refine blk_alloc ?_ _)); refine blk_put (cs := #[.bool false, .slice none 0 0, .slice none 0 0]) ?_ 0 _ rfl; (with_reducible repeat (first | refine blk_drewN ?_ _ | refine blk_drew ?_ | refine blk_alloc ?_ _)); exact BK541.out) hb); have n6_ := Aside0.mk (below_step (by repeat (first | (with_reducible first | exact HB.out | apply below_alloc | apply pw_below_drewN | apply below_drew1 | refine below_set ?_ GE532.out | refine below_set ?_ GE541.out) | exact HB.out)) hb); clear HO527; clear HO530; clear HO536; clear HO539; clear BK532; clear BK541; clear HB; have HO527 := n0_; have HO530 := n1_; have HO536 := n2_; have HO539 := n3_; have BK532 := n4_; have BK541 := n5_; have HB := n6_; clear n0_ n1_ n2_ n3_ n4_ n5_ n6_; (try clear hb); (try clear hb2); (try clear hk); (try clear hi)))
      go_meet
      case rel => exact ⟨_, (true), (by first | rfl | (simp; done) | (simp [*]; done)), H', ⟨by first | omega | exact Nat.le_refl _⟩, ⟨by (with_reducible repeat (first | apply Kd.R_alloc | apply Kd.R_drewN | apply Kd.R_drew)); exact Kd.R_mono HO527.out (fun _ hk => ⟨hk.1.1, ⟨hk.1.2, hk.2⟩⟩)⟩, ⟨by (with_reducible repeat (first | apply Kd.R_alloc | apply Kd.R_drewN | apply Kd.R_drew)); exact Kd.R_mono HO530.out (fun _ hk => ⟨hk.1.1, ⟨hk.1.2, hk.2⟩⟩)⟩, ⟨by (with_reducible repeat (first | apply Kd.R_alloc | apply Kd.R_drewN | apply Kd.R_drew)); exact Kd.R_mono HO536.out (fun _ hk => ⟨hk.1.2, ⟨hk.2, hk.1.1⟩⟩)⟩, ⟨by (with_reducible repeat (first | apply Kd.R_alloc | apply Kd.R_drewN | apply Kd.R_drew)); exact Kd.R_mono HO539.out (fun _ hk => ⟨hk.1.2, ⟨hk.2, hk.1.1⟩⟩)⟩, ⟨by (with_reducible repeat (first | refine blk_drewN ?_ _ | refine blk_drew ?_ | refine blk_alloc ?_ _)); exact BK532.out⟩, ⟨by (with_reducible repeat (first | refine blk_drewN ?_ _ | refine blk_drew ?_ | refine blk_alloc ?_ _)); exact BK541.out⟩, ⟨by repeat (first | (with_reducible first | exact HB.out | apply below_alloc | apply pw_below_drewN | apply below_drew1 | refine below_set ?_ GE532.out | refine below_set ?_ GE541.out) | exact HB.out)⟩⟩
  case rest =>
    clear HC5
    try clear c1
    try clear c2
    try clear p2
    try clear c3
    try clear c13
    try clear c15
    try clear c16
    try clear c17
    try clear c18
    try clear c19
    try clear c23
    try clear hcz14_0
    try clear hcz14_1
    try clear hcz14_2
    try clear hcz20_0
    try clear hcz20_1
    try clear hcz20_2
    try clear hcz21_0
    try clear hcz21_1
    try clear hcz21_2
    try clear hcz24_0
    try clear hcz24_1
    try clear hcz24_2
    try clear hcz25_0
    try clear hcz25_1
    try clear hcz25_2
    try clear hcz8_0
    try clear hcz8_1
    try clear hcz8_2
    try clear hfz14_0
    try clear hfz14_1
    try clear hfz14_2
    try clear hfz20_0
    try clear hfz20_1
    try clear hfz20_2
    try clear hfz21_0
    try clear hfz21_1
    try clear hfz21_2
    try clear hfz24_0
    try clear hfz24_1
    try clear hfz24_2
    try clear hfz25_0
    try clear hfz25_1
    try clear hfz25_2
    try clear hfz8_0
    try clear hfz8_1
    try clear hfz8_2
    obtain ⟨kq, x33_4, rfl, HA, HJ4, HO_533001, HO_533002, HO_542001, HO_542002, BK532, BK541, HB⟩ := hcut
    cases kq with
    | zero => exact absurd HA.out (by simp [laws_FnExactMakeRat.j0])
    | succ kj4 =>
      have H := HA.out
      clear HA
      simp only [laws_FnExactMakeRat.j0] at H
      by_cases c27 : x33_4 = true
      · subst c27
        have H1 : (some false) = some r := by rw [if_pos rfl] at H; exact H
        clear H
        have H := H1
        clear H1
        obtain rfl := Option.some.inj H
        exact absurd hr_ (by decide)
      · replace c27 := Bool.eq_false_iff.mpr c27
        subst c27
        have H1 : ((laws_markRat.f kj4 t533 t534 t537 1).bind fun bt543 => ((laws_heldRat.f kj4 t533 bt543.2.1 bt543.2.2 1).bind fun t546 => (if t546 < 0 then (some false) else (if t546 = bt543.1 then ((impl_MakeRat.f kj4 a0 a1).bind fun bt547 => ((laws_eqRat.f kj4 bt547.1 bt547.2.1 bt547.2.2.1 t524 t525 t528).bind fun t556 => (if t556 = true then (laws_FnExactMakeRat.j1 kj4 bt543.1 (bt547.2.2.2 != t531) t533 bt543.2.1 bt543.2.2) else (laws_FnExactMakeRat.j1 kj4 bt543.1 true t533 bt543.2.1 bt543.2.2)))) else (some false))))) = some r := by rw [if_neg (show ¬ (false = true) by decide)] at H; exact H
        clear H
        have H := H1
        clear H1
        replace H := Option.bind_eq_some_iff.mp H
        obtain ⟨⟨t543, t544, t545⟩, A280, H⟩ := H
        replace H : ((laws_heldRat.f kj4 t533 t544 t545 1).bind fun t546 => (if t546 < 0 then (some false) else (if t546 = t543 then ((impl_MakeRat.f kj4 a0 a1).bind fun bt547 => ((laws_eqRat.f kj4 bt547.1 bt547.2.1 bt547.2.2.1 t524 t525 t528).bind fun t556 => (if t556 = true then (laws_FnExactMakeRat.j1 kj4 t543 (bt547.2.2.2 != t531) t533 t544 t545) else (laws_FnExactMakeRat.j1 kj4 t543 true t533 t544 t545)))) else (some false)))) = some r := H
        have A28 := Aside0.mk A280
        clear A280
        replace H := Option.bind_eq_some_iff.mp H
        obtain ⟨t546, A290, H⟩ := H
        replace H : (if t546 < 0 then (some false) else (if t546 = t543 then ((impl_MakeRat.f kj4 a0 a1).bind fun bt547 => ((laws_eqRat.f kj4 bt547.1 bt547.2.1 bt547.2.2.1 t524 t525 t528).bind fun t556 => (if t556 = true then (laws_FnExactMakeRat.j1 kj4 t543 (bt547.2.2.2 != t531) t533 t544 t545) else (laws_FnExactMakeRat.j1 kj4 t543 true t533 t544 t545)))) else (some false))) = some r := H
        have A29 := Aside0.mk A290
        clear A290
        by_cases c30 : t546 < 0
        · rw [if_pos c30] at H
          have c30b0 : decide (t546 < 0) = true := decide_eq_true c30
          clear c30
          obtain rfl := Option.some.inj H
          exact absurd hr_ (by decide)
        · rw [if_neg c30] at H
          have c30b0 : decide (t546 < 0) = false := decide_eq_false c30
          clear c30
          by_cases c36 : t546 = t543
          · rw [if_pos c36] at H
            have c36b0 : (t546 == t543) = true := beq_iff_eq.mpr c36
            have c36b1 : (t546 != t543) = false := bne_eq_false_iff_eq.mpr c36
            clear c36
            replace H := Option.bind_eq_some_iff.mp H
            obtain ⟨⟨t547, t548, t551, t554⟩, A370, H⟩ := H
            replace H : ((laws_eqRat.f kj4 t547 t548 t551 t524 t525 t528).bind fun t556 => (if t556 = true then (laws_FnExactMakeRat.j1 kj4 t543 (t554 != t531) t533 t544 t545) else (laws_FnExactMakeRat.j1 kj4 t543 true t533 t544 t545))) = some r := H
            have A37 := Aside0.mk A370
            clear A370
            have HC38 := Aside0.mk H
            clear H
            have hnb39 := NB541_532.out
            have hnc39 := NB532_541.out
            have hcz40_0 : wc.cell? ⟨gb541, 0, none⟩ = some (.bool t533) := (blk_cell BK541.out 0).trans rfl
            have hcz40_1 : wc.cell? ⟨gb541, 1, none⟩ = some (.slice Ao15 t534.length co15) := (blk_cell BK541.out 1).trans rfl
            have hcz40_2 : wc.cell? ⟨gb541, 2, none⟩ = some (.slice Ao16 t537.length co16) := (blk_cell BK541.out 2).trans rfl
            have hfz40_0 := blk_frozen BK541.out 0
            have hfz40_1 := blk_frozen BK541.out 1
            have hfz40_2 := blk_frozen BK541.out 2
            go_upto_region 14 with (first | ((with_reducible refine gate_callee (f := 18) rfl ?_); refine goesL_ (some 36) rfl rfl Try.func18 (by kernel_rfl) rfl #[.agg #[.bool t533, .slice Ao15 t534.length co15, .slice Ao16 t537.length co16], .int .i64 1] rfl (by (try simp only [List.map_toArray, List.map_cons, List.map_nil]); first | done | rfl | (simp only [List.length_drop, List.length_take]; rfl)) ?_; (with_reducible refine (laws_markRat.calls kj4 t533 (fun k_ => some k_ = (.slice Ao15 t534.length co15 : Value).ownBlock) (.slice Ao15 t534.length co15) t534 (fun k_ => some k_ = (.slice Ao16 t537.length co16 : Value).ownBlock) (.slice Ao16 t537.length co16) t537 1 t543 t544 t545 w _ ?side1 ?side2 ?side3 ?side4 ?side5 A28.out).mono ?_); (case side1 => repeat (first | (with_reducible first | exact HB.out | apply below_alloc | apply pw_below_drewN | apply below_drew1 | refine below_set ?_ GE532.out | refine below_set ?_ GE541.out) | exact HB.out)); (case side2 => exact Kd.R_tight rfl HO_542001.out); (case side3 => exact fun k_ e_ => (HO_542001.out.1 k_ e_.symm).2.2); (case side4 => exact Kd.R_tight rfl HO_542002.out); (case side5 => exact fun k_ e_ => (HO_542002.out.1 k_ e_.symm).2.2); rintro e w41 ⟨rfl, hy0, hy1, hb, hkp⟩; refine ⟨_, rfl, ?_⟩; have n0_ := Aside0.mk (Kd.R_mono (ok' := fun k_ => some k_ ≠ (.slice Ao10 t528.length co10 : Value).ownBlock ∧ some k_ ≠ (.slice Ao15 t534.length co15 : Value).ownBlock ∧ some k_ ≠ (.slice Ao16 t537.length co16 : Value).ownBlock) (Kd.R_keptB (HO_533001.out) hkp (fun k_ hk_ hs_ => Or.elim hs_ (fun e_ => (hk_.2.1) e_) (fun e_ => (hk_.2.2) e_))) (fun k_ hk_ => ⟨hk_.1.1, hk_.1.2.1, hk_.1.2.2⟩)); have n1_ := Aside0.mk (Kd.R_mono (ok' := fun k_ => some k_ ≠ (.slice Ao9 t525.length co9 : Value).ownBlock ∧ some k_ ≠ (.slice Ao15 t534.length co15 : Value).ownBlock ∧ some k_ ≠ (.slice Ao16 t537.length co16 : Value).ownBlock) (Kd.R_keptB (HO_533002.out) hkp (fun k_ hk_ hs_ => Or.elim hs_ (fun e_ => (hk_.2.1) e_) (fun e_ => (hk_.2.2) e_))) (fun k_ hk_ => ⟨hk_.1.1, hk_.1.2.1, hk_.1.2.2⟩)); have n2_ := Aside0.mk (Kd.R_reok rfl hy0 (fun k_ e_ => HO_542001.out.1 k_ e_)); have n3_ := Aside0.mk (Kd.R_reok rfl hy1 (fun k_ e_ => HO_542002.out.1 k_ e_)); have n4_ := Aside0.mk (blk_kept (by (with_reducible repeat (first | refine blk_drewN ?_ _ | refine blk_drew ?_ | refine blk_alloc ?_ _)); exact BK532.out) hkp (fun hs_ => Or.elim hs_ (fun e_ => (fun e_ => (Kd.R_ne HO_542001.out BK532.out (by decide)) e_) e_) (fun e_ => (fun e_ => (Kd.R_ne HO_542002.out BK532.out (by decide)) e_) e_))); have n5_ := Aside0.mk (blk_kept (by (with_reducible repeat (first | refine blk_drewN ?_ _ | refine blk_drew ?_ | refine blk_alloc ?_ _)); exact BK541.out) hkp (fun hs_ => Or.elim hs_ (fun e_ => (fun e_ => (Kd.R_ne HO_542001.out BK541.out (by decide)) e_) e_) (fun e_ => (fun e_ => (Kd.R_ne HO_542002.out BK541.out (by decide)) e_) e_))); have n6_ := Aside0.mk (hb); clear HO_533001; clear HO_533002; clear HO_542001; clear HO_542002; clear BK532; clear BK541; clear HB; have HO_533001 := n0_; have HO_533002 := n1_; have HO_542001 := n2_; have HO_542002 := n3_; have BK532 := n4_; have BK541 := n5_; have HB := n6_; clear n0_ n1_ n2_ n3_ n4_ n5_ n6_; (try clear hb); (try clear hkp); (try clear hy0); (try clear hy1); have hcz42_0 : w41.cell? ⟨gb541, 0, none⟩ = some (.bool t533) := (blk_cell BK541.out 0).trans rfl; have hcz42_1 : w41.cell? ⟨gb541, 1, none⟩ = some (.slice Ao15 t534.length co15) := (blk_cell BK541.out 1).trans rfl; have hcz42_2 : w41.cell? ⟨gb541, 2, none⟩ = some (.slice Ao16 t537.length co16) := (blk_cell BK541.out 2).trans rfl; have hfz42_0 := blk_frozen BK541.out 0; have hfz42_1 := blk_frozen BK541.out 1; have hfz42_2 := blk_frozen BK541.out 2) | ((with_reducible refine gate_callee (f := 19) rfl ?_); refine goesL_ (some 39) rfl rfl Try.func19 (by kernel_rfl) rfl #[.agg #[.bool t533, .slice Ao15 t544.length co15, .slice Ao16 t545.length co16], .int .i64 1] rfl (by (try simp only [List.map_toArray, List.map_cons, List.map_nil]); first | done | (rw [show t544.length = t534.length from (Kd.R_reads' HO_542001.out).1.symm, show t545.length = t537.length from (Kd.R_reads' HO_542002.out).1.symm] <;> rfl) | rfl | (simp only [List.length_drop, List.length_take]; rfl)) ?_; (with_reducible refine (laws_heldRat.calls kj4 t533 _ _ t544 _ _ t545 1 t546 _ ?side1 ?side2 ?side3 ?side4 A29.out).mono ?_); (case side1 => repeat (first | exact (Kd.R_reads' HO_542001.out).2.2 | (with_reducible refine Kd.C_alloc ?_ _) | (with_reducible refine Kd.C_drewN ?_ _) | (with_reducible refine Kd.C_drew ?_))); (case side2 => rw [show t544.length = t534.length from (Kd.R_reads' HO_542001.out).1.symm]; exact (Kd.R_reads' HO_542001.out).2.1); (case side3 => repeat (first | exact (Kd.R_reads' HO_542002.out).2.2 | (with_reducible refine Kd.C_alloc ?_ _) | (with_reducible refine Kd.C_drewN ?_ _) | (with_reducible refine Kd.C_drew ?_))); (case side4 => rw [show t545.length = t537.length from (Kd.R_reads' HO_542002.out).1.symm]; exact (Kd.R_reads' HO_542002.out).2.1); rintro e w43 ⟨rfl, hb⟩; refine ⟨_, rfl, ?_⟩; have n0_ := Aside0.mk (Kd.R_below (by (with_reducible repeat (first | apply Kd.R_alloc | apply Kd.R_drewN | apply Kd.R_drew)); exact HO_533001.out) hb); have n1_ := Aside0.mk (Kd.R_below (by (with_reducible repeat (first | apply Kd.R_alloc | apply Kd.R_drewN | apply Kd.R_drew)); exact HO_533002.out) hb); have n2_ := Aside0.mk (Kd.R_below (by (with_reducible repeat (first | apply Kd.R_alloc | apply Kd.R_drewN | apply Kd.R_drew)); exact HO_542001.out) hb); have n3_ := Aside0.mk (Kd.R_below (by (with_reducible repeat (first | apply Kd.R_alloc | apply Kd.R_drewN | apply Kd.R_drew)); exact HO_542002.out) hb); have n4_ := Aside0.mk (blk_below (g := gb532) (o := .cells #[.bool t524, .slice Ao9 t525.length co9, .slice Ao10 t528.length co10] 24 (0, 0)) (by (with_reducible repeat (first | refine blk_drewN ?_ _ | refine blk_drew ?_ | refine blk_alloc ?_ _)); exact BK532.out) hb); have n5_ := Aside0.mk (blk_below (g := gb541) (o := .cells #[.bool t533, .slice Ao15 t534.length co15, .slice Ao16 t537.length co16] 24 (0, 0)) (by (with_reducible repeat (first | refine blk_drewN ?_ _ | refine blk_drew ?_ | refine blk_alloc ?_ _)); exact BK541.out) hb); have n6_ := Aside0.mk (below_step (by repeat (first | (with_reducible first | exact HB.out | apply below_alloc | apply pw_below_drewN | apply below_drew1 | refine below_set ?_ GE532.out | refine below_set ?_ GE541.out) | exact HB.out)) hb); clear HO_533001; clear HO_533002; clear HO_542001; clear HO_542002; clear BK532; clear BK541; clear HB; have HO_533001 := n0_; have HO_533002 := n1_; have HO_542001 := n2_; have HO_542002 := n3_; have BK532 := n4_; have BK541 := n5_; have HB := n6_; clear n0_ n1_ n2_ n3_ n4_ n5_ n6_; (try clear hb); (try clear hb2); (try clear hk); (try clear hi)) | ((with_reducible refine gate_callee (f := 16) rfl ?_); refine goesL_ (some 48) rfl rfl Try.func16 (by kernel_rfl) rfl #[.int .i64 a0, .int .i64 a1] rfl (by (try simp only [List.map_toArray, List.map_cons, List.map_nil]); first | done | rfl | (simp only [List.length_drop, List.length_take]; rfl)) ?_; (with_reducible refine (impl_MakeRat.calls kj4 a0 a1 t547 t548 t551 t554 _ A37.out).mono ?_); rintro e w44 ⟨v549, v552, rfl, ho0, ho1, hb⟩; refine ⟨_, rfl, ?_⟩; have n0_ := Aside0.mk (Kd.R_mono (Kd.R_told (Kd.R_told (Kd.R_old (by (with_reducible repeat (first | apply Kd.R_alloc | apply Kd.R_drewN | apply Kd.R_drew)); exact HO_533001.out) hb) (Kd.R_base ho0)) (Kd.R_base ho1)) (fun _ h_ => h_.1)); have n1_ := Aside0.mk (Kd.R_mono (Kd.R_told (Kd.R_told (Kd.R_old (by (with_reducible repeat (first | apply Kd.R_alloc | apply Kd.R_drewN | apply Kd.R_drew)); exact HO_533002.out) hb) (Kd.R_base ho0)) (Kd.R_base ho1)) (fun _ h_ => h_.1)); have n2_ := Aside0.mk (Kd.R_mono (Kd.R_told (Kd.R_told (Kd.R_old (by (with_reducible repeat (first | apply Kd.R_alloc | apply Kd.R_drewN | apply Kd.R_drew)); exact HO_542001.out) hb) (Kd.R_base ho0)) (Kd.R_base ho1)) (fun _ h_ => h_.1)); have n3_ := Aside0.mk (Kd.R_mono (Kd.R_told (Kd.R_told (Kd.R_old (by (with_reducible repeat (first | apply Kd.R_alloc | apply Kd.R_drewN | apply Kd.R_drew)); exact HO_542002.out) hb) (Kd.R_base ho0)) (Kd.R_base ho1)) (fun _ h_ => h_.1)); have n4_ := Aside0.mk (Kd.R_lower (Kd.R_new' (Kd.R_new' (Kd.R_new' (Kd.R_new' ho0 (Kd.R_lt (by (with_reducible repeat (first | apply Kd.R_alloc | apply Kd.R_drewN | apply Kd.R_drew)); exact HO_533001.out))) (Kd.R_lt (by (with_reducible repeat (first | apply Kd.R_alloc | apply Kd.R_drewN | apply Kd.R_drew)); exact HO_533002.out))) (Kd.R_lt (by (with_reducible repeat (first | apply Kd.R_alloc | apply Kd.R_drewN | apply Kd.R_drew)); exact HO_542001.out))) (Kd.R_lt (by (with_reducible repeat (first | apply Kd.R_alloc | apply Kd.R_drewN | apply Kd.R_drew)); exact HO_542002.out))) (below_size (by repeat (first | (with_reducible first | exact HB.out | apply below_alloc | apply pw_below_drewN | apply below_drew1 | refine below_set ?_ GE532.out | refine below_set ?_ GE541.out) | exact HB.out)))); have n5_ := Aside0.mk (Kd.R_lower (Kd.R_new' (Kd.R_new' (Kd.R_new' (Kd.R_new' ho1 (Kd.R_lt (by (with_reducible repeat (first | apply Kd.R_alloc | apply Kd.R_drewN | apply Kd.R_drew)); exact HO_533001.out))) (Kd.R_lt (by (with_reducible repeat (first | apply Kd.R_alloc | apply Kd.R_drewN | apply Kd.R_drew)); exact HO_533002.out))) (Kd.R_lt (by (with_reducible repeat (first | apply Kd.R_alloc | apply Kd.R_drewN | apply Kd.R_drew)); exact HO_542001.out))) (Kd.R_lt (by (with_reducible repeat (first | apply Kd.R_alloc | apply Kd.R_drewN | apply Kd.R_drew)); exact HO_542002.out))) (below_size (by repeat (first | (with_reducible first | exact HB.out | apply below_alloc | apply pw_below_drewN | apply below_drew1 | refine below_set ?_ GE532.out | refine below_set ?_ GE541.out) | exact HB.out)))); have n6_ := Aside0.mk (blk_below (g := gb532) (o := .cells #[.bool t524, .slice Ao9 t525.length co9, .slice Ao10 t528.length co10] 24 (0, 0)) (by (with_reducible repeat (first | refine blk_drewN ?_ _ | refine blk_drew ?_ | refine blk_alloc ?_ _)); exact BK532.out) hb); have n7_ := Aside0.mk (blk_below (g := gb541) (o := .cells #[.bool t533, .slice Ao15 t534.length co15, .slice Ao16 t537.length co16] 24 (0, 0)) (by (with_reducible repeat (first | refine blk_drewN ?_ _ | refine blk_drew ?_ | refine blk_alloc ?_ _)); exact BK541.out) hb); have n8_ := Aside0.mk (below_step (by repeat (first | (with_reducible first | exact HB.out | apply below_alloc | apply pw_below_drewN | apply below_drew1 | refine below_set ?_ GE532.out | refine below_set ?_ GE541.out) | exact HB.out)) hb); clear HO_533001; clear HO_533002; clear HO_542001; clear HO_542002; clear BK532; clear BK541; clear HB; have HO_533001 := n0_; have HO_533002 := n1_; have HO_542001 := n2_; have HO_542002 := n3_; have HO550 := n4_; have HO553 := n5_; have BK532 := n6_; have BK541 := n7_; have HB := n8_; clear n0_ n1_ n2_ n3_ n4_ n5_ n6_ n7_ n8_; (try clear hb); (try clear hb2); (try clear hk); (try clear hi); (try clear ho0); (try clear ho1)) | ((with_reducible refine gate_dst (N := 11) rfl ?_); refine box_event ?hg (N := 11) ?hd (cs := #[.bool false, .slice none 0 0, .slice none 0 0]) (t := 24) ?hr ?_; (case hd => rfl); (case hg => rfl); (case hr => first | (go_simp; done) | (go_simp; rfl)); intro gb555 hg w45 hbox hb; have n0_ := Aside0.mk (Kd.R_below (by (with_reducible repeat (first | apply Kd.R_alloc | apply Kd.R_drewN | apply Kd.R_drew)); exact HO_533001.out) hb); have n1_ := Aside0.mk (Kd.R_below (by (with_reducible repeat (first | apply Kd.R_alloc | apply Kd.R_drewN | apply Kd.R_drew)); exact HO_533002.out) hb); have n2_ := Aside0.mk (Kd.R_below (by (with_reducible repeat (first | apply Kd.R_alloc | apply Kd.R_drewN | apply Kd.R_drew)); exact HO_542001.out) hb); have n3_ := Aside0.mk (Kd.R_below (by (with_reducible repeat (first | apply Kd.R_alloc | apply Kd.R_drewN | apply Kd.R_drew)); exact HO_542002.out) hb); have n4_ := Aside0.mk (Kd.R_below (by (with_reducible repeat (first | apply Kd.R_alloc | apply Kd.R_drewN | apply Kd.R_drew)); exact HO550.out) hb); have n5_ := Aside0.mk (Kd.R_below (by (with_reducible repeat (first | apply Kd.R_alloc | apply Kd.R_drewN | apply Kd.R_drew)); exact HO553.out) hb); have n6_ := Aside0.mk (blk_below (g := gb532) (o := .cells #[.bool t524, .slice Ao9 t525.length co9, .slice Ao10 t528.length co10] 24 (0, 0)) (by (with_reducible repeat (first | refine blk_drewN ?_ _ | refine blk_drew ?_ | refine blk_alloc ?_ _)); exact BK532.out) hb); have n7_ := Aside0.mk (blk_below (g := gb541) (o := .cells #[.bool t533, .slice Ao15 t534.length co15, .slice Ao16 t537.length co16] 24 (0, 0)) (by (with_reducible repeat (first | refine blk_drewN ?_ _ | refine blk_drew ?_ | refine blk_alloc ?_ _)); exact BK541.out) hb); have n8_ := Aside0.mk (below_step (by repeat (first | (with_reducible first | exact HB.out | apply below_alloc | apply pw_below_drewN | apply below_drew1 | refine below_set ?_ GE532.out | refine below_set ?_ GE541.out) | exact HB.out)) hb); have n9_ := Aside0.mk (hbox); have n10_ := Aside0.mk ((by rw [hg]; exact (below_size (by repeat (first | (with_reducible first | exact HB.out | apply below_alloc | apply pw_below_drewN | apply below_drew1 | refine below_set ?_ GE532.out | refine below_set ?_ GE541.out) | exact HB.out))) : w.heap.size ≤ gb555)); have n11_ := Aside0.mk ((by rw [hg]; exact (below_size (by repeat (first | (with_reducible first | exact HB.out | apply below_alloc | apply pw_below_drewN | apply below_drew1 | refine below_set ?_ GE532.out | refine below_set ?_ GE541.out) | exact HB.out))) : w.heap.size ≤ gb555)); have n12_ := Aside0.mk ((by rw [hg]; exact Nat.ne_of_lt (blk_lt (g := gb532) (o := .cells #[.bool t524, .slice Ao9 t525.length co9, .slice Ao10 t528.length co10] 24 (0, 0)) (by (with_reducible repeat (first | refine blk_drewN ?_ _ | refine blk_drew ?_ | refine blk_alloc ?_ _)); exact BK532.out)) : gb532 ≠ gb555)); have n13_ := Aside0.mk ((by rw [hg]; exact Nat.ne_of_gt (blk_lt (g := gb532) (o := .cells #[.bool t524, .slice Ao9 t525.length co9, .slice Ao10 t528.length co10] 24 (0, 0)) (by (with_reducible repeat (first | refine blk_drewN ?_ _ | refine blk_drew ?_ | refine blk_alloc ?_ _)); exact BK532.out)) : gb555 ≠ gb532)); have n14_ := Aside0.mk ((by rw [hg]; exact Nat.ne_of_lt (blk_lt (g := gb541) (o := .cells #[.bool t533, .slice Ao15 t534.length co15, .slice Ao16 t537.length co16] 24 (0, 0)) (by (with_reducible repeat (first | refine blk_drewN ?_ _ | refine blk_drew ?_ | refine blk_alloc ?_ _)); exact BK541.out)) : gb541 ≠ gb555)); have n15_ := Aside0.mk ((by rw [hg]; exact Nat.ne_of_gt (blk_lt (g := gb541) (o := .cells #[.bool t533, .slice Ao15 t534.length co15, .slice Ao16 t537.length co16] 24 (0, 0)) (by (with_reducible repeat (first | refine blk_drewN ?_ _ | refine blk_drew ?_ | refine blk_alloc ?_ _)); exact BK541.out)) : gb555 ≠ gb541)); clear HO_533001; clear HO_533002; clear HO_542001; clear HO_542002; clear HO550; clear HO553; clear BK532; clear BK541; clear HB; have HO_533001 := n0_; have HO_533002 := n1_; have HO_542001 := n2_; have HO_542002 := n3_; have HO550 := n4_; have HO553 := n5_; have BK532 := n6_; have BK541 := n7_; have HB := n8_; have BK555 := n9_; have GW555 := n10_; have GE555 := n11_; have NB532_555 := n12_; have NB555_532 := n13_; have NB541_555 := n14_; have NB555_541 := n15_; clear n0_ n1_ n2_ n3_ n4_ n5_ n6_ n7_ n8_ n9_ n10_ n11_ n12_ n13_ n14_ n15_; clear hb hbox hg; have hnb46 := NB555_532.out; have hnc46 := NB532_555.out; have hnb47 := NB555_541.out; have hnc47 := NB541_555.out; have hcz48_0 : w45.cell? ⟨gb555, 0, none⟩ = some (.bool false) := (blk_cell BK555.out 0).trans rfl; have hcz48_1 : w45.cell? ⟨gb555, 1, none⟩ = some (.slice none 0 0) := (blk_cell BK555.out 1).trans rfl; have hcz48_2 : w45.cell? ⟨gb555, 2, none⟩ = some (.slice none 0 0) := (blk_cell BK555.out 2).trans rfl; have hfz48_0 := blk_frozen BK555.out 0; have hfz48_1 := blk_frozen BK555.out 1; have hfz48_2 := blk_frozen BK555.out 2; obtain ⟨Ao49, co49, eo49⟩ := Kd.R_slice HO550.out; subst eo49; obtain ⟨Ao50, co50, eo50⟩ := Kd.R_slice HO553.out; subst eo50))
            (try simp only [Act.put, List.setIfInBounds_toArray, List.set_cons_zero, List.set_cons_succ])
            go_cut [59] (fun v59 wc => ∃ (kq : Nat) (x59_37 : Bool), v59 = .bool x59_37 ∧ Aside0 (laws_FnExactMakeRat.j1 kq t543 x59_37 t533 t544 t545 = some r) ∧ Aside0 (kq ≤ kj4) ∧ Aside0 (Kd.R (Kd.int .i64) 3 wc w.heap.size (fun k_ => some k_ ≠ ((.slice Ao10 t528.length co10) : Value).ownBlock ∧ some k_ ≠ ((.slice Ao15 t534.length co15) : Value).ownBlock ∧ some k_ ≠ ((.slice Ao16 t537.length co16) : Value).ownBlock ∧ some k_ ≠ ((.slice Ao49 t548.length co49) : Value).ownBlock ∧ some k_ ≠ ((.slice Ao50 t551.length co50) : Value).ownBlock) (.slice Ao9 t525.length co9) t525) ∧ Aside0 (Kd.R (Kd.int .i64) 3 wc w.heap.size (fun k_ => some k_ ≠ ((.slice Ao9 t525.length co9) : Value).ownBlock ∧ some k_ ≠ ((.slice Ao15 t534.length co15) : Value).ownBlock ∧ some k_ ≠ ((.slice Ao16 t537.length co16) : Value).ownBlock ∧ some k_ ≠ ((.slice Ao49 t548.length co49) : Value).ownBlock ∧ some k_ ≠ ((.slice Ao50 t551.length co50) : Value).ownBlock) (.slice Ao10 t528.length co10) t528) ∧ Aside0 (Kd.R (Kd.int .i64) 3 wc w.heap.size (fun k_ => some k_ ≠ ((.slice Ao9 t525.length co9) : Value).ownBlock ∧ some k_ ≠ ((.slice Ao10 t528.length co10) : Value).ownBlock ∧ some k_ ≠ ((.slice Ao16 t537.length co16) : Value).ownBlock ∧ some k_ ≠ ((.slice Ao49 t548.length co49) : Value).ownBlock ∧ some k_ ≠ ((.slice Ao50 t551.length co50) : Value).ownBlock) (.slice Ao15 t534.length co15) t544) ∧ Aside0 (Kd.R (Kd.int .i64) 3 wc w.heap.size (fun k_ => some k_ ≠ ((.slice Ao9 t525.length co9) : Value).ownBlock ∧ some k_ ≠ ((.slice Ao10 t528.length co10) : Value).ownBlock ∧ some k_ ≠ ((.slice Ao15 t534.length co15) : Value).ownBlock ∧ some k_ ≠ ((.slice Ao49 t548.length co49) : Value).ownBlock ∧ some k_ ≠ ((.slice Ao50 t551.length co50) : Value).ownBlock) (.slice Ao16 t537.length co16) t545) ∧ Aside0 (Kd.R (Kd.int .i64) 3 wc w.heap.size (fun k_ => some k_ ≠ ((.slice Ao9 t525.length co9) : Value).ownBlock ∧ some k_ ≠ ((.slice Ao10 t528.length co10) : Value).ownBlock ∧ some k_ ≠ ((.slice Ao15 t534.length co15) : Value).ownBlock ∧ some k_ ≠ ((.slice Ao16 t537.length co16) : Value).ownBlock ∧ some k_ ≠ ((.slice Ao50 t551.length co50) : Value).ownBlock) (.slice Ao49 t548.length co49) t548) ∧ Aside0 (Kd.R (Kd.int .i64) 3 wc w.heap.size (fun k_ => some k_ ≠ ((.slice Ao9 t525.length co9) : Value).ownBlock ∧ some k_ ≠ ((.slice Ao10 t528.length co10) : Value).ownBlock ∧ some k_ ≠ ((.slice Ao15 t534.length co15) : Value).ownBlock ∧ some k_ ≠ ((.slice Ao16 t537.length co16) : Value).ownBlock ∧ some k_ ≠ ((.slice Ao49 t548.length co49) : Value).ownBlock) (.slice Ao50 t551.length co50) t551) ∧ Aside0 (wc.heap[gb532]? = some (.cells #[.bool t524, (.slice Ao9 t525.length co9), (.slice Ao10 t528.length co10)] 24 (0, 0))) ∧ Aside0 (wc.heap[gb541]? = some (.cells #[.bool t533, (.slice Ao15 t534.length co15), (.slice Ao16 t537.length co16)] 24 (0, 0))) ∧ Aside0 (wc.heap[gb555]? = some (.cells #[.bool t547, (.slice Ao49 t548.length co49), (.slice Ao50 t551.length co50)] 24 (0, 0))) ∧ Aside0 (Below w.heap.size w wc))
            case first =>
              have H := HC38.out
              clear HC38
              replace H := Option.bind_eq_some_iff.mp H
              obtain ⟨t556, A510, H⟩ := H
              replace H : (if t556 = true then (laws_FnExactMakeRat.j1 kj4 t543 (t554 != t531) t533 t544 t545) else (laws_FnExactMakeRat.j1 kj4 t543 true t533 t544 t545)) = some r := H
              have A51 := Aside0.mk A510
              clear A510
              by_cases c52 : t556 = true
              · subst c52
                have H1 : (laws_FnExactMakeRat.j1 kj4 t543 (t554 != t531) t533 t544 t545) = some r := by rw [if_pos rfl] at H; exact H
                clear H
                have H := H1
                clear H1
                have H' := Aside0.mk H
                clear H
                have hnb53 := NB555_532.out
                have hnc53 := NB532_555.out
                have hnb54 := NB555_541.out
                have hnc54 := NB541_555.out
                have hcz55_0 : w45.cell? ⟨gb555, 0, none⟩ = some (.bool false) := (blk_cell BK555.out 0).trans rfl
                have hcz55_1 : w45.cell? ⟨gb555, 1, none⟩ = some (.slice none 0 0) := (blk_cell BK555.out 1).trans rfl
                have hcz55_2 : w45.cell? ⟨gb555, 2, none⟩ = some (.slice none 0 0) := (blk_cell BK555.out 2).trans rfl
                have hfz55_0 := blk_frozen BK555.out 0
                have hfz55_1 := blk_frozen BK555.out 1
                have hfz55_2 := blk_frozen BK555.out 2
                have hnb56 := NB532_541.out
                have hnc56 := NB541_532.out
                have hcz57_0 : w45.cell? ⟨gb532, 0, none⟩ = some (.bool t524) := (blk_cell BK532.out 0).trans rfl
                have hcz57_1 : w45.cell? ⟨gb532, 1, none⟩ = some (.slice Ao9 t525.length co9) := (blk_cell BK532.out 1).trans rfl
                have hcz57_2 : w45.cell? ⟨gb532, 2, none⟩ = some (.slice Ao10 t528.length co10) := (blk_cell BK532.out 2).trans rfl
                have hfz57_0 := blk_frozen BK532.out 0
                have hfz57_1 := blk_frozen BK532.out 1
                have hfz57_2 := blk_frozen BK532.out 2
                go_wp2_with (first | ((with_reducible refine gate_callee (f := 17) rfl ?_); refine goesL_ (some 53) rfl rfl Try.func17 (by kernel_rfl) rfl #[.agg #[.bool t547, .slice Ao49 t548.length co49, .slice Ao50 t551.length co50], .agg #[.bool t524, .slice Ao9 t525.length co9, .slice Ao10 t528.length co10]] rfl (by (try simp only [List.map_toArray, List.map_cons, List.map_nil]); first | done | rfl | (simp only [List.length_drop, List.length_take]; rfl)) ?_; (with_reducible refine (laws_eqRat.calls kj4 t547 _ _ t548 _ _ t551 t524 _ _ t525 _ _ t528 true _ ?side1 ?side2 ?side3 ?side4 ?side5 ?side6 ?side7 ?side8 A51.out).mono ?_); (case side1 => refine (Kd.R_reads' (e := 3) (base := w.heap.size) (ok := fun k_ => ((((some k_ ≠ (.slice Ao50 t551.length co50 : Value).ownBlock ∧ some k_ ≠ (.slice Ao9 t525.length co9 : Value).ownBlock) ∧ some k_ ≠ (.slice Ao10 t528.length co10 : Value).ownBlock) ∧ some k_ ≠ (.slice Ao15 t534.length co15 : Value).ownBlock) ∧ some k_ ≠ (.slice Ao16 t537.length co16 : Value).ownBlock)) (n := t548.length) (c := co49) ?_).2.2; exact (by (with_reducible repeat (first | apply Kd.R_alloc | apply Kd.R_drewN | apply Kd.R_drew)); exact (Kd.R_mono (Kd.R_far (p := ⟨gb555, 2, none⟩) (Kd.R_far (p := ⟨gb555, 1, none⟩) (Kd.R_far (p := ⟨gb555, 0, none⟩) (Kd.R_types HO550.out BK555.out (by decide)) (fun _ hk => hk.2) (.bool t547)) (fun _ hk => hk.2) (.slice Ao49 t548.length co49)) (fun _ hk => hk.2) (.slice Ao50 t551.length co50)) (fun _ h_ => h_.1)))); (case side2 => exact (Kd.R_reads' HO550.out).2.1); (case side3 => refine (Kd.R_reads' (e := 3) (base := w.heap.size) (ok := fun k_ => ((((some k_ ≠ (.slice Ao49 t548.length co49 : Value).ownBlock ∧ some k_ ≠ (.slice Ao9 t525.length co9 : Value).ownBlock) ∧ some k_ ≠ (.slice Ao10 t528.length co10 : Value).ownBlock) ∧ some k_ ≠ (.slice Ao15 t534.length co15 : Value).ownBlock) ∧ some k_ ≠ (.slice Ao16 t537.length co16 : Value).ownBlock)) (n := t551.length) (c := co50) ?_).2.2; exact (by (with_reducible repeat (first | apply Kd.R_alloc | apply Kd.R_drewN | apply Kd.R_drew)); exact (Kd.R_mono (Kd.R_far (p := ⟨gb555, 2, none⟩) (Kd.R_far (p := ⟨gb555, 1, none⟩) (Kd.R_far (p := ⟨gb555, 0, none⟩) (Kd.R_types HO553.out BK555.out (by decide)) (fun _ hk => hk.2) (.bool t547)) (fun _ hk => hk.2) (.slice Ao49 t548.length co49)) (fun _ hk => hk.2) (.slice Ao50 t551.length co50)) (fun _ h_ => h_.1)))); (case side4 => exact (Kd.R_reads' HO553.out).2.1); (case side5 => refine (Kd.R_reads' (e := 3) (base := w.heap.size) (ok := fun k_ => (((some k_ ≠ (.slice Ao10 t528.length co10 : Value).ownBlock ∧ (some k_ ≠ (.slice Ao15 t534.length co15 : Value).ownBlock ∧ some k_ ≠ (.slice Ao16 t537.length co16 : Value).ownBlock)) ∧ some k_ ≠ (.slice Ao49 t548.length co49 : Value).ownBlock) ∧ some k_ ≠ (.slice Ao50 t551.length co50 : Value).ownBlock)) (n := t525.length) (c := co9) ?_).2.2; exact (by (with_reducible repeat (first | apply Kd.R_alloc | apply Kd.R_drewN | apply Kd.R_drew)); exact (Kd.R_mono (Kd.R_far (p := ⟨gb555, 2, none⟩) (Kd.R_far (p := ⟨gb555, 1, none⟩) (Kd.R_far (p := ⟨gb555, 0, none⟩) (Kd.R_types HO_533001.out BK555.out (by decide)) (fun _ hk => hk.2) (.bool t547)) (fun _ hk => hk.2) (.slice Ao49 t548.length co49)) (fun _ hk => hk.2) (.slice Ao50 t551.length co50)) (fun _ h_ => h_.1)))); (case side6 => exact (Kd.R_reads' HO_533001.out).2.1); (case side7 => refine (Kd.R_reads' (e := 3) (base := w.heap.size) (ok := fun k_ => (((some k_ ≠ (.slice Ao9 t525.length co9 : Value).ownBlock ∧ (some k_ ≠ (.slice Ao15 t534.length co15 : Value).ownBlock ∧ some k_ ≠ (.slice Ao16 t537.length co16 : Value).ownBlock)) ∧ some k_ ≠ (.slice Ao49 t548.length co49 : Value).ownBlock) ∧ some k_ ≠ (.slice Ao50 t551.length co50 : Value).ownBlock)) (n := t528.length) (c := co10) ?_).2.2; exact (by (with_reducible repeat (first | apply Kd.R_alloc | apply Kd.R_drewN | apply Kd.R_drew)); exact (Kd.R_mono (Kd.R_far (p := ⟨gb555, 2, none⟩) (Kd.R_far (p := ⟨gb555, 1, none⟩) (Kd.R_far (p := ⟨gb555, 0, none⟩) (Kd.R_types HO_533002.out BK555.out (by decide)) (fun _ hk => hk.2) (.bool t547)) (fun _ hk => hk.2) (.slice Ao49 t548.length co49)) (fun _ hk => hk.2) (.slice Ao50 t551.length co50)) (fun _ h_ => h_.1)))); (case side8 => exact (Kd.R_reads' HO_533002.out).2.1); rintro e w58 ⟨rfl, hb⟩; refine ⟨_, rfl, ?_⟩; have n0_ := Aside0.mk (Kd.R_below (by (with_reducible repeat (first | apply Kd.R_alloc | apply Kd.R_drewN | apply Kd.R_drew)); exact (Kd.R_mono (Kd.R_far (p := ⟨gb555, 2, none⟩) (Kd.R_far (p := ⟨gb555, 1, none⟩) (Kd.R_far (p := ⟨gb555, 0, none⟩) (Kd.R_types HO_533001.out BK555.out (by decide)) (fun _ hk => hk.2) (.bool t547)) (fun _ hk => hk.2) (.slice Ao49 t548.length co49)) (fun _ hk => hk.2) (.slice Ao50 t551.length co50)) (fun _ h_ => h_.1))) hb); have n1_ := Aside0.mk (Kd.R_below (by (with_reducible repeat (first | apply Kd.R_alloc | apply Kd.R_drewN | apply Kd.R_drew)); exact (Kd.R_mono (Kd.R_far (p := ⟨gb555, 2, none⟩) (Kd.R_far (p := ⟨gb555, 1, none⟩) (Kd.R_far (p := ⟨gb555, 0, none⟩) (Kd.R_types HO_533002.out BK555.out (by decide)) (fun _ hk => hk.2) (.bool t547)) (fun _ hk => hk.2) (.slice Ao49 t548.length co49)) (fun _ hk => hk.2) (.slice Ao50 t551.length co50)) (fun _ h_ => h_.1))) hb); have n2_ := Aside0.mk (Kd.R_below (by (with_reducible repeat (first | apply Kd.R_alloc | apply Kd.R_drewN | apply Kd.R_drew)); exact (Kd.R_mono (Kd.R_far (p := ⟨gb555, 2, none⟩) (Kd.R_far (p := ⟨gb555, 1, none⟩) (Kd.R_far (p := ⟨gb555, 0, none⟩) (Kd.R_types HO_542001.out BK555.out (by decide)) (fun _ hk => hk.2) (.bool t547)) (fun _ hk => hk.2) (.slice Ao49 t548.length co49)) (fun _ hk => hk.2) (.slice Ao50 t551.length co50)) (fun _ h_ => h_.1))) hb); have n3_ := Aside0.mk (Kd.R_below (by (with_reducible repeat (first | apply Kd.R_alloc | apply Kd.R_drewN | apply Kd.R_drew)); exact (Kd.R_mono (Kd.R_far (p := ⟨gb555, 2, none⟩) (Kd.R_far (p := ⟨gb555, 1, none⟩) (Kd.R_far (p := ⟨gb555, 0, none⟩) (Kd.R_types HO_542002.out BK555.out (by decide)) (fun _ hk => hk.2) (.bool t547)) (fun _ hk => hk.2) (.slice Ao49 t548.length co49)) (fun _ hk => hk.2) (.slice Ao50 t551.length co50)) (fun _ h_ => h_.1))) hb); have n4_ := Aside0.mk (Kd.R_below (by (with_reducible repeat (first | apply Kd.R_alloc | apply Kd.R_drewN | apply Kd.R_drew)); exact (Kd.R_mono (Kd.R_far (p := ⟨gb555, 2, none⟩) (Kd.R_far (p := ⟨gb555, 1, none⟩) (Kd.R_far (p := ⟨gb555, 0, none⟩) (Kd.R_types HO550.out BK555.out (by decide)) (fun _ hk => hk.2) (.bool t547)) (fun _ hk => hk.2) (.slice Ao49 t548.length co49)) (fun _ hk => hk.2) (.slice Ao50 t551.length co50)) (fun _ h_ => h_.1))) hb); have n5_ := Aside0.mk (Kd.R_below (by (with_reducible repeat (first | apply Kd.R_alloc | apply Kd.R_drewN | apply Kd.R_drew)); exact (Kd.R_mono (Kd.R_far (p := ⟨gb555, 2, none⟩) (Kd.R_far (p := ⟨gb555, 1, none⟩) (Kd.R_far (p := ⟨gb555, 0, none⟩) (Kd.R_types HO553.out BK555.out (by decide)) (fun _ hk => hk.2) (.bool t547)) (fun _ hk => hk.2) (.slice Ao49 t548.length co49)) (fun _ hk => hk.2) (.slice Ao50 t551.length co50)) (fun _ h_ => h_.1))) hb); have n6_ := Aside0.mk (blk_below (g := gb532) (o := .cells #[.bool t524, .slice Ao9 t525.length co9, .slice Ao10 t528.length co10] 24 (0, 0)) (by (with_reducible repeat (first | refine blk_drewN ?_ _ | refine blk_drew ?_ | refine blk_alloc ?_ _)); refine blk_far ?_ NB532_555.out _; (with_reducible repeat (first | refine blk_drewN ?_ _ | refine blk_drew ?_ | refine blk_alloc ?_ _)); refine blk_far ?_ NB532_555.out _; (with_reducible repeat (first | refine blk_drewN ?_ _ | refine blk_drew ?_ | refine blk_alloc ?_ _)); refine blk_far ?_ NB532_555.out _; (with_reducible repeat (first | refine blk_drewN ?_ _ | refine blk_drew ?_ | refine blk_alloc ?_ _)); exact BK532.out) hb); have n7_ := Aside0.mk (blk_below (g := gb541) (o := .cells #[.bool t533, .slice Ao15 t534.length co15, .slice Ao16 t537.length co16] 24 (0, 0)) (by (with_reducible repeat (first | refine blk_drewN ?_ _ | refine blk_drew ?_ | refine blk_alloc ?_ _)); refine blk_far ?_ NB541_555.out _; (with_reducible repeat (first | refine blk_drewN ?_ _ | refine blk_drew ?_ | refine blk_alloc ?_ _)); refine blk_far ?_ NB541_555.out _; (with_reducible repeat (first | refine blk_drewN ?_ _ | refine blk_drew ?_ | refine blk_alloc ?_ _)); refine blk_far ?_ NB541_555.out _; (with_reducible repeat (first | refine blk_drewN ?_ _ | refine blk_drew ?_ | refine blk_alloc ?_ _)); exact BK541.out) hb); have n8_ := Aside0.mk (blk_below (g := gb555) (o := .cells #[.bool t547, .slice Ao49 t548.length co49, .slice Ao50 t551.length co50] 24 (0, 0)) (by (with_reducible repeat (first | refine blk_drewN ?_ _ | refine blk_drew ?_ | refine blk_alloc ?_ _)); refine blk_put (cs := #[.bool t547, .slice Ao49 t548.length co49, .slice none 0 0]) ?_ 2 _ rfl; (with_reducible repeat (first | refine blk_drewN ?_ _ | refine blk_drew ?_ | refine blk_alloc ?_ _)); refine blk_put (cs := #[.bool t547, .slice none 0 0, .slice none 0 0]) ?_ 1 _ rfl; (with_reducible repeat (first | refine blk_drewN ?_ _ | refine blk_drew ?_ | refine blk_alloc ?_ _)); refine blk_put (cs := #[.bool false, .slice none 0 0, .slice none 0 0]) ?_ 0 _ rfl; (with_reducible repeat (first | refine blk_drewN ?_ _ | refine blk_drew ?_ | refine blk_alloc ?_ _)); exact BK555.out) hb); have n9_ := Aside0.mk (below_step (by repeat (first | (with_reducible first | exact HB.out | apply below_alloc | apply pw_below_drewN | apply below_drew1 | refine below_set ?_ GE532.out | refine below_set ?_ GE541.out | refine below_set ?_ GE555.out) | exact HB.out)) hb); clear HO_533001; clear HO_533002; clear HO_542001; clear HO_542002; clear HO550; clear HO553; clear BK532; clear BK541; clear BK555; clear HB; have HO_533001 := n0_; have HO_533002 := n1_; have HO_542001 := n2_; have HO_542002 := n3_; have HO550 := n4_; have HO553 := n5_; have BK532 := n6_; have BK541 := n7_; have BK555 := n8_; have HB := n9_; clear n0_ n1_ n2_ n3_ n4_ n5_ n6_ n7_ n8_ n9_; (try clear hb); (try clear hb2); (try clear hk); (try clear hi)))
                go_meet
                case rel => exact ⟨_, ((t554 != t531)), (by first | rfl | (simp; done) | (simp [*]; done)), H', ⟨by have := HJ4.out; first | omega | exact Nat.le_refl _⟩, ⟨by (with_reducible repeat (first | apply Kd.R_alloc | apply Kd.R_drewN | apply Kd.R_drew)); exact Kd.R_mono HO_533001.out (fun _ hk => ⟨hk.1.1.1, ⟨hk.1.1.2.1, ⟨hk.1.1.2.2, ⟨hk.1.2, hk.2⟩⟩⟩⟩)⟩, ⟨by (with_reducible repeat (first | apply Kd.R_alloc | apply Kd.R_drewN | apply Kd.R_drew)); exact Kd.R_mono HO_533002.out (fun _ hk => ⟨hk.1.1.1, ⟨hk.1.1.2.1, ⟨hk.1.1.2.2, ⟨hk.1.2, hk.2⟩⟩⟩⟩)⟩, ⟨by (with_reducible repeat (first | apply Kd.R_alloc | apply Kd.R_drewN | apply Kd.R_drew)); exact Kd.R_mono HO_542001.out (fun _ hk => ⟨hk.1.1.1, ⟨hk.1.1.2.1, ⟨hk.1.1.2.2, ⟨hk.1.2, hk.2⟩⟩⟩⟩)⟩, ⟨by (with_reducible repeat (first | apply Kd.R_alloc | apply Kd.R_drewN | apply Kd.R_drew)); exact Kd.R_mono HO_542002.out (fun _ hk => ⟨hk.1.1.1, ⟨hk.1.1.2.1, ⟨hk.1.1.2.2, ⟨hk.1.2, hk.2⟩⟩⟩⟩)⟩, ⟨by (with_reducible repeat (first | apply Kd.R_alloc | apply Kd.R_drewN | apply Kd.R_drew)); exact Kd.R_mono HO550.out (fun _ hk => ⟨hk.1.1.1.2, ⟨hk.1.1.2, ⟨hk.1.2, ⟨hk.2, hk.1.1.1.1⟩⟩⟩⟩)⟩, ⟨by (with_reducible repeat (first | apply Kd.R_alloc | apply Kd.R_drewN | apply Kd.R_drew)); exact Kd.R_mono HO553.out (fun _ hk => ⟨hk.1.1.1.2, ⟨hk.1.1.2, ⟨hk.1.2, ⟨hk.2, hk.1.1.1.1⟩⟩⟩⟩)⟩, ⟨by (with_reducible repeat (first | refine blk_drewN ?_ _ | refine blk_drew ?_ | refine blk_alloc ?_ _)); exact BK532.out⟩, ⟨by (with_reducible repeat (first | refine blk_drewN ?_ _ | refine blk_drew ?_ | refine blk_alloc ?_ _)); exact BK541.out⟩, ⟨by (with_reducible repeat (first | refine blk_drewN ?_ _ | refine blk_drew ?_ | refine blk_alloc ?_ _)); exact BK555.out⟩, ⟨by repeat (first | (with_reducible first | exact HB.out | apply below_alloc | apply pw_below_drewN | apply below_drew1 | refine below_set ?_ GE532.out | refine below_set ?_ GE541.out | refine below_set ?_ GE555.out) | exact HB.out)⟩⟩
              · replace c52 := Bool.eq_false_iff.mpr c52
                subst c52
                have H1 : (laws_FnExactMakeRat.j1 kj4 t543 true t533 t544 t545) = some r := by rw [if_neg (show ¬ (false = true) by decide)] at H; exact H
                clear H
                have H := H1
                clear H1
                have H' := Aside0.mk H
                clear H
                have hnb59 := NB555_532.out
                have hnc59 := NB532_555.out
                have hnb60 := NB555_541.out
                have hnc60 := NB541_555.out
                have hcz61_0 : w45.cell? ⟨gb555, 0, none⟩ = some (.bool false) := (blk_cell BK555.out 0).trans rfl
                have hcz61_1 : w45.cell? ⟨gb555, 1, none⟩ = some (.slice none 0 0) := (blk_cell BK555.out 1).trans rfl
                have hcz61_2 : w45.cell? ⟨gb555, 2, none⟩ = some (.slice none 0 0) := (blk_cell BK555.out 2).trans rfl
                have hfz61_0 := blk_frozen BK555.out 0
                have hfz61_1 := blk_frozen BK555.out 1
                have hfz61_2 := blk_frozen BK555.out 2
                have hnb62 := NB532_541.out
                have hnc62 := NB541_532.out
                have hcz63_0 : w45.cell? ⟨gb532, 0, none⟩ = some (.bool t524) := (blk_cell BK532.out 0).trans rfl
                have hcz63_1 : w45.cell? ⟨gb532, 1, none⟩ = some (.slice Ao9 t525.length co9) := (blk_cell BK532.out 1).trans rfl
                have hcz63_2 : w45.cell? ⟨gb532, 2, none⟩ = some (.slice Ao10 t528.length co10) := (blk_cell BK532.out 2).trans rfl
                have hfz63_0 := blk_frozen BK532.out 0
                have hfz63_1 := blk_frozen BK532.out 1
                have hfz63_2 := blk_frozen BK532.out 2
                go_wp2_with (first | ((with_reducible refine gate_callee (f := 17) rfl ?_); refine goesL_ (some 53) rfl rfl Try.func17 (by kernel_rfl) rfl #[.agg #[.bool t547, .slice Ao49 t548.length co49, .slice Ao50 t551.length co50], .agg #[.bool t524, .slice Ao9 t525.length co9, .slice Ao10 t528.length co10]] rfl (by (try simp only [List.map_toArray, List.map_cons, List.map_nil]); first | done | rfl | (simp only [List.length_drop, List.length_take]; rfl)) ?_; (with_reducible refine (laws_eqRat.calls kj4 t547 _ _ t548 _ _ t551 t524 _ _ t525 _ _ t528 false _ ?side1 ?side2 ?side3 ?side4 ?side5 ?side6 ?side7 ?side8 A51.out).mono ?_); (case side1 => refine (Kd.R_reads' (e := 3) (base := w.heap.size) (ok := fun k_ => ((((some k_ ≠ (.slice Ao50 t551.length co50 : Value).ownBlock ∧ some k_ ≠ (.slice Ao9 t525.length co9 : Value).ownBlock) ∧ some k_ ≠ (.slice Ao10 t528.length co10 : Value).ownBlock) ∧ some k_ ≠ (.slice Ao15 t534.length co15 : Value).ownBlock) ∧ some k_ ≠ (.slice Ao16 t537.length co16 : Value).ownBlock)) (n := t548.length) (c := co49) ?_).2.2; exact (by (with_reducible repeat (first | apply Kd.R_alloc | apply Kd.R_drewN | apply Kd.R_drew)); exact (Kd.R_mono (Kd.R_far (p := ⟨gb555, 2, none⟩) (Kd.R_far (p := ⟨gb555, 1, none⟩) (Kd.R_far (p := ⟨gb555, 0, none⟩) (Kd.R_types HO550.out BK555.out (by decide)) (fun _ hk => hk.2) (.bool t547)) (fun _ hk => hk.2) (.slice Ao49 t548.length co49)) (fun _ hk => hk.2) (.slice Ao50 t551.length co50)) (fun _ h_ => h_.1)))); (case side2 => exact (Kd.R_reads' HO550.out).2.1); (case side3 => refine (Kd.R_reads' (e := 3) (base := w.heap.size) (ok := fun k_ => ((((some k_ ≠ (.slice Ao49 t548.length co49 : Value).ownBlock ∧ some k_ ≠ (.slice Ao9 t525.length co9 : Value).ownBlock) ∧ some k_ ≠ (.slice Ao10 t528.length co10 : Value).ownBlock) ∧ some k_ ≠ (.slice Ao15 t534.length co15 : Value).ownBlock) ∧ some k_ ≠ (.slice Ao16 t537.length co16 : Value).ownBlock)) (n := t551.length) (c := co50) ?_).2.2; exact (by (with_reducible repeat (first | apply Kd.R_alloc | apply Kd.R_drewN | apply Kd.R_drew)); exact (Kd.R_mono (Kd.R_far (p := ⟨gb555, 2, none⟩) (Kd.R_far (p := ⟨gb555, 1, none⟩) (Kd.R_far (p := ⟨gb555, 0, none⟩) (Kd.R_types HO553.out BK555.out (by decide)) (fun _ hk => hk.2) (.bool t547)) (fun _ hk => hk.2) (.slice Ao49 t548.length co49)) (fun _ hk => hk.2) (.slice Ao50 t551.length co50)) (fun _ h_ => h_.1)))); (case side4 => exact (Kd.R_reads' HO553.out).2.1); (case side5 => refine (Kd.R_reads' (e := 3) (base := w.heap.size) (ok := fun k_ => (((some k_ ≠ (.slice Ao10 t528.length co10 : Value).ownBlock ∧ (some k_ ≠ (.slice Ao15 t534.length co15 : Value).ownBlock ∧ some k_ ≠ (.slice Ao16 t537.length co16 : Value).ownBlock)) ∧ some k_ ≠ (.slice Ao49 t548.length co49 : Value).ownBlock) ∧ some k_ ≠ (.slice Ao50 t551.length co50 : Value).ownBlock)) (n := t525.length) (c := co9) ?_).2.2; exact (by (with_reducible repeat (first | apply Kd.R_alloc | apply Kd.R_drewN | apply Kd.R_drew)); exact (Kd.R_mono (Kd.R_far (p := ⟨gb555, 2, none⟩) (Kd.R_far (p := ⟨gb555, 1, none⟩) (Kd.R_far (p := ⟨gb555, 0, none⟩) (Kd.R_types HO_533001.out BK555.out (by decide)) (fun _ hk => hk.2) (.bool t547)) (fun _ hk => hk.2) (.slice Ao49 t548.length co49)) (fun _ hk => hk.2) (.slice Ao50 t551.length co50)) (fun _ h_ => h_.1)))); (case side6 => exact (Kd.R_reads' HO_533001.out).2.1); (case side7 => refine (Kd.R_reads' (e := 3) (base := w.heap.size) (ok := fun k_ => (((some k_ ≠ (.slice Ao9 t525.length co9 : Value).ownBlock ∧ (some k_ ≠ (.slice Ao15 t534.length co15 : Value).ownBlock ∧ some k_ ≠ (.slice Ao16 t537.length co16 : Value).ownBlock)) ∧ some k_ ≠ (.slice Ao49 t548.length co49 : Value).ownBlock) ∧ some k_ ≠ (.slice Ao50 t551.length co50 : Value).ownBlock)) (n := t528.length) (c := co10) ?_).2.2; exact (by (with_reducible repeat (first | apply Kd.R_alloc | apply Kd.R_drewN | apply Kd.R_drew)); exact (Kd.R_mono (Kd.R_far (p := ⟨gb555, 2, none⟩) (Kd.R_far (p := ⟨gb555, 1, none⟩) (Kd.R_far (p := ⟨gb555, 0, none⟩) (Kd.R_types HO_533002.out BK555.out (by decide)) (fun _ hk => hk.2) (.bool t547)) (fun _ hk => hk.2) (.slice Ao49 t548.length co49)) (fun _ hk => hk.2) (.slice Ao50 t551.length co50)) (fun _ h_ => h_.1)))); (case side8 => exact (Kd.R_reads' HO_533002.out).2.1); rintro e w64 ⟨rfl, hb⟩; refine ⟨_, rfl, ?_⟩; have n0_ := Aside0.mk (Kd.R_below (by (with_reducible repeat (first | apply Kd.R_alloc | apply Kd.R_drewN | apply Kd.R_drew)); exact (Kd.R_mono (Kd.R_far (p := ⟨gb555, 2, none⟩) (Kd.R_far (p := ⟨gb555, 1, none⟩) (Kd.R_far (p := ⟨gb555, 0, none⟩) (Kd.R_types HO_533001.out BK555.out (by decide)) (fun _ hk => hk.2) (.bool t547)) (fun _ hk => hk.2) (.slice Ao49 t548.length co49)) (fun _ hk => hk.2) (.slice Ao50 t551.length co50)) (fun _ h_ => h_.1))) hb); have n1_ := Aside0.mk (Kd.R_below (by (with_reducible repeat (first | apply Kd.R_alloc | apply Kd.R_drewN | apply Kd.R_drew)); exact (Kd.R_mono (Kd.R_far (p := ⟨gb555, 2, none⟩) (Kd.R_far (p := ⟨gb555, 1, none⟩) (Kd.R_far (p := ⟨gb555, 0, none⟩) (Kd.R_types HO_533002.out BK555.out (by decide)) (fun _ hk => hk.2) (.bool t547)) (fun _ hk => hk.2) (.slice Ao49 t548.length co49)) (fun _ hk => hk.2) (.slice Ao50 t551.length co50)) (fun _ h_ => h_.1))) hb); have n2_ := Aside0.mk (Kd.R_below (by (with_reducible repeat (first | apply Kd.R_alloc | apply Kd.R_drewN | apply Kd.R_drew)); exact (Kd.R_mono (Kd.R_far (p := ⟨gb555, 2, none⟩) (Kd.R_far (p := ⟨gb555, 1, none⟩) (Kd.R_far (p := ⟨gb555, 0, none⟩) (Kd.R_types HO_542001.out BK555.out (by decide)) (fun _ hk => hk.2) (.bool t547)) (fun _ hk => hk.2) (.slice Ao49 t548.length co49)) (fun _ hk => hk.2) (.slice Ao50 t551.length co50)) (fun _ h_ => h_.1))) hb); have n3_ := Aside0.mk (Kd.R_below (by (with_reducible repeat (first | apply Kd.R_alloc | apply Kd.R_drewN | apply Kd.R_drew)); exact (Kd.R_mono (Kd.R_far (p := ⟨gb555, 2, none⟩) (Kd.R_far (p := ⟨gb555, 1, none⟩) (Kd.R_far (p := ⟨gb555, 0, none⟩) (Kd.R_types HO_542002.out BK555.out (by decide)) (fun _ hk => hk.2) (.bool t547)) (fun _ hk => hk.2) (.slice Ao49 t548.length co49)) (fun _ hk => hk.2) (.slice Ao50 t551.length co50)) (fun _ h_ => h_.1))) hb); have n4_ := Aside0.mk (Kd.R_below (by (with_reducible repeat (first | apply Kd.R_alloc | apply Kd.R_drewN | apply Kd.R_drew)); exact (Kd.R_mono (Kd.R_far (p := ⟨gb555, 2, none⟩) (Kd.R_far (p := ⟨gb555, 1, none⟩) (Kd.R_far (p := ⟨gb555, 0, none⟩) (Kd.R_types HO550.out BK555.out (by decide)) (fun _ hk => hk.2) (.bool t547)) (fun _ hk => hk.2) (.slice Ao49 t548.length co49)) (fun _ hk => hk.2) (.slice Ao50 t551.length co50)) (fun _ h_ => h_.1))) hb); have n5_ := Aside0.mk (Kd.R_below (by (with_reducible repeat (first | apply Kd.R_alloc | apply Kd.R_drewN | apply Kd.R_drew)); exact (Kd.R_mono (Kd.R_far (p := ⟨gb555, 2, none⟩) (Kd.R_far (p := ⟨gb555, 1, none⟩) (Kd.R_far (p := ⟨gb555, 0, none⟩) (Kd.R_types HO553.out BK555.out (by decide)) (fun _ hk => hk.2) (.bool t547)) (fun _ hk => hk.2) (.slice Ao49 t548.length co49)) (fun _ hk => hk.2) (.slice Ao50 t551.length co50)) (fun _ h_ => h_.1))) hb); have n6_ := Aside0.mk (blk_below (g := gb532) (o := .cells #[.bool t524, .slice Ao9 t525.length co9, .slice Ao10 t528.length co10] 24 (0, 0)) (by (with_reducible repeat (first | refine blk_drewN ?_ _ | refine blk_drew ?_ | refine blk_alloc ?_ _)); refine blk_far ?_ NB532_555.out _; (with_reducible repeat (first | refine blk_drewN ?_ _ | refine blk_drew ?_ | refine blk_alloc ?_ _)); refine blk_far ?_ NB532_555.out _; (with_reducible repeat (first | refine blk_drewN ?_ _ | refine blk_drew ?_ | refine blk_alloc ?_ _)); refine blk_far ?_ NB532_555.out _; (with_reducible repeat (first | refine blk_drewN ?_ _ | refine blk_drew ?_ | refine blk_alloc ?_ _)); exact BK532.out) hb); have n7_ := Aside0.mk (blk_below (g := gb541) (o := .cells #[.bool t533, .slice Ao15 t534.length co15, .slice Ao16 t537.length co16] 24 (0, 0)) (by (with_reducible repeat (first | refine blk_drewN ?_ _ | refine blk_drew ?_ | refine blk_alloc ?_ _)); refine blk_far ?_ NB541_555.out _; (with_reducible repeat (first | refine blk_drewN ?_ _ | refine blk_drew ?_ | refine blk_alloc ?_ _)); refine blk_far ?_ NB541_555.out _; (with_reducible repeat (first | refine blk_drewN ?_ _ | refine blk_drew ?_ | refine blk_alloc ?_ _)); refine blk_far ?_ NB541_555.out _; (with_reducible repeat (first | refine blk_drewN ?_ _ | refine blk_drew ?_ | refine blk_alloc ?_ _)); exact BK541.out) hb); have n8_ := Aside0.mk (blk_below (g := gb555) (o := .cells #[.bool t547, .slice Ao49 t548.length co49, .slice Ao50 t551.length co50] 24 (0, 0)) (by (with_reducible repeat (first | refine blk_drewN ?_ _ | refine blk_drew ?_ | refine blk_alloc ?_ _)); refine blk_put (cs := #[.bool t547, .slice Ao49 t548.length co49, .slice none 0 0]) ?_ 2 _ rfl; (with_reducible repeat (first | refine blk_drewN ?_ _ | refine blk_drew ?_ | refine blk_alloc ?_ _)); refine blk_put (cs := #[.bool t547, .slice none 0 0, .slice none 0 0]) ?_ 1 _ rfl; (with_reducible repeat (first | refine blk_drewN ?_ _ | refine blk_drew ?_ | refine blk_alloc ?_ _)); refine blk_put (cs := #[.bool false, .slice none 0 0, .slice none 0 0]) ?_ 0 _ rfl; (with_reducible repeat (first | refine blk_drewN ?_ _ | refine blk_drew ?_ | refine blk_alloc ?_ _)); exact BK555.out) hb); have n9_ := Aside0.mk (below_step (by repeat (first | (with_reducible first | exact HB.out | apply below_alloc | apply pw_below_drewN | apply below_drew1 | refine below_set ?_ GE532.out | refine below_set ?_ GE541.out | refine below_set ?_ GE555.out) | exact HB.out)) hb); clear HO_533001; clear HO_533002; clear HO_542001; clear HO_542002; clear HO550; clear HO553; clear BK532; clear BK541; clear BK555; clear HB; have HO_533001 := n0_; have HO_533002 := n1_; have HO_542001 := n2_; have HO_542002 := n3_; have HO550 := n4_; have HO553 := n5_; have BK532 := n6_; have BK541 := n7_; have BK555 := n8_; have HB := n9_; clear n0_ n1_ n2_ n3_ n4_ n5_ n6_ n7_ n8_ n9_; (try clear hb); (try clear hb2); (try clear hk); (try clear hi)))
                go_meet
                case rel => exact ⟨_, (true), (by first | rfl | (simp; done) | (simp [*]; done)), H', ⟨by have := HJ4.out; first | omega | exact Nat.le_refl _⟩, ⟨by (with_reducible repeat (first | apply Kd.R_alloc | apply Kd.R_drewN | apply Kd.R_drew)); exact Kd.R_mono HO_533001.out (fun _ hk => ⟨hk.1.1.1, ⟨hk.1.1.2.1, ⟨hk.1.1.2.2, ⟨hk.1.2, hk.2⟩⟩⟩⟩)⟩, ⟨by (with_reducible repeat (first | apply Kd.R_alloc | apply Kd.R_drewN | apply Kd.R_drew)); exact Kd.R_mono HO_533002.out (fun _ hk => ⟨hk.1.1.1, ⟨hk.1.1.2.1, ⟨hk.1.1.2.2, ⟨hk.1.2, hk.2⟩⟩⟩⟩)⟩, ⟨by (with_reducible repeat (first | apply Kd.R_alloc | apply Kd.R_drewN | apply Kd.R_drew)); exact Kd.R_mono HO_542001.out (fun _ hk => ⟨hk.1.1.1, ⟨hk.1.1.2.1, ⟨hk.1.1.2.2, ⟨hk.1.2, hk.2⟩⟩⟩⟩)⟩, ⟨by (with_reducible repeat (first | apply Kd.R_alloc | apply Kd.R_drewN | apply Kd.R_drew)); exact Kd.R_mono HO_542002.out (fun _ hk => ⟨hk.1.1.1, ⟨hk.1.1.2.1, ⟨hk.1.1.2.2, ⟨hk.1.2, hk.2⟩⟩⟩⟩)⟩, ⟨by (with_reducible repeat (first | apply Kd.R_alloc | apply Kd.R_drewN | apply Kd.R_drew)); exact Kd.R_mono HO550.out (fun _ hk => ⟨hk.1.1.1.2, ⟨hk.1.1.2, ⟨hk.1.2, ⟨hk.2, hk.1.1.1.1⟩⟩⟩⟩)⟩, ⟨by (with_reducible repeat (first | apply Kd.R_alloc | apply Kd.R_drewN | apply Kd.R_drew)); exact Kd.R_mono HO553.out (fun _ hk => ⟨hk.1.1.1.2, ⟨hk.1.1.2, ⟨hk.1.2, ⟨hk.2, hk.1.1.1.1⟩⟩⟩⟩)⟩, ⟨by (with_reducible repeat (first | refine blk_drewN ?_ _ | refine blk_drew ?_ | refine blk_alloc ?_ _)); exact BK532.out⟩, ⟨by (with_reducible repeat (first | refine blk_drewN ?_ _ | refine blk_drew ?_ | refine blk_alloc ?_ _)); exact BK541.out⟩, ⟨by (with_reducible repeat (first | refine blk_drewN ?_ _ | refine blk_drew ?_ | refine blk_alloc ?_ _)); exact BK555.out⟩, ⟨by repeat (first | (with_reducible first | exact HB.out | apply below_alloc | apply pw_below_drewN | apply below_drew1 | refine below_set ?_ GE532.out | refine below_set ?_ GE541.out | refine below_set ?_ GE555.out) | exact HB.out)⟩⟩
            case rest =>
              clear HC38
              try clear c1
              try clear c2
              try clear p2
              try clear c3
              try clear c4
              try clear c5
              try clear c6
              try clear c13
              try clear c15
              try clear c16
              try clear c17
              try clear c18
              try clear c19
              try clear c23
              try clear c27
              try clear c30
              try clear c30b0
              try clear c31
              try clear c36
              try clear c36b0
              try clear c36b1
              try clear c39
              try clear c46
              try clear c47
              try clear c52
              try clear c53
              try clear c54
              try clear c56
              try clear c59
              try clear c60
              try clear c62
              try clear hcz14_0
              try clear hcz14_1
              try clear hcz14_2
              try clear hcz20_0
              try clear hcz20_1
              try clear hcz20_2
              try clear hcz21_0
              try clear hcz21_1
              try clear hcz21_2
              try clear hcz24_0
              try clear hcz24_1
              try clear hcz24_2
              try clear hcz25_0
              try clear hcz25_1
              try clear hcz25_2
              try clear hcz32_0
              try clear hcz32_1
              try clear hcz32_2
              try clear hcz34_0
              try clear hcz34_1
              try clear hcz34_2
              try clear hcz40_0
              try clear hcz40_1
              try clear hcz40_2
              try clear hcz42_0
              try clear hcz42_1
              try clear hcz42_2
              try clear hcz48_0
              try clear hcz48_1
              try clear hcz48_2
              try clear hcz55_0
              try clear hcz55_1
              try clear hcz55_2
              try clear hcz57_0
              try clear hcz57_1
              try clear hcz57_2
              try clear hcz61_0
              try clear hcz61_1
              try clear hcz61_2
              try clear hcz63_0
              try clear hcz63_1
              try clear hcz63_2
              try clear hcz8_0
              try clear hcz8_1
              try clear hcz8_2
              try clear hfz14_0
              try clear hfz14_1
              try clear hfz14_2
              try clear hfz20_0
              try clear hfz20_1
              try clear hfz20_2
              try clear hfz21_0
              try clear hfz21_1
              try clear hfz21_2
              try clear hfz24_0
              try clear hfz24_1
              try clear hfz24_2
              try clear hfz25_0
              try clear hfz25_1
              try clear hfz25_2
              try clear hfz32_0
              try clear hfz32_1
              try clear hfz32_2
              try clear hfz34_0
              try clear hfz34_1
              try clear hfz34_2
              try clear hfz40_0
              try clear hfz40_1
              try clear hfz40_2
              try clear hfz42_0
              try clear hfz42_1
              try clear hfz42_2
              try clear hfz48_0
              try clear hfz48_1
              try clear hfz48_2
              try clear hfz55_0
              try clear hfz55_1
              try clear hfz55_2
              try clear hfz57_0
              try clear hfz57_1
              try clear hfz57_2
              try clear hfz61_0
              try clear hfz61_1
              try clear hfz61_2
              try clear hfz63_0
              try clear hfz63_1
              try clear hfz63_2
              try clear hfz8_0
              try clear hfz8_1
              try clear hfz8_2
              try clear p2
              obtain ⟨kq, x59_37, rfl, HA, HJ37, HO_533001, HO_533002, HO_542001, HO_542002, HO_556001, HO_556002, BK532, BK541, BK555, HB⟩ := hcut
              have hl542001_37 := (Kd.R_reads' HO_542001.out).1
              rw [hl542001_37] at HO_542001
              (try simp only [hl542001_37])
              (try simp only [hl542001_37] at BK532)
              (try simp only [hl542001_37] at BK541)
              (try simp only [hl542001_37] at BK555)
              (try simp only [hl542001_37] at HO_533001)
              (try simp only [hl542001_37] at HO_533002)
              (try simp only [hl542001_37] at HO_542002)
              (try simp only [hl542001_37] at HO_556001)
              (try simp only [hl542001_37] at HO_556002)
              have hl542002_37 := (Kd.R_reads' HO_542002.out).1
              rw [hl542002_37] at HO_542002
              (try simp only [hl542002_37])
              (try simp only [hl542002_37] at BK532)
              (try simp only [hl542002_37] at BK541)
              (try simp only [hl542002_37] at BK555)
              (try simp only [hl542002_37] at HO_533001)
              (try simp only [hl542002_37] at HO_533002)
              (try simp only [hl542002_37] at HO_542001)
              (try simp only [hl542002_37] at HO_556001)
              (try simp only [hl542002_37] at HO_556002)
              cases kq with
              | zero => exact absurd HA.out (by simp [laws_FnExactMakeRat.j1])
              | succ kj37 =>
                have H := HA.out
                clear HA
                simp only [laws_FnExactMakeRat.j1] at H
                by_cases c65 : x59_37 = true
                · subst c65
                  have H1 : (some false) = some r := by rw [if_pos rfl] at H; exact H
                  clear H
                  have H := H1
                  clear H1
                  obtain rfl := Option.some.inj H
                  exact absurd hr_ (by decide)
                · replace c65 := Bool.eq_false_iff.mpr c65
                  subst c65
                  have H1 : ((laws_heldRat.f kj37 t533 t544 t545 1).bind fun t557 => (if t557 < 0 then (some false) else (if t557 = t543 then (some true) else (some false)))) = some r := by rw [if_neg (show ¬ (false = true) by decide)] at H; exact H
                  clear H
                  have H := H1
                  clear H1
                  replace H := Option.bind_eq_some_iff.mp H
                  obtain ⟨t557, A660, H⟩ := H
                  replace H : (if t557 < 0 then (some false) else (if t557 = t543 then (some true) else (some false))) = some r := H
                  have A66 := Aside0.mk A660
                  clear A660
                  by_cases c67 : t557 < 0
                  · rw [if_pos c67] at H
                    have c67b0 : decide (t557 < 0) = true := decide_eq_true c67
                    clear c67
                    obtain rfl := Option.some.inj H
                    exact absurd hr_ (by decide)
                  · rw [if_neg c67] at H
                    have c67b0 : decide (t557 < 0) = false := decide_eq_false c67
                    clear c67
                    by_cases c72 : t557 = t543
                    · rw [if_pos c72] at H
                      have c72b0 : (t557 == t543) = true := beq_iff_eq.mpr c72
                      have c72b1 : (t557 != t543) = false := bne_eq_false_iff_eq.mpr c72
                      clear c72
                      obtain rfl := Option.some.inj H
                      have hnb73 := NB541_532.out
                      have hnc73 := NB532_541.out
                      have hnb74 := NB541_555.out
                      have hnc74 := NB555_541.out
                      have hcz75_0 : wc.cell? ⟨gb541, 0, none⟩ = some (.bool t533) := (blk_cell BK541.out 0).trans rfl
                      have hcz75_1 : wc.cell? ⟨gb541, 1, none⟩ = some (.slice Ao15 t544.length co15) := (blk_cell BK541.out 1).trans rfl
                      have hcz75_2 : wc.cell? ⟨gb541, 2, none⟩ = some (.slice Ao16 t545.length co16) := (blk_cell BK541.out 2).trans rfl
                      have hfz75_0 := blk_frozen BK541.out 0
                      have hfz75_1 := blk_frozen BK541.out 1
                      have hfz75_2 := blk_frozen BK541.out 2
                      go_wp2_with (first | ((with_reducible refine gate_callee (f := 19) rfl ?_); refine goesL_ (some 62) rfl rfl Try.func19 (by kernel_rfl) rfl #[.agg #[.bool t533, .slice Ao15 t544.length co15, .slice Ao16 t545.length co16], .int .i64 1] rfl (by (try simp only [List.map_toArray, List.map_cons, List.map_nil]); first | done | rfl | (simp only [List.length_drop, List.length_take]; rfl)) ?_; (with_reducible refine (laws_heldRat.calls kj37 t533 _ _ t544 _ _ t545 1 t557 _ ?side1 ?side2 ?side3 ?side4 A66.out).mono ?_); (case side1 => repeat (first | exact (Kd.R_reads' HO_542001.out).2.2 | (with_reducible refine Kd.C_alloc ?_ _) | (with_reducible refine Kd.C_drewN ?_ _) | (with_reducible refine Kd.C_drew ?_))); (case side2 => exact (Kd.R_reads' HO_542001.out).2.1); (case side3 => repeat (first | exact (Kd.R_reads' HO_542002.out).2.2 | (with_reducible refine Kd.C_alloc ?_ _) | (with_reducible refine Kd.C_drewN ?_ _) | (with_reducible refine Kd.C_drew ?_))); (case side4 => exact (Kd.R_reads' HO_542002.out).2.1); rintro e w76 ⟨rfl, hb⟩; refine ⟨_, rfl, ?_⟩; have n0_ := Aside0.mk (Kd.R_below (by (with_reducible repeat (first | apply Kd.R_alloc | apply Kd.R_drewN | apply Kd.R_drew)); exact HO_533001.out) hb); have n1_ := Aside0.mk (Kd.R_below (by (with_reducible repeat (first | apply Kd.R_alloc | apply Kd.R_drewN | apply Kd.R_drew)); exact HO_533002.out) hb); have n2_ := Aside0.mk (Kd.R_below (by (with_reducible repeat (first | apply Kd.R_alloc | apply Kd.R_drewN | apply Kd.R_drew)); exact HO_542001.out) hb); have n3_ := Aside0.mk (Kd.R_below (by (with_reducible repeat (first | apply Kd.R_alloc | apply Kd.R_drewN | apply Kd.R_drew)); exact HO_542002.out) hb); have n4_ := Aside0.mk (Kd.R_below (by (with_reducible repeat (first | apply Kd.R_alloc | apply Kd.R_drewN | apply Kd.R_drew)); exact HO_556001.out) hb); have n5_ := Aside0.mk (Kd.R_below (by (with_reducible repeat (first | apply Kd.R_alloc | apply Kd.R_drewN | apply Kd.R_drew)); exact HO_556002.out) hb); have n6_ := Aside0.mk (blk_below (g := gb532) (o := .cells #[.bool t524, .slice Ao9 t525.length co9, .slice Ao10 t528.length co10] 24 (0, 0)) (by (with_reducible repeat (first | refine blk_drewN ?_ _ | refine blk_drew ?_ | refine blk_alloc ?_ _)); exact BK532.out) hb); have n7_ := Aside0.mk (blk_below (g := gb541) (o := .cells #[.bool t533, .slice Ao15 t544.length co15, .slice Ao16 t545.length co16] 24 (0, 0)) (by (with_reducible repeat (first | refine blk_drewN ?_ _ | refine blk_drew ?_ | refine blk_alloc ?_ _)); exact BK541.out) hb); have n8_ := Aside0.mk (blk_below (g := gb555) (o := .cells #[.bool t547, .slice Ao49 t548.length co49, .slice Ao50 t551.length co50] 24 (0, 0)) (by (with_reducible repeat (first | refine blk_drewN ?_ _ | refine blk_drew ?_ | refine blk_alloc ?_ _)); exact BK555.out) hb); have n9_ := Aside0.mk (below_step (by repeat (first | (with_reducible first | exact HB.out | apply below_alloc | apply pw_below_drewN | apply below_drew1 | refine below_set ?_ GE532.out | refine below_set ?_ GE541.out | refine below_set ?_ GE555.out) | exact HB.out)) hb); clear HO_533001; clear HO_533002; clear HO_542001; clear HO_542002; clear HO_556001; clear HO_556002; clear BK532; clear BK541; clear BK555; clear HB; have HO_533001 := n0_; have HO_533002 := n1_; have HO_542001 := n2_; have HO_542002 := n3_; have HO_556001 := n4_; have HO_556002 := n5_; have BK532 := n6_; have BK541 := n7_; have BK555 := n8_; have HB := n9_; clear n0_ n1_ n2_ n3_ n4_ n5_ n6_ n7_ n8_ n9_; (try clear hb); (try clear hb2); (try clear hk); (try clear hi)))
                      go_ret
                      exact ⟨by first | rfl | (simp [errW_none, errW_some] <;> rfl) | (simp [*, errW_none, errW_some] <;> rfl), by repeat (first | (with_reducible first | exact HB.out | apply below_alloc | apply pw_below_drewN | apply below_drew1 | refine below_set ?_ GE532.out | refine below_set ?_ GE541.out | refine below_set ?_ GE555.out) | exact HB.out)⟩
                    · rw [if_neg c72] at H
                      have c72b0 : (t557 == t543) = false := beq_eq_false_iff_ne.mpr c72
                      have c72b1 : (t557 != t543) = true := bne_iff_ne.mpr c72
                      obtain rfl := Option.some.inj H
                      exact absurd hr_ (by decide)
          · rw [if_neg c36] at H
            have c36b0 : (t546 == t543) = false := beq_eq_false_iff_ne.mpr c36
            have c36b1 : (t546 != t543) = true := bne_iff_ne.mpr c36
            obtain rfl := Option.some.inj H
            exact absurd hr_ (by decide)

/-- THE ONE PURE STATEMENT of laws_FnExactMakeRat: yours. -/
def laws_FnExactMakeRat.Pure : Prop := ∀ (a0 : Int) (a1 : Int), (Lit.int .i64 a0).wf = true → (Lit.int .i64 a1).wf = true → ∃ k, laws_FnExactMakeRat.f k a0 a1 = some true
theorem laws_FnExactMakeRat.walk (P : laws_FnExactMakeRat.Pure) (a0 : Int) (a1 : Int) (w : World) (w0 : (Lit.int .i64 a0).wf = true) (w1 : (Lit.int .i64 a1).wf = true) :
    Calls Try.prog 3 #[.int .i64 a0, .int .i64 a1] w fun e w' => e = .returned (.bool true) ∧ Below w.heap.size w w' := by
  obtain ⟨k, h⟩ := P a0 a1 w0 w1
  refine (laws_FnExactMakeRat.calls k a0 a1 true w h rfl).mono ?_
  rintro e w' ⟨rfl, hd⟩
  exact ⟨rfl, hd⟩

end Go.Proofs.Ytacdaijalkkogaa.Q
