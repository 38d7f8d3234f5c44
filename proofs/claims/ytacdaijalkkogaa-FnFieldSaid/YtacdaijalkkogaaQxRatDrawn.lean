-- written by a program of this claim's session (myprint.py) out of the translation; Lean checks it.
import Derived.Test.YtacdaijalkkogaaQx0
import Derived.Test.YtacdaijalkkogaaWords
import Derived.Test.YtacdaijalkkogaaQxsrc
import Derived.Test.YtacdaijalkkogaaQxspecl00Srcrat
namespace Go.Proofs.Ytacdaijalkkogaa.Q
open Go.RowKit Go.Proofs.YtacdaijalkkogaaW.PrintWords Go.Proofs.YtacdaijalkkogaaW.PrintLast Go.Proofs.YtacdaijalkkogaaW.PrintMore
attribute [local go_sem] max2_int min2_int max_two min_two max_three min_three max_four min_four   -- for this text's walks alone
set_option linter.unusedVariables false
set_option linter.unusedSimpArgs false

def spec_RatDrawn.f (k : Nat) (l0 : List Int) : Option (Bool × List Int × List Int) := (spec_l00Source.f l0).bind fun btA2 => ((spec_l00Src_rat.f k btA2.1 btA2.2.1 btA2.2.2).bind fun btA1 => (some (btA1.1, btA1.2.1, btA1.2.2.1)))
theorem spec_RatDrawn.mono : ∀ a0 k, LeO (spec_RatDrawn.f k a0) (spec_RatDrawn.f (k + 1) a0) := by
 intro a0 k
 unfold spec_RatDrawn.f
 repeat' first
   | (with_reducible exact spec_l00Src_rat.mono _ _ _ _)
   | (with_reducible exact LeO.refl _)
   | (with_reducible exact LeO.none _)
   | (with_reducible refine LeO.ite ?_ ?_)
   | (with_reducible refine LeO.bind ?_ (fun _ => ?_))
   | exact spec_l00Src_rat.mono _ _ _ _
   | exact LeO.none _
   | refine LeO.ite ?_ ?_
   | refine LeO.bind ?_ (fun _ => ?_)
set_option maxHeartbeats 8000000 in
set_option maxRecDepth 100000 in
theorem spec_RatDrawn.calls (k : Nat) (A0 : Option Addr) (c0 : Nat) (l0 : List Int) (r1 : Bool) (r2 : List Int) (r3 : List Int) (w : World) (hr0 : Kd.C (Kd.int .u8) w A0 l0.length l0) (hc0 : l0.length ≤ c0) (h : spec_RatDrawn.f k l0 = some (r1, r2, r3)) :
  Calls Try.prog 41 #[.slice A0 l0.length c0] w fun e w' => ∃ v1_ v2_ : Value, e = .returned (.agg #[.bool r1, v1_, v2_]) ∧ Kd.R (Kd.int .i64) 3 w' w.heap.size (fun k_ => nO k_ v2_) v1_ r2 ∧ Kd.R (Kd.int .i64) 3 w' w.heap.size (fun k_ => nO k_ v1_) v2_ r3 ∧ Below w.heap.size w w' := by
 have hu24 := Try.underlying24
 have HR0 := Aside0.mk hr0
 have HC0 := Aside0.mk hc0
 clear hr0 hc0
 have HB := Aside0.mk (Below.refl w.heap.size w)
 have H : ((spec_l00Source.f l0).bind fun btA2 => ((spec_l00Src_rat.f k btA2.1 btA2.2.1 btA2.2.2).bind fun btA1 => (some (btA1.1, btA1.2.1, btA1.2.2.1)))) = some (r1, r2, r3) := h
 clear h
 replace H := Option.bind_eq_some_iff.mp H
 obtain ⟨⟨tA2, tA4, tA5⟩, A20, H⟩ := H
 replace H : ((spec_l00Src_rat.f k tA2 tA4 tA5).bind fun btA1 => (some (btA1.1, btA1.2.1, btA1.2.2.1))) = some (r1, r2, r3) := H
 have A2 := Aside0.mk A20
 clear A20
 replace H := Option.bind_eq_some_iff.mp H
 obtain ⟨⟨tA1, tA6, tA7, tB0, tB1⟩, A30, H⟩ := H
 replace H : (some (tA1, tA6, tA7)) = some (r1, r2, r3) := H
 have A3 := Aside0.mk A30
 clear A30
 simp only [Option.some.injEq, Prod.mk.injEq] at H
 obtain ⟨rfl, rfl, rfl⟩ := H
 go_enter Try.func41, Try.ntmps41
 go_wp2_with (first | ((with_reducible refine gate_dst (N := 2) rfl ?_); refine bx_ (N := 2) (cs := #[.bool false, .slice none 0 0, .slice none 0 0]) (t := 24) ?_; intro gbA0 hg w4 hbox hb; have BKA0 := Aside0.mk (hbox); have GWA0 := geh hg HB; have GEA0 := geh hg HB; replace HB := bst HB hb; clear hb hbox hg) | ((with_reducible refine gate_callee (f := 88) rfl ?_); refine gL_ (some 4) Try.func88 #[.slice A0 l0.length c0] ?_; (with_reducible refine (spec_l00Source.calls _ _ l0 tA2 tA4 tA5 w _ ?side1 ?side2 ?side3 A2.out).mono ?_); (case side1 => repeat (first | (with_reducible first | exact HB.out | apply below_alloc | apply pw_below_drewN | apply below_drew1 | refine below_set ?_ GEA0.out) | exact HB.out)); (case side2 => exact HR0.out); (case side3 => exact HC0.out); rintro e w5 ⟨g602, rfl, hi, hb, hb2⟩; refine ⟨_, rfl, ?_⟩; replace HB := Aside0.mk (hb); have HI602 := Aside0.mk (hi); have NBA3_A0 := Aside0.mk (IsS82.ne_blk hi (blk_below (g := gbA0) (o := .cells #[.bool false, .slice none 0 0, .slice none 0 0] 24 (0, 0)) (crb BKA0) hb2) (by decide)); have NBA0_A3 := Aside0.mk (Ne.symm (IsS82.ne_blk hi (blk_below (g := gbA0) (o := .cells #[.bool false, .slice none 0 0, .slice none 0 0] 24 (0, 0)) (crb BKA0) hb2) (by decide))); replace BKA0 := Aside0.mk (blk_below (g := gbA0) (o := .cells #[.bool false, .slice none 0 0, .slice none 0 0] 24 (0, 0)) (crb BKA0) hb2); (try clear hb); (try clear hb2); (try clear hk); (try clear hi)) | ((with_reducible refine gate_callee (f := 90) rfl ?_); refine gL_ (some 5) Try.func90 #[.pointer (some ⟨g602, 0, none⟩)] ?_; (with_reducible refine (spec_l00Src_rat.calls k g602 tA2 tA4 tA5 tA1 tA6 tA7 tB0 tB1 w _ ?side1 ?side2 A3.out).mono ?_); (case side1 => repeat (first | (with_reducible first | exact HI602.out | apply IsS82.alloc | apply IsS82.drewN | apply IsS82.drew | apply IsS82.set_1 | apply IsS82.set_2 | refine IsS82.far ?_ NBA3_A0.out _) | exact HI602.out)); (case side2 => repeat (first | (with_reducible first | exact HB.out | apply below_alloc | apply pw_below_drewN | apply below_drew1 | refine below_set ?_ (IsS82.ge HI602.out) | refine below_set ?_ GEA0.out) | exact HB.out)); rintro e w6 ⟨vB2, vB3, rfl, ho0, ho1, hi, hb, hk⟩; refine ⟨_, rfl, ?_⟩; replace BKA0 := Aside0.mk (KeepBut.blk hk (g' := gbA0) (o := .cells #[.bool false, .slice none 0 0, .slice none 0 0] 24 (0, 0)) (crb BKA0) NBA0_A3.out (by simp)); have HOA8 := Aside0.mk (Kd.R_lower ho0 (below_size (by repeat (first | (with_reducible first | exact HB.out | apply below_alloc | apply pw_below_drewN | apply below_drew1 | refine below_set ?_ (IsS82.ge HI602.out) | refine below_set ?_ GEA0.out) | exact HB.out)))); have HOA9 := Aside0.mk (Kd.R_lower ho1 (below_size (by repeat (first | (with_reducible first | exact HB.out | apply below_alloc | apply pw_below_drewN | apply below_drew1 | refine below_set ?_ (IsS82.ge HI602.out) | refine below_set ?_ GEA0.out) | exact HB.out)))); replace HB := Aside0.mk (hb); replace HI602 := Aside0.mk (hi); (try clear hb); (try clear hb2); (try clear hk); (try clear hi); (try clear ho0); (try clear ho1); have hnb7 := NBA0_A3.out; have hnc7 := NBA3_A0.out; obtain ⟨hcz8_0, hcz8_1, hcz8_2, hfz8_0, hfz8_1, hfz8_2⟩ := bc3 BKA0; obtain ⟨Ao9, co9, eo9⟩ := Kd.R_slice HOA8.out; subst eo9; obtain ⟨Ao10, co10, eo10⟩ := Kd.R_slice HOA9.out; subst eo10))
 refine bodyPost_ret (results_cell_row rfl _ _ gbA0 24 #[.bool tA1, .slice Ao9 tA6.length co9, .slice Ao10 tA7.length co10] (0, 0) _ rfl (bp3 BKA0 _ _ _) Try.underlying24 rfl (by kernel_rfl)) rfl ?_
 exact ⟨_, _, er_, (crN HOA8 BKA0 fun _ hk => hk.1), (crN HOA9 BKA0 fun _ hk => hk.1), by repeat (first | (with_reducible first | exact HB.out | apply below_alloc | apply pw_below_drewN | apply below_drew1 | refine below_set ?_ (IsS82.ge HI602.out) | refine below_set ?_ GEA0.out) | exact HB.out)⟩

end Go.Proofs.Ytacdaijalkkogaa.Q
