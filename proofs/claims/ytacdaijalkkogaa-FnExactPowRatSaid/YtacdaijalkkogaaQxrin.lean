-- written by a program of this claim's session (myprint.py) out of the translation; Lean checks it.
import Derived.Test.YtacdaijalkkogaaQx0
import Derived.Test.YtacdaijalkkogaaSq
import Derived.Test.YtacdaijalkkogaaQxcmp
import Derived.Test.YtacdaijalkkogaaQxmul
import Derived.Test.YtacdaijalkkogaaQxsub
import Derived.Test.YtacdaijalkkogaaQxrk
import Derived.Test.YtacdaijalkkogaaQxrmk
import Derived.Test.YtacdaijalkkogaaQxadd
import Derived.Test.YtacdaijalkkogaaQxrim
namespace Go.Proofs.Ytacdaijalkkogaa.Q
open Go.RowKit Go.Proofs.YtacdaijalkkogaaW.PrintWords Go.Proofs.YtacdaijalkkogaaW.PrintLast Go.Proofs.YtacdaijalkkogaaW.PrintMore
attribute [local go_sem] max2_int min2_int max_two min_two max_three min_three max_four min_four   -- for this text's walks alone
set_option linter.unusedVariables false
set_option linter.unusedSimpArgs false

mutual
def impl_Rat_pow.l0 : Nat → Int → Int → Bool → List Int → List Int → Bool → List Int → List Int → Option (Bool × List Int × List Int)
 | 0, _, _, _, _, _, _, _, _ => none
 | k + 1, x7, x8, x609000, x609001, x609002, x618000, x618001, x618002 => if x8 < x7 then ((impl_natMul.f k x618001 x609001).bind fun t618 => ((impl_natMul.f k x618002 x609002).bind fun t621 => (impl_Rat_pow.l0 k x7 (wrap64 (x8 + 1)) x609000 x609001 x609002 (x618000 != x609000) t618 t621))) else (if x618000 = true then ((impl_Rat_isZero.f x618000 x618001 x618002).bind fun t624 => (impl_Rat_pow.j1 k (!t624) x618001 x618002)) else (impl_Rat_pow.j1 k false x618001 x618002))
def impl_Rat_pow.j1 : Nat → Bool → List Int → List Int → Option (Bool × List Int × List Int)
 | 0, _, _, _ => none
 | k + 1, x618000, x618001, x618002 => (impl_Rat_isZero.f x618000 x618001 x618002).bind fun t625 => (if t625 = true then ((impl_one.f).bind fun t626 => (some (x618000, x618001, t626))) else (some (x618000, x618001, x618002)))
end
def impl_Rat_pow.f (k : Nat) (a0_0 : Bool) (l0_1 : List Int) (l0_2 : List Int) (a1 : Int) : Option (Bool × List Int × List Int) := (impl_whole.f k 1).bind fun bt610 => (impl_Rat_pow.l0 k a1 0 a0_0 l0_1 l0_2 bt610.1 bt610.2.1 bt610.2.2)
theorem impl_Rat_pow.mono_l : ∀ k, (∀ y0 y1 y2 y3 y4 y5 y6 y7, LeO (impl_Rat_pow.l0 k y0 y1 y2 y3 y4 y5 y6 y7) (impl_Rat_pow.l0 (k + 1) y0 y1 y2 y3 y4 y5 y6 y7)) ∧ (∀ y0 y1 y2, LeO (impl_Rat_pow.j1 k y0 y1 y2) (impl_Rat_pow.j1 (k + 1) y0 y1 y2))
 | 0 => ⟨fun _ _ _ _ _ _ _ _ r h => by simp [impl_Rat_pow.l0] at h, fun _ _ _ r h => by simp [impl_Rat_pow.j1] at h⟩
 | k + 1 => by
  obtain ⟨ih0, ih1⟩ := impl_Rat_pow.mono_l k
  refine ⟨?_, ?_⟩
  ·
   intro y0 y1 y2 y3 y4 y5 y6 y7
   unfold impl_Rat_pow.l0
   repeat' first
   | (with_reducible exact ih0 _ _ _ _ _ _ _ _)
   | (with_reducible exact ih1 _ _ _)
   | (with_reducible exact impl_natMul.mono _ _ _)
   | (with_reducible exact impl_whole.mono _ _)
   | (with_reducible exact LeO.refl _)
   | (with_reducible exact LeO.none _)
   | (with_reducible refine LeO.ite ?_ ?_)
   | (with_reducible refine LeO.bind ?_ (fun _ => ?_))
   | exact ih0 _ _ _ _ _ _ _ _
   | exact ih1 _ _ _
   | exact impl_natMul.mono _ _ _
   | exact impl_whole.mono _ _
   | exact LeO.none _
   | refine LeO.ite ?_ ?_
   | refine LeO.bind ?_ (fun _ => ?_)
  ·
   intro y0 y1 y2
   unfold impl_Rat_pow.j1
   repeat' first
   | (with_reducible exact ih0 _ _ _ _ _ _ _ _)
   | (with_reducible exact ih1 _ _ _)
   | (with_reducible exact impl_natMul.mono _ _ _)
   | (with_reducible exact impl_whole.mono _ _)
   | (with_reducible exact LeO.refl _)
   | (with_reducible exact LeO.none _)
   | (with_reducible refine LeO.ite ?_ ?_)
   | (with_reducible refine LeO.bind ?_ (fun _ => ?_))
   | exact ih0 _ _ _ _ _ _ _ _
   | exact ih1 _ _ _
   | exact impl_natMul.mono _ _ _
   | exact impl_whole.mono _ _
   | exact LeO.none _
   | refine LeO.ite ?_ ?_
   | refine LeO.bind ?_ (fun _ => ?_)
theorem impl_Rat_pow.mono : ∀ a0 a1 a2 a3 k, LeO (impl_Rat_pow.f k a0 a1 a2 a3) (impl_Rat_pow.f (k + 1) a0 a1 a2 a3) := by
 intro a0 a1 a2 a3 k
 obtain ⟨ih0, ih1⟩ := impl_Rat_pow.mono_l k
 unfold impl_Rat_pow.f
 repeat' first
   | (with_reducible exact ih0 _ _ _ _ _ _ _ _)
   | (with_reducible exact ih1 _ _ _)
   | (with_reducible exact impl_natMul.mono _ _ _)
   | (with_reducible exact impl_whole.mono _ _)
   | (with_reducible exact LeO.refl _)
   | (with_reducible exact LeO.none _)
   | (with_reducible refine LeO.ite ?_ ?_)
   | (with_reducible refine LeO.bind ?_ (fun _ => ?_))
   | exact ih0 _ _ _ _ _ _ _ _
   | exact ih1 _ _ _
   | exact impl_natMul.mono _ _ _
   | exact impl_whole.mono _ _
   | exact LeO.none _
   | refine LeO.ite ?_ ?_
   | refine LeO.bind ?_ (fun _ => ?_)
def impl_Rat_pow.T4 : Bool × List (List Nat × List Nat) := (true, [([], []), ([0], [0]), ([], []), ([2], [2]), ([1, 3], [1, 3]), ([], []), ([5], [5]), ([], []), ([7], [7]), ([6, 8], [6, 8]), ([], []), ([10], [10]), ([], []), ([12], [12]), ([11, 13, 9], [11, 13]), ([4, 9, 14], [4, 9, 14]), ([15, 14, 0, 1, 2, 3, 4, 5, 6, 7, 8, 9, 10, 11, 12, 13, 14, 15], [15])])
def impl_Rat_pow.B4 : List Nat := [0, 1, 0, 4, 15, 0, 32, 0, 128, 480, 0, 1024, 0, 4096, 16352, 32767, 65535]
theorem impl_Rat_pow.tab4 : rtab .any (opsOf Try.f83 4) = impl_Rat_pow.T4 := by kernel_rfl
theorem impl_Rat_pow.bits4 : waitsOk impl_Rat_pow.T4.2 impl_Rat_pow.B4 = true := by kernel_rfl
set_option maxHeartbeats 8000000 in
set_option maxRecDepth 100000 in
theorem impl_Rat_pow.calls (k : Nat) (a0_0 : Bool) (A0_1 : Option Addr) (c0_1 : Nat) (l0_1 : List Int) (A0_2 : Option Addr) (c0_2 : Nat) (l0_2 : List Int) (a1 : Int) (r1 : Bool) (r2 : List Int) (r3 : List Int) (w : World) (hr0_1 : Kd.C (Kd.int .i64) w A0_1 l0_1.length l0_1) (hc0_1 : l0_1.length ≤ c0_1) (hr0_2 : Kd.C (Kd.int .i64) w A0_2 l0_2.length l0_2) (hc0_2 : l0_2.length ≤ c0_2) (h : impl_Rat_pow.f k a0_0 l0_1 l0_2 a1 = some (r1, r2, r3)) :
  Calls Try.prog 83 #[.agg #[.bool a0_0, .slice A0_1 l0_1.length c0_1, .slice A0_2 l0_2.length c0_2], .int .i64 a1] w fun e w' => ∃ v1_ v2_ : Value, e = .returned (.agg #[.bool r1, v1_, v2_]) ∧ Kd.R (Kd.int .i64) 3 w' w.heap.size (fun k_ => nO k_ v2_) v1_ r2 ∧ Kd.R (Kd.int .i64) 3 w' w.heap.size (fun k_ => nO k_ v1_) v2_ r3 ∧ Below w.heap.size w w' := by
 have hu24 := Try.underlying24
 have HR0_1 := Aside0.mk hr0_1
 have HC0_1 := Aside0.mk hc0_1
 clear hr0_1 hc0_1
 have HR0_2 := Aside0.mk hr0_2
 have HC0_2 := Aside0.mk hc0_2
 clear hr0_2 hc0_2
 have HB := Aside0.mk (Below.refl w.heap.size w)
 have H : ((impl_whole.f k 1).bind fun bt610 => (impl_Rat_pow.l0 k a1 0 a0_0 l0_1 l0_2 bt610.1 bt610.2.1 bt610.2.2)) = some (r1, r2, r3) := h
 clear h
 replace H := Option.bind_eq_some_iff.mp H
 obtain ⟨⟨t610, t611, t614⟩, A30, H⟩ := H
 replace H : (impl_Rat_pow.l0 k a1 0 a0_0 l0_1 l0_2 t610 t611 t614) = some (r1, r2, r3) := H
 have A3 := Aside0.mk A30
 clear A30
 have H' := Aside0.mk H
 clear H
 go_enter Try.func83, Try.ntmps83
 go_wp2_with (first | ((with_reducible refine gate_dst (N := 2) rfl ?_); refine box_event ?hg (N := 2) ?hd (cs := #[.bool a0_0, .slice A0_1 l0_1.length c0_1, .slice A0_2 l0_2.length c0_2]) (t := 24) ?hr ?_; (case hd => rfl); (case hg => rfl); (case hr => first | (go_simp; done) | (go_simp; rfl)); intro gb608 hg w4 hbox hb; have BK608 := Aside0.mk (hbox); have GW608 := geh hg HB; have GE608 := geh hg HB; replace HB := bst HB hb; clear hb hbox hg) | ((with_reducible refine gate_dst (N := 4) rfl ?_); refine box_event ?hg (N := 4) ?hd (cs := #[.bool false, .slice none 0 0, .slice none 0 0]) (t := 24) ?hr ?_; (case hd => rfl); (case hg => rfl); (case hr => first | (go_simp; done) | (go_simp; rfl)); intro gb609 hg w5 hbox hb; have BK609 := Aside0.mk (hbox); have GW609 := geh hg HB; have GE609 := geh hg HB; replace HB := bst HB hb; have NB608_609 := nlt hg BK608; have NB609_608 := ngt hg BK608; replace BK608 := bkb BK608 hb; clear hb hbox hg) | ((with_reducible refine gate_callee (f := 48) rfl ?_); refine goesL_ (some 6) rfl rfl Try.func48 (by kernel_rfl) rfl #[.int .i64 1] rfl (by (try simp only [List.map_toArray, List.map_cons, List.map_nil]); first | done | rfl | (simp only [List.length_drop, List.length_take]; rfl)) ?_; (with_reducible refine (impl_whole.calls k 1 t610 t611 t614 _ A3.out).mono ?_); rintro e w6 ⟨v612, v615, rfl, ho0, ho1, hb⟩; refine ⟨_, rfl, ?_⟩; have HO613 := lwR ho0 HB; have HO616 := lwR ho1 HB; replace BK608 := bkb BK608 hb; replace BK609 := bkb BK609 hb; replace HB := bst HB hb; (try clear hb); (try clear hb2); (try clear hk); (try clear hi); (try clear ho0); (try clear ho1)) | ((with_reducible refine gate_dst (N := 5) rfl ?_); refine box_event ?hg (N := 5) ?hd (cs := #[.bool false, .slice none 0 0, .slice none 0 0]) (t := 24) ?hr ?_; (case hd => rfl); (case hg => rfl); (case hr => first | (go_simp; done) | (go_simp; rfl)); intro gb617 hg w7 hbox hb; replace HO613 := rblR HO613 hb; replace HO616 := rblR HO616 hb; have BK617 := Aside0.mk (hbox); have GW617 := geh hg HB; have GE617 := geh hg HB; replace HB := bst HB hb; have NB608_617 := nlt hg BK608; have NB617_608 := ngt hg BK608; replace BK608 := bkb BK608 hb; have NB609_617 := nlt hg BK609; have NB617_609 := ngt hg BK609; replace BK609 := bkb BK609 hb; clear hb hbox hg; have hnb8 := NB617_608.out; have hnc8 := NB608_617.out; have hnb9 := NB617_609.out; have hnc9 := NB609_617.out; have hcz10_0 := bce BK617 0 (.bool false); have hcz10_1 := bce BK617 1 (.slice none 0 0); have hcz10_2 := bce BK617 2 (.slice none 0 0); have hfz10_0 := blk_frozen BK617.out 0; have hfz10_1 := blk_frozen BK617.out 1; have hfz10_2 := blk_frozen BK617.out 2; obtain ⟨Ao11, co11, eo11⟩ := Kd.R_slice HO613.out; subst eo11; obtain ⟨Ao12, co12, eo12⟩ := Kd.R_slice HO616.out; subst eo12))
 go_loopg [8] k (fun kq v8 w' => ∃ (x8_1 : Int) (x618000_1 : Bool) (x618001_1 : List Int) (x618002_1 : List Int) (u618001 : Value) (u618002 : Value), v8 = .int .i64 x8_1 ∧ Aside0 (impl_Rat_pow.l0 kq a1 x8_1 a0_0 l0_1 l0_2 x618000_1 x618001_1 x618002_1 = some (r1, r2, r3)) ∧ Aside0 (kq ≤ k) ∧ Aside0 (Kd.R (Kd.int .i64) 3 w' w.heap.size (fun k_ => nO k_ u618002) u618001 x618001_1) ∧ Aside0 (Kd.R (Kd.int .i64) 3 w' w.heap.size (fun k_ => nO k_ u618001) u618002 x618002_1) ∧ Aside0 (w'.heap[gb608]? = some (.cells #[.bool a0_0, (.slice A0_1 l0_1.length c0_1), (.slice A0_2 l0_2.length c0_2)] 24 (0, 0))) ∧ Aside0 (w'.heap[gb609]? = some (.cells #[.bool false, (.slice none 0 0), (.slice none 0 0)] 24 (0, 0))) ∧ Aside0 (w'.heap[gb617]? = some (.cells #[.bool x618000_1, u618001, u618002] 24 (0, 0))) ∧ Aside0 (Below w.heap.size w w'))
 case atStart => exact ⟨(0), (t610), (t611), (t614), (.slice Ao11 t611.length co11), (.slice Ao12 t614.length co12), (by first | rfl | (simp; done) | (simp [*]; done)), H', ⟨Nat.le_refl _⟩, ⟨by (with_reducible repeat (first | apply Kd.R_alloc | apply Kd.R_drewN | apply Kd.R_drew)); exact Kd.R_mono (Kd.R_far (p := ⟨gb617, 2, none⟩) (Kd.R_far (p := ⟨gb617, 1, none⟩) (Kd.R_far (p := ⟨gb617, 0, none⟩) (Kd.R_types HO613.out BK617.out (by decide)) (fun _ hk => hk.2) (.bool t610)) (fun _ hk => hk.2) (.slice Ao11 t611.length co11)) (fun _ hk => hk.2) (.slice Ao12 t614.length co12)) (fun _ hk => hk.1)⟩, ⟨by (with_reducible repeat (first | apply Kd.R_alloc | apply Kd.R_drewN | apply Kd.R_drew)); exact Kd.R_mono (Kd.R_far (p := ⟨gb617, 2, none⟩) (Kd.R_far (p := ⟨gb617, 1, none⟩) (Kd.R_far (p := ⟨gb617, 0, none⟩) (Kd.R_types HO616.out BK617.out (by decide)) (fun _ hk => hk.2) (.bool t610)) (fun _ hk => hk.2) (.slice Ao11 t611.length co11)) (fun _ hk => hk.2) (.slice Ao12 t614.length co12)) (fun _ hk => hk.1)⟩, ⟨by (with_reducible repeat (first | refine blk_drewN ?_ _ | refine blk_drew ?_ | refine blk_alloc ?_ _)); refine blk_far ?_ NB608_617.out _; (with_reducible repeat (first | refine blk_drewN ?_ _ | refine blk_drew ?_ | refine blk_alloc ?_ _)); refine blk_far ?_ NB608_617.out _; (with_reducible repeat (first | refine blk_drewN ?_ _ | refine blk_drew ?_ | refine blk_alloc ?_ _)); refine blk_far ?_ NB608_617.out _; (with_reducible repeat (first | refine blk_drewN ?_ _ | refine blk_drew ?_ | refine blk_alloc ?_ _)); exact BK608.out⟩, ⟨by (with_reducible repeat (first | refine blk_drewN ?_ _ | refine blk_drew ?_ | refine blk_alloc ?_ _)); refine blk_far ?_ NB609_617.out _; (with_reducible repeat (first | refine blk_drewN ?_ _ | refine blk_drew ?_ | refine blk_alloc ?_ _)); refine blk_far ?_ NB609_617.out _; (with_reducible repeat (first | refine blk_drewN ?_ _ | refine blk_drew ?_ | refine blk_alloc ?_ _)); refine blk_far ?_ NB609_617.out _; (with_reducible repeat (first | refine blk_drewN ?_ _ | refine blk_drew ?_ | refine blk_alloc ?_ _)); exact BK609.out⟩, ⟨by (with_reducible repeat (first | refine blk_drewN ?_ _ | refine blk_drew ?_ | refine blk_alloc ?_ _)); refine blk_put (cs := #[.bool t610, .slice Ao11 t611.length co11, .slice none 0 0]) ?_ 2 _ rfl; (with_reducible repeat (first | refine blk_drewN ?_ _ | refine blk_drew ?_ | refine blk_alloc ?_ _)); refine blk_put (cs := #[.bool t610, .slice none 0 0, .slice none 0 0]) ?_ 1 _ rfl; (with_reducible repeat (first | refine blk_drewN ?_ _ | refine blk_drew ?_ | refine blk_alloc ?_ _)); refine blk_put (cs := #[.bool false, .slice none 0 0, .slice none 0 0]) ?_ 0 _ rfl; (with_reducible repeat (first | refine blk_drewN ?_ _ | refine blk_drew ?_ | refine blk_alloc ?_ _)); exact BK617.out⟩, ⟨blw HB⟩⟩
 case round =>
  clear H'
  try clear p2
  try clear c4
  try clear c8
  try clear c9
  try clear hcz10_0
  try clear hcz10_1
  try clear hcz10_2
  try clear hfz10_0
  try clear hfz10_1
  try clear hfz10_2
  obtain ⟨x8_1, x618000_1, x618001_1, x618002_1, u618001, u618002, rfl, HA, HK1, HO_618001, HO_618002, BK608, BK609, BK617, HB⟩ := hrel
  cases gk with
  | zero => exact absurd HA.out (by simp [impl_Rat_pow.l0])
  | succ k1 =>
   have H := HA.out
   clear HA
   simp only [impl_Rat_pow.l0] at H
   by_cases c13 : x8_1 < a1
   ·
    rw [if_pos c13] at H
    have c13b0 : decide (x8_1 < a1) = true := decide_eq_true c13
    clear c13
    replace H := Option.bind_eq_some_iff.mp H
    obtain ⟨t618, A140, H⟩ := H
    replace H : ((impl_natMul.f k1 x618002_1 l0_2).bind fun t621 => (impl_Rat_pow.l0 k1 a1 (wrap64 (x8_1 + 1)) a0_0 l0_1 l0_2 (x618000_1 != a0_0) t618 t621)) = some (r1, r2, r3) := H
    have A14 := Aside0.mk A140
    clear A140
    replace H := Option.bind_eq_some_iff.mp H
    obtain ⟨t621, A150, H⟩ := H
    replace H : (impl_Rat_pow.l0 k1 a1 (wrap64 (x8_1 + 1)) a0_0 l0_1 l0_2 (x618000_1 != a0_0) t618 t621) = some (r1, r2, r3) := H
    have A15 := Aside0.mk A150
    clear A150
    have H' := Aside0.mk H
    clear H
    try go_wp2
    replace HO_618001 := Aside0.mk (Kd.R_drew HO_618001.out)
    replace HO_618002 := Aside0.mk (Kd.R_drew HO_618002.out)
    replace BK608 := Aside0.mk (blk_drew BK608.out)
    replace BK609 := Aside0.mk (blk_drew BK609.out)
    replace BK617 := Aside0.mk (blk_drew BK617.out)
    replace HB := Aside0.mk (below_drew1 HB.out)
    obtain ⟨Ao17, co17, eo17⟩ := Kd.R_slice HO_618001.out
    (first | subst eo17 | (injection eo17 with f1_ f2_ f3_; have f4_ := f1_.symm; have f5_ := f3_.symm; clear f1_ f2_ f3_; subst f4_; subst f5_))
    refine start_ (n := 17) (S := fun w' => w'.cell? ⟨gb617, 0, none⟩ = some (.bool x618000_1) ∧ w'.cell? ⟨gb617, 1, none⟩ = some (.slice Ao17 x618001_1.length co17) ∧ w'.cell? ⟨gb617, 2, none⟩ = some (u618002) ∧ w'.cell? ⟨gb608, 0, none⟩ = some (.bool a0_0) ∧ w'.cell? ⟨gb608, 1, none⟩ = some (.slice A0_1 l0_1.length c0_1) ∧ w'.cell? ⟨gb608, 2, none⟩ = some (.slice A0_2 l0_2.length c0_2)) (ds := [16]) #[false, false, false, false, false, false, false, false, false, false, false, false, false, false, false, false, false] (by kernel_rfl) rfl rfl ⟨bce BK617 0 _, bce BK617 1 _, bce BK617 2 _, bce BK608 0 _, bce BK608 1 _, bce BK608 2 _⟩ (fun hHeld => ?_); refine with_tabW impl_Rat_pow.tab4 impl_Rat_pow.bits4 (fun HT_ HW_ => ?_)
    generalize wr.drew = w16 at HO_618001 HO_618002 BK608 BK609 BK617 HB hHeld ⊢
    refine pure_ (i := 0) (N := some 10) (v := ?_) (a' := ?_) #[true, false, false, false, false, false, false, false, false, false, false, false, false, false, false, false, false] rfl rfl (any_of HT_.out (by kernel_rfl)) (fun _ _ _ h => h) (Or.inl ⟨by rfl, ?_⟩) ?_ ?_
    rotate_left
    ·
     intro w'
     go_simp
     with_reducible rfl
    rotate_left
    ·
     simp only [Act.put, List.setIfInBounds_toArray, List.set_cons_zero, List.set_cons_succ, i64_w, i32_w]
     rfl
    refine pure_ (i := 2) (N := some 12) (v := ?_) (a' := ?_) #[true, false, true, false, false, false, false, false, false, false, false, false, false, false, false, false, false] rfl rfl (any_of HT_.out (by kernel_rfl)) (fun _ _ _ h => h) (Or.inl ⟨by rfl, ?_⟩) ?_ ?_
    rotate_left
    ·
     intro w'
     go_simp
     with_reducible rfl
    rotate_left
    ·
     simp only [Act.put, List.setIfInBounds_toArray, List.set_cons_zero, List.set_cons_succ, i64_w, i32_w]
     rfl
    refine pure_ (i := 5) (N := some 15) (v := ?_) (a' := ?_) #[true, false, true, false, false, true, false, false, false, false, false, false, false, false, false, false, false] rfl rfl (any_of HT_.out (by kernel_rfl)) (fun _ _ _ h => h) (Or.inl ⟨by rfl, ?_⟩) ?_ ?_
    rotate_left
    ·
     intro w'
     go_simp
     with_reducible rfl
    rotate_left
    ·
     simp only [Act.put, List.setIfInBounds_toArray, List.set_cons_zero, List.set_cons_succ, i64_w, i32_w]
     rfl
    refine pure_ (i := 7) (N := some 17) (v := ?_) (a' := ?_) #[true, false, true, false, false, true, false, true, false, false, false, false, false, false, false, false, false] rfl rfl (any_of HT_.out (by kernel_rfl)) (fun _ _ _ h => h) (Or.inl ⟨by rfl, ?_⟩) ?_ ?_
    rotate_left
    ·
     intro w'
     go_simp
     with_reducible rfl
    rotate_left
    ·
     simp only [Act.put, List.setIfInBounds_toArray, List.set_cons_zero, List.set_cons_succ, i64_w, i32_w]
     rfl
    refine pure_ (i := 10) (N := some 20) (v := ?_) (a' := ?_) #[true, false, true, false, false, true, false, true, false, false, true, false, false, false, false, false, false] rfl rfl (any_of HT_.out (by kernel_rfl)) (fun _ _ _ h => h) (Or.inl ⟨by rfl, ?_⟩) ?_ ?_
    rotate_left
    ·
     intro w'
     go_simp
     with_reducible rfl
    rotate_left
    ·
     simp only [Act.put, List.setIfInBounds_toArray, List.set_cons_zero, List.set_cons_succ, i64_w, i32_w]
     rfl
    refine pure_ (i := 12) (N := some 22) (v := ?_) (a' := ?_) #[true, false, true, false, false, true, false, true, false, false, true, false, true, false, false, false, false] rfl rfl (any_of HT_.out (by kernel_rfl)) (fun _ _ _ h => h) (Or.inl ⟨by rfl, ?_⟩) ?_ ?_
    rotate_left
    ·
     intro w'
     go_simp
     with_reducible rfl
    rotate_left
    ·
     simp only [Act.put, List.setIfInBounds_toArray, List.set_cons_zero, List.set_cons_succ, i64_w, i32_w]
     rfl
    refine take_ (i := 1) (N := some 11) (v := ?_) (a' := ?_) #[true, true, true, false, false, true, false, true, false, false, true, false, true, false, false, false, false] rfl rfl (take_ofW HT_.out HW_.out (by kernel_rfl)) (fun _ _ _ h => h) (Or.inl ⟨by rfl, ?_⟩) hHeld ?_ ?_
    rotate_left
    ·
     rintro w' ⟨s0, s1, s2, s3, s4, s5⟩
     go_simp
     with_reducible rfl
    rotate_left
    ·
     simp only [Act.put, List.setIfInBounds_toArray, List.set_cons_zero, List.set_cons_succ, i64_w, i32_w]
     rfl
    refine take_ (i := 3) (N := some 13) (v := ?_) (a' := ?_) #[true, true, true, true, false, true, false, true, false, false, true, false, true, false, false, false, false] rfl rfl (take_ofW HT_.out HW_.out (by kernel_rfl)) (fun _ _ _ h => h) (Or.inl ⟨by rfl, ?_⟩) hHeld ?_ ?_
    rotate_left
    ·
     rintro w' ⟨s0, s1, s2, s3, s4, s5⟩
     go_simp
     with_reducible rfl
    rotate_left
    ·
     simp only [Act.put, List.setIfInBounds_toArray, List.set_cons_zero, List.set_cons_succ, i64_w, i32_w]
     rfl
    refine pure_ (i := 4) (N := some 14) (v := ?_) (a' := ?_) #[true, true, true, true, true, true, false, true, false, false, true, false, true, false, false, false, false] rfl rfl (any_of HT_.out (by kernel_rfl)) (fun _ _ _ h => h) (Or.inl ⟨by rfl, ?_⟩) ?_ ?_
    rotate_left
    ·
     intro w'
     go_simp
     with_reducible rfl
    rotate_left
    ·
     simp only [Act.put, List.setIfInBounds_toArray, List.set_cons_zero, List.set_cons_succ, i64_w, i32_w]
     rfl
    refine take_ (i := 6) (N := some 16) (v := ?_) (a' := ?_) #[true, true, true, true, true, true, true, true, false, false, true, false, true, false, false, false, false] rfl rfl (take_ofW HT_.out HW_.out (by kernel_rfl)) (fun _ _ _ h => h) (Or.inl ⟨by rfl, ?_⟩) hHeld ?_ ?_
    rotate_left
    ·
     rintro w' ⟨s0, s1, s2, s3, s4, s5⟩
     go_simp
     with_reducible rfl
    rotate_left
    ·
     simp only [Act.put, List.setIfInBounds_toArray, List.set_cons_zero, List.set_cons_succ, i64_w, i32_w]
     rfl
    refine take_ (i := 8) (N := some 18) (v := ?_) (a' := ?_) #[true, true, true, true, true, true, true, true, true, false, true, false, true, false, false, false, false] rfl rfl (take_ofW HT_.out HW_.out (by kernel_rfl)) (fun _ _ _ h => h) (Or.inl ⟨by rfl, ?_⟩) hHeld ?_ ?_
    rotate_left
    ·
     rintro w' ⟨s0, s1, s2, s3, s4, s5⟩
     go_simp
     with_reducible rfl
    rotate_left
    ·
     simp only [Act.put, List.setIfInBounds_toArray, List.set_cons_zero, List.set_cons_succ, i64_w, i32_w]
     rfl
    refine take_ (i := 11) (N := some 21) (v := ?_) (a' := ?_) #[true, true, true, true, true, true, true, true, true, false, true, true, true, false, false, false, false] rfl rfl (take_ofW HT_.out HW_.out (by kernel_rfl)) (fun _ _ _ h => h) (Or.inl ⟨by rfl, ?_⟩) hHeld ?_ ?_
    rotate_left
    ·
     rintro w' ⟨s0, s1, s2, s3, s4, s5⟩
     go_simp
     with_reducible rfl
    rotate_left
    ·
     simp only [Act.put, List.setIfInBounds_toArray, List.set_cons_zero, List.set_cons_succ, i64_w, i32_w]
     rfl
    refine take_ (i := 13) (N := some 23) (v := ?_) (a' := ?_) #[true, true, true, true, true, true, true, true, true, false, true, true, true, true, false, false, false] rfl rfl (take_ofW HT_.out HW_.out (by kernel_rfl)) (fun _ _ _ h => h) (Or.inl ⟨by rfl, ?_⟩) hHeld ?_ ?_
    rotate_left
    ·
     rintro w' ⟨s0, s1, s2, s3, s4, s5⟩
     go_simp
     with_reducible rfl
    rotate_left
    ·
     simp only [Act.put, List.setIfInBounds_toArray, List.set_cons_zero, List.set_cons_succ, i64_w, i32_w]
     rfl
    refine one_ (i := 9) (N := some 19) #[true, true, true, true, true, true, true, true, true, true, true, true, true, true, false, false, false] rfl rfl (one_of HT_.out (by kernel_rfl)) (by decide) (fun K hK => ?_)
    refine goes_ Try.func95 (by kernel_rfl) rfl #[.slice Ao17 x618001_1.length co17, .slice A0_1 l0_1.length c0_1] (by rfl) rfl rfl (by (try simp only [List.map_toArray, List.map_cons, List.map_nil]); first | done | rfl | (simp only [List.length_drop, List.length_take]; rfl)) ?_
    with_reducible refine (impl_natMul.calls k1 _ _ x618001_1 _ _ l0_1 t618 _ ?side1 ?side2 ?side3 ?side4 A14.out).mono ?_
    (case side1 => exact crC (Kd.R_reads' HO_618001.out).2.2)
    (case side2 => exact (Kd.R_reads' HO_618001.out).2.1)
    (case side3 => exact crC (Kd.C_below HR0_1.out HB.out))
    (case side4 => exact HC0_1.out)
    rintro e w18 ⟨v619, rfl, ho0, hb⟩
    refine ⟨_, rfl, ?_⟩
    have HO620 := lwR (nwR (nwR ho0 HO_618001) HO_618002) HB
    replace HO_618001 := eldR HO_618001 (Kd.R_base ho0) hb
    replace HO_618002 := eldR HO_618002 (Kd.R_base ho0) hb
    replace BK608 := bkb BK608 hb
    replace BK609 := bkb BK609 hb
    replace BK617 := bkb BK617 hb
    replace HB := bst HB hb
    (try clear hb)
    (try clear hb2)
    (try clear hk)
    (try clear hi)
    (try clear ho0)
    obtain ⟨Ao19, co19, eo19⟩ := Kd.R_slice HO_618002.out
    (first | subst eo19 | (injection eo19 with f1_ f2_ f3_; have f4_ := f1_.symm; have f5_ := f3_.symm; clear f1_ f2_ f3_; subst f4_; subst f5_))
    refine hK.out _ _ ⟨bce BK617 0 _, bce BK617 1 _, bce BK617 2 _, bce BK608 0 _, bce BK608 1 _, bce BK608 2 _⟩ (fun hHeld => ?_)
    clear hK K
    refine norm_ (a' := ?_) ?_ ?_
    rotate_left
    ·
     show Act.put _ (some 19) _ = _
     simp only [Act.put, List.setIfInBounds_toArray, List.set_cons_zero, List.set_cons_succ, i64_w, i32_w]
     rfl
    refine one_ (i := 14) (N := some 24) #[true, true, true, true, true, true, true, true, true, true, true, true, true, true, true, false, false] rfl rfl (one_of HT_.out (by kernel_rfl)) (by decide) (fun K hK => ?_)
    refine goes_ Try.func95 (by kernel_rfl) rfl #[.slice Ao19 x618002_1.length co19, .slice A0_2 l0_2.length c0_2] (by rfl) rfl rfl (by (try simp only [List.map_toArray, List.map_cons, List.map_nil]); first | done | rfl | (simp only [List.length_drop, List.length_take]; rfl)) ?_
    with_reducible refine (impl_natMul.calls k1 _ _ x618002_1 _ _ l0_2 t621 _ ?side1 ?side2 ?side3 ?side4 A15.out).mono ?_
    (case side1 => exact crC (Kd.R_reads' HO_618002.out).2.2)
    (case side2 => exact (Kd.R_reads' HO_618002.out).2.1)
    (case side3 => exact crC (Kd.C_below HR0_2.out HB.out))
    (case side4 => exact HC0_2.out)
    rintro e w20 ⟨v622, rfl, ho0, hb⟩
    refine ⟨_, rfl, ?_⟩
    have HO623 := lwR (nwR (nwR (nwR ho0 HO_618001) HO_618002) HO620) HB
    replace HO_618001 := eldR HO_618001 (Kd.R_base ho0) hb
    replace HO_618002 := eldR HO_618002 (Kd.R_base ho0) hb
    replace HO620 := eldR HO620 (Kd.R_base ho0) hb
    replace BK608 := bkb BK608 hb
    replace BK609 := bkb BK609 hb
    replace BK617 := bkb BK617 hb
    replace HB := bst HB hb
    (try clear hb)
    (try clear hb2)
    (try clear hk)
    (try clear hi)
    (try clear ho0)
    obtain ⟨Ao21, co21, eo21⟩ := Kd.R_slice HO623.out
    (first | subst eo21 | (injection eo21 with f1_ f2_ f3_; have f4_ := f1_.symm; have f5_ := f3_.symm; clear f1_ f2_ f3_; subst f4_; subst f5_))
    obtain ⟨Ao22, co22, eo22⟩ := Kd.R_slice HO620.out
    (first | subst eo22 | (injection eo22 with f1_ f2_ f3_; have f4_ := f1_.symm; have f5_ := f3_.symm; clear f1_ f2_ f3_; subst f4_; subst f5_))
    refine hK.out _ _ ⟨bce BK617 0 _, bce BK617 1 _, bce BK617 2 _, bce BK608 0 _, bce BK608 1 _, bce BK608 2 _⟩ (fun hHeld => ?_)
    clear hK K
    refine norm_ (a' := ?_) ?_ ?_
    rotate_left
    ·
     show Act.put _ (some 24) _ = _
     simp only [Act.put, List.setIfInBounds_toArray, List.set_cons_zero, List.set_cons_succ, i64_w, i32_w]
     rfl
    refine pure_ (i := 15) (N := some 25) (v := ?_) (a' := ?_) #[true, true, true, true, true, true, true, true, true, true, true, true, true, true, true, true, false] rfl rfl (any_of HT_.out (by kernel_rfl)) (fun _ _ _ h => h) (Or.inl ⟨by rfl, ?_⟩) ?_ ?_
    rotate_left
    ·
     intro w'
     go_simp
     with_reducible rfl
    rotate_left
    ·
     simp only [Act.put, List.setIfInBounds_toArray, List.set_cons_zero, List.set_cons_succ, i64_w, i32_w]
     rfl
    refine last_ (i := 16) (N := none) #[true, true, true, true, true, true, true, true, true, true, true, true, true, true, true, true, true] rfl rfl (one_of HT_.out (by kernel_rfl)) (by decide) (fun K hK => ?_)
    have hs23 : w20.cell? ⟨gb617, 0, none⟩ = some (.bool x618000_1) := bce BK617 0 _
    have hfs23 := blk_frozen BK617.out 0
    have hns23_0 := NB608_617.out
    have hns23_1 := NB609_617.out
    have hms23_0 := NB617_608.out
    have hms23_1 := NB617_609.out
    have hs24 : w20.cell? ⟨gb617, 1, none⟩ = some (.slice Ao17 x618001_1.length co17) := bce BK617 1 _
    have hfs24 := blk_frozen BK617.out 1
    have hns24_0 := NB608_617.out
    have hns24_1 := NB609_617.out
    have hms24_0 := NB617_608.out
    have hms24_1 := NB617_609.out
    have hs25 : w20.cell? ⟨gb617, 2, none⟩ = some (.slice Ao19 x618002_1.length co19) := bce BK617 2 _
    have hfs25 := blk_frozen BK617.out 2
    have hns25_0 := NB608_617.out
    have hns25_1 := NB609_617.out
    have hms25_0 := NB617_608.out
    have hms25_1 := NB617_609.out
    refine skip_ (w1 := ?_) (by rfl) rfl ?_ ?_
    rotate_left
    ·
     go_simp
     rfl
    refine hK.out _ _ ?_
    clear hK K
    refine done_ (done_of HT_.out (by kernel_rfl)) ?_
    try go_wp2
    go_roundg k1
    case measure => have := HK1.out; omega
    case rel => exact ⟨(wrap64 (x8_1 + 1)), ((x618000_1 != a0_0)), (t618), (t621), (.slice Ao22 t618.length co22), (.slice Ao21 t621.length co21), (by first | rfl | (simp; done) | (simp [*]; done)), H', ⟨by have := HK1.out; omega⟩, ⟨by (with_reducible repeat (first | apply Kd.R_alloc | apply Kd.R_drewN | apply Kd.R_drew)); exact Kd.R_mono (Kd.R_far (p := ⟨gb617, 2, none⟩) (Kd.R_far (p := ⟨gb617, 1, none⟩) (Kd.R_far (p := ⟨gb617, 0, none⟩) (Kd.R_types HO620.out BK617.out (by decide)) (fun _ hk => hk.2) (.bool (x618000_1 != a0_0))) (fun _ hk => hk.2) (.slice Ao22 t618.length co22)) (fun _ hk => hk.2) (.slice Ao21 t621.length co21)) (fun _ hk => hk.1.2)⟩, ⟨by (with_reducible repeat (first | apply Kd.R_alloc | apply Kd.R_drewN | apply Kd.R_drew)); exact Kd.R_mono (Kd.R_far (p := ⟨gb617, 2, none⟩) (Kd.R_far (p := ⟨gb617, 1, none⟩) (Kd.R_far (p := ⟨gb617, 0, none⟩) (Kd.R_types HO623.out BK617.out (by decide)) (fun _ hk => hk.2) (.bool (x618000_1 != a0_0))) (fun _ hk => hk.2) (.slice Ao22 t618.length co22)) (fun _ hk => hk.2) (.slice Ao21 t621.length co21)) (fun _ hk => hk.1.2)⟩, ⟨by (with_reducible repeat (first | refine blk_drewN ?_ _ | refine blk_drew ?_ | refine blk_alloc ?_ _)); refine blk_far ?_ NB608_617.out _; (with_reducible repeat (first | refine blk_drewN ?_ _ | refine blk_drew ?_ | refine blk_alloc ?_ _)); refine blk_far ?_ NB608_617.out _; (with_reducible repeat (first | refine blk_drewN ?_ _ | refine blk_drew ?_ | refine blk_alloc ?_ _)); refine blk_far ?_ NB608_617.out _; (with_reducible repeat (first | refine blk_drewN ?_ _ | refine blk_drew ?_ | refine blk_alloc ?_ _)); exact BK608.out⟩, ⟨by (with_reducible repeat (first | refine blk_drewN ?_ _ | refine blk_drew ?_ | refine blk_alloc ?_ _)); refine blk_far ?_ NB609_617.out _; (with_reducible repeat (first | refine blk_drewN ?_ _ | refine blk_drew ?_ | refine blk_alloc ?_ _)); refine blk_far ?_ NB609_617.out _; (with_reducible repeat (first | refine blk_drewN ?_ _ | refine blk_drew ?_ | refine blk_alloc ?_ _)); refine blk_far ?_ NB609_617.out _; (with_reducible repeat (first | refine blk_drewN ?_ _ | refine blk_drew ?_ | refine blk_alloc ?_ _)); exact BK609.out⟩, ⟨by (with_reducible repeat (first | refine blk_drewN ?_ _ | refine blk_drew ?_ | refine blk_alloc ?_ _)); refine blk_put (cs := #[.bool (x618000_1 != a0_0), .slice Ao22 t618.length co22, .slice Ao19 x618002_1.length co19]) ?_ 2 _ rfl; (with_reducible repeat (first | refine blk_drewN ?_ _ | refine blk_drew ?_ | refine blk_alloc ?_ _)); refine blk_put (cs := #[.bool (x618000_1 != a0_0), .slice Ao17 x618001_1.length co17, .slice Ao19 x618002_1.length co19]) ?_ 1 _ rfl; (with_reducible repeat (first | refine blk_drewN ?_ _ | refine blk_drew ?_ | refine blk_alloc ?_ _)); refine blk_put (cs := #[.bool x618000_1, .slice Ao17 x618001_1.length co17, .slice Ao19 x618002_1.length co19]) ?_ 0 _ rfl; (with_reducible repeat (first | refine blk_drewN ?_ _ | refine blk_drew ?_ | refine blk_alloc ?_ _)); exact BK617.out⟩, ⟨blw HB⟩⟩
   ·
    rw [if_neg c13] at H
    have c13b0 : decide (x8_1 < a1) = false := decide_eq_false c13
    clear c13
    have HC26 := Aside0.mk H
    clear H
    go_upto_region 6 with (fail)
    go_cut [] (fun wc => ∃ (kq : Nat) (x618000_25 : Bool), Aside0 (impl_Rat_pow.j1 kq x618000_25 x618001_1 x618002_1 = some (r1, r2, r3)) ∧ Aside0 (kq ≤ k1) ∧ Aside0 (Kd.R (Kd.int .i64) 3 wc w.heap.size (fun k_ => nO k_ u618002) u618001 x618001_1) ∧ Aside0 (Kd.R (Kd.int .i64) 3 wc w.heap.size (fun k_ => nO k_ u618001) u618002 x618002_1) ∧ Aside0 (wc.heap[gb608]? = some (.cells #[.bool a0_0, (.slice A0_1 l0_1.length c0_1), (.slice A0_2 l0_2.length c0_2)] 24 (0, 0))) ∧ Aside0 (wc.heap[gb609]? = some (.cells #[.bool false, (.slice none 0 0), (.slice none 0 0)] 24 (0, 0))) ∧ Aside0 (wc.heap[gb617]? = some (.cells #[.bool x618000_25, u618001, u618002] 24 (0, 0))) ∧ Aside0 (Below w.heap.size w wc))
    case first =>
     have H := HC26.out
     clear HC26
     by_cases c27 : x618000_1 = true
     ·
      subst c27
      have H1 : ((impl_Rat_isZero.f true x618001_1 x618002_1).bind fun t624 => (impl_Rat_pow.j1 k1 (!t624) x618001_1 x618002_1)) = some (r1, r2, r3) := by rw [if_pos rfl] at H; exact H
      clear H
      have H := H1
      clear H1
      replace H := Option.bind_eq_some_iff.mp H
      obtain ⟨t624, A280, H⟩ := H
      replace H : (impl_Rat_pow.j1 k1 (!t624) x618001_1 x618002_1) = some (r1, r2, r3) := H
      have A28 := Aside0.mk A280
      clear A280
      have H' := Aside0.mk H
      clear H
      have hnb29 := NB617_608.out
      have hnc29 := NB608_617.out
      have hnb30 := NB617_609.out
      have hnc30 := NB609_617.out
      have hcz31_0 := bce BK617 0 (.bool true)
      have hcz31_1 := bce BK617 1 (u618001)
      have hcz31_2 := bce BK617 2 (u618002)
      have hfz31_0 := blk_frozen BK617.out 0
      have hfz31_1 := blk_frozen BK617.out 1
      have hfz31_2 := blk_frozen BK617.out 2
      obtain ⟨Ao32, co32, eo32⟩ := Kd.R_slice HO_618001.out
      subst eo32
      obtain ⟨Ao33, co33, eo33⟩ := Kd.R_slice HO_618002.out
      subst eo33
      go_wp2_with (first | (go_at_call 59; (with_reducible refine (impl_Rat_isZero.calls true _ _ x618001_1 _ _ x618002_1 t624 _ ?side1 ?side2 ?side3 ?side4 A28.out).mono ?_); (case side1 => exact crC (Kd.R_reads' HO_618001.out).2.2); (case side2 => exact (Kd.R_reads' HO_618001.out).2.1); (case side3 => exact crC (Kd.R_reads' HO_618002.out).2.2); (case side4 => exact (Kd.R_reads' HO_618002.out).2.1); rintro e w34 ⟨rfl, hb⟩; replace HO_618001 := rblR HO_618001 hb; replace HO_618002 := rblR HO_618002 hb; replace BK608 := bkb BK608 hb; replace BK609 := bkb BK609 hb; replace BK617 := bkb BK617 hb; replace HB := bst HB hb; (try clear hb); (try clear hb2); (try clear hk); (try clear hi); have hcz35_0 := bce BK617 0 (.bool true); have hcz35_1 := bce BK617 1 (.slice Ao32 x618001_1.length co32); have hcz35_2 := bce BK617 2 (.slice Ao33 x618002_1.length co33); have hfz35_0 := blk_frozen BK617.out 0; have hfz35_1 := blk_frozen BK617.out 1; have hfz35_2 := blk_frozen BK617.out 2))
      go_meet
      case rel => exact ⟨_, (!t624), H', ⟨by have := HK1.out; first | omega | exact Nat.le_refl _⟩, ⟨by (with_reducible repeat (first | apply Kd.R_alloc | apply Kd.R_drewN | apply Kd.R_drew)); exact Kd.R_mono (Kd.R_far (p := ⟨gb617, 0, none⟩) (Kd.R_types HO_618001.out BK617.out (by decide)) (fun _ hk => hk.2) (.bool (!t624))) (fun _ hk => hk.1)⟩, ⟨by (with_reducible repeat (first | apply Kd.R_alloc | apply Kd.R_drewN | apply Kd.R_drew)); exact Kd.R_mono (Kd.R_far (p := ⟨gb617, 0, none⟩) (Kd.R_types HO_618002.out BK617.out (by decide)) (fun _ hk => hk.2) (.bool (!t624))) (fun _ hk => hk.1)⟩, ⟨by (with_reducible repeat (first | refine blk_drewN ?_ _ | refine blk_drew ?_ | refine blk_alloc ?_ _)); refine blk_far ?_ NB608_617.out _; (with_reducible repeat (first | refine blk_drewN ?_ _ | refine blk_drew ?_ | refine blk_alloc ?_ _)); exact BK608.out⟩, ⟨by (with_reducible repeat (first | refine blk_drewN ?_ _ | refine blk_drew ?_ | refine blk_alloc ?_ _)); refine blk_far ?_ NB609_617.out _; (with_reducible repeat (first | refine blk_drewN ?_ _ | refine blk_drew ?_ | refine blk_alloc ?_ _)); exact BK609.out⟩, ⟨by (with_reducible repeat (first | refine blk_drewN ?_ _ | refine blk_drew ?_ | refine blk_alloc ?_ _)); refine blk_put (cs := #[.bool true, .slice Ao32 x618001_1.length co32, .slice Ao33 x618002_1.length co33]) ?_ 0 _ rfl; (with_reducible repeat (first | refine blk_drewN ?_ _ | refine blk_drew ?_ | refine blk_alloc ?_ _)); exact BK617.out⟩, ⟨blw HB⟩⟩
     ·
      replace c27 := Bool.eq_false_iff.mpr c27
      subst c27
      have H1 : (impl_Rat_pow.j1 k1 false x618001_1 x618002_1) = some (r1, r2, r3) := by rw [if_neg (show ¬ (false = true) by decide)] at H; exact H
      clear H
      have H := H1
      clear H1
      have H' := Aside0.mk H
      clear H
      have hnb36 := NB617_608.out
      have hnc36 := NB608_617.out
      have hnb37 := NB617_609.out
      have hnc37 := NB609_617.out
      have hcz38_0 := bce BK617 0 (.bool false)
      have hcz38_1 := bce BK617 1 (u618001)
      have hcz38_2 := bce BK617 2 (u618002)
      have hfz38_0 := blk_frozen BK617.out 0
      have hfz38_1 := blk_frozen BK617.out 1
      have hfz38_2 := blk_frozen BK617.out 2
      go_wp2
      go_meet
      case rel => exact ⟨_, (false), H', ⟨by have := HK1.out; first | omega | exact Nat.le_refl _⟩, ⟨by (with_reducible repeat (first | apply Kd.R_alloc | apply Kd.R_drewN | apply Kd.R_drew)); exact Kd.R_mono (Kd.R_far (p := ⟨gb617, 0, none⟩) (Kd.R_types HO_618001.out BK617.out (by decide)) (fun _ hk => hk.2) (.bool false)) (fun _ hk => hk.1)⟩, ⟨by (with_reducible repeat (first | apply Kd.R_alloc | apply Kd.R_drewN | apply Kd.R_drew)); exact Kd.R_mono (Kd.R_far (p := ⟨gb617, 0, none⟩) (Kd.R_types HO_618002.out BK617.out (by decide)) (fun _ hk => hk.2) (.bool false)) (fun _ hk => hk.1)⟩, ⟨by (with_reducible repeat (first | refine blk_drewN ?_ _ | refine blk_drew ?_ | refine blk_alloc ?_ _)); refine blk_far ?_ NB608_617.out _; (with_reducible repeat (first | refine blk_drewN ?_ _ | refine blk_drew ?_ | refine blk_alloc ?_ _)); exact BK608.out⟩, ⟨by (with_reducible repeat (first | refine blk_drewN ?_ _ | refine blk_drew ?_ | refine blk_alloc ?_ _)); refine blk_far ?_ NB609_617.out _; (with_reducible repeat (first | refine blk_drewN ?_ _ | refine blk_drew ?_ | refine blk_alloc ?_ _)); exact BK609.out⟩, ⟨by (with_reducible repeat (first | refine blk_drewN ?_ _ | refine blk_drew ?_ | refine blk_alloc ?_ _)); refine blk_put (cs := #[.bool false, u618001, u618002]) ?_ 0 _ rfl; (with_reducible repeat (first | refine blk_drewN ?_ _ | refine blk_drew ?_ | refine blk_alloc ?_ _)); exact BK617.out⟩, ⟨blw HB⟩⟩
    case rest =>
     clear HC26
     try clear c1
     try clear c2
     try clear p2
     try clear c3
     try clear c4
     try clear p6
     try clear c8
     try clear c9
     try clear c13
     try clear c13b0
     try clear c27
     try clear c29
     try clear c30
     try clear c36
     try clear c37
     try clear hcz10_0
     try clear hcz10_1
     try clear hcz10_2
     try clear hcz31_0
     try clear hcz31_1
     try clear hcz31_2
     try clear hcz35_0
     try clear hcz35_1
     try clear hcz35_2
     try clear hcz38_0
     try clear hcz38_1
     try clear hcz38_2
     try clear hfz10_0
     try clear hfz10_1
     try clear hfz10_2
     try clear hfz31_0
     try clear hfz31_1
     try clear hfz31_2
     try clear hfz35_0
     try clear hfz35_1
     try clear hfz35_2
     try clear hfz38_0
     try clear hfz38_1
     try clear hfz38_2
     try clear p2
     obtain ⟨kq, x618000_25, HA, HJ25, HO_618001, HO_618002, BK608, BK609, BK617, HB⟩ := hcut
     cases kq with
     | zero => exact absurd HA.out (by simp [impl_Rat_pow.j1])
     | succ kj25 =>
      have H := HA.out
      clear HA
      simp only [impl_Rat_pow.j1] at H
      replace H := Option.bind_eq_some_iff.mp H
      obtain ⟨t625, A390, H⟩ := H
      replace H : (if t625 = true then ((impl_one.f).bind fun t626 => (some (x618000_25, x618001_1, t626))) else (some (x618000_25, x618001_1, x618002_1))) = some (r1, r2, r3) := H
      have A39 := Aside0.mk A390
      clear A390
      by_cases c40 : t625 = true
      ·
       subst c40
       have H1 : ((impl_one.f).bind fun t626 => (some (x618000_25, x618001_1, t626))) = some (r1, r2, r3) := by rw [if_pos rfl] at H; exact H
       clear H
       have H := H1
       clear H1
       replace H := Option.bind_eq_some_iff.mp H
       obtain ⟨t626, A410, H⟩ := H
       replace H : (some (x618000_25, x618001_1, t626)) = some (r1, r2, r3) := H
       have A41 := Aside0.mk A410
       clear A410
       simp only [Option.some.injEq, Prod.mk.injEq] at H
       obtain ⟨rfl, rfl, rfl⟩ := H
       have hnb42 := NB617_608.out
       have hnc42 := NB608_617.out
       have hnb43 := NB617_609.out
       have hnc43 := NB609_617.out
       have hcz44_0 := bce BK617 0 (.bool x618000_25)
       have hcz44_1 := bce BK617 1 (u618001)
       have hcz44_2 := bce BK617 2 (u618002)
       have hfz44_0 := blk_frozen BK617.out 0
       have hfz44_1 := blk_frozen BK617.out 1
       have hfz44_2 := blk_frozen BK617.out 2
       obtain ⟨Ao45, co45, eo45⟩ := Kd.R_slice HO_618001.out
       subst eo45
       obtain ⟨Ao46, co46, eo46⟩ := Kd.R_slice HO_618002.out
       subst eo46
       go_wp2_with (first | ((with_reducible refine gate_callee (f := 59) rfl ?_); refine goesL_ (some 36) rfl rfl Try.func59 (by kernel_rfl) rfl #[.agg #[.bool x618000_25, .slice Ao45 x618001_1.length co45, .slice Ao46 x618002_1.length co46]] rfl (by (try simp only [List.map_toArray, List.map_cons, List.map_nil]); first | done | rfl | (simp only [List.length_drop, List.length_take]; rfl)) ?_; (with_reducible refine (impl_Rat_isZero.calls x618000_25 _ _ x618001_1 _ _ x618002_1 true _ ?side1 ?side2 ?side3 ?side4 A39.out).mono ?_); (case side1 => exact crC (Kd.R_reads' HO_618001.out).2.2); (case side2 => exact (Kd.R_reads' HO_618001.out).2.1); (case side3 => exact crC (Kd.R_reads' HO_618002.out).2.2); (case side4 => exact (Kd.R_reads' HO_618002.out).2.1); rintro e w47 ⟨rfl, hb⟩; refine ⟨_, rfl, ?_⟩; replace HO_618001 := rblR HO_618001 hb; replace HO_618002 := rblR HO_618002 hb; replace BK608 := bkb BK608 hb; replace BK609 := bkb BK609 hb; replace BK617 := bkb BK617 hb; replace HB := bst HB hb; (try clear hb); (try clear hb2); (try clear hk); (try clear hi)) | ((with_reducible refine gate_callee (f := 62) rfl ?_); refine goesL_ (some 37) rfl rfl Try.func62 (by kernel_rfl) rfl #[] rfl (by (try simp only [List.map_toArray, List.map_cons, List.map_nil]); first | done | rfl | (simp only [List.length_drop, List.length_take]; rfl)) ?_; (with_reducible refine (impl_one.calls  t626 _ A41.out).mono ?_); rintro e w48 ⟨v627, rfl, ho0, hb⟩; refine ⟨_, rfl, ?_⟩; have HO628 := lwR (nwR (nwR ho0 HO_618001) HO_618002) HB; replace HO_618001 := eldR HO_618001 (Kd.R_base ho0) hb; replace HO_618002 := eldR HO_618002 (Kd.R_base ho0) hb; replace BK608 := bkb BK608 hb; replace BK609 := bkb BK609 hb; replace BK617 := bkb BK617 hb; replace HB := bst HB hb; (try clear hb); (try clear hb2); (try clear hk); (try clear hi); (try clear ho0); obtain ⟨Ao49, co49, eo49⟩ := Kd.R_slice HO628.out; subst eo49; have hcz50_0 := bce BK617 0 (.bool x618000_25); have hcz50_1 := bce BK617 1 (.slice Ao45 x618001_1.length co45); have hcz50_2 := bce BK617 2 (.slice Ao46 x618002_1.length co46); have hfz50_0 := blk_frozen BK617.out 0; have hfz50_1 := blk_frozen BK617.out 1; have hfz50_2 := blk_frozen BK617.out 2; have hnb51 := NB609_608.out; have hnc51 := NB608_609.out; have hcz52_0 := bce BK609 0 (.bool false); have hcz52_1 := bce BK609 1 (.slice none 0 0); have hcz52_2 := bce BK609 2 (.slice none 0 0); have hfz52_0 := blk_frozen BK609.out 0; have hfz52_1 := blk_frozen BK609.out 1; have hfz52_2 := blk_frozen BK609.out 2))
       refine bodyPost_ret (results_cell_row rfl _ _ gb609 24 #[.bool x618000_25, .slice Ao45 x618001_1.length co45, .slice Ao49 t626.length co49] (0, 0) _ rfl (by (with_reducible repeat (first | refine blk_drewN ?_ _ | refine blk_drew ?_ | refine blk_alloc ?_ _)); refine blk_put (cs := #[.bool x618000_25, .slice Ao45 x618001_1.length co45, .slice none 0 0]) ?_ 2 _ rfl; (with_reducible repeat (first | refine blk_drewN ?_ _ | refine blk_drew ?_ | refine blk_alloc ?_ _)); refine blk_put (cs := #[.bool x618000_25, .slice none 0 0, .slice none 0 0]) ?_ 1 _ rfl; (with_reducible repeat (first | refine blk_drewN ?_ _ | refine blk_drew ?_ | refine blk_alloc ?_ _)); refine blk_put (cs := #[.bool false, .slice none 0 0, .slice none 0 0]) ?_ 0 _ rfl; (with_reducible repeat (first | refine blk_drewN ?_ _ | refine blk_drew ?_ | refine blk_alloc ?_ _)); refine blk_far ?_ NB609_617.out _; (with_reducible repeat (first | refine blk_drewN ?_ _ | refine blk_drew ?_ | refine blk_alloc ?_ _)); exact BK609.out) Try.underlying24 rfl (by kernel_rfl)) rfl ?_
       exact ⟨_, _, by first | rfl | (simp [errW_none, errW_some] <;> rfl) | (simp [*, errW_none, errW_some] <;> rfl), by (with_reducible repeat (first | apply Kd.R_alloc | apply Kd.R_drewN | apply Kd.R_drew)); exact Kd.R_mono (Kd.R_far (p := ⟨gb609, 2, none⟩) (Kd.R_far (p := ⟨gb609, 1, none⟩) (Kd.R_far (p := ⟨gb609, 0, none⟩) (Kd.R_far (p := ⟨gb617, 2, none⟩) (Kd.R_types (Kd.R_types HO_618001.out BK617.out (by decide)) BK609.out (by decide)) (fun _ hk => hk.1.2) (.slice Ao49 t626.length co49)) (fun _ hk => hk.2) (.bool x618000_25)) (fun _ hk => hk.2) (.slice Ao45 x618001_1.length co45)) (fun _ hk => hk.2) (.slice Ao49 t626.length co49)) (fun _ hk => hk.1.1.2), by (with_reducible repeat (first | apply Kd.R_alloc | apply Kd.R_drewN | apply Kd.R_drew)); exact Kd.R_mono (Kd.R_far (p := ⟨gb609, 2, none⟩) (Kd.R_far (p := ⟨gb609, 1, none⟩) (Kd.R_far (p := ⟨gb609, 0, none⟩) (Kd.R_far (p := ⟨gb617, 2, none⟩) (Kd.R_types (Kd.R_types HO628.out BK617.out (by decide)) BK609.out (by decide)) (fun _ hk => hk.1.2) (.slice Ao49 t626.length co49)) (fun _ hk => hk.2) (.bool x618000_25)) (fun _ hk => hk.2) (.slice Ao45 x618001_1.length co45)) (fun _ hk => hk.2) (.slice Ao49 t626.length co49)) (fun _ hk => hk.1.1.1.2), blw HB⟩
      ·
       replace c40 := Bool.eq_false_iff.mpr c40
       subst c40
       have H1 : (some (x618000_25, x618001_1, x618002_1)) = some (r1, r2, r3) := by rw [if_neg (show ¬ (false = true) by decide)] at H; exact H
       clear H
       have H := H1
       clear H1
       simp only [Option.some.injEq, Prod.mk.injEq] at H
       obtain ⟨rfl, rfl, rfl⟩ := H
       have hnb53 := NB617_608.out
       have hnc53 := NB608_617.out
       have hnb54 := NB617_609.out
       have hnc54 := NB609_617.out
       have hcz55_0 := bce BK617 0 (.bool x618000_25)
       have hcz55_1 := bce BK617 1 (u618001)
       have hcz55_2 := bce BK617 2 (u618002)
       have hfz55_0 := blk_frozen BK617.out 0
       have hfz55_1 := blk_frozen BK617.out 1
       have hfz55_2 := blk_frozen BK617.out 2
       obtain ⟨Ao56, co56, eo56⟩ := Kd.R_slice HO_618001.out
       subst eo56
       obtain ⟨Ao57, co57, eo57⟩ := Kd.R_slice HO_618002.out
       subst eo57
       go_wp2_with (first | ((with_reducible refine gate_callee (f := 59) rfl ?_); refine goesL_ (some 36) rfl rfl Try.func59 (by kernel_rfl) rfl #[.agg #[.bool x618000_25, .slice Ao56 x618001_1.length co56, .slice Ao57 x618002_1.length co57]] rfl (by (try simp only [List.map_toArray, List.map_cons, List.map_nil]); first | done | rfl | (simp only [List.length_drop, List.length_take]; rfl)) ?_; (with_reducible refine (impl_Rat_isZero.calls x618000_25 _ _ x618001_1 _ _ x618002_1 false _ ?side1 ?side2 ?side3 ?side4 A39.out).mono ?_); (case side1 => exact crC (Kd.R_reads' HO_618001.out).2.2); (case side2 => exact (Kd.R_reads' HO_618001.out).2.1); (case side3 => exact crC (Kd.R_reads' HO_618002.out).2.2); (case side4 => exact (Kd.R_reads' HO_618002.out).2.1); rintro e w58 ⟨rfl, hb⟩; refine ⟨_, rfl, ?_⟩; replace HO_618001 := rblR HO_618001 hb; replace HO_618002 := rblR HO_618002 hb; replace BK608 := bkb BK608 hb; replace BK609 := bkb BK609 hb; replace BK617 := bkb BK617 hb; replace HB := bst HB hb; (try clear hb); (try clear hb2); (try clear hk); (try clear hi); have hcz59_0 := bce BK617 0 (.bool x618000_25); have hcz59_1 := bce BK617 1 (.slice Ao56 x618001_1.length co56); have hcz59_2 := bce BK617 2 (.slice Ao57 x618002_1.length co57); have hfz59_0 := blk_frozen BK617.out 0; have hfz59_1 := blk_frozen BK617.out 1; have hfz59_2 := blk_frozen BK617.out 2; have hnb60 := NB609_608.out; have hnc60 := NB608_609.out; have hcz61_0 := bce BK609 0 (.bool false); have hcz61_1 := bce BK609 1 (.slice none 0 0); have hcz61_2 := bce BK609 2 (.slice none 0 0); have hfz61_0 := blk_frozen BK609.out 0; have hfz61_1 := blk_frozen BK609.out 1; have hfz61_2 := blk_frozen BK609.out 2))
       refine bodyPost_ret (results_cell_row rfl _ _ gb609 24 #[.bool x618000_25, .slice Ao56 x618001_1.length co56, .slice Ao57 x618002_1.length co57] (0, 0) _ rfl (by (with_reducible repeat (first | refine blk_drewN ?_ _ | refine blk_drew ?_ | refine blk_alloc ?_ _)); refine blk_put (cs := #[.bool x618000_25, .slice Ao56 x618001_1.length co56, .slice none 0 0]) ?_ 2 _ rfl; (with_reducible repeat (first | refine blk_drewN ?_ _ | refine blk_drew ?_ | refine blk_alloc ?_ _)); refine blk_put (cs := #[.bool x618000_25, .slice none 0 0, .slice none 0 0]) ?_ 1 _ rfl; (with_reducible repeat (first | refine blk_drewN ?_ _ | refine blk_drew ?_ | refine blk_alloc ?_ _)); refine blk_put (cs := #[.bool false, .slice none 0 0, .slice none 0 0]) ?_ 0 _ rfl; (with_reducible repeat (first | refine blk_drewN ?_ _ | refine blk_drew ?_ | refine blk_alloc ?_ _)); exact BK609.out) Try.underlying24 rfl (by kernel_rfl)) rfl ?_
       exact ⟨_, _, by first | rfl | (simp [errW_none, errW_some] <;> rfl) | (simp [*, errW_none, errW_some] <;> rfl), by (with_reducible repeat (first | apply Kd.R_alloc | apply Kd.R_drewN | apply Kd.R_drew)); exact Kd.R_mono (Kd.R_far (p := ⟨gb609, 2, none⟩) (Kd.R_far (p := ⟨gb609, 1, none⟩) (Kd.R_far (p := ⟨gb609, 0, none⟩) (Kd.R_types HO_618001.out BK609.out (by decide)) (fun _ hk => hk.2) (.bool x618000_25)) (fun _ hk => hk.2) (.slice Ao56 x618001_1.length co56)) (fun _ hk => hk.2) (.slice Ao57 x618002_1.length co57)) (fun _ hk => hk.1), by (with_reducible repeat (first | apply Kd.R_alloc | apply Kd.R_drewN | apply Kd.R_drew)); exact Kd.R_mono (Kd.R_far (p := ⟨gb609, 2, none⟩) (Kd.R_far (p := ⟨gb609, 1, none⟩) (Kd.R_far (p := ⟨gb609, 0, none⟩) (Kd.R_types HO_618002.out BK609.out (by decide)) (fun _ hk => hk.2) (.bool x618000_25)) (fun _ hk => hk.2) (.slice Ao56 x618001_1.length co56)) (fun _ hk => hk.2) (.slice Ao57 x618002_1.length co57)) (fun _ hk => hk.1), blw HB⟩

end Go.Proofs.Ytacdaijalkkogaa.Q
