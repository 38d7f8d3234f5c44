-- written by a program of this claim's session (myprint.py) out of the translation; Lean checks it.
import Derived.Test.YtacdaijalkkogaaQx0
import Derived.Test.YtacdaijalkkogaaQxrlaw
import Derived.Test.YtacdaijalkkogaaQxNegRat
namespace Go.Proofs.Ytacdaijalkkogaa.Q
open Go.RowKit Go.Proofs.YtacdaijalkkogaaW.PrintWords Go.Proofs.YtacdaijalkkogaaW.PrintLast Go.Proofs.YtacdaijalkkogaaW.PrintMore
attribute [local go_sem] max2_int min2_int max_two min_two max_three min_three max_four min_four   -- for this text's walks alone
set_option linter.unusedVariables false
set_option linter.unusedSimpArgs false

mutual
def laws_FnExactNegRat.j0 : Nat → Int → Int → Bool → Bool → List Int → List Int → Bool → List Int → List Int → Bool → List Int → List Int → Bool → List Int → List Int → Option (Bool)
  | 0, _, _, _, _, _, _, _, _, _, _, _, _, _, _, _ => none
  | k + 1, x5, x8, x40, x662000, x662001, x662002, x679000, x679001, x679002, x687000, x687001, x687002, x696000, x696001, x696002 => if x40 = true then (some false) else ((laws_toRat.f k x662000 x662001 x662002).bind fun bt697 => ((laws_eqRat.f k x687000 x687001 x687002 bt697.1 bt697.2.1 bt697.2.2).bind fun t704 => (if t704 = true then ((laws_markRat.f k x687000 x687001 x687002 1).bind fun bt705 => (if bt705.1 < 0 then (laws_FnExactNegRat.j1 k x5 true x662000 x662001 x662002 x679000 x679001 x679002 x696000 x696001 x696002) else ((laws_eqRat.f k x696000 x696001 x696002 x679000 x679001 x679002).bind fun t708 => (if t708 = true then (laws_FnExactNegRat.j1 k x5 (x8 != x5) x662000 x662001 x662002 x679000 x679001 x679002 x696000 x696001 x696002) else (laws_FnExactNegRat.j1 k x5 true x662000 x662001 x662002 x679000 x679001 x679002 x696000 x696001 x696002))))) else (some false))))
def laws_FnExactNegRat.j1 : Nat → Int → Bool → Bool → List Int → List Int → Bool → List Int → List Int → Bool → List Int → List Int → Option (Bool)
  | 0, _, _, _, _, _, _, _, _, _, _, _ => none
  | k + 1, x5, x61, x662000, x662001, x662002, x679000, x679001, x679002, x696000, x696001, x696002 => if x61 = true then (some false) else ((laws_markRat.f k x696000 x696001 x696002 1).bind fun bt709 => ((laws_heldRat.f k x696000 bt709.2.1 bt709.2.2 1).bind fun t712 => (if t712 < 0 then (some false) else (if t712 = bt709.1 then ((laws_toRat.f k x662000 x662001 x662002).bind fun bt713 => ((impl_NegRat.f k bt713.1 bt713.2.1 bt713.2.2).bind fun bt720 => ((laws_eqRat.f k bt720.1 bt720.2.1 bt720.2.2.1 x679000 x679001 x679002).bind fun t729 => (if t729 = true then (laws_FnExactNegRat.j2 k bt709.1 (bt720.2.2.2 != x5) x696000 bt709.2.1 bt709.2.2) else (laws_FnExactNegRat.j2 k bt709.1 true x696000 bt709.2.1 bt709.2.2))))) else (some false)))))
def laws_FnExactNegRat.j2 : Nat → Int → Bool → Bool → List Int → List Int → Option (Bool)
  | 0, _, _, _, _, _ => none
  | k + 1, x10, x87, x696000, x696001, x696002 => if x87 = true then (some false) else ((laws_heldRat.f k x696000 x696001 x696002 1).bind fun t730 => (if t730 < 0 then (some false) else (if t730 = x10 then (some true) else (some false))))
end
def laws_FnExactNegRat.f (k : Nat) (a0_0 : Bool) (l0_1 : List Int) (l0_2 : List Int) : Option (Bool) := (laws_szRat.f a0_0 l0_1 l0_2 1048576).bind fun t662 => (if t662 < 0 then (some true) else ((laws_toRat.f k a0_0 l0_1 l0_2).bind fun bt663 => ((spec_NegRat.f k bt663.1 bt663.2.1 bt663.2.2).bind fun bt670 => ((laws_toRat.f k a0_0 l0_1 l0_2).bind fun bt679 => ((impl_NegRat.f k bt679.1 bt679.2.1 bt679.2.2).bind fun bt687 => ((laws_eqRat.f k bt687.1 bt687.2.1 bt687.2.2.1 bt670.1 bt670.2.1 bt670.2.2.1).bind fun t696 => (if t696 = true then (laws_FnExactNegRat.j0 k bt670.2.2.2 bt687.2.2.2 (bt687.2.2.2 != bt670.2.2.2) a0_0 l0_1 l0_2 bt670.1 bt670.2.1 bt670.2.2.1 bt679.1 bt679.2.1 bt679.2.2 bt687.1 bt687.2.1 bt687.2.2.1) else (laws_FnExactNegRat.j0 k bt670.2.2.2 bt687.2.2.2 true a0_0 l0_1 l0_2 bt670.1 bt670.2.1 bt670.2.2.1 bt679.1 bt679.2.1 bt679.2.2 bt687.1 bt687.2.1 bt687.2.2.1))))))))
theorem laws_FnExactNegRat.mono_l : ∀ k, (∀ y0 y1 y2 y3 y4 y5 y6 y7 y8 y9 y10 y11 y12 y13 y14, LeO (laws_FnExactNegRat.j0 k y0 y1 y2 y3 y4 y5 y6 y7 y8 y9 y10 y11 y12 y13 y14) (laws_FnExactNegRat.j0 (k + 1) y0 y1 y2 y3 y4 y5 y6 y7 y8 y9 y10 y11 y12 y13 y14)) ∧ (∀ y0 y1 y2 y3 y4 y5 y6 y7 y8 y9 y10, LeO (laws_FnExactNegRat.j1 k y0 y1 y2 y3 y4 y5 y6 y7 y8 y9 y10) (laws_FnExactNegRat.j1 (k + 1) y0 y1 y2 y3 y4 y5 y6 y7 y8 y9 y10)) ∧ (∀ y0 y1 y2 y3 y4, LeO (laws_FnExactNegRat.j2 k y0 y1 y2 y3 y4) (laws_FnExactNegRat.j2 (k + 1) y0 y1 y2 y3 y4))
  | 0 => ⟨fun _ _ _ _ _ _ _ _ _ _ _ _ _ _ _ r h => by simp [laws_FnExactNegRat.j0] at h, fun _ _ _ _ _ _ _ _ _ _ _ r h => by simp [laws_FnExactNegRat.j1] at h, fun _ _ _ _ _ r h => by simp [laws_FnExactNegRat.j2] at h⟩
  | k + 1 => by
    obtain ⟨ih0, ih1, ih2⟩ := laws_FnExactNegRat.mono_l k
    refine ⟨?_, ?_, ?_⟩
    · intro y0 y1 y2 y3 y4 y5 y6 y7 y8 y9 y10 y11 y12 y13 y14
      unfold laws_FnExactNegRat.j0
      repeat' first
      | (with_reducible exact ih0 _ _ _ _ _ _ _ _ _ _ _ _ _ _ _)
      | (with_reducible exact ih1 _ _ _ _ _ _ _ _ _ _ _)
      | (with_reducible exact ih2 _ _ _ _ _)
      | (with_reducible exact impl_NegRat.mono _ _ _ _)
      | (with_reducible exact laws_eqRat.mono _ _ _ _ _ _ _)
      | (with_reducible exact laws_heldRat.mono _ _ _ _ _)
      | (with_reducible exact laws_markRat.mono _ _ _ _ _)
      | (with_reducible exact laws_toRat.mono _ _ _ _)
      | (with_reducible exact spec_NegRat.mono _ _ _ _)
      | (with_reducible exact LeO.refl _)
      | (with_reducible exact LeO.none _)
      | (with_reducible refine LeO.ite ?_ ?_)
      | (with_reducible refine LeO.bind ?_ (fun _ => ?_))
      | exact ih0 _ _ _ _ _ _ _ _ _ _ _ _ _ _ _
      | exact ih1 _ _ _ _ _ _ _ _ _ _ _
      | exact ih2 _ _ _ _ _
      | exact impl_NegRat.mono _ _ _ _
      | exact laws_eqRat.mono _ _ _ _ _ _ _
      | exact laws_heldRat.mono _ _ _ _ _
      | exact laws_markRat.mono _ _ _ _ _
      | exact laws_toRat.mono _ _ _ _
      | exact spec_NegRat.mono _ _ _ _
      | exact LeO.none _
      | refine LeO.ite ?_ ?_
      | refine LeO.bind ?_ (fun _ => ?_)
    · intro y0 y1 y2 y3 y4 y5 y6 y7 y8 y9 y10
      unfold laws_FnExactNegRat.j1
      repeat' first
      | (with_reducible exact ih0 _ _ _ _ _ _ _ _ _ _ _ _ _ _ _)
      | (with_reducible exact ih1 _ _ _ _ _ _ _ _ _ _ _)
      | (with_reducible exact ih2 _ _ _ _ _)
      | (with_reducible exact impl_NegRat.mono _ _ _ _)
      | (with_reducible exact laws_eqRat.mono _ _ _ _ _ _ _)
      | (with_reducible exact laws_heldRat.mono _ _ _ _ _)
      | (with_reducible exact laws_markRat.mono _ _ _ _ _)
      | (with_reducible exact laws_toRat.mono _ _ _ _)
      | (with_reducible exact spec_NegRat.mono _ _ _ _)
      | (with_reducible exact LeO.refl _)
      | (with_reducible exact LeO.none _)
      | (with_reducible refine LeO.ite ?_ ?_)
      | (with_reducible refine LeO.bind ?_ (fun _ => ?_))
      | exact ih0 _ _ _ _ _ _ _ _ _ _ _ _ _ _ _
      | exact ih1 _ _ _ _ _ _ _ _ _ _ _
      | exact ih2 _ _ _ _ _
      | exact impl_NegRat.mono _ _ _ _
      | exact laws_eqRat.mono _ _ _ _ _ _ _
      | exact laws_heldRat.mono _ _ _ _ _
      | exact laws_markRat.mono _ _ _ _ _
      | exact laws_toRat.mono _ _ _ _
      | exact spec_NegRat.mono _ _ _ _
      | exact LeO.none _
      | refine LeO.ite ?_ ?_
      | refine LeO.bind ?_ (fun _ => ?_)
    · intro y0 y1 y2 y3 y4
      unfold laws_FnExactNegRat.j2
      repeat' first
      | (with_reducible exact ih0 _ _ _ _ _ _ _ _ _ _ _ _ _ _ _)
      | (with_reducible exact ih1 _ _ _ _ _ _ _ _ _ _ _)
      | (with_reducible exact ih2 _ _ _ _ _)
      | (with_reducible exact impl_NegRat.mono _ _ _ _)
      | (with_reducible exact laws_eqRat.mono _ _ _ _ _ _ _)
      | (with_reducible exact laws_heldRat.mono _ _ _ _ _)
      | (with_reducible exact laws_markRat.mono _ _ _ _ _)
      | (with_reducible exact laws_toRat.mono _ _ _ _)
      | (with_reducible exact spec_NegRat.mono _ _ _ _)
      | (with_reducible exact LeO.refl _)
      | (with_reducible exact LeO.none _)
      | (with_reducible refine LeO.ite ?_ ?_)
      | (with_reducible refine LeO.bind ?_ (fun _ => ?_))
      | exact ih0 _ _ _ _ _ _ _ _ _ _ _ _ _ _ _
      | exact ih1 _ _ _ _ _ _ _ _ _ _ _
      | exact ih2 _ _ _ _ _
      | exact impl_NegRat.mono _ _ _ _
      | exact laws_eqRat.mono _ _ _ _ _ _ _
      | exact laws_heldRat.mono _ _ _ _ _
      | exact laws_markRat.mono _ _ _ _ _
      | exact laws_toRat.mono _ _ _ _
      | exact spec_NegRat.mono _ _ _ _
      | exact LeO.none _
      | refine LeO.ite ?_ ?_
      | refine LeO.bind ?_ (fun _ => ?_)
theorem laws_FnExactNegRat.mono : ∀ a0 a1 a2 k, LeO (laws_FnExactNegRat.f k a0 a1 a2) (laws_FnExactNegRat.f (k + 1) a0 a1 a2) := by
  intro a0 a1 a2 k
  obtain ⟨ih0, ih1, ih2⟩ := laws_FnExactNegRat.mono_l k
  unfold laws_FnExactNegRat.f
  repeat' first
      | (with_reducible exact ih0 _ _ _ _ _ _ _ _ _ _ _ _ _ _ _)
      | (with_reducible exact ih1 _ _ _ _ _ _ _ _ _ _ _)
      | (with_reducible exact ih2 _ _ _ _ _)
      | (with_reducible exact impl_NegRat.mono _ _ _ _)
      | (with_reducible exact laws_eqRat.mono _ _ _ _ _ _ _)
      | (with_reducible exact laws_heldRat.mono _ _ _ _ _)
      | (with_reducible exact laws_markRat.mono _ _ _ _ _)
      | (with_reducible exact laws_toRat.mono _ _ _ _)
      | (with_reducible exact spec_NegRat.mono _ _ _ _)
      | (with_reducible exact LeO.refl _)
      | (with_reducible exact LeO.none _)
      | (with_reducible refine LeO.ite ?_ ?_)
      | (with_reducible refine LeO.bind ?_ (fun _ => ?_))
      | exact ih0 _ _ _ _ _ _ _ _ _ _ _ _ _ _ _
      | exact ih1 _ _ _ _ _ _ _ _ _ _ _
      | exact ih2 _ _ _ _ _
      | exact impl_NegRat.mono _ _ _ _
      | exact laws_eqRat.mono _ _ _ _ _ _ _
      | exact laws_heldRat.mono _ _ _ _ _
      | exact laws_markRat.mono _ _ _ _ _
      | exact laws_toRat.mono _ _ _ _
      | exact spec_NegRat.mono _ _ _ _
      | exact LeO.none _
      | refine LeO.ite ?_ ?_
      | refine LeO.bind ?_ (fun _ => ?_)
set_option maxHeartbeats 8000000 in
set_option maxRecDepth 100000 in
theorem laws_FnExactNegRat.calls (k : Nat) (a0_0 : Bool) (A0_1 : Option Addr) (c0_1 : Nat) (l0_1 : List Int) (A0_2 : Option Addr) (c0_2 : Nat) (l0_2 : List Int) (r : Bool) (w : World) (hr0_1 : Kd.C (Kd.int .i64) w A0_1 l0_1.length l0_1) (hc0_1 : l0_1.length ≤ c0_1) (hr0_2 : Kd.C (Kd.int .i64) w A0_2 l0_2.length l0_2) (hc0_2 : l0_2.length ≤ c0_2) (h : laws_FnExactNegRat.f k a0_0 l0_1 l0_2 = some r) (hr_ : r = true) :
    Calls Try.prog 5 #[.agg #[.bool a0_0, .slice A0_1 l0_1.length c0_1, .slice A0_2 l0_2.length c0_2]] w fun e w' => e = .returned (.bool r) ∧ Below w.heap.size w w' := by
  have hu30 := Try.underlying30
  have hu24 := Try.underlying24
  have HR0_1 := Aside0.mk hr0_1
  have HC0_1 := Aside0.mk hc0_1
  clear hr0_1 hc0_1
  have HR0_2 := Aside0.mk hr0_2
  have HC0_2 := Aside0.mk hc0_2
  clear hr0_2 hc0_2
  have HB := Aside0.mk (Below.refl w.heap.size w)
  have H : ((laws_szRat.f a0_0 l0_1 l0_2 1048576).bind fun t662 => (if t662 < 0 then (some true) else ((laws_toRat.f k a0_0 l0_1 l0_2).bind fun bt663 => ((spec_NegRat.f k bt663.1 bt663.2.1 bt663.2.2).bind fun bt670 => ((laws_toRat.f k a0_0 l0_1 l0_2).bind fun bt679 => ((impl_NegRat.f k bt679.1 bt679.2.1 bt679.2.2).bind fun bt687 => ((laws_eqRat.f k bt687.1 bt687.2.1 bt687.2.2.1 bt670.1 bt670.2.1 bt670.2.2.1).bind fun t696 => (if t696 = true then (laws_FnExactNegRat.j0 k bt670.2.2.2 bt687.2.2.2 (bt687.2.2.2 != bt670.2.2.2) a0_0 l0_1 l0_2 bt670.1 bt670.2.1 bt670.2.2.1 bt679.1 bt679.2.1 bt679.2.2 bt687.1 bt687.2.1 bt687.2.2.1) else (laws_FnExactNegRat.j0 k bt670.2.2.2 bt687.2.2.2 true a0_0 l0_1 l0_2 bt670.1 bt670.2.1 bt670.2.2.1 bt679.1 bt679.2.1 bt679.2.2 bt687.1 bt687.2.1 bt687.2.2.1))))))))) = some r := h
  clear h
  replace H := Option.bind_eq_some_iff.mp H
  obtain ⟨t662, A20, H⟩ := H
  replace H : (if t662 < 0 then (some true) else ((laws_toRat.f k a0_0 l0_1 l0_2).bind fun bt663 => ((spec_NegRat.f k bt663.1 bt663.2.1 bt663.2.2).bind fun bt670 => ((laws_toRat.f k a0_0 l0_1 l0_2).bind fun bt679 => ((impl_NegRat.f k bt679.1 bt679.2.1 bt679.2.2).bind fun bt687 => ((laws_eqRat.f k bt687.1 bt687.2.1 bt687.2.2.1 bt670.1 bt670.2.1 bt670.2.2.1).bind fun t696 => (if t696 = true then (laws_FnExactNegRat.j0 k bt670.2.2.2 bt687.2.2.2 (bt687.2.2.2 != bt670.2.2.2) a0_0 l0_1 l0_2 bt670.1 bt670.2.1 bt670.2.2.1 bt679.1 bt679.2.1 bt679.2.2 bt687.1 bt687.2.1 bt687.2.2.1) else (laws_FnExactNegRat.j0 k bt670.2.2.2 bt687.2.2.2 true a0_0 l0_1 l0_2 bt670.1 bt670.2.1 bt670.2.2.1 bt679.1 bt679.2.1 bt679.2.2 bt687.1 bt687.2.1 bt687.2.2.1)))))))) = some r := H
  have A2 := Aside0.mk A20
  clear A20
  by_cases c3 : t662 < 0
  · rw [if_pos c3] at H
    have c3b0 : decide (t662 < 0) = true := decide_eq_true c3
    clear c3
    obtain rfl := Option.some.inj H
    go_enter Try.func5, Try.ntmps5
    go_wp2_with (first | ((with_reducible refine gate_dst (N := 1) rfl ?_); refine box_event ?hg (N := 1) ?hd (cs := #[.bool a0_0, .slice A0_1 l0_1.length c0_1, .slice A0_2 l0_2.length c0_2]) (t := 30) ?hr ?_; (case hd => rfl); (case hg => rfl); (case hr => first | (go_simp; done) | (go_simp; rfl)); intro gb661 hg w4 hbox hb; have n0_ := Aside0.mk (below_step (by repeat (first | (with_reducible first | exact HB.out | apply below_alloc | apply pw_below_drewN | apply below_drew1) | exact HB.out)) hb); have n1_ := Aside0.mk (hbox); have n2_ := Aside0.mk ((by rw [hg]; exact (below_size (by repeat (first | (with_reducible first | exact HB.out | apply below_alloc | apply pw_below_drewN | apply below_drew1) | exact HB.out))) : w.heap.size ≤ gb661)); have n3_ := Aside0.mk ((by rw [hg]; exact (below_size (by repeat (first | (with_reducible first | exact HB.out | apply below_alloc | apply pw_below_drewN | apply below_drew1) | exact HB.out))) : w.heap.size ≤ gb661)); clear HB; have HB := n0_; have BK661 := n1_; have GW661 := n2_; have GE661 := n3_; clear n0_ n1_ n2_ n3_; clear hb hbox hg; have hcz5_0 : w4.cell? ⟨gb661, 0, none⟩ = some (.bool a0_0) := (blk_cell BK661.out 0).trans rfl; have hcz5_1 : w4.cell? ⟨gb661, 1, none⟩ = some (.slice A0_1 l0_1.length c0_1) := (blk_cell BK661.out 1).trans rfl; have hcz5_2 : w4.cell? ⟨gb661, 2, none⟩ = some (.slice A0_2 l0_2.length c0_2) := (blk_cell BK661.out 2).trans rfl; have hfz5_0 := blk_frozen BK661.out 0; have hfz5_1 := blk_frozen BK661.out 1; have hfz5_2 := blk_frozen BK661.out 2) | ((with_reducible refine gate_callee (f := 20) rfl ?_); refine goesL_ (some 16) rfl rfl Try.func20 (by kernel_rfl) rfl #[.agg #[.bool a0_0, .slice A0_1 l0_1.length c0_1, .slice A0_2 l0_2.length c0_2], .int .i64 1048576] rfl (by (try simp only [List.map_toArray, List.map_cons, List.map_nil]); first | done | rfl | (simp only [List.length_drop, List.length_take]; rfl)) ?_; (with_reducible refine (laws_szRat.calls a0_0 _ _ l0_1 _ _ l0_2 1048576 t662 _ ?side1 ?side2 ?side3 ?side4 A2.out).mono ?_); (case side1 => repeat (first | exact (Kd.C_below HR0_1.out HB.out) | (with_reducible refine Kd.C_alloc ?_ _) | (with_reducible refine Kd.C_drewN ?_ _) | (with_reducible refine Kd.C_drew ?_))); (case side2 => exact HC0_1.out); (case side3 => repeat (first | exact (Kd.C_below HR0_2.out HB.out) | (with_reducible refine Kd.C_alloc ?_ _) | (with_reducible refine Kd.C_drewN ?_ _) | (with_reducible refine Kd.C_drew ?_))); (case side4 => exact HC0_2.out); rintro e w6 ⟨rfl, hb⟩; refine ⟨_, rfl, ?_⟩; have n0_ := Aside0.mk (blk_below (g := gb661) (o := .cells #[.bool a0_0, .slice A0_1 l0_1.length c0_1, .slice A0_2 l0_2.length c0_2] 30 (0, 0)) (by (with_reducible repeat (first | refine blk_drewN ?_ _ | refine blk_drew ?_ | refine blk_alloc ?_ _)); exact BK661.out) hb); have n1_ := Aside0.mk (below_step (by repeat (first | (with_reducible first | exact HB.out | apply below_alloc | apply pw_below_drewN | apply below_drew1 | refine below_set ?_ GE661.out) | exact HB.out)) hb); clear BK661; clear HB; have BK661 := n0_; have HB := n1_; clear n0_ n1_; (try clear hb); (try clear hb2); (try clear hk); (try clear hi)))
    go_ret
    exact ⟨by first | rfl | (simp [errW_none, errW_some] <;> rfl) | (simp [*, errW_none, errW_some] <;> rfl), by repeat (first | (with_reducible first | exact HB.out | apply below_alloc | apply pw_below_drewN | apply below_drew1 | refine below_set ?_ GE661.out) | exact HB.out)⟩
  · rw [if_neg c3] at H
    have c3b0 : decide (t662 < 0) = false := decide_eq_false c3
    clear c3
    replace H := Option.bind_eq_some_iff.mp H
    obtain ⟨⟨t663, t664, t667⟩, A70, H⟩ := H
    replace H : ((spec_NegRat.f k t663 t664 t667).bind fun bt670 => ((laws_toRat.f k a0_0 l0_1 l0_2).bind fun bt679 => ((impl_NegRat.f k bt679.1 bt679.2.1 bt679.2.2).bind fun bt687 => ((laws_eqRat.f k bt687.1 bt687.2.1 bt687.2.2.1 bt670.1 bt670.2.1 bt670.2.2.1).bind fun t696 => (if t696 = true then (laws_FnExactNegRat.j0 k bt670.2.2.2 bt687.2.2.2 (bt687.2.2.2 != bt670.2.2.2) a0_0 l0_1 l0_2 bt670.1 bt670.2.1 bt670.2.2.1 bt679.1 bt679.2.1 bt679.2.2 bt687.1 bt687.2.1 bt687.2.2.1) else (laws_FnExactNegRat.j0 k bt670.2.2.2 bt687.2.2.2 true a0_0 l0_1 l0_2 bt670.1 bt670.2.1 bt670.2.2.1 bt679.1 bt679.2.1 bt679.2.2 bt687.1 bt687.2.1 bt687.2.2.1)))))) = some r := H
    have A7 := Aside0.mk A70
    clear A70
    replace H := Option.bind_eq_some_iff.mp H
    obtain ⟨⟨t670, t671, t674, t677⟩, A80, H⟩ := H
    replace H : ((laws_toRat.f k a0_0 l0_1 l0_2).bind fun bt679 => ((impl_NegRat.f k bt679.1 bt679.2.1 bt679.2.2).bind fun bt687 => ((laws_eqRat.f k bt687.1 bt687.2.1 bt687.2.2.1 t670 t671 t674).bind fun t696 => (if t696 = true then (laws_FnExactNegRat.j0 k t677 bt687.2.2.2 (bt687.2.2.2 != t677) a0_0 l0_1 l0_2 t670 t671 t674 bt679.1 bt679.2.1 bt679.2.2 bt687.1 bt687.2.1 bt687.2.2.1) else (laws_FnExactNegRat.j0 k t677 bt687.2.2.2 true a0_0 l0_1 l0_2 t670 t671 t674 bt679.1 bt679.2.1 bt679.2.2 bt687.1 bt687.2.1 bt687.2.2.1))))) = some r := H
    have A8 := Aside0.mk A80
    clear A80
    replace H := Option.bind_eq_some_iff.mp H
    obtain ⟨⟨t679, t680, t683⟩, A90, H⟩ := H
    replace H : ((impl_NegRat.f k t679 t680 t683).bind fun bt687 => ((laws_eqRat.f k bt687.1 bt687.2.1 bt687.2.2.1 t670 t671 t674).bind fun t696 => (if t696 = true then (laws_FnExactNegRat.j0 k t677 bt687.2.2.2 (bt687.2.2.2 != t677) a0_0 l0_1 l0_2 t670 t671 t674 t679 t680 t683 bt687.1 bt687.2.1 bt687.2.2.1) else (laws_FnExactNegRat.j0 k t677 bt687.2.2.2 true a0_0 l0_1 l0_2 t670 t671 t674 t679 t680 t683 bt687.1 bt687.2.1 bt687.2.2.1)))) = some r := H
    have A9 := Aside0.mk A90
    clear A90
    replace H := Option.bind_eq_some_iff.mp H
    obtain ⟨⟨t687, t688, t691, t694⟩, A100, H⟩ := H
    replace H : ((laws_eqRat.f k t687 t688 t691 t670 t671 t674).bind fun t696 => (if t696 = true then (laws_FnExactNegRat.j0 k t677 t694 (t694 != t677) a0_0 l0_1 l0_2 t670 t671 t674 t679 t680 t683 t687 t688 t691) else (laws_FnExactNegRat.j0 k t677 t694 true a0_0 l0_1 l0_2 t670 t671 t674 t679 t680 t683 t687 t688 t691))) = some r := H
    have A10 := Aside0.mk A100
    clear A100
    have HC11 := Aside0.mk H
    clear H
    go_enter Try.func5, Try.ntmps5
    go_upto_region 8 with (first | ((with_reducible refine gate_dst (N := 1) rfl ?_); refine box_event ?hg (N := 1) ?hd (cs := #[.bool a0_0, .slice A0_1 l0_1.length c0_1, .slice A0_2 l0_2.length c0_2]) (t := 30) ?hr ?_; (case hd => rfl); (case hg => rfl); (case hr => first | (go_simp; done) | (go_simp; rfl)); intro gb661 hg w12 hbox hb; have n0_ := Aside0.mk (below_step (by repeat (first | (with_reducible first | exact HB.out | apply below_alloc | apply pw_below_drewN | apply below_drew1) | exact HB.out)) hb); have n1_ := Aside0.mk (hbox); have n2_ := Aside0.mk ((by rw [hg]; exact (below_size (by repeat (first | (with_reducible first | exact HB.out | apply below_alloc | apply pw_below_drewN | apply below_drew1) | exact HB.out))) : w.heap.size ≤ gb661)); have n3_ := Aside0.mk ((by rw [hg]; exact (below_size (by repeat (first | (with_reducible first | exact HB.out | apply below_alloc | apply pw_below_drewN | apply below_drew1) | exact HB.out))) : w.heap.size ≤ gb661)); clear HB; have HB := n0_; have BK661 := n1_; have GW661 := n2_; have GE661 := n3_; clear n0_ n1_ n2_ n3_; clear hb hbox hg; have hcz13_0 : w12.cell? ⟨gb661, 0, none⟩ = some (.bool a0_0) := (blk_cell BK661.out 0).trans rfl; have hcz13_1 : w12.cell? ⟨gb661, 1, none⟩ = some (.slice A0_1 l0_1.length c0_1) := (blk_cell BK661.out 1).trans rfl; have hcz13_2 : w12.cell? ⟨gb661, 2, none⟩ = some (.slice A0_2 l0_2.length c0_2) := (blk_cell BK661.out 2).trans rfl; have hfz13_0 := blk_frozen BK661.out 0; have hfz13_1 := blk_frozen BK661.out 1; have hfz13_2 := blk_frozen BK661.out 2) | ((with_reducible refine gate_callee (f := 20) rfl ?_); refine goesL_ (some 16) rfl rfl Try.func20 (by kernel_rfl) rfl #[.agg #[.bool a0_0, .slice A0_1 l0_1.length c0_1, .slice A0_2 l0_2.length c0_2], .int .i64 1048576] rfl (by (try simp only [List.map_toArray, List.map_cons, List.map_nil]); first | done | rfl | (simp only [List.length_drop, List.length_take]; rfl)) ?_; (with_reducible refine (laws_szRat.calls a0_0 _ _ l0_1 _ _ l0_2 1048576 t662 _ ?side1 ?side2 ?side3 ?side4 A2.out).mono ?_); (case side1 => repeat (first | exact (Kd.C_below HR0_1.out HB.out) | (with_reducible refine Kd.C_alloc ?_ _) | (with_reducible refine Kd.C_drewN ?_ _) | (with_reducible refine Kd.C_drew ?_))); (case side2 => exact HC0_1.out); (case side3 => repeat (first | exact (Kd.C_below HR0_2.out HB.out) | (with_reducible refine Kd.C_alloc ?_ _) | (with_reducible refine Kd.C_drewN ?_ _) | (with_reducible refine Kd.C_drew ?_))); (case side4 => exact HC0_2.out); rintro e w14 ⟨rfl, hb⟩; refine ⟨_, rfl, ?_⟩; have n0_ := Aside0.mk (blk_below (g := gb661) (o := .cells #[.bool a0_0, .slice A0_1 l0_1.length c0_1, .slice A0_2 l0_2.length c0_2] 30 (0, 0)) (by (with_reducible repeat (first | refine blk_drewN ?_ _ | refine blk_drew ?_ | refine blk_alloc ?_ _)); exact BK661.out) hb); have n1_ := Aside0.mk (below_step (by repeat (first | (with_reducible first | exact HB.out | apply below_alloc | apply pw_below_drewN | apply below_drew1 | refine below_set ?_ GE661.out) | exact HB.out)) hb); clear BK661; clear HB; have BK661 := n0_; have HB := n1_; clear n0_ n1_; (try clear hb); (try clear hb2); (try clear hk); (try clear hi); have hcz15_0 : w14.cell? ⟨gb661, 0, none⟩ = some (.bool a0_0) := (blk_cell BK661.out 0).trans rfl; have hcz15_1 : w14.cell? ⟨gb661, 1, none⟩ = some (.slice A0_1 l0_1.length c0_1) := (blk_cell BK661.out 1).trans rfl; have hcz15_2 : w14.cell? ⟨gb661, 2, none⟩ = some (.slice A0_2 l0_2.length c0_2) := (blk_cell BK661.out 2).trans rfl; have hfz15_0 := blk_frozen BK661.out 0; have hfz15_1 := blk_frozen BK661.out 1; have hfz15_2 := blk_frozen BK661.out 2) | ((with_reducible refine gate_callee (f := 22) rfl ?_); refine goesL_ (some 21) rfl rfl Try.func22 (by kernel_rfl) rfl #[.agg #[.bool a0_0, .slice A0_1 l0_1.length c0_1, .slice A0_2 l0_2.length c0_2]] rfl (by (try simp only [List.map_toArray, List.map_cons, List.map_nil]); first | done | rfl | (simp only [List.length_drop, List.length_take]; rfl)) ?_; (with_reducible refine (laws_toRat.calls k a0_0 _ _ l0_1 _ _ l0_2 t663 t664 t667 _ ?side1 ?side2 ?side3 ?side4 A7.out).mono ?_); (case side1 => repeat (first | exact (Kd.C_below HR0_1.out HB.out) | (with_reducible refine Kd.C_alloc ?_ _) | (with_reducible refine Kd.C_drewN ?_ _) | (with_reducible refine Kd.C_drew ?_))); (case side2 => exact HC0_1.out); (case side3 => repeat (first | exact (Kd.C_below HR0_2.out HB.out) | (with_reducible refine Kd.C_alloc ?_ _) | (with_reducible refine Kd.C_drewN ?_ _) | (with_reducible refine Kd.C_drew ?_))); (case side4 => exact HC0_2.out); rintro e w16 ⟨v665, v668, rfl, ho0, ho1, hb⟩; refine ⟨_, rfl, ?_⟩; have n0_ := Aside0.mk (Kd.R_lower ho0 (below_size (by repeat (first | (with_reducible first | exact HB.out | apply below_alloc | apply pw_below_drewN | apply below_drew1 | refine below_set ?_ GE661.out) | exact HB.out)))); have n1_ := Aside0.mk (Kd.R_lower ho1 (below_size (by repeat (first | (with_reducible first | exact HB.out | apply below_alloc | apply pw_below_drewN | apply below_drew1 | refine below_set ?_ GE661.out) | exact HB.out)))); have n2_ := Aside0.mk (blk_below (g := gb661) (o := .cells #[.bool a0_0, .slice A0_1 l0_1.length c0_1, .slice A0_2 l0_2.length c0_2] 30 (0, 0)) (by (with_reducible repeat (first | refine blk_drewN ?_ _ | refine blk_drew ?_ | refine blk_alloc ?_ _)); exact BK661.out) hb); have n3_ := Aside0.mk (below_step (by repeat (first | (with_reducible first | exact HB.out | apply below_alloc | apply pw_below_drewN | apply below_drew1 | refine below_set ?_ GE661.out) | exact HB.out)) hb); clear BK661; clear HB; have HO666 := n0_; have HO669 := n1_; have BK661 := n2_; have HB := n3_; clear n0_ n1_ n2_ n3_; (try clear hb); (try clear hb2); (try clear hk); (try clear hi); (try clear ho0); (try clear ho1); obtain ⟨Ao17, co17, eo17⟩ := Kd.R_slice HO666.out; subst eo17; obtain ⟨Ao18, co18, eo18⟩ := Kd.R_slice HO669.out; subst eo18) | ((with_reducible refine gate_callee (f := 24) rfl ?_); refine goesL_ (some 22) rfl rfl Try.func24 (by kernel_rfl) rfl #[.agg #[.bool t663, .slice Ao17 t664.length co17, .slice Ao18 t667.length co18]] rfl (by (try simp only [List.map_toArray, List.map_cons, List.map_nil]); first | done | rfl | (simp only [List.length_drop, List.length_take]; rfl)) ?_; (with_reducible refine (spec_NegRat.calls k t663 (fun k_ => some k_ = (.slice Ao17 t664.length co17 : Value).ownBlock) (.slice Ao17 t664.length co17) t664 (fun k_ => some k_ = (.slice Ao18 t667.length co18 : Value).ownBlock) (.slice Ao18 t667.length co18) t667 t670 t671 t674 t677 w _ ?side1 ?side2 ?side3 ?side4 ?side5 A8.out).mono ?_); (case side1 => repeat (first | (with_reducible first | exact HB.out | apply below_alloc | apply pw_below_drewN | apply below_drew1 | refine below_set ?_ GE661.out) | exact HB.out)); (case side2 => exact Kd.R_tight rfl HO666.out); (case side3 => exact fun k_ e_ => (HO666.out.1 k_ e_.symm)); (case side4 => exact Kd.R_tight rfl HO669.out); (case side5 => exact fun k_ e_ => (HO669.out.1 k_ e_.symm)); rintro e w19 ⟨v672, v675, rfl, ho0, ho1, hb, hkp⟩; refine ⟨_, rfl, ?_⟩; have n0_ := Aside0.mk (blk_kept (by (with_reducible repeat (first | refine blk_drewN ?_ _ | refine blk_drew ?_ | refine blk_alloc ?_ _)); exact BK661.out) hkp (fun hs_ => Or.elim hs_ (fun e_ => (fun e_ => (Kd.R_ne HO666.out BK661.out (by decide)) e_) e_) (fun e_ => (fun e_ => (Kd.R_ne HO669.out BK661.out (by decide)) e_) e_))); have n1_ := Aside0.mk (Kd.R_mono (ok' := fun k_ => some k_ ≠ (v675 : Value).ownBlock) ho0 (fun k_ hk_ => hk_.2)); have n2_ := Aside0.mk (Kd.R_mono (ok' := fun k_ => some k_ ≠ (v672 : Value).ownBlock) ho1 (fun k_ hk_ => hk_.2)); have n3_ := Aside0.mk (hb); clear BK661; clear HB; clear HO666; clear HO669; have BK661 := n0_; have HO673 := n1_; have HO676 := n2_; have HB := n3_; clear n0_ n1_ n2_ n3_; (try clear hb); (try clear hkp); (try clear ho0); (try clear ho1)) | ((with_reducible refine gate_dst (N := 4) rfl ?_); refine box_event ?hg (N := 4) ?hd (cs := #[.bool false, .slice none 0 0, .slice none 0 0]) (t := 24) ?hr ?_; (case hd => rfl); (case hg => rfl); (case hr => first | (go_simp; done) | (go_simp; rfl)); intro gb678 hg w20 hbox hb; have n0_ := Aside0.mk (Kd.R_below (by (with_reducible repeat (first | apply Kd.R_alloc | apply Kd.R_drewN | apply Kd.R_drew)); exact HO673.out) hb); have n1_ := Aside0.mk (Kd.R_below (by (with_reducible repeat (first | apply Kd.R_alloc | apply Kd.R_drewN | apply Kd.R_drew)); exact HO676.out) hb); have n2_ := Aside0.mk (blk_below (g := gb661) (o := .cells #[.bool a0_0, .slice A0_1 l0_1.length c0_1, .slice A0_2 l0_2.length c0_2] 30 (0, 0)) (by (with_reducible repeat (first | refine blk_drewN ?_ _ | refine blk_drew ?_ | refine blk_alloc ?_ _)); exact BK661.out) hb); have n3_ := Aside0.mk (below_step (by repeat (first | (with_reducible first | exact HB.out | apply below_alloc | apply pw_below_drewN | apply below_drew1 | refine below_set ?_ GE661.out) | exact HB.out)) hb); have n4_ := Aside0.mk (hbox); have n5_ := Aside0.mk ((by rw [hg]; exact (below_size (by repeat (first | (with_reducible first | exact HB.out | apply below_alloc | apply pw_below_drewN | apply below_drew1 | refine below_set ?_ GE661.out) | exact HB.out))) : w.heap.size ≤ gb678)); have n6_ := Aside0.mk ((by rw [hg]; exact (below_size (by repeat (first | (with_reducible first | exact HB.out | apply below_alloc | apply pw_below_drewN | apply below_drew1 | refine below_set ?_ GE661.out) | exact HB.out))) : w.heap.size ≤ gb678)); have n7_ := Aside0.mk ((by rw [hg]; exact Nat.ne_of_lt (blk_lt (g := gb661) (o := .cells #[.bool a0_0, .slice A0_1 l0_1.length c0_1, .slice A0_2 l0_2.length c0_2] 30 (0, 0)) (by (with_reducible repeat (first | refine blk_drewN ?_ _ | refine blk_drew ?_ | refine blk_alloc ?_ _)); exact BK661.out)) : gb661 ≠ gb678)); have n8_ := Aside0.mk ((by rw [hg]; exact Nat.ne_of_gt (blk_lt (g := gb661) (o := .cells #[.bool a0_0, .slice A0_1 l0_1.length c0_1, .slice A0_2 l0_2.length c0_2] 30 (0, 0)) (by (with_reducible repeat (first | refine blk_drewN ?_ _ | refine blk_drew ?_ | refine blk_alloc ?_ _)); exact BK661.out)) : gb678 ≠ gb661)); clear HO673; clear HO676; clear BK661; clear HB; have HO673 := n0_; have HO676 := n1_; have BK661 := n2_; have HB := n3_; have BK678 := n4_; have GW678 := n5_; have GE678 := n6_; have NB661_678 := n7_; have NB678_661 := n8_; clear n0_ n1_ n2_ n3_ n4_ n5_ n6_ n7_ n8_; clear hb hbox hg; have hnb21 := NB678_661.out; have hnc21 := NB661_678.out; have hcz22_0 : w20.cell? ⟨gb678, 0, none⟩ = some (.bool false) := (blk_cell BK678.out 0).trans rfl; have hcz22_1 : w20.cell? ⟨gb678, 1, none⟩ = some (.slice none 0 0) := (blk_cell BK678.out 1).trans rfl; have hcz22_2 : w20.cell? ⟨gb678, 2, none⟩ = some (.slice none 0 0) := (blk_cell BK678.out 2).trans rfl; have hfz22_0 := blk_frozen BK678.out 0; have hfz22_1 := blk_frozen BK678.out 1; have hfz22_2 := blk_frozen BK678.out 2; obtain ⟨Ao23, co23, eo23⟩ := Kd.R_slice HO673.out; subst eo23; obtain ⟨Ao24, co24, eo24⟩ := Kd.R_slice HO676.out; subst eo24; have hcz25_0 : w20.cell? ⟨gb661, 0, none⟩ = some (.bool a0_0) := (blk_cell BK661.out 0).trans rfl; have hcz25_1 : w20.cell? ⟨gb661, 1, none⟩ = some (.slice A0_1 l0_1.length c0_1) := (blk_cell BK661.out 1).trans rfl; have hcz25_2 : w20.cell? ⟨gb661, 2, none⟩ = some (.slice A0_2 l0_2.length c0_2) := (blk_cell BK661.out 2).trans rfl; have hfz25_0 := blk_frozen BK661.out 0; have hfz25_1 := blk_frozen BK661.out 1; have hfz25_2 := blk_frozen BK661.out 2) | ((with_reducible refine gate_callee (f := 22) rfl ?_); refine goesL_ (some 26) rfl rfl Try.func22 (by kernel_rfl) rfl #[.agg #[.bool a0_0, .slice A0_1 l0_1.length c0_1, .slice A0_2 l0_2.length c0_2]] rfl (by (try simp only [List.map_toArray, List.map_cons, List.map_nil]); first | done | rfl | (simp only [List.length_drop, List.length_take]; rfl)) ?_; (with_reducible refine (laws_toRat.calls k a0_0 _ _ l0_1 _ _ l0_2 t679 t680 t683 _ ?side1 ?side2 ?side3 ?side4 A9.out).mono ?_); (case side1 => exact Kd.C_below HR0_1.out (by repeat (first | (with_reducible first | exact HB.out | apply below_alloc | apply pw_below_drewN | apply below_drew1 | refine below_set ?_ GE661.out | refine below_set ?_ GE678.out) | exact HB.out))); (case side2 => exact HC0_1.out); (case side3 => exact Kd.C_below HR0_2.out (by repeat (first | (with_reducible first | exact HB.out | apply below_alloc | apply pw_below_drewN | apply below_drew1 | refine below_set ?_ GE661.out | refine below_set ?_ GE678.out) | exact HB.out))); (case side4 => exact HC0_2.out); rintro e w26 ⟨v681, v684, rfl, ho0, ho1, hb⟩; refine ⟨_, rfl, ?_⟩; have n0_ := Aside0.mk (Kd.R_mono (Kd.R_told (Kd.R_told (Kd.R_old (by (with_reducible repeat (first | apply Kd.R_alloc | apply Kd.R_drewN | apply Kd.R_drew)); exact (Kd.R_mono (Kd.R_far (p := ⟨gb678, 2, none⟩) (Kd.R_far (p := ⟨gb678, 1, none⟩) (Kd.R_far (p := ⟨gb678, 0, none⟩) (Kd.R_types HO673.out BK678.out (by decide)) (fun _ hk => hk.2) (.bool t670)) (fun _ hk => hk.2) (.slice Ao23 t671.length co23)) (fun _ hk => hk.2) (.slice Ao24 t674.length co24)) (fun _ h_ => h_.1))) hb) (Kd.R_base ho0)) (Kd.R_base ho1)) (fun _ h_ => h_.1)); have n1_ := Aside0.mk (Kd.R_mono (Kd.R_told (Kd.R_told (Kd.R_old (by (with_reducible repeat (first | apply Kd.R_alloc | apply Kd.R_drewN | apply Kd.R_drew)); exact (Kd.R_mono (Kd.R_far (p := ⟨gb678, 2, none⟩) (Kd.R_far (p := ⟨gb678, 1, none⟩) (Kd.R_far (p := ⟨gb678, 0, none⟩) (Kd.R_types HO676.out BK678.out (by decide)) (fun _ hk => hk.2) (.bool t670)) (fun _ hk => hk.2) (.slice Ao23 t671.length co23)) (fun _ hk => hk.2) (.slice Ao24 t674.length co24)) (fun _ h_ => h_.1))) hb) (Kd.R_base ho0)) (Kd.R_base ho1)) (fun _ h_ => h_.1)); have n2_ := Aside0.mk (Kd.R_lower (Kd.R_new' (Kd.R_new' ho0 (Kd.R_lt (by (with_reducible repeat (first | apply Kd.R_alloc | apply Kd.R_drewN | apply Kd.R_drew)); exact (Kd.R_mono (Kd.R_far (p := ⟨gb678, 2, none⟩) (Kd.R_far (p := ⟨gb678, 1, none⟩) (Kd.R_far (p := ⟨gb678, 0, none⟩) (Kd.R_types HO673.out BK678.out (by decide)) (fun _ hk => hk.2) (.bool t670)) (fun _ hk => hk.2) (.slice Ao23 t671.length co23)) (fun _ hk => hk.2) (.slice Ao24 t674.length co24)) (fun _ h_ => h_.1))))) (Kd.R_lt (by (with_reducible repeat (first | apply Kd.R_alloc | apply Kd.R_drewN | apply Kd.R_drew)); exact (Kd.R_mono (Kd.R_far (p := ⟨gb678, 2, none⟩) (Kd.R_far (p := ⟨gb678, 1, none⟩) (Kd.R_far (p := ⟨gb678, 0, none⟩) (Kd.R_types HO676.out BK678.out (by decide)) (fun _ hk => hk.2) (.bool t670)) (fun _ hk => hk.2) (.slice Ao23 t671.length co23)) (fun _ hk => hk.2) (.slice Ao24 t674.length co24)) (fun _ h_ => h_.1))))) (below_size (by repeat (first | (with_reducible first | exact HB.out | apply below_alloc | apply pw_below_drewN | apply below_drew1 | refine below_set ?_ GE661.out | refine below_set ?_ GE678.out) | exact HB.out)))); have n3_ := Aside0.mk (Kd.R_lower (Kd.R_new' (Kd.R_new' ho1 (Kd.R_lt (by (with_reducible repeat (first | apply Kd.R_alloc | apply Kd.R_drewN | apply Kd.R_drew)); exact (Kd.R_mono (Kd.R_far (p := ⟨gb678, 2, none⟩) (Kd.R_far (p := ⟨gb678, 1, none⟩) (Kd.R_far (p := ⟨gb678, 0, none⟩) (Kd.R_types HO673.out BK678.out (by decide)) (fun _ hk => hk.2) (.bool t670)) (fun _ hk => hk.2) (.slice Ao23 t671.length co23)) (fun _ hk => hk.2) (.slice Ao24 t674.length co24)) (fun _ h_ => h_.1))))) (Kd.R_lt (by (with_reducible repeat (first | apply Kd.R_alloc | apply Kd.R_drewN | apply Kd.R_drew)); exact (Kd.R_mono (Kd.R_far (p := ⟨gb678, 2, none⟩) (Kd.R_far (p := ⟨gb678, 1, none⟩) (Kd.R_far (p := ⟨gb678, 0, none⟩) (Kd.R_types HO676.out BK678.out (by decide)) (fun _ hk => hk.2) (.bool t670)) (fun _ hk => hk.2) (.slice Ao23 t671.length co23)) (fun _ hk => hk.2) (.slice Ao24 t674.length co24)) (fun _ h_ => h_.1))))) (below_size (by repeat (first | (with_reducible first | exact HB.out | apply below_alloc | apply pw_below_drewN | apply below_drew1 | refine below_set ?_ GE661.out | refine below_set ?_ GE678.out) | exact HB.out)))); have n4_ := Aside0.mk (blk_below (g := gb661) (o := .cells #[.bool a0_0, .slice A0_1 l0_1.length c0_1, .slice A0_2 l0_2.length c0_2] 30 (0, 0)) (by (with_reducible repeat (first | refine blk_drewN ?_ _ | refine blk_drew ?_ | refine blk_alloc ?_ _)); refine blk_far ?_ NB661_678.out _; (with_reducible repeat (first | refine blk_drewN ?_ _ | refine blk_drew ?_ | refine blk_alloc ?_ _)); refine blk_far ?_ NB661_678.out _; (with_reducible repeat (first | refine blk_drewN ?_ _ | refine blk_drew ?_ | refine blk_alloc ?_ _)); refine blk_far ?_ NB661_678.out _; (with_reducible repeat (first | refine blk_drewN ?_ _ | refine blk_drew ?_ | refine blk_alloc ?_ _)); exact BK661.out) hb); have n5_ := Aside0.mk (blk_below (g := gb678) (o := .cells #[.bool t670, .slice Ao23 t671.length co23, .slice Ao24 t674.length co24] 24 (0, 0)) (by (with_reducible repeat (first | refine blk_drewN ?_ _ | refine blk_drew ?_ | refine blk_alloc ?_ _)); refine blk_put (cs := #[.bool t670, .slice Ao23 t671.length co23, .slice none 0 0]) ?_ 2 _ rfl; (with_reducible repeat (first | refine blk_drewN ?_ _ | refine blk_drew ?_ | refine blk_alloc ?_ _)); refine blk_put (cs := #[.bool t670, .slice none 0 0, .slice none 0 0]) ?_ 1 _ rfl; (with_reducible repeat (first | refine blk_drewN ?_ _ | refine blk_drew ?_ | refine blk_alloc ?_ _)); refine blk_put (cs := #[.bool false, .slice none 0 0, .slice none 0 0]) ?_ 0 _ rfl; (with_reducible repeat (first | refine blk_drewN ?_ _ | refine blk_drew ?_ | refine blk_alloc ?_ _)); exact BK678.out) hb); have n6_ := Aside0.mk (below_step (by repeat (first | (with_reducible first | exact HB.out | apply below_alloc | apply pw_below_drewN | apply below_drew1 | refine below_set ?_ GE661.out | refine below_set ?_ GE678.out) | exact HB.out)) hb); clear HO673; clear HO676; clear BK661; clear BK678; clear HB; have HO673 := n0_; have HO676 := n1_; have HO682 := n2_; have HO685 := n3_; have BK661 := n4_; have BK678 := n5_; have HB := n6_; clear n0_ n1_ n2_ n3_ n4_ n5_ n6_; (try clear hb); (try clear hb2); (try clear hk); (try clear hi); (try clear ho0); (try clear ho1)) | ((with_reducible refine gate_dst (N := 6) rfl ?_); refine box_event ?hg (N := 6) ?hd (cs := #[.bool false, .slice none 0 0, .slice none 0 0]) (t := 24) ?hr ?_; (case hd => rfl); (case hg => rfl); (case hr => first | (go_simp; done) | (go_simp; rfl)); intro gb686 hg w27 hbox hb; have n0_ := Aside0.mk (Kd.R_below (by (with_reducible repeat (first | apply Kd.R_alloc | apply Kd.R_drewN | apply Kd.R_drew)); exact HO673.out) hb); have n1_ := Aside0.mk (Kd.R_below (by (with_reducible repeat (first | apply Kd.R_alloc | apply Kd.R_drewN | apply Kd.R_drew)); exact HO676.out) hb); have n2_ := Aside0.mk (Kd.R_below (by (with_reducible repeat (first | apply Kd.R_alloc | apply Kd.R_drewN | apply Kd.R_drew)); exact HO682.out) hb); have n3_ := Aside0.mk (Kd.R_below (by (with_reducible repeat (first | apply Kd.R_alloc | apply Kd.R_drewN | apply Kd.R_drew)); exact HO685.out) hb); have n4_ := Aside0.mk (blk_below (g := gb661) (o := .cells #[.bool a0_0, .slice A0_1 l0_1.length c0_1, .slice A0_2 l0_2.length c0_2] 30 (0, 0)) (by (with_reducible repeat (first | refine blk_drewN ?_ _ | refine blk_drew ?_ | refine blk_alloc ?_ _)); exact BK661.out) hb); have n5_ := Aside0.mk (blk_below (g := gb678) (o := .cells #[.bool t670, .slice Ao23 t671.length co23, .slice Ao24 t674.length co24] 24 (0, 0)) (by (with_reducible repeat (first | refine blk_drewN ?_ _ | refine blk_drew ?_ | refine blk_alloc ?_ _)); exact BK678.out) hb); have n6_ := Aside0.mk (below_step (by repeat (first | (with_reducible first | exact HB.out | apply below_alloc | apply pw_below_drewN | apply below_drew1 | refine below_set ?_ GE661.out | refine below_set ?_ GE678.out) | exact HB.out)) hb); have n7_ := Aside0.mk (hbox); have n8_ := Aside0.mk ((by rw [hg]; exact (below_size (by repeat (first | (with_reducible first | exact HB.out | apply below_alloc | apply pw_below_drewN | apply below_drew1 | refine below_set ?_ GE661.out | refine below_set ?_ GE678.out) | exact HB.out))) : w.heap.size ≤ gb686)); have n9_ := Aside0.mk ((by rw [hg]; exact (below_size (by repeat (first | (with_reducible first | exact HB.out | apply below_alloc | apply pw_below_drewN | apply below_drew1 | refine below_set ?_ GE661.out | refine below_set ?_ GE678.out) | exact HB.out))) : w.heap.size ≤ gb686)); have n10_ := Aside0.mk ((by rw [hg]; exact Nat.ne_of_lt (blk_lt (g := gb661) (o := .cells #[.bool a0_0, .slice A0_1 l0_1.length c0_1, .slice A0_2 l0_2.length c0_2] 30 (0, 0)) (by (with_reducible repeat (first | refine blk_drewN ?_ _ | refine blk_drew ?_ | refine blk_alloc ?_ _)); exact BK661.out)) : gb661 ≠ gb686)); have n11_ := Aside0.mk ((by rw [hg]; exact Nat.ne_of_gt (blk_lt (g := gb661) (o := .cells #[.bool a0_0, .slice A0_1 l0_1.length c0_1, .slice A0_2 l0_2.length c0_2] 30 (0, 0)) (by (with_reducible repeat (first | refine blk_drewN ?_ _ | refine blk_drew ?_ | refine blk_alloc ?_ _)); exact BK661.out)) : gb686 ≠ gb661)); have n12_ := Aside0.mk ((by rw [hg]; exact Nat.ne_of_lt (blk_lt (g := gb678) (o := .cells #[.bool t670, .slice Ao23 t671.length co23, .slice Ao24 t674.length co24] 24 (0, 0)) (by (with_reducible repeat (first | refine blk_drewN ?_ _ | refine blk_drew ?_ | refine blk_alloc ?_ _)); exact BK678.out)) : gb678 ≠ gb686)); have n13_ := Aside0.mk ((by rw [hg]; exact Nat.ne_of_gt (blk_lt (g := gb678) (o := .cells #[.bool t670, .slice Ao23 t671.length co23, .slice Ao24 t674.length co24] 24 (0, 0)) (by (with_reducible repeat (first | refine blk_drewN ?_ _ | refine blk_drew ?_ | refine blk_alloc ?_ _)); exact BK678.out)) : gb686 ≠ gb678)); clear HO673; clear HO676; clear HO682; clear HO685; clear BK661; clear BK678; clear HB; have HO673 := n0_; have HO676 := n1_; have HO682 := n2_; have HO685 := n3_; have BK661 := n4_; have BK678 := n5_; have HB := n6_; have BK686 := n7_; have GW686 := n8_; have GE686 := n9_; have NB661_686 := n10_; have NB686_661 := n11_; have NB678_686 := n12_; have NB686_678 := n13_; clear n0_ n1_ n2_ n3_ n4_ n5_ n6_ n7_ n8_ n9_ n10_ n11_ n12_ n13_; clear hb hbox hg; have hnb28 := NB686_661.out; have hnc28 := NB661_686.out; have hnb29 := NB686_678.out; have hnc29 := NB678_686.out; have hcz30_0 : w27.cell? ⟨gb686, 0, none⟩ = some (.bool false) := (blk_cell BK686.out 0).trans rfl; have hcz30_1 : w27.cell? ⟨gb686, 1, none⟩ = some (.slice none 0 0) := (blk_cell BK686.out 1).trans rfl; have hcz30_2 : w27.cell? ⟨gb686, 2, none⟩ = some (.slice none 0 0) := (blk_cell BK686.out 2).trans rfl; have hfz30_0 := blk_frozen BK686.out 0; have hfz30_1 := blk_frozen BK686.out 1; have hfz30_2 := blk_frozen BK686.out 2; obtain ⟨Ao31, co31, eo31⟩ := Kd.R_slice HO682.out; subst eo31; obtain ⟨Ao32, co32, eo32⟩ := Kd.R_slice HO685.out; subst eo32) | ((with_reducible refine gate_store (t := 24) (p := 6) rfl ?_); refine store_event (t := 24) (p := 6) (v := ?vo_w33) (w1 := (((w27.setCell ⟨gb686, 0, none⟩ (.bool t679)).setCell ⟨gb686, 1, none⟩ (.slice Ao31 t680.length co31)).setCell ⟨gb686, 2, none⟩ (.slice Ao32 t683.length co32))) ?hg ?ho ?hn ?hr ?_; (case ho => rfl); (case hg => rfl); (case hn => rfl); (case hr => first | (go_simp; done) | (go_simp; rfl)); intro w33 hw; have n0_ : Aside0 (Kd.R (Kd.int .i64) 3 w33 w.heap.size (fun k_ => some k_ ≠ (.slice Ao24 t674.length co24 : Value).ownBlock ∧ some k_ ≠ (.slice Ao31 t680.length co31 : Value).ownBlock ∧ some k_ ≠ (.slice Ao32 t683.length co32 : Value).ownBlock) (.slice Ao23 t671.length co23) t671) := ⟨(by rw [hw]; exact (by (with_reducible repeat (first | apply Kd.R_alloc | apply Kd.R_drewN | apply Kd.R_drew)); exact Kd.R_mono (Kd.R_far (p := ⟨gb686, 2, none⟩) (Kd.R_far (p := ⟨gb686, 1, none⟩) (Kd.R_far (p := ⟨gb686, 0, none⟩) (Kd.R_types HO673.out BK686.out (by decide)) (fun _ hk => hk.2) (.bool t679)) (fun _ hk => hk.2) (.slice Ao31 t680.length co31)) (fun _ hk => hk.2) (.slice Ao32 t683.length co32)) (fun _ hk => ⟨hk.1.1.1, ⟨hk.1.1.2, hk.1.2⟩⟩)))⟩; have n1_ : Aside0 (Kd.R (Kd.int .i64) 3 w33 w.heap.size (fun k_ => some k_ ≠ (.slice Ao23 t671.length co23 : Value).ownBlock ∧ some k_ ≠ (.slice Ao31 t680.length co31 : Value).ownBlock ∧ some k_ ≠ (.slice Ao32 t683.length co32 : Value).ownBlock) (.slice Ao24 t674.length co24) t674) := ⟨(by rw [hw]; exact (by (with_reducible repeat (first | apply Kd.R_alloc | apply Kd.R_drewN | apply Kd.R_drew)); exact Kd.R_mono (Kd.R_far (p := ⟨gb686, 2, none⟩) (Kd.R_far (p := ⟨gb686, 1, none⟩) (Kd.R_far (p := ⟨gb686, 0, none⟩) (Kd.R_types HO676.out BK686.out (by decide)) (fun _ hk => hk.2) (.bool t679)) (fun _ hk => hk.2) (.slice Ao31 t680.length co31)) (fun _ hk => hk.2) (.slice Ao32 t683.length co32)) (fun _ hk => ⟨hk.1.1.1, ⟨hk.1.1.2, hk.1.2⟩⟩)))⟩; have n2_ : Aside0 (Kd.R (Kd.int .i64) 3 w33 w.heap.size (fun k_ => some k_ ≠ (.slice Ao23 t671.length co23 : Value).ownBlock ∧ some k_ ≠ (.slice Ao24 t674.length co24 : Value).ownBlock ∧ some k_ ≠ (.slice Ao32 t683.length co32 : Value).ownBlock) (.slice Ao31 t680.length co31) t680) := ⟨(by rw [hw]; exact (by (with_reducible repeat (first | apply Kd.R_alloc | apply Kd.R_drewN | apply Kd.R_drew)); exact Kd.R_mono (Kd.R_far (p := ⟨gb686, 2, none⟩) (Kd.R_far (p := ⟨gb686, 1, none⟩) (Kd.R_far (p := ⟨gb686, 0, none⟩) (Kd.R_types HO682.out BK686.out (by decide)) (fun _ hk => hk.2) (.bool t679)) (fun _ hk => hk.2) (.slice Ao31 t680.length co31)) (fun _ hk => hk.2) (.slice Ao32 t683.length co32)) (fun _ hk => ⟨hk.1.1.2, ⟨hk.1.2, hk.1.1.1⟩⟩)))⟩; have n3_ : Aside0 (Kd.R (Kd.int .i64) 3 w33 w.heap.size (fun k_ => some k_ ≠ (.slice Ao23 t671.length co23 : Value).ownBlock ∧ some k_ ≠ (.slice Ao24 t674.length co24 : Value).ownBlock ∧ some k_ ≠ (.slice Ao31 t680.length co31 : Value).ownBlock) (.slice Ao32 t683.length co32) t683) := ⟨(by rw [hw]; exact (by (with_reducible repeat (first | apply Kd.R_alloc | apply Kd.R_drewN | apply Kd.R_drew)); exact Kd.R_mono (Kd.R_far (p := ⟨gb686, 2, none⟩) (Kd.R_far (p := ⟨gb686, 1, none⟩) (Kd.R_far (p := ⟨gb686, 0, none⟩) (Kd.R_types HO685.out BK686.out (by decide)) (fun _ hk => hk.2) (.bool t679)) (fun _ hk => hk.2) (.slice Ao31 t680.length co31)) (fun _ hk => hk.2) (.slice Ao32 t683.length co32)) (fun _ hk => ⟨hk.1.1.2, ⟨hk.1.2, hk.1.1.1⟩⟩)))⟩; have n4_ : Aside0 (w33.heap[gb661]? = some (.cells #[.bool a0_0, .slice A0_1 l0_1.length c0_1, .slice A0_2 l0_2.length c0_2] 30 (0, 0))) := ⟨(by rw [hw]; exact (by (with_reducible repeat (first | refine blk_drewN ?_ _ | refine blk_drew ?_ | refine blk_alloc ?_ _)); refine blk_far ?_ NB661_686.out _; (with_reducible repeat (first | refine blk_drewN ?_ _ | refine blk_drew ?_ | refine blk_alloc ?_ _)); refine blk_far ?_ NB661_686.out _; (with_reducible repeat (first | refine blk_drewN ?_ _ | refine blk_drew ?_ | refine blk_alloc ?_ _)); refine blk_far ?_ NB661_686.out _; (with_reducible repeat (first | refine blk_drewN ?_ _ | refine blk_drew ?_ | refine blk_alloc ?_ _)); exact BK661.out))⟩; have n5_ : Aside0 (w33.heap[gb678]? = some (.cells #[.bool t670, .slice Ao23 t671.length co23, .slice Ao24 t674.length co24] 24 (0, 0))) := ⟨(by rw [hw]; exact (by (with_reducible repeat (first | refine blk_drewN ?_ _ | refine blk_drew ?_ | refine blk_alloc ?_ _)); refine blk_far ?_ NB678_686.out _; (with_reducible repeat (first | refine blk_drewN ?_ _ | refine blk_drew ?_ | refine blk_alloc ?_ _)); refine blk_far ?_ NB678_686.out _; (with_reducible repeat (first | refine blk_drewN ?_ _ | refine blk_drew ?_ | refine blk_alloc ?_ _)); refine blk_far ?_ NB678_686.out _; (with_reducible repeat (first | refine blk_drewN ?_ _ | refine blk_drew ?_ | refine blk_alloc ?_ _)); exact BK678.out))⟩; have n6_ : Aside0 (w33.heap[gb686]? = some (.cells #[.bool t679, .slice Ao31 t680.length co31, .slice Ao32 t683.length co32] 24 (0, 0))) := ⟨(by rw [hw]; exact (by (with_reducible repeat (first | refine blk_drewN ?_ _ | refine blk_drew ?_ | refine blk_alloc ?_ _)); refine blk_put (cs := #[.bool t679, .slice Ao31 t680.length co31, .slice none 0 0]) ?_ 2 _ rfl; (with_reducible repeat (first | refine blk_drewN ?_ _ | refine blk_drew ?_ | refine blk_alloc ?_ _)); refine blk_put (cs := #[.bool t679, .slice none 0 0, .slice none 0 0]) ?_ 1 _ rfl; (with_reducible repeat (first | refine blk_drewN ?_ _ | refine blk_drew ?_ | refine blk_alloc ?_ _)); refine blk_put (cs := #[.bool false, .slice none 0 0, .slice none 0 0]) ?_ 0 _ rfl; (with_reducible repeat (first | refine blk_drewN ?_ _ | refine blk_drew ?_ | refine blk_alloc ?_ _)); exact BK686.out))⟩; have n7_ : Aside0 (Below w.heap.size w w33) := ⟨(by rw [hw]; exact (by repeat (first | (with_reducible first | exact HB.out | apply below_alloc | apply pw_below_drewN | apply below_drew1 | refine below_set ?_ GE661.out | refine below_set ?_ GE678.out | refine below_set ?_ GE686.out) | exact HB.out)))⟩; clear hw; clear HO673; clear HO676; clear HO682; clear HO685; clear BK661; clear BK678; clear BK686; clear HB; have HO673 := n0_; have HO676 := n1_; have HO682 := n2_; have HO685 := n3_; have BK661 := n4_; have BK678 := n5_; have BK686 := n6_; have HB := n7_; clear n0_ n1_ n2_ n3_ n4_ n5_ n6_ n7_; have hcz34_0 : w33.cell? ⟨gb686, 0, none⟩ = some (.bool t679) := (blk_cell BK686.out 0).trans rfl; have hcz34_1 : w33.cell? ⟨gb686, 1, none⟩ = some (.slice Ao31 t680.length co31) := (blk_cell BK686.out 1).trans rfl; have hcz34_2 : w33.cell? ⟨gb686, 2, none⟩ = some (.slice Ao32 t683.length co32) := (blk_cell BK686.out 2).trans rfl; have hfz34_0 := blk_frozen BK686.out 0; have hfz34_1 := blk_frozen BK686.out 1; have hfz34_2 := blk_frozen BK686.out 2) | ((with_reducible refine gate_callee (f := 25) rfl ?_); refine goesL_ (some 29) rfl rfl Try.func25 (by kernel_rfl) rfl #[.agg #[.bool t679, .slice Ao31 t680.length co31, .slice Ao32 t683.length co32]] rfl (by (try simp only [List.map_toArray, List.map_cons, List.map_nil]); first | done | rfl | (simp only [List.length_drop, List.length_take]; rfl)) ?_; (with_reducible refine (impl_NegRat.calls k t679 (fun k_ => some k_ = (.slice Ao31 t680.length co31 : Value).ownBlock) _ _ t680 (fun k_ => some k_ = (.slice Ao32 t683.length co32 : Value).ownBlock) _ _ t683 t687 t688 t691 t694 _ ?side1 ?side2 A10.out).mono ?_); (case side1 => exact Kd.R_V (Kd.R_tight rfl (Kd.R_types (Kd.R_types (Kd.R_types (HO682.out) BK661.out (by decide)) BK678.out (by decide)) BK686.out (by decide)))); (case side2 => exact Kd.R_V (Kd.R_tight rfl (Kd.R_types (Kd.R_types (Kd.R_types (HO685.out) BK661.out (by decide)) BK678.out (by decide)) BK686.out (by decide)))); rintro e w35 ⟨v689, v692, rfl, ho0, ho1, hb⟩; refine ⟨_, rfl, ?_⟩; have n0_ := Aside0.mk (Kd.R_mono (Kd.R_told (Kd.R_told (Kd.R_old (by (with_reducible repeat (first | apply Kd.R_alloc | apply Kd.R_drewN | apply Kd.R_drew)); exact HO673.out) hb) (Kd.R_base ho0)) (Kd.R_base ho1)) (fun _ h_ => h_.1)); have n1_ := Aside0.mk (Kd.R_mono (Kd.R_told (Kd.R_told (Kd.R_old (by (with_reducible repeat (first | apply Kd.R_alloc | apply Kd.R_drewN | apply Kd.R_drew)); exact HO676.out) hb) (Kd.R_base ho0)) (Kd.R_base ho1)) (fun _ h_ => h_.1)); have n2_ := Aside0.mk (Kd.R_mono (Kd.R_told (Kd.R_told (Kd.R_old (by (with_reducible repeat (first | apply Kd.R_alloc | apply Kd.R_drewN | apply Kd.R_drew)); exact HO682.out) hb) (Kd.R_base ho0)) (Kd.R_base ho1)) (fun _ h_ => h_.1)); have n3_ := Aside0.mk (Kd.R_mono (Kd.R_told (Kd.R_told (Kd.R_old (by (with_reducible repeat (first | apply Kd.R_alloc | apply Kd.R_drewN | apply Kd.R_drew)); exact HO685.out) hb) (Kd.R_base ho0)) (Kd.R_base ho1)) (fun _ h_ => h_.1)); have n4_ := Aside0.mk (Kd.R_lower (Kd.R_new' (Kd.R_new' (Kd.R_new' (Kd.R_new' (Kd.R_mono (ok' := fun k_ => some k_ ≠ (v692 : Value).ownBlock) ho0 (fun _ hk_ => hk_.2)) (Kd.R_lt (by (with_reducible repeat (first | apply Kd.R_alloc | apply Kd.R_drewN | apply Kd.R_drew)); exact HO673.out))) (Kd.R_lt (by (with_reducible repeat (first | apply Kd.R_alloc | apply Kd.R_drewN | apply Kd.R_drew)); exact HO676.out))) (Kd.R_lt (by (with_reducible repeat (first | apply Kd.R_alloc | apply Kd.R_drewN | apply Kd.R_drew)); exact HO682.out))) (Kd.R_lt (by (with_reducible repeat (first | apply Kd.R_alloc | apply Kd.R_drewN | apply Kd.R_drew)); exact HO685.out))) (below_size (by repeat (first | (with_reducible first | exact HB.out | apply below_alloc | apply pw_below_drewN | apply below_drew1 | refine below_set ?_ GE661.out | refine below_set ?_ GE678.out | refine below_set ?_ GE686.out) | exact HB.out)))); have n5_ := Aside0.mk (Kd.R_lower (Kd.R_new' (Kd.R_new' (Kd.R_new' (Kd.R_new' (Kd.R_mono (ok' := fun k_ => some k_ ≠ (v689 : Value).ownBlock) ho1 (fun _ hk_ => hk_.2)) (Kd.R_lt (by (with_reducible repeat (first | apply Kd.R_alloc | apply Kd.R_drewN | apply Kd.R_drew)); exact HO673.out))) (Kd.R_lt (by (with_reducible repeat (first | apply Kd.R_alloc | apply Kd.R_drewN | apply Kd.R_drew)); exact HO676.out))) (Kd.R_lt (by (with_reducible repeat (first | apply Kd.R_alloc | apply Kd.R_drewN | apply Kd.R_drew)); exact HO682.out))) (Kd.R_lt (by (with_reducible repeat (first | apply Kd.R_alloc | apply Kd.R_drewN | apply Kd.R_drew)); exact HO685.out))) (below_size (by repeat (first | (with_reducible first | exact HB.out | apply below_alloc | apply pw_below_drewN | apply below_drew1 | refine below_set ?_ GE661.out | refine below_set ?_ GE678.out | refine below_set ?_ GE686.out) | exact HB.out)))); have n6_ := Aside0.mk (blk_below (g := gb661) (o := .cells #[.bool a0_0, .slice A0_1 l0_1.length c0_1, .slice A0_2 l0_2.length c0_2] 30 (0, 0)) (by (with_reducible repeat (first | refine blk_drewN ?_ _ | refine blk_drew ?_ | refine blk_alloc ?_ _)); exact BK661.out) hb); have n7_ := Aside0.mk (blk_below (g := gb678) (o := .cells #[.bool t670, .slice Ao23 t671.length co23, .slice Ao24 t674.length co24] 24 (0, 0)) (by (with_reducible repeat (first | refine blk_drewN ?_ _ | refine blk_drew ?_ | refine blk_alloc ?_ _)); exact BK678.out) hb); have n8_ := Aside0.mk (blk_below (g := gb686) (o := .cells #[.bool t679, .slice Ao31 t680.length co31, .slice Ao32 t683.length co32] 24 (0, 0)) (by (with_reducible repeat (first | refine blk_drewN ?_ _ | refine blk_drew ?_ | refine blk_alloc ?_ _)); exact BK686.out) hb); have n9_ := Aside0.mk (below_step (by repeat (first | (with_reducible first | exact HB.out | apply below_alloc | apply pw_below_drewN | apply below_drew1 | refine below_set ?_ GE661.out | refine below_set ?_ GE678.out | refine below_set ?_ GE686.out) | exact HB.out)) hb); clear HO673; clear HO676; clear HO682; clear HO685; clear BK661; clear BK678; clear BK686; clear HB; have HO673 := n0_; have HO676 := n1_; have HO682 := n2_; have HO685 := n3_; have HO690 := n4_; have HO693 := n5_; have BK661 := n6_; have BK678 := n7_; have BK686 := n8_; have HB := n9_; clear n0_ n1_ n2_ n3_ n4_ n5_ n6_ n7_ n8_ n9_; (try clear hb); (try clear hb2); (try clear hk); (try clear hi); (try clear ho0); (try clear ho1)) | ((with_reducible refine gate_dst (N := 7) rfl ?_); refine box_event ?hg (N := 7) ?hd (cs := #[.bool false, .slice none 0 0, .slice none 0 0]) (t := 24) ?hr ?_; (case hd => rfl); (case hg => rfl); (case hr => first | (go_simp; done) | (go_simp; rfl)); intro gb695 hg w36 hbox hb; have n0_ := Aside0.mk (Kd.R_below (by (with_reducible repeat (first | apply Kd.R_alloc | apply Kd.R_drewN | apply Kd.R_drew)); exact HO673.out) hb); have n1_ := Aside0.mk (Kd.R_below (by (with_reducible repeat (first | apply Kd.R_alloc | apply Kd.R_drewN | apply Kd.R_drew)); exact HO676.out) hb); have n2_ := Aside0.mk (Kd.R_below (by (with_reducible repeat (first | apply Kd.R_alloc | apply Kd.R_drewN | apply Kd.R_drew)); exact HO682.out) hb); have n3_ := Aside0.mk (Kd.R_below (by (with_reducible repeat (first | apply Kd.R_alloc | apply Kd.R_drewN | apply Kd.R_drew)); exact HO685.out) hb); have n4_ := Aside0.mk (Kd.R_below (by (with_reducible repeat (first | apply Kd.R_alloc | apply Kd.R_drewN | apply Kd.R_drew)); exact HO690.out) hb); have n5_ := Aside0.mk (Kd.R_below (by (with_reducible repeat (first | apply Kd.R_alloc | apply Kd.R_drewN | apply Kd.R_drew)); exact HO693.out) hb); have n6_ := Aside0.mk (blk_below (g := gb661) (o := .cells #[.bool a0_0, .slice A0_1 l0_1.length c0_1, .slice A0_2 l0_2.length c0_2] 30 (0, 0)) (by (with_reducible repeat (first | refine blk_drewN ?_ _ | refine blk_drew ?_ | refine blk_alloc ?_ _)); exact BK661.out) hb); have n7_ := Aside0.mk (blk_below (g := gb678) (o := .cells #[.bool t670, .slice Ao23 t671.length co23, .slice Ao24 t674.length co24] 24 (0, 0)) (by (with_reducible repeat (first | refine blk_drewN ?_ _ | refine blk_drew ?_ | refine blk_alloc ?_ _)); exact BK678.out) hb); have n8_ := Aside0.mk (blk_below (g := gb686) (o := .cells #[.bool t679, .slice Ao31 t680.length co31, .slice Ao32 t683.length co32] 24 (0, 0)) (by (with_reducible repeat (first | refine blk_drewN ?_ _ | refine blk_drew ?_ | refine blk_alloc ?_ _)); exact BK686.out) hb); have n9_ := Aside0.mk (below_step (by repeat (first | (with_reducible first | exact HB.out | apply below_alloc | apply pw_below_drewN | apply below_drew1 | refine below_set ?_ GE661.out | refine below_set ?_ GE678.out | refine below_set ?_ GE686.out) | exact HB.out)) hb); have n10_ := Aside0.mk (hbox); have n11_ := Aside0.mk ((by rw [hg]; exact (below_size (by repeat (first | (with_reducible first | exact HB.out | apply below_alloc | apply pw_below_drewN | apply below_drew1 | refine below_set ?_ GE661.out | refine below_set ?_ GE678.out | refine below_set ?_ GE686.out) | exact HB.out))) : w.heap.size ≤ gb695)); have n12_ := Aside0.mk ((by rw [hg]; exact (below_size (by repeat (first | (with_reducible first | exact HB.out | apply below_alloc | apply pw_below_drewN | apply below_drew1 | refine below_set ?_ GE661.out | refine below_set ?_ GE678.out | refine below_set ?_ GE686.out) | exact HB.out))) : w.heap.size ≤ gb695)); have n13_ := Aside0.mk ((by rw [hg]; exact Nat.ne_of_lt (blk_lt (g := gb661) (o := .cells #[.bool a0_0, .slice A0_1 l0_1.length c0_1, .slice A0_2 l0_2.length c0_2] 30 (0, 0)) (by (with_reducible repeat (first | refine blk_drewN ?_ _ | refine blk_drew ?_ | refine blk_alloc ?_ _)); exact BK661.out)) : gb661 ≠ gb695)); have n14_ := Aside0.mk ((by rw [hg]; exact Nat.ne_of_gt (blk_lt (g := gb661) (o := .cells #[.bool a0_0, .slice A0_1 l0_1.length c0_1, .slice A0_2 l0_2.length c0_2] 30 (0, 0)) (by (with_reducible repeat (first | refine blk_drewN ?_ _ | refine blk_drew ?_ | refine blk_alloc ?_ _)); exact BK661.out)) : gb695 ≠ gb661)); have n15_ := Aside0.mk ((by rw [hg]; exact Nat.ne_of_lt (blk_lt (g := gb678) (o := .cells #[.bool t670, .slice Ao23 t671.length co23, .slice Ao24 t674.length co24] 24 (0, 0)) (by (with_reducible repeat (first | refine blk_drewN ?_ _ | refine blk_drew ?_ | refine blk_alloc ?_ _)); exact BK678.out)) : gb678 ≠ gb695)); have n16_ := Aside0.mk ((by rw [hg]; exact Nat.ne_of_gt (blk_lt (g := gb678) (o := .cells #[.bool t670, .slice Ao23 t671.length co23, .slice Ao24 t674.length co24] 24 (0, 0)) (by (with_reducible repeat (first | refine blk_drewN ?_ _ | refine blk_drew ?_ | refine blk_alloc ?_ _)); exact BK678.out)) : gb695 ≠ gb678)); have n17_ := Aside0.mk ((by rw [hg]; exact Nat.ne_of_lt (blk_lt (g := gb686) (o := .cells #[.bool t679, .slice Ao31 t680.length co31, .slice Ao32 t683.length co32] 24 (0, 0)) (by (with_reducible repeat (first | refine blk_drewN ?_ _ | refine blk_drew ?_ | refine blk_alloc ?_ _)); exact BK686.out)) : gb686 ≠ gb695)); have n18_ := Aside0.mk ((by rw [hg]; exact Nat.ne_of_gt (blk_lt (g := gb686) (o := .cells #[.bool t679, .slice Ao31 t680.length co31, .slice Ao32 t683.length co32] 24 (0, 0)) (by (with_reducible repeat (first | refine blk_drewN ?_ _ | refine blk_drew ?_ | refine blk_alloc ?_ _)); exact BK686.out)) : gb695 ≠ gb686)); clear HO673; clear HO676; clear HO682; clear HO685; clear HO690; clear HO693; clear BK661; clear BK678; clear BK686; clear HB; have HO673 := n0_; have HO676 := n1_; have HO682 := n2_; have HO685 := n3_; have HO690 := n4_; have HO693 := n5_; have BK661 := n6_; have BK678 := n7_; have BK686 := n8_; have HB := n9_; have BK695 := n10_; have GW695 := n11_; have GE695 := n12_; have NB661_695 := n13_; have NB695_661 := n14_; have NB678_695 := n15_; have NB695_678 := n16_; have NB686_695 := n17_; have NB695_686 := n18_; clear n0_ n1_ n2_ n3_ n4_ n5_ n6_ n7_ n8_ n9_ n10_ n11_ n12_ n13_ n14_ n15_ n16_ n17_ n18_; clear hb hbox hg; have hnb37 := NB695_661.out; have hnc37 := NB661_695.out; have hnb38 := NB695_678.out; have hnc38 := NB678_695.out; have hnb39 := NB695_686.out; have hnc39 := NB686_695.out; have hcz40_0 : w36.cell? ⟨gb695, 0, none⟩ = some (.bool false) := (blk_cell BK695.out 0).trans rfl; have hcz40_1 : w36.cell? ⟨gb695, 1, none⟩ = some (.slice none 0 0) := (blk_cell BK695.out 1).trans rfl; have hcz40_2 : w36.cell? ⟨gb695, 2, none⟩ = some (.slice none 0 0) := (blk_cell BK695.out 2).trans rfl; have hfz40_0 := blk_frozen BK695.out 0; have hfz40_1 := blk_frozen BK695.out 1; have hfz40_2 := blk_frozen BK695.out 2; obtain ⟨Ao41, co41, eo41⟩ := Kd.R_slice HO690.out; subst eo41; obtain ⟨Ao42, co42, eo42⟩ := Kd.R_slice HO693.out; subst eo42))
    (try simp only [Act.put, List.setIfInBounds_toArray, List.set_cons_zero, List.set_cons_succ])
    go_cut [40] (fun v40 wc => ∃ (kq : Nat) (x40_10 : Bool), v40 = .bool x40_10 ∧ Aside0 (laws_FnExactNegRat.j0 kq t677 t694 x40_10 a0_0 l0_1 l0_2 t670 t671 t674 t679 t680 t683 t687 t688 t691 = some r) ∧ Aside0 (kq ≤ k) ∧ Aside0 (Kd.R (Kd.int .i64) 3 wc w.heap.size (fun k_ => some k_ ≠ ((.slice Ao24 t674.length co24) : Value).ownBlock ∧ some k_ ≠ ((.slice Ao31 t680.length co31) : Value).ownBlock ∧ some k_ ≠ ((.slice Ao32 t683.length co32) : Value).ownBlock ∧ some k_ ≠ ((.slice Ao41 t688.length co41) : Value).ownBlock ∧ some k_ ≠ ((.slice Ao42 t691.length co42) : Value).ownBlock) (.slice Ao23 t671.length co23) t671) ∧ Aside0 (Kd.R (Kd.int .i64) 3 wc w.heap.size (fun k_ => some k_ ≠ ((.slice Ao23 t671.length co23) : Value).ownBlock ∧ some k_ ≠ ((.slice Ao31 t680.length co31) : Value).ownBlock ∧ some k_ ≠ ((.slice Ao32 t683.length co32) : Value).ownBlock ∧ some k_ ≠ ((.slice Ao41 t688.length co41) : Value).ownBlock ∧ some k_ ≠ ((.slice Ao42 t691.length co42) : Value).ownBlock) (.slice Ao24 t674.length co24) t674) ∧ Aside0 (Kd.R (Kd.int .i64) 3 wc w.heap.size (fun k_ => some k_ ≠ ((.slice Ao23 t671.length co23) : Value).ownBlock ∧ some k_ ≠ ((.slice Ao24 t674.length co24) : Value).ownBlock ∧ some k_ ≠ ((.slice Ao32 t683.length co32) : Value).ownBlock ∧ some k_ ≠ ((.slice Ao41 t688.length co41) : Value).ownBlock ∧ some k_ ≠ ((.slice Ao42 t691.length co42) : Value).ownBlock) (.slice Ao31 t680.length co31) t680) ∧ Aside0 (Kd.R (Kd.int .i64) 3 wc w.heap.size (fun k_ => some k_ ≠ ((.slice Ao23 t671.length co23) : Value).ownBlock ∧ some k_ ≠ ((.slice Ao24 t674.length co24) : Value).ownBlock ∧ some k_ ≠ ((.slice Ao31 t680.length co31) : Value).ownBlock ∧ some k_ ≠ ((.slice Ao41 t688.length co41) : Value).ownBlock ∧ some k_ ≠ ((.slice Ao42 t691.length co42) : Value).ownBlock) (.slice Ao32 t683.length co32) t683) ∧ Aside0 (Kd.R (Kd.int .i64) 3 wc w.heap.size (fun k_ => some k_ ≠ ((.slice Ao23 t671.length co23) : Value).ownBlock ∧ some k_ ≠ ((.slice Ao24 t674.length co24) : Value).ownBlock ∧ some k_ ≠ ((.slice Ao31 t680.length co31) : Value).ownBlock ∧ some k_ ≠ ((.slice Ao32 t683.length co32) : Value).ownBlock ∧ some k_ ≠ ((.slice Ao42 t691.length co42) : Value).ownBlock) (.slice Ao41 t688.length co41) t688) ∧ Aside0 (Kd.R (Kd.int .i64) 3 wc w.heap.size (fun k_ => some k_ ≠ ((.slice Ao23 t671.length co23) : Value).ownBlock ∧ some k_ ≠ ((.slice Ao24 t674.length co24) : Value).ownBlock ∧ some k_ ≠ ((.slice Ao31 t680.length co31) : Value).ownBlock ∧ some k_ ≠ ((.slice Ao32 t683.length co32) : Value).ownBlock ∧ some k_ ≠ ((.slice Ao41 t688.length co41) : Value).ownBlock) (.slice Ao42 t691.length co42) t691) ∧ Aside0 (wc.heap[gb661]? = some (.cells #[.bool a0_0, (.slice A0_1 l0_1.length c0_1), (.slice A0_2 l0_2.length c0_2)] 30 (0, 0))) ∧ Aside0 (wc.heap[gb678]? = some (.cells #[.bool t670, (.slice Ao23 t671.length co23), (.slice Ao24 t674.length co24)] 24 (0, 0))) ∧ Aside0 (wc.heap[gb686]? = some (.cells #[.bool t679, (.slice Ao31 t680.length co31), (.slice Ao32 t683.length co32)] 24 (0, 0))) ∧ Aside0 (wc.heap[gb695]? = some (.cells #[.bool t687, (.slice Ao41 t688.length co41), (.slice Ao42 t691.length co42)] 24 (0, 0))) ∧ Aside0 (Below w.heap.size w wc))
    case first =>
      have H := HC11.out
      clear HC11
      replace H := Option.bind_eq_some_iff.mp H
      obtain ⟨t696, A430, H⟩ := H
      replace H : (if t696 = true then (laws_FnExactNegRat.j0 k t677 t694 (t694 != t677) a0_0 l0_1 l0_2 t670 t671 t674 t679 t680 t683 t687 t688 t691) else (laws_FnExactNegRat.j0 k t677 t694 true a0_0 l0_1 l0_2 t670 t671 t674 t679 t680 t683 t687 t688 t691)) = some r := H
      have A43 := Aside0.mk A430
      clear A430
      by_cases c44 : t696 = true
      · subst c44
        have H1 : (laws_FnExactNegRat.j0 k t677 t694 (t694 != t677) a0_0 l0_1 l0_2 t670 t671 t674 t679 t680 t683 t687 t688 t691) = some r := by rw [if_pos rfl] at H; exact H
        clear H
        have H := H1
        clear H1
        have H' := Aside0.mk H
        clear H
        have hnb45 := NB695_661.out
        have hnc45 := NB661_695.out
        have hnb46 := NB695_678.out
        have hnc46 := NB678_695.out
        have hnb47 := NB695_686.out
        have hnc47 := NB686_695.out
        have hcz48_0 : w36.cell? ⟨gb695, 0, none⟩ = some (.bool false) := (blk_cell BK695.out 0).trans rfl
        have hcz48_1 : w36.cell? ⟨gb695, 1, none⟩ = some (.slice none 0 0) := (blk_cell BK695.out 1).trans rfl
        have hcz48_2 : w36.cell? ⟨gb695, 2, none⟩ = some (.slice none 0 0) := (blk_cell BK695.out 2).trans rfl
        have hfz48_0 := blk_frozen BK695.out 0
        have hfz48_1 := blk_frozen BK695.out 1
        have hfz48_2 := blk_frozen BK695.out 2
        have hnb49 := NB678_661.out
        have hnc49 := NB661_678.out
        have hnb50 := NB678_686.out
        have hnc50 := NB686_678.out
        have hcz51_0 : w36.cell? ⟨gb678, 0, none⟩ = some (.bool t670) := (blk_cell BK678.out 0).trans rfl
        have hcz51_1 : w36.cell? ⟨gb678, 1, none⟩ = some (.slice Ao23 t671.length co23) := (blk_cell BK678.out 1).trans rfl
        have hcz51_2 : w36.cell? ⟨gb678, 2, none⟩ = some (.slice Ao24 t674.length co24) := (blk_cell BK678.out 2).trans rfl
        have hfz51_0 := blk_frozen BK678.out 0
        have hfz51_1 := blk_frozen BK678.out 1
        have hfz51_2 := blk_frozen BK678.out 2
        go_wp2_with (first | ((with_reducible refine gate_callee (f := 17) rfl ?_); refine goesL_ (some 34) rfl rfl Try.func17 (by kernel_rfl) rfl #[.agg #[.bool t687, .slice Ao41 t688.length co41, .slice Ao42 t691.length co42], .agg #[.bool t670, .slice Ao23 t671.length co23, .slice Ao24 t674.length co24]] rfl (by (try simp only [List.map_toArray, List.map_cons, List.map_nil]); first | done | rfl | (simp only [List.length_drop, List.length_take]; rfl)) ?_; (with_reducible refine (laws_eqRat.calls k t687 _ _ t688 _ _ t691 t670 _ _ t671 _ _ t674 true _ ?side1 ?side2 ?side3 ?side4 ?side5 ?side6 ?side7 ?side8 A43.out).mono ?_); (case side1 => refine (Kd.R_reads' (e := 3) (base := w.heap.size) (ok := fun k_ => ((((some k_ ≠ (.slice Ao42 t691.length co42 : Value).ownBlock ∧ some k_ ≠ (.slice Ao23 t671.length co23 : Value).ownBlock) ∧ some k_ ≠ (.slice Ao24 t674.length co24 : Value).ownBlock) ∧ some k_ ≠ (.slice Ao31 t680.length co31 : Value).ownBlock) ∧ some k_ ≠ (.slice Ao32 t683.length co32 : Value).ownBlock)) (n := t688.length) (c := co41) ?_).2.2; exact (by (with_reducible repeat (first | apply Kd.R_alloc | apply Kd.R_drewN | apply Kd.R_drew)); exact (Kd.R_mono (Kd.R_far (p := ⟨gb695, 2, none⟩) (Kd.R_far (p := ⟨gb695, 1, none⟩) (Kd.R_far (p := ⟨gb695, 0, none⟩) (Kd.R_types HO690.out BK695.out (by decide)) (fun _ hk => hk.2) (.bool t687)) (fun _ hk => hk.2) (.slice Ao41 t688.length co41)) (fun _ hk => hk.2) (.slice Ao42 t691.length co42)) (fun _ h_ => h_.1)))); (case side2 => exact (Kd.R_reads' HO690.out).2.1); (case side3 => refine (Kd.R_reads' (e := 3) (base := w.heap.size) (ok := fun k_ => ((((some k_ ≠ (.slice Ao41 t688.length co41 : Value).ownBlock ∧ some k_ ≠ (.slice Ao23 t671.length co23 : Value).ownBlock) ∧ some k_ ≠ (.slice Ao24 t674.length co24 : Value).ownBlock) ∧ some k_ ≠ (.slice Ao31 t680.length co31 : Value).ownBlock) ∧ some k_ ≠ (.slice Ao32 t683.length co32 : Value).ownBlock)) (n := t691.length) (c := co42) ?_).2.2; exact (by (with_reducible repeat (first | apply Kd.R_alloc | apply Kd.R_drewN | apply Kd.R_drew)); exact (Kd.R_mono (Kd.R_far (p := ⟨gb695, 2, none⟩) (Kd.R_far (p := ⟨gb695, 1, none⟩) (Kd.R_far (p := ⟨gb695, 0, none⟩) (Kd.R_types HO693.out BK695.out (by decide)) (fun _ hk => hk.2) (.bool t687)) (fun _ hk => hk.2) (.slice Ao41 t688.length co41)) (fun _ hk => hk.2) (.slice Ao42 t691.length co42)) (fun _ h_ => h_.1)))); (case side4 => exact (Kd.R_reads' HO693.out).2.1); (case side5 => refine (Kd.R_reads' (e := 3) (base := w.heap.size) (ok := fun k_ => (((some k_ ≠ (.slice Ao24 t674.length co24 : Value).ownBlock ∧ (some k_ ≠ (.slice Ao31 t680.length co31 : Value).ownBlock ∧ some k_ ≠ (.slice Ao32 t683.length co32 : Value).ownBlock)) ∧ some k_ ≠ (.slice Ao41 t688.length co41 : Value).ownBlock) ∧ some k_ ≠ (.slice Ao42 t691.length co42 : Value).ownBlock)) (n := t671.length) (c := co23) ?_).2.2; exact (by (with_reducible repeat (first | apply Kd.R_alloc | apply Kd.R_drewN | apply Kd.R_drew)); exact (Kd.R_mono (Kd.R_far (p := ⟨gb695, 2, none⟩) (Kd.R_far (p := ⟨gb695, 1, none⟩) (Kd.R_far (p := ⟨gb695, 0, none⟩) (Kd.R_types HO673.out BK695.out (by decide)) (fun _ hk => hk.2) (.bool t687)) (fun _ hk => hk.2) (.slice Ao41 t688.length co41)) (fun _ hk => hk.2) (.slice Ao42 t691.length co42)) (fun _ h_ => h_.1)))); (case side6 => exact (Kd.R_reads' HO673.out).2.1); (case side7 => refine (Kd.R_reads' (e := 3) (base := w.heap.size) (ok := fun k_ => (((some k_ ≠ (.slice Ao23 t671.length co23 : Value).ownBlock ∧ (some k_ ≠ (.slice Ao31 t680.length co31 : Value).ownBlock ∧ some k_ ≠ (.slice Ao32 t683.length co32 : Value).ownBlock)) ∧ some k_ ≠ (.slice Ao41 t688.length co41 : Value).ownBlock) ∧ some k_ ≠ (.slice Ao42 t691.length co42 : Value).ownBlock)) (n := t674.length) (c := co24) ?_).2.2; exact (by (with_reducible repeat (first | apply Kd.R_alloc | apply Kd.R_drewN | apply Kd.R_drew)); exact (Kd.R_mono (Kd.R_far (p := ⟨gb695, 2, none⟩) (Kd.R_far (p := ⟨gb695, 1, none⟩) (Kd.R_far (p := ⟨gb695, 0, none⟩) (Kd.R_types HO676.out BK695.out (by decide)) (fun _ hk => hk.2) (.bool t687)) (fun _ hk => hk.2) (.slice Ao41 t688.length co41)) (fun _ hk => hk.2) (.slice Ao42 t691.length co42)) (fun _ h_ => h_.1)))); (case side8 => exact (Kd.R_reads' HO676.out).2.1); rintro e w52 ⟨rfl, hb⟩; refine ⟨_, rfl, ?_⟩; have n0_ := Aside0.mk (Kd.R_below (by (with_reducible repeat (first | apply Kd.R_alloc | apply Kd.R_drewN | apply Kd.R_drew)); exact (Kd.R_mono (Kd.R_far (p := ⟨gb695, 2, none⟩) (Kd.R_far (p := ⟨gb695, 1, none⟩) (Kd.R_far (p := ⟨gb695, 0, none⟩) (Kd.R_types HO673.out BK695.out (by decide)) (fun _ hk => hk.2) (.bool t687)) (fun _ hk => hk.2) (.slice Ao41 t688.length co41)) (fun _ hk => hk.2) (.slice Ao42 t691.length co42)) (fun _ h_ => h_.1))) hb); have n1_ := Aside0.mk (Kd.R_below (by (with_reducible repeat (first | apply Kd.R_alloc | apply Kd.R_drewN | apply Kd.R_drew)); exact (Kd.R_mono (Kd.R_far (p := ⟨gb695, 2, none⟩) (Kd.R_far (p := ⟨gb695, 1, none⟩) (Kd.R_far (p := ⟨gb695, 0, none⟩) (Kd.R_types HO676.out BK695.out (by decide)) (fun _ hk => hk.2) (.bool t687)) (fun _ hk => hk.2) (.slice Ao41 t688.length co41)) (fun _ hk => hk.2) (.slice Ao42 t691.length co42)) (fun _ h_ => h_.1))) hb); have n2_ := Aside0.mk (Kd.R_below (by (with_reducible repeat (first | apply Kd.R_alloc | apply Kd.R_drewN | apply Kd.R_drew)); exact (Kd.R_mono (Kd.R_far (p := ⟨gb695, 2, none⟩) (Kd.R_far (p := ⟨gb695, 1, none⟩) (Kd.R_far (p := ⟨gb695, 0, none⟩) (Kd.R_types HO682.out BK695.out (by decide)) (fun _ hk => hk.2) (.bool t687)) (fun _ hk => hk.2) (.slice Ao41 t688.length co41)) (fun _ hk => hk.2) (.slice Ao42 t691.length co42)) (fun _ h_ => h_.1))) hb); have n3_ := Aside0.mk (Kd.R_below (by (with_reducible repeat (first | apply Kd.R_alloc | apply Kd.R_drewN | apply Kd.R_drew)); exact (Kd.R_mono (Kd.R_far (p := ⟨gb695, 2, none⟩) (Kd.R_far (p := ⟨gb695, 1, none⟩) (Kd.R_far (p := ⟨gb695, 0, none⟩) (Kd.R_types HO685.out BK695.out (by decide)) (fun _ hk => hk.2) (.bool t687)) (fun _ hk => hk.2) (.slice Ao41 t688.length co41)) (fun _ hk => hk.2) (.slice Ao42 t691.length co42)) (fun _ h_ => h_.1))) hb); have n4_ := Aside0.mk (Kd.R_below (by (with_reducible repeat (first | apply Kd.R_alloc | apply Kd.R_drewN | apply Kd.R_drew)); exact (Kd.R_mono (Kd.R_far (p := ⟨gb695, 2, none⟩) (Kd.R_far (p := ⟨gb695, 1, none⟩) (Kd.R_far (p := ⟨gb695, 0, none⟩) (Kd.R_types HO690.out BK695.out (by decide)) (fun _ hk => hk.2) (.bool t687)) (fun _ hk => hk.2) (.slice Ao41 t688.length co41)) (fun _ hk => hk.2) (.slice Ao42 t691.length co42)) (fun _ h_ => h_.1))) hb); have n5_ := Aside0.mk (Kd.R_below (by (with_reducible repeat (first | apply Kd.R_alloc | apply Kd.R_drewN | apply Kd.R_drew)); exact (Kd.R_mono (Kd.R_far (p := ⟨gb695, 2, none⟩) (Kd.R_far (p := ⟨gb695, 1, none⟩) (Kd.R_far (p := ⟨gb695, 0, none⟩) (Kd.R_types HO693.out BK695.out (by decide)) (fun _ hk => hk.2) (.bool t687)) (fun _ hk => hk.2) (.slice Ao41 t688.length co41)) (fun _ hk => hk.2) (.slice Ao42 t691.length co42)) (fun _ h_ => h_.1))) hb); have n6_ := Aside0.mk (blk_below (g := gb661) (o := .cells #[.bool a0_0, .slice A0_1 l0_1.length c0_1, .slice A0_2 l0_2.length c0_2] 30 (0, 0)) (by (with_reducible repeat (first | refine blk_drewN ?_ _ | refine blk_drew ?_ | refine blk_alloc ?_ _)); refine blk_far ?_ NB661_695.out _; (with_reducible repeat (first | refine blk_drewN ?_ _ | refine blk_drew ?_ | refine blk_alloc ?_ _)); refine blk_far ?_ NB661_695.out _; (with_reducible repeat (first | refine blk_drewN ?_ _ | refine blk_drew ?_ | refine blk_alloc ?_ _)); refine blk_far ?_ NB661_695.out _; (with_reducible repeat (first | refine blk_drewN ?_ _ | refine blk_drew ?_ | refine blk_alloc ?_ _)); exact BK661.out) hb); have n7_ := Aside0.mk (blk_below (g := gb678) (o := .cells #[.bool t670, .slice Ao23 t671.length co23, .slice Ao24 t674.length co24] 24 (0, 0)) (by (with_reducible repeat (first | refine blk_drewN ?_ _ | refine blk_drew ?_ | refine blk_alloc ?_ _)); refine blk_far ?_ NB678_695.out _; (with_reducible repeat (first | refine blk_drewN ?_ _ | refine blk_drew ?_ | refine blk_alloc ?_ _)); refine blk_far ?_ NB678_695.out _; (with_reducible repeat (first | refine blk_drewN ?_ _ | refine blk_drew ?_ | refine blk_alloc ?_ _)); refine blk_far ?_ NB678_695.out _; (with_reducible repeat (first | refine blk_drewN ?_ _ | refine blk_drew ?_ | refine blk_alloc ?_ _)); exact BK678.out) hb); have n8_ := Aside0.mk (blk_below (g := gb686) (o := .cells #[.bool t679, .slice Ao31 t680.length co31, .slice Ao32 t683.length co32] 24 (0, 0)) (by (with_reducible repeat (first | refine blk_drewN ?_ _ | refine blk_drew ?_ | refine blk_alloc ?_ _)); refine blk_far ?_ NB686_695.out _; (with_reducible repeat (first | refine blk_drewN ?_ _ | refine blk_drew ?_ | refine blk_alloc ?_ _)); refine blk_far ?_ NB686_695.out _; (with_reducible repeat (first | refine blk_drewN ?_ _ | refine blk_drew ?_ | refine blk_alloc ?_ _)); refine blk_far ?_ NB686_695.out _; (with_reducible repeat (first | refine blk_drewN ?_ _ | refine blk_drew ?_ | refine blk_alloc ?_ _)); exact BK686.out) hb); have n9_ := Aside0.mk (blk_below (g := gb695) (o := .cells #[.bool t687, .slice Ao41 t688.length co41, .slice Ao42 t691.length co42] 24 (0, 0)) (by (with_reducible repeat (first | refine blk_drewN ?_ _ | refine blk_drew ?_ | refine blk_alloc ?_ _)); refine blk_put (cs := #[.bool t687, .slice Ao41 t688.length co41, .slice none 0 0]) ?_ 2 _ rfl; (with_reducible repeat (first | refine blk_drewN ?_ _ | refine blk_drew ?_ | refine blk_alloc ?_ _)); refine blk_put (cs := #[.bool t687, .slice none 0 0, .slice none 0 0]) ?_ 1 _ rfl; (with_reducible repeat (first | refine blk_drewN ?_ _ | refine blk_drew ?_ | refine blk_alloc ?_ _)); refine blk_put (cs := #[.bool false, .slice none 0 0, .slice none 0 0]) ?_ 0 _ rfl; (with_reducible repeat (first | refine blk_drewN ?_ _ | refine blk_drew ?_ | refine blk_alloc ?_ _)); exact BK695.out) hb); have n10_ := Aside0.mk (below_step (by repeat (first | (with_reducible first | exact HB.out | apply below_alloc | apply pw_below_drewN | apply below_drew1 | refine below_set ?_ GE661.out | refine below_set ?_ GE678.out | refine below_set ?_ GE686.out | refine below_set ?_ GE695.out) | exact HB.out)) hb); clear HO673; clear HO676; clear HO682; clear HO685; clear HO690; clear HO693; clear BK661; clear BK678; clear BK686; clear BK695; clear HB; have HO673 := n0_; have HO676 := n1_; have HO682 := n2_; have HO685 := n3_; have HO690 := n4_; have HO693 := n5_; have BK661 := n6_; have BK678 := n7_; have BK686 := n8_; have BK695 := n9_; have HB := n10_; clear n0_ n1_ n2_ n3_ n4_ n5_ n6_ n7_ n8_ n9_ n10_; (try clear hb); (try clear hb2); (try clear hk); (try clear hi)))
        go_meet
        case rel => exact ⟨_, ((t694 != t677)), (by first | rfl | (simp; done) | (simp [*]; done)), H', ⟨by first | omega | exact Nat.le_refl _⟩, ⟨by (with_reducible repeat (first | apply Kd.R_alloc | apply Kd.R_drewN | apply Kd.R_drew)); exact Kd.R_mono HO673.out (fun _ hk => ⟨hk.1.1.1, ⟨hk.1.1.2.1, ⟨hk.1.1.2.2, ⟨hk.1.2, hk.2⟩⟩⟩⟩)⟩, ⟨by (with_reducible repeat (first | apply Kd.R_alloc | apply Kd.R_drewN | apply Kd.R_drew)); exact Kd.R_mono HO676.out (fun _ hk => ⟨hk.1.1.1, ⟨hk.1.1.2.1, ⟨hk.1.1.2.2, ⟨hk.1.2, hk.2⟩⟩⟩⟩)⟩, ⟨by (with_reducible repeat (first | apply Kd.R_alloc | apply Kd.R_drewN | apply Kd.R_drew)); exact Kd.R_mono HO682.out (fun _ hk => ⟨hk.1.1.1, ⟨hk.1.1.2.1, ⟨hk.1.1.2.2, ⟨hk.1.2, hk.2⟩⟩⟩⟩)⟩, ⟨by (with_reducible repeat (first | apply Kd.R_alloc | apply Kd.R_drewN | apply Kd.R_drew)); exact Kd.R_mono HO685.out (fun _ hk => ⟨hk.1.1.1, ⟨hk.1.1.2.1, ⟨hk.1.1.2.2, ⟨hk.1.2, hk.2⟩⟩⟩⟩)⟩, ⟨by (with_reducible repeat (first | apply Kd.R_alloc | apply Kd.R_drewN | apply Kd.R_drew)); exact Kd.R_mono HO690.out (fun _ hk => ⟨hk.1.1.1.2, ⟨hk.1.1.2, ⟨hk.1.2, ⟨hk.2, hk.1.1.1.1⟩⟩⟩⟩)⟩, ⟨by (with_reducible repeat (first | apply Kd.R_alloc | apply Kd.R_drewN | apply Kd.R_drew)); exact Kd.R_mono HO693.out (fun _ hk => ⟨hk.1.1.1.2, ⟨hk.1.1.2, ⟨hk.1.2, ⟨hk.2, hk.1.1.1.1⟩⟩⟩⟩)⟩, ⟨by (with_reducible repeat (first | refine blk_drewN ?_ _ | refine blk_drew ?_ | refine blk_alloc ?_ _)); exact BK661.out⟩, ⟨by (with_reducible repeat (first | refine blk_drewN ?_ _ | refine blk_drew ?_ | refine blk_alloc ?_ _)); exact BK678.out⟩, ⟨by (with_reducible repeat (first | refine blk_drewN ?_ _ | refine blk_drew ?_ | refine blk_alloc ?_ _)); exact BK686.out⟩, ⟨by (with_reducible repeat (first | refine blk_drewN ?_ _ | refine blk_drew ?_ | refine blk_alloc ?_ _)); exact BK695.out⟩, ⟨by repeat (first | (with_reducible first | exact HB.out | apply below_alloc | apply pw_below_drewN | apply below_drew1 | refine below_set ?_ GE661.out | refine below_set ?_ GE678.out | refine below_set ?_ GE686.out | refine below_set ?_ GE695.out) | exact HB.out)⟩⟩
      · replace c44 := Bool.eq_false_iff.mpr c44
        subst c44
        have H1 : (laws_FnExactNegRat.j0 k t677 t694 true a0_0 l0_1 l0_2 t670 t671 t674 t679 t680 t683 t687 t688 t691) = some r := by rw [if_neg (show ¬ (false = true) by decide)] at H; exact H
        clear H
        have H := H1
        clear H1
        have H' := Aside0.mk H
        clear H
        have hnb53 := NB695_661.out
        have hnc53 := NB661_695.out
        have hnb54 := NB695_678.out
        have hnc54 := NB678_695.out
        have hnb55 := NB695_686.out
        have hnc55 := NB686_695.out
        have hcz56_0 : w36.cell? ⟨gb695, 0, none⟩ = some (.bool false) := (blk_cell BK695.out 0).trans rfl
        have hcz56_1 : w36.cell? ⟨gb695, 1, none⟩ = some (.slice none 0 0) := (blk_cell BK695.out 1).trans rfl
        have hcz56_2 : w36.cell? ⟨gb695, 2, none⟩ = some (.slice none 0 0) := (blk_cell BK695.out 2).trans rfl
        have hfz56_0 := blk_frozen BK695.out 0
        have hfz56_1 := blk_frozen BK695.out 1
        have hfz56_2 := blk_frozen BK695.out 2
        have hnb57 := NB678_661.out
        have hnc57 := NB661_678.out
        have hnb58 := NB678_686.out
        have hnc58 := NB686_678.out
        have hcz59_0 : w36.cell? ⟨gb678, 0, none⟩ = some (.bool t670) := (blk_cell BK678.out 0).trans rfl
        have hcz59_1 : w36.cell? ⟨gb678, 1, none⟩ = some (.slice Ao23 t671.length co23) := (blk_cell BK678.out 1).trans rfl
        have hcz59_2 : w36.cell? ⟨gb678, 2, none⟩ = some (.slice Ao24 t674.length co24) := (blk_cell BK678.out 2).trans rfl
        have hfz59_0 := blk_frozen BK678.out 0
        have hfz59_1 := blk_frozen BK678.out 1
        have hfz59_2 := blk_frozen BK678.out 2
        go_wp2_with (first | ((with_reducible refine gate_callee (f := 17) rfl ?_); refine goesL_ (some 34) rfl rfl Try.func17 (by kernel_rfl) rfl #[.agg #[.bool t687, .slice Ao41 t688.length co41, .slice Ao42 t691.length co42], .agg #[.bool t670, .slice Ao23 t671.length co23, .slice Ao24 t674.length co24]] rfl (by (try simp only [List.map_toArray, List.map_cons, List.map_nil]); first | done | rfl | (simp only [List.length_drop, List.length_take]; rfl)) ?_; (with_reducible refine (laws_eqRat.calls k t687 _ _ t688 _ _ t691 t670 _ _ t671 _ _ t674 false _ ?side1 ?side2 ?side3 ?side4 ?side5 ?side6 ?side7 ?side8 A43.out).mono ?_); (case side1 => refine (Kd.R_reads' (e := 3) (base := w.heap.size) (ok := fun k_ => ((((some k_ ≠ (.slice Ao42 t691.length co42 : Value).ownBlock ∧ some k_ ≠ (.slice Ao23 t671.length co23 : Value).ownBlock) ∧ some k_ ≠ (.slice Ao24 t674.length co24 : Value).ownBlock) ∧ some k_ ≠ (.slice Ao31 t680.length co31 : Value).ownBlock) ∧ some k_ ≠ (.slice Ao32 t683.length co32 : Value).ownBlock)) (n := t688.length) (c := co41) ?_).2.2; exact (by (with_reducible repeat (first | apply Kd.R_alloc | apply Kd.R_drewN | apply Kd.R_drew)); exact (Kd.R_mono (Kd.R_far (p := ⟨gb695, 2, none⟩) (Kd.R_far (p := ⟨gb695, 1, none⟩) (Kd.R_far (p := ⟨gb695, 0, none⟩) (Kd.R_types HO690.out BK695.out (by decide)) (fun _ hk => hk.2) (.bool t687)) (fun _ hk => hk.2) (.slice Ao41 t688.length co41)) (fun _ hk => hk.2) (.slice Ao42 t691.length co42)) (fun _ h_ => h_.1)))); (case side2 => exact (Kd.R_reads' HO690.out).2.1); (case side3 => refine (Kd.R_reads' (e := 3) (base := w.heap.size) (ok := fun k_ => ((((some k_ ≠ (.slice Ao41 t688.length co41 : Value).ownBlock ∧ some k_ ≠ (.slice Ao23 t671.length co23 : Value).ownBlock) ∧ some k_ ≠ (.slice Ao24 t674.length co24 : Value).ownBlock) ∧ some k_ ≠ (.slice Ao31 t680.length co31 : Value).ownBlock) ∧ some k_ ≠ (.slice Ao32 t683.length co32 : Value).ownBlock)) (n := t691.length) (c := co42) ?_).2.2; exact (by (with_reducible repeat (first | apply Kd.R_alloc | apply Kd.R_drewN | apply Kd.R_drew)); exact (Kd.R_mono (Kd.R_far (p := ⟨gb695, 2, none⟩) (Kd.R_far (p := ⟨gb695, 1, none⟩) (Kd.R_far (p := ⟨gb695, 0, none⟩) (Kd.R_types HO693.out BK695.out (by decide)) (fun _ hk => hk.2) (.bool t687)) (fun _ hk => hk.2) (.slice Ao41 t688.length co41)) (fun _ hk => hk.2) (.slice Ao42 t691.length co42)) (fun _ h_ => h_.1)))); (case side4 => exact (Kd.R_reads' HO693.out).2.1); (case side5 => refine (Kd.R_reads' (e := 3) (base := w.heap.size) (ok := fun k_ => (((some k_ ≠ (.slice Ao24 t674.length co24 : Value).ownBlock ∧ (some k_ ≠ (.slice Ao31 t680.length co31 : Value).ownBlock ∧ some k_ ≠ (.slice Ao32 t683.length co32 : Value).ownBlock)) ∧ some k_ ≠ (.slice Ao41 t688.length co41 : Value).ownBlock) ∧ some k_ ≠ (.slice Ao42 t691.length co42 : Value).ownBlock)) (n := t671.length) (c := co23) ?_).2.2; exact (by (with_reducible repeat (first | apply Kd.R_alloc | apply Kd.R_drewN | apply Kd.R_drew)); exact (Kd.R_mono (Kd.R_far (p := ⟨gb695, 2, none⟩) (Kd.R_far (p := ⟨gb695, 1, none⟩) (Kd.R_far (p := ⟨gb695, 0, none⟩) (Kd.R_types HO673.out BK695.out (by decide)) (fun _ hk => hk.2) (.bool t687)) (fun _ hk => hk.2) (.slice Ao41 t688.length co41)) (fun _ hk => hk.2) (.slice Ao42 t691.length co42)) (fun _ h_ => h_.1)))); (case side6 => exact (Kd.R_reads' HO673.out).2.1); (case side7 => refine (Kd.R_reads' (e := 3) (base := w.heap.size) (ok := fun k_ => (((some k_ ≠ (.slice Ao23 t671.length co23 : Value).ownBlock ∧ (some k_ ≠ (.slice Ao31 t680.length co31 : Value).ownBlock ∧ some k_ ≠ (.slice Ao32 t683.length co32 : Value).ownBlock)) ∧ some k_ ≠ (.slice Ao41 t688.length co41 : Value).ownBlock) ∧ some k_ ≠ (.slice Ao42 t691.length co42 : Value).ownBlock)) (n := t674.length) (c := co24) ?_).2.2; exact (by (with_reducible repeat (first | apply Kd.R_alloc | apply Kd.R_drewN | apply Kd.R_drew)); exact (Kd.R_mono (Kd.R_far (p := ⟨gb695, 2, none⟩) (Kd.R_far (p := ⟨gb695, 1, none⟩) (Kd.R_far (p := ⟨gb695, 0, none⟩) (Kd.R_types HO676.out BK695.out (by decide)) (fun _ hk => hk.2) (.bool t687)) (fun _ hk => hk.2) (.slice Ao41 t688.length co41)) (fun _ hk => hk.2) (.slice Ao42 t691.length co42)) (fun _ h_ => h_.1)))); (case side8 => exact (Kd.R_reads' HO676.out).2.1); rintro e w60 ⟨rfl, hb⟩; refine ⟨_, rfl, ?_⟩; have n0_ := Aside0.mk (Kd.R_below (by (with_reducible repeat (first | apply Kd.R_alloc | apply Kd.R_drewN | apply Kd.R_drew)); exact (Kd.R_mono (Kd.R_far (p := ⟨gb695, 2, none⟩) (Kd.R_far (p := ⟨gb695, 1, none⟩) (Kd.R_far (p := ⟨gb695, 0, none⟩) (Kd.R_types HO673.out BK695.out (by decide)) (fun _ hk => hk.2) (.bool t687)) (fun _ hk => hk.2) (.slice Ao41 t688.length co41)) (fun _ hk => hk.2) (.slice Ao42 t691.length co42)) (fun _ h_ => h_.1))) hb); have n1_ := Aside0.mk (Kd.R_below (by (with_reducible repeat (first | apply Kd.R_alloc | apply Kd.R_drewN | apply Kd.R_drew)); exact (Kd.R_mono (Kd.R_far (p := ⟨gb695, 2, none⟩) (Kd.R_far (p := ⟨gb695, 1, none⟩) (Kd.R_far (p := ⟨gb695, 0, none⟩) (Kd.R_types HO676.out BK695.out (by decide)) (fun _ hk => hk.2) (.bool t687)) (fun _ hk => hk.2) (.slice Ao41 t688.length co41)) (fun _ hk => hk.2) (.slice Ao42 t691.length co42)) (fun _ h_ => h_.1))) hb); have n2_ := Aside0.mk (Kd.R_below (by (with_reducible repeat (first | apply Kd.R_alloc | apply Kd.R_drewN | apply Kd.R_drew)); exact (Kd.R_mono (Kd.R_far (p := ⟨gb695, 2, none⟩) (Kd.R_far (p := ⟨gb695, 1, none⟩) (Kd.R_far (p := ⟨gb695, 0, none⟩) (Kd.R_types HO682.out BK695.out (by decide)) (fun _ hk => hk.2) (.bool t687)) (fun _ hk => hk.2) (.slice Ao41 t688.length co41)) (fun _ hk => hk.2) (.slice Ao42 t691.length co42)) (fun _ h_ => h_.1))) hb); have n3_ := Aside0.mk (Kd.R_below (by (with_reducible repeat (first | apply Kd.R_alloc | apply Kd.R_drewN | apply Kd.R_drew)); exact (Kd.R_mono (Kd.R_far (p := ⟨gb695, 2, none⟩) (Kd.R_far (p := ⟨gb695, 1, none⟩) (Kd.R_far (p := ⟨gb695, 0, none⟩) (Kd.R_types HO685.out BK695.out (by decide)) (fun _ hk => hk.2) (.bool t687)) (fun _ hk => hk.2) (.slice Ao41 t688.length co41)) (fun _ hk => hk.2) (.slice Ao42 t691.length co42)) (fun _ h_ => h_.1))) hb); have n4_ := Aside0.mk (Kd.R_below (by (with_reducible repeat (first | apply Kd.R_alloc | apply Kd.R_drewN | apply Kd.R_drew)); exact (Kd.R_mono (Kd.R_far (p := ⟨gb695, 2, none⟩) (Kd.R_far (p := ⟨gb695, 1, none⟩) (Kd.R_far (p := ⟨gb695, 0, none⟩) (Kd.R_types HO690.out BK695.out (by decide)) (fun _ hk => hk.2) (.bool t687)) (fun _ hk => hk.2) (.slice Ao41 t688.length co41)) (fun _ hk => hk.2) (.slice Ao42 t691.length co42)) (fun _ h_ => h_.1))) hb); have n5_ := Aside0.mk (Kd.R_below (by (with_reducible repeat (first | apply Kd.R_alloc | apply Kd.R_drewN | apply Kd.R_drew)); exact (Kd.R_mono (Kd.R_far (p := ⟨gb695, 2, none⟩) (Kd.R_far (p := ⟨gb695, 1, none⟩) (Kd.R_far (p := ⟨gb695, 0, none⟩) (Kd.R_types HO693.out BK695.out (by decide)) (fun _ hk => hk.2) (.bool t687)) (fun _ hk => hk.2) (.slice Ao41 t688.length co41)) (fun _ hk => hk.2) (.slice Ao42 t691.length co42)) (fun _ h_ => h_.1))) hb); have n6_ := Aside0.mk (blk_below (g := gb661) (o := .cells #[.bool a0_0, .slice A0_1 l0_1.length c0_1, .slice A0_2 l0_2.length c0_2] 30 (0, 0)) (by (with_reducible repeat (first | refine blk_drewN ?_ _ | refine blk_drew ?_ | refine blk_alloc ?_ _)); refine blk_far ?_ NB661_695.out _; (with_reducible repeat (first | refine blk_drewN ?_ _ | refine blk_drew ?_ | refine blk_alloc ?_ _)); refine blk_far ?_ NB661_695.out _; (with_reducible repeat (first | refine blk_drewN ?_ _ | refine blk_drew ?_ | refine blk_alloc ?_ _)); refine blk_far ?_ NB661_695.out _; (with_reducible repeat (first | refine blk_drewN ?_ _ | refine blk_drew ?_ | refine blk_alloc ?_ _)); exact BK661.out) hb); have n7_ := Aside0.mk (blk_below (g := gb678) (o := .cells #[.bool t670, .slice Ao23 t671.length co23, .slice Ao24 t674.length co24] 24 (0, 0)) (by (with_reducible repeat (first | refine blk_drewN ?_ _ | refine blk_drew ?_ | refine blk_alloc ?_ _)); refine blk_far ?_ NB678_695.out _; (with_reducible repeat (first | refine blk_drewN ?_ _ | refine blk_drew ?_ | refine blk_alloc ?_ _)); refine blk_far ?_ NB678_695.out _; (with_reducible repeat (first | refine blk_drewN ?_ _ | refine blk_drew ?_ | refine blk_alloc ?_ _)); refine blk_far ?_ NB678_695.out _; (with_reducible repeat (first | refine blk_drewN ?_ _ | refine blk_drew ?_ | refine blk_alloc ?_ _)); exact BK678.out) hb); have n8_ := Aside0.mk (blk_below (g := gb686) (o := .cells #[.bool t679, .slice Ao31 t680.length co31, .slice Ao32 t683.length co32] 24 (0, 0)) (by (with_reducible repeat (first | refine blk_drewN ?_ _ | refine blk_drew ?_ | refine blk_alloc ?_ _)); refine blk_far ?_ NB686_695.out _; (with_reducible repeat (first | refine blk_drewN ?_ _ | refine blk_drew ?_ | refine blk_alloc ?_ _)); refine blk_far ?_ NB686_695.out _; (with_reducible repeat (first | refine blk_drewN ?_ _ | refine blk_drew ?_ | refine blk_alloc ?_ _)); refine blk_far ?_ NB686_695.out _; (with_reducible repeat (first | refine blk_drewN ?_ _ | refine blk_drew ?_ | refine blk_alloc ?_ _)); exact BK686.out) hb); have n9_ := Aside0.mk (blk_below (g := gb695) (o := .cells #[.bool t687, .slice Ao41 t688.length co41, .slice Ao42 t691.length co42] 24 (0, 0)) (by (with_reducible repeat (first | refine blk_drewN ?_ _ | refine blk_drew ?_ | refine blk_alloc ?_ _)); refine blk_put (cs := #[.bool t687, .slice Ao41 t688.length co41, .slice none 0 0]) ?_ 2 _ rfl; (with_reducible repeat (first | refine blk_drewN ?_ _ | refine blk_drew ?_ | refine blk_alloc ?_ _)); refine blk_put (cs := #[.bool t687, .slice none 0 0, .slice none 0 0]) ?_ 1 _ rfl; (with_reducible repeat (first | refine blk_drewN ?_ _ | refine blk_drew ?_ | refine blk_alloc ?_ _)); refine blk_put (cs := #[.bool false, .slice none 0 0, .slice none 0 0]) ?_ 0 _ rfl; (with_reducible repeat (first | refine blk_drewN ?_ _ | refine blk_drew ?_ | refine blk_alloc ?_ _)); exact BK695.out) hb); have n10_ := Aside0.mk (below_step (by repeat (first | (with_reducible first | exact HB.out | apply below_alloc | apply pw_below_drewN | apply below_drew1 | refine below_set ?_ GE661.out | refine below_set ?_ GE678.out | refine below_set ?_ GE686.out | refine below_set ?_ GE695.out) | exact HB.out)) hb); clear HO673; clear HO676; clear HO682; clear HO685; clear HO690; clear HO693; clear BK661; clear BK678; clear BK686; clear BK695; clear HB; have HO673 := n0_; have HO676 := n1_; have HO682 := n2_; have HO685 := n3_; have HO690 := n4_; have HO693 := n5_; have BK661 := n6_; have BK678 := n7_; have BK686 := n8_; have BK695 := n9_; have HB := n10_; clear n0_ n1_ n2_ n3_ n4_ n5_ n6_ n7_ n8_ n9_ n10_; (try clear hb); (try clear hb2); (try clear hk); (try clear hi)))
        go_meet
        case rel => exact ⟨_, (true), (by first | rfl | (simp; done) | (simp [*]; done)), H', ⟨by first | omega | exact Nat.le_refl _⟩, ⟨by (with_reducible repeat (first | apply Kd.R_alloc | apply Kd.R_drewN | apply Kd.R_drew)); exact Kd.R_mono HO673.out (fun _ hk => ⟨hk.1.1.1, ⟨hk.1.1.2.1, ⟨hk.1.1.2.2, ⟨hk.1.2, hk.2⟩⟩⟩⟩)⟩, ⟨by (with_reducible repeat (first | apply Kd.R_alloc | apply Kd.R_drewN | apply Kd.R_drew)); exact Kd.R_mono HO676.out (fun _ hk => ⟨hk.1.1.1, ⟨hk.1.1.2.1, ⟨hk.1.1.2.2, ⟨hk.1.2, hk.2⟩⟩⟩⟩)⟩, ⟨by (with_reducible repeat (first | apply Kd.R_alloc | apply Kd.R_drewN | apply Kd.R_drew)); exact Kd.R_mono HO682.out (fun _ hk => ⟨hk.1.1.1, ⟨hk.1.1.2.1, ⟨hk.1.1.2.2, ⟨hk.1.2, hk.2⟩⟩⟩⟩)⟩, ⟨by (with_reducible repeat (first | apply Kd.R_alloc | apply Kd.R_drewN | apply Kd.R_drew)); exact Kd.R_mono HO685.out (fun _ hk => ⟨hk.1.1.1, ⟨hk.1.1.2.1, ⟨hk.1.1.2.2, ⟨hk.1.2, hk.2⟩⟩⟩⟩)⟩, ⟨by (with_reducible repeat (first | apply Kd.R_alloc | apply Kd.R_drewN | apply Kd.R_drew)); exact Kd.R_mono HO690.out (fun _ hk => ⟨hk.1.1.1.2, ⟨hk.1.1.2, ⟨hk.1.2, ⟨hk.2, hk.1.1.1.1⟩⟩⟩⟩)⟩, ⟨by (with_reducible repeat (first | apply Kd.R_alloc | apply Kd.R_drewN | apply Kd.R_drew)); exact Kd.R_mono HO693.out (fun _ hk => ⟨hk.1.1.1.2, ⟨hk.1.1.2, ⟨hk.1.2, ⟨hk.2, hk.1.1.1.1⟩⟩⟩⟩)⟩, ⟨by (with_reducible repeat (first | refine blk_drewN ?_ _ | refine blk_drew ?_ | refine blk_alloc ?_ _)); exact BK661.out⟩, ⟨by (with_reducible repeat (first | refine blk_drewN ?_ _ | refine blk_drew ?_ | refine blk_alloc ?_ _)); exact BK678.out⟩, ⟨by (with_reducible repeat (first | refine blk_drewN ?_ _ | refine blk_drew ?_ | refine blk_alloc ?_ _)); exact BK686.out⟩, ⟨by (with_reducible repeat (first | refine blk_drewN ?_ _ | refine blk_drew ?_ | refine blk_alloc ?_ _)); exact BK695.out⟩, ⟨by repeat (first | (with_reducible first | exact HB.out | apply below_alloc | apply pw_below_drewN | apply below_drew1 | refine below_set ?_ GE661.out | refine below_set ?_ GE678.out | refine below_set ?_ GE686.out | refine below_set ?_ GE695.out) | exact HB.out)⟩⟩
    case rest =>
      clear HC11
      try clear c1
      try clear c2
      try clear p2
      try clear c3
      try clear c3b0
      try clear c4
      try clear c5
      try clear c17
      try clear c20
      try clear c21
      try clear c22
      try clear c24
      try clear c25
      try clear c28
      try clear c29
      try clear c37
      try clear c38
      try clear c39
      try clear c44
      try clear c45
      try clear c46
      try clear c47
      try clear c49
      try clear c50
      try clear c53
      try clear c54
      try clear c55
      try clear c57
      try clear c58
      try clear hcz13_0
      try clear hcz13_1
      try clear hcz13_2
      try clear hcz15_0
      try clear hcz15_1
      try clear hcz15_2
      try clear hcz22_0
      try clear hcz22_1
      try clear hcz22_2
      try clear hcz25_0
      try clear hcz25_1
      try clear hcz25_2
      try clear hcz30_0
      try clear hcz30_1
      try clear hcz30_2
      try clear hcz34_0
      try clear hcz34_1
      try clear hcz34_2
      try clear hcz40_0
      try clear hcz40_1
      try clear hcz40_2
      try clear hcz48_0
      try clear hcz48_1
      try clear hcz48_2
      try clear hcz51_0
      try clear hcz51_1
      try clear hcz51_2
      try clear hcz56_0
      try clear hcz56_1
      try clear hcz56_2
      try clear hcz59_0
      try clear hcz59_1
      try clear hcz59_2
      try clear hcz5_0
      try clear hcz5_1
      try clear hcz5_2
      try clear hfz13_0
      try clear hfz13_1
      try clear hfz13_2
      try clear hfz15_0
      try clear hfz15_1
      try clear hfz15_2
      try clear hfz22_0
      try clear hfz22_1
      try clear hfz22_2
      try clear hfz25_0
      try clear hfz25_1
      try clear hfz25_2
      try clear hfz30_0
      try clear hfz30_1
      try clear hfz30_2
      try clear hfz34_0
      try clear hfz34_1
      try clear hfz34_2
      try clear hfz40_0
      try clear hfz40_1
      try clear hfz40_2
      try clear hfz48_0
      try clear hfz48_1
      try clear hfz48_2
      try clear hfz51_0
      try clear hfz51_1
      try clear hfz51_2
      try clear hfz56_0
      try clear hfz56_1
      try clear hfz56_2
      try clear hfz59_0
      try clear hfz59_1
      try clear hfz59_2
      try clear hfz5_0
      try clear hfz5_1
      try clear hfz5_2
      obtain ⟨kq, x40_10, rfl, HA, HJ10, HO_679001, HO_679002, HO_687001, HO_687002, HO_696001, HO_696002, BK661, BK678, BK686, BK695, HB⟩ := hcut
      cases kq with
      | zero => exact absurd HA.out (by simp [laws_FnExactNegRat.j0])
      | succ kj10 =>
        have H := HA.out
        clear HA
        simp only [laws_FnExactNegRat.j0] at H
        by_cases c61 : x40_10 = true
        · subst c61
          have H1 : (some false) = some r := by rw [if_pos rfl] at H; exact H
          clear H
          have H := H1
          clear H1
          obtain rfl := Option.some.inj H
          exact absurd hr_ (by decide)
        · replace c61 := Bool.eq_false_iff.mpr c61
          subst c61
          have H1 : ((laws_toRat.f kj10 a0_0 l0_1 l0_2).bind fun bt697 => ((laws_eqRat.f kj10 t679 t680 t683 bt697.1 bt697.2.1 bt697.2.2).bind fun t704 => (if t704 = true then ((laws_markRat.f kj10 t679 t680 t683 1).bind fun bt705 => (if bt705.1 < 0 then (laws_FnExactNegRat.j1 kj10 t677 true a0_0 l0_1 l0_2 t670 t671 t674 t687 t688 t691) else ((laws_eqRat.f kj10 t687 t688 t691 t670 t671 t674).bind fun t708 => (if t708 = true then (laws_FnExactNegRat.j1 kj10 t677 (t694 != t677) a0_0 l0_1 l0_2 t670 t671 t674 t687 t688 t691) else (laws_FnExactNegRat.j1 kj10 t677 true a0_0 l0_1 l0_2 t670 t671 t674 t687 t688 t691))))) else (some false)))) = some r := by rw [if_neg (show ¬ (false = true) by decide)] at H; exact H
          clear H
          have H := H1
          clear H1
          replace H := Option.bind_eq_some_iff.mp H
          obtain ⟨⟨t697, t698, t701⟩, A620, H⟩ := H
          replace H : ((laws_eqRat.f kj10 t679 t680 t683 t697 t698 t701).bind fun t704 => (if t704 = true then ((laws_markRat.f kj10 t679 t680 t683 1).bind fun bt705 => (if bt705.1 < 0 then (laws_FnExactNegRat.j1 kj10 t677 true a0_0 l0_1 l0_2 t670 t671 t674 t687 t688 t691) else ((laws_eqRat.f kj10 t687 t688 t691 t670 t671 t674).bind fun t708 => (if t708 = true then (laws_FnExactNegRat.j1 kj10 t677 (t694 != t677) a0_0 l0_1 l0_2 t670 t671 t674 t687 t688 t691) else (laws_FnExactNegRat.j1 kj10 t677 true a0_0 l0_1 l0_2 t670 t671 t674 t687 t688 t691))))) else (some false))) = some r := H
          have A62 := Aside0.mk A620
          clear A620
          replace H := Option.bind_eq_some_iff.mp H
          obtain ⟨t704, A630, H⟩ := H
          replace H : (if t704 = true then ((laws_markRat.f kj10 t679 t680 t683 1).bind fun bt705 => (if bt705.1 < 0 then (laws_FnExactNegRat.j1 kj10 t677 true a0_0 l0_1 l0_2 t670 t671 t674 t687 t688 t691) else ((laws_eqRat.f kj10 t687 t688 t691 t670 t671 t674).bind fun t708 => (if t708 = true then (laws_FnExactNegRat.j1 kj10 t677 (t694 != t677) a0_0 l0_1 l0_2 t670 t671 t674 t687 t688 t691) else (laws_FnExactNegRat.j1 kj10 t677 true a0_0 l0_1 l0_2 t670 t671 t674 t687 t688 t691))))) else (some false)) = some r := H
          have A63 := Aside0.mk A630
          clear A630
          by_cases c64 : t704 = true
          · subst c64
            have H1 : ((laws_markRat.f kj10 t679 t680 t683 1).bind fun bt705 => (if bt705.1 < 0 then (laws_FnExactNegRat.j1 kj10 t677 true a0_0 l0_1 l0_2 t670 t671 t674 t687 t688 t691) else ((laws_eqRat.f kj10 t687 t688 t691 t670 t671 t674).bind fun t708 => (if t708 = true then (laws_FnExactNegRat.j1 kj10 t677 (t694 != t677) a0_0 l0_1 l0_2 t670 t671 t674 t687 t688 t691) else (laws_FnExactNegRat.j1 kj10 t677 true a0_0 l0_1 l0_2 t670 t671 t674 t687 t688 t691))))) = some r := by rw [if_pos rfl] at H; exact H
            clear H
            have H := H1
            clear H1
            replace H := Option.bind_eq_some_iff.mp H
            obtain ⟨⟨t705, t706, t707⟩, A650, H⟩ := H
            replace H : (if t705 < 0 then (laws_FnExactNegRat.j1 kj10 t677 true a0_0 l0_1 l0_2 t670 t671 t674 t687 t688 t691) else ((laws_eqRat.f kj10 t687 t688 t691 t670 t671 t674).bind fun t708 => (if t708 = true then (laws_FnExactNegRat.j1 kj10 t677 (t694 != t677) a0_0 l0_1 l0_2 t670 t671 t674 t687 t688 t691) else (laws_FnExactNegRat.j1 kj10 t677 true a0_0 l0_1 l0_2 t670 t671 t674 t687 t688 t691)))) = some r := H
            have A65 := Aside0.mk A650
            clear A650
            have HC66 := Aside0.mk H
            clear H
            try go_wp2
            have n0_ := Aside0.mk (Kd.R_drew HO_679001.out)
            have n1_ := Aside0.mk (Kd.R_drew HO_679002.out)
            have n2_ := Aside0.mk (Kd.R_drew HO_687001.out)
            have n3_ := Aside0.mk (Kd.R_drew HO_687002.out)
            have n4_ := Aside0.mk (Kd.R_drew HO_696001.out)
            have n5_ := Aside0.mk (Kd.R_drew HO_696002.out)
            have n6_ := Aside0.mk (blk_drew BK661.out)
            have n7_ := Aside0.mk (blk_drew BK678.out)
            have n8_ := Aside0.mk (blk_drew BK686.out)
            have n9_ := Aside0.mk (blk_drew BK695.out)
            have n10_ := Aside0.mk (below_drew1 HB.out)
            clear HO_679001
            clear HO_679002
            clear HO_687001
            clear HO_687002
            clear HO_696001
            clear HO_696002
            clear BK661
            clear BK678
            clear BK686
            clear BK695
            clear HB
            have HO_679001 := n0_
            have HO_679002 := n1_
            have HO_687001 := n2_
            have HO_687002 := n3_
            have HO_696001 := n4_
            have HO_696002 := n5_
            have BK661 := n6_
            have BK678 := n7_
            have BK686 := n8_
            have BK695 := n9_
            have HB := n10_
            clear n0_ n1_ n2_ n3_ n4_ n5_ n6_ n7_ n8_ n9_ n10_
            refine start_ (n := 5) (S := fun w' => w'.cell? ⟨gb686, 0, none⟩ = some (.bool t679) ∧ w'.cell? ⟨gb686, 1, none⟩ = some (.slice Ao31 t680.length co31) ∧ w'.cell? ⟨gb686, 2, none⟩ = some (.slice Ao32 t683.length co32) ∧ w'.cell? ⟨gb661, 0, none⟩ = some (.bool a0_0) ∧ w'.cell? ⟨gb661, 1, none⟩ = some (.slice A0_1 l0_1.length c0_1) ∧ w'.cell? ⟨gb661, 2, none⟩ = some (.slice A0_2 l0_2.length c0_2)) (ds := []) #[false, false, false, false, false] (by kernel_rfl) rfl rfl ⟨(blk_cell BK686.out 0).trans rfl, (blk_cell BK686.out 1).trans rfl, (blk_cell BK686.out 2).trans rfl, (blk_cell BK661.out 0).trans rfl, (blk_cell BK661.out 1).trans rfl, (blk_cell BK661.out 2).trans rfl⟩ (fun hHeld => ?_)
            generalize wc.drew = w67 at HO_679001 HO_679002 HO_687001 HO_687002 HO_696001 HO_696002 BK661 BK678 BK686 BK695 HB hHeld ⊢
            refine take_ (i := 0) (N := some 41) (v := ?_) (a' := ?_) #[true, false, false, false, false] rfl rfl (by kernel_rfl) (fun _ _ _ h => h) (Or.inl ⟨by rfl, ?_⟩) hHeld ?_ ?_
            rotate_left
            · rintro w' ⟨s0, s1, s2, s3, s4, s5⟩
              go_simp
              with_reducible rfl
            rotate_left
            · simp only [Act.put, List.setIfInBounds_toArray, List.set_cons_zero, List.set_cons_succ, i64_w, i32_w]
              rfl
            refine take_ (i := 1) (N := some 42) (v := ?_) (a' := ?_) #[true, true, false, false, false] rfl rfl (by kernel_rfl) (fun _ _ _ h => h) (Or.inl ⟨by rfl, ?_⟩) hHeld ?_ ?_
            rotate_left
            · rintro w' ⟨s0, s1, s2, s3, s4, s5⟩
              go_simp
              with_reducible rfl
            rotate_left
            · simp only [Act.put, List.setIfInBounds_toArray, List.set_cons_zero, List.set_cons_succ, i64_w, i32_w]
              rfl
            refine one_ (i := 2) (N := some 43) #[true, true, true, false, false] rfl rfl (by kernel_rfl) (by decide) (fun K hK => ?_)
            refine goes_ Try.func22 (by kernel_rfl) rfl #[.agg #[.bool a0_0, .slice A0_1 l0_1.length c0_1, .slice A0_2 l0_2.length c0_2]] (by rfl) rfl rfl (by (try simp only [List.map_toArray, List.map_cons, List.map_nil]); first | done | rfl | (simp only [List.length_drop, List.length_take]; rfl)) ?_
            with_reducible refine (laws_toRat.calls kj10 a0_0 _ _ l0_1 _ _ l0_2 t697 t698 t701 _ ?side1 ?side2 ?side3 ?side4 A62.out).mono ?_
            (case side1 => repeat (first | exact (Kd.C_below HR0_1.out HB.out) | (with_reducible refine Kd.C_alloc ?_ _) | (with_reducible refine Kd.C_drewN ?_ _) | (with_reducible refine Kd.C_drew ?_)))
            (case side2 => exact HC0_1.out)
            (case side3 => repeat (first | exact (Kd.C_below HR0_2.out HB.out) | (with_reducible refine Kd.C_alloc ?_ _) | (with_reducible refine Kd.C_drewN ?_ _) | (with_reducible refine Kd.C_drew ?_)))
            (case side4 => exact HC0_2.out)
            rintro e w68 ⟨v699, v702, rfl, ho0, ho1, hb⟩
            refine ⟨_, rfl, ?_⟩
            have n0_ := Aside0.mk (Kd.R_mono (Kd.R_told (Kd.R_told (Kd.R_old (by (with_reducible repeat (first | apply Kd.R_alloc | apply Kd.R_drewN | apply Kd.R_drew)); exact HO_679001.out) hb) (Kd.R_base ho0)) (Kd.R_base ho1)) (fun _ h_ => h_.1))
            have n1_ := Aside0.mk (Kd.R_mono (Kd.R_told (Kd.R_told (Kd.R_old (by (with_reducible repeat (first | apply Kd.R_alloc | apply Kd.R_drewN | apply Kd.R_drew)); exact HO_679002.out) hb) (Kd.R_base ho0)) (Kd.R_base ho1)) (fun _ h_ => h_.1))
            have n2_ := Aside0.mk (Kd.R_mono (Kd.R_told (Kd.R_told (Kd.R_old (by (with_reducible repeat (first | apply Kd.R_alloc | apply Kd.R_drewN | apply Kd.R_drew)); exact HO_687001.out) hb) (Kd.R_base ho0)) (Kd.R_base ho1)) (fun _ h_ => h_.1))
            have n3_ := Aside0.mk (Kd.R_mono (Kd.R_told (Kd.R_told (Kd.R_old (by (with_reducible repeat (first | apply Kd.R_alloc | apply Kd.R_drewN | apply Kd.R_drew)); exact HO_687002.out) hb) (Kd.R_base ho0)) (Kd.R_base ho1)) (fun _ h_ => h_.1))
            have n4_ := Aside0.mk (Kd.R_mono (Kd.R_told (Kd.R_told (Kd.R_old (by (with_reducible repeat (first | apply Kd.R_alloc | apply Kd.R_drewN | apply Kd.R_drew)); exact HO_696001.out) hb) (Kd.R_base ho0)) (Kd.R_base ho1)) (fun _ h_ => h_.1))
            have n5_ := Aside0.mk (Kd.R_mono (Kd.R_told (Kd.R_told (Kd.R_old (by (with_reducible repeat (first | apply Kd.R_alloc | apply Kd.R_drewN | apply Kd.R_drew)); exact HO_696002.out) hb) (Kd.R_base ho0)) (Kd.R_base ho1)) (fun _ h_ => h_.1))
            have n6_ := Aside0.mk (Kd.R_lower (Kd.R_new' (Kd.R_new' (Kd.R_new' (Kd.R_new' (Kd.R_new' (Kd.R_new' ho0 (Kd.R_lt (by (with_reducible repeat (first | apply Kd.R_alloc | apply Kd.R_drewN | apply Kd.R_drew)); exact HO_679001.out))) (Kd.R_lt (by (with_reducible repeat (first | apply Kd.R_alloc | apply Kd.R_drewN | apply Kd.R_drew)); exact HO_679002.out))) (Kd.R_lt (by (with_reducible repeat (first | apply Kd.R_alloc | apply Kd.R_drewN | apply Kd.R_drew)); exact HO_687001.out))) (Kd.R_lt (by (with_reducible repeat (first | apply Kd.R_alloc | apply Kd.R_drewN | apply Kd.R_drew)); exact HO_687002.out))) (Kd.R_lt (by (with_reducible repeat (first | apply Kd.R_alloc | apply Kd.R_drewN | apply Kd.R_drew)); exact HO_696001.out))) (Kd.R_lt (by (with_reducible repeat (first | apply Kd.R_alloc | apply Kd.R_drewN | apply Kd.R_drew)); exact HO_696002.out))) (below_size (by repeat (first | (with_reducible first | exact HB.out | apply below_alloc | apply pw_below_drewN | apply below_drew1 | refine below_set ?_ GE661.out | refine below_set ?_ GE678.out | refine below_set ?_ GE686.out | refine below_set ?_ GE695.out) | exact HB.out))))
            have n7_ := Aside0.mk (Kd.R_lower (Kd.R_new' (Kd.R_new' (Kd.R_new' (Kd.R_new' (Kd.R_new' (Kd.R_new' ho1 (Kd.R_lt (by (with_reducible repeat (first | apply Kd.R_alloc | apply Kd.R_drewN | apply Kd.R_drew)); exact HO_679001.out))) (Kd.R_lt (by (with_reducible repeat (first | apply Kd.R_alloc | apply Kd.R_drewN | apply Kd.R_drew)); exact HO_679002.out))) (Kd.R_lt (by (with_reducible repeat (first | apply Kd.R_alloc | apply Kd.R_drewN | apply Kd.R_drew)); exact HO_687001.out))) (Kd.R_lt (by (with_reducible repeat (first | apply Kd.R_alloc | apply Kd.R_drewN | apply Kd.R_drew)); exact HO_687002.out))) (Kd.R_lt (by (with_reducible repeat (first | apply Kd.R_alloc | apply Kd.R_drewN | apply Kd.R_drew)); exact HO_696001.out))) (Kd.R_lt (by (with_reducible repeat (first | apply Kd.R_alloc | apply Kd.R_drewN | apply Kd.R_drew)); exact HO_696002.out))) (below_size (by repeat (first | (with_reducible first | exact HB.out | apply below_alloc | apply pw_below_drewN | apply below_drew1 | refine below_set ?_ GE661.out | refine below_set ?_ GE678.out | refine below_set ?_ GE686.out | refine below_set ?_ GE695.out) | exact HB.out))))
            have n8_ := Aside0.mk (blk_below (g := gb661) (o := .cells #[.bool a0_0, .slice A0_1 l0_1.length c0_1, .slice A0_2 l0_2.length c0_2] 30 (0, 0)) (by (with_reducible repeat (first | refine blk_drewN ?_ _ | refine blk_drew ?_ | refine blk_alloc ?_ _)); exact BK661.out) hb)
            have n9_ := Aside0.mk (blk_below (g := gb678) (o := .cells #[.bool t670, .slice Ao23 t671.length co23, .slice Ao24 t674.length co24] 24 (0, 0)) (by (with_reducible repeat (first | refine blk_drewN ?_ _ | refine blk_drew ?_ | refine blk_alloc ?_ _)); exact BK678.out) hb)
            have n10_ := Aside0.mk (blk_below (g := gb686) (o := .cells #[.bool t679, .slice Ao31 t680.length co31, .slice Ao32 t683.length co32] 24 (0, 0)) (by (with_reducible repeat (first | refine blk_drewN ?_ _ | refine blk_drew ?_ | refine blk_alloc ?_ _)); exact BK686.out) hb)
            have n11_ := Aside0.mk (blk_below (g := gb695) (o := .cells #[.bool t687, .slice Ao41 t688.length co41, .slice Ao42 t691.length co42] 24 (0, 0)) (by (with_reducible repeat (first | refine blk_drewN ?_ _ | refine blk_drew ?_ | refine blk_alloc ?_ _)); exact BK695.out) hb)
            have n12_ := Aside0.mk (below_step (by repeat (first | (with_reducible first | exact HB.out | apply below_alloc | apply pw_below_drewN | apply below_drew1 | refine below_set ?_ GE661.out | refine below_set ?_ GE678.out | refine below_set ?_ GE686.out | refine below_set ?_ GE695.out) | exact HB.out)) hb)
            clear HO_679001
            clear HO_679002
            clear HO_687001
            clear HO_687002
            clear HO_696001
            clear HO_696002
            clear BK661
            clear BK678
            clear BK686
            clear BK695
            clear HB
            have HO_679001 := n0_
            have HO_679002 := n1_
            have HO_687001 := n2_
            have HO_687002 := n3_
            have HO_696001 := n4_
            have HO_696002 := n5_
            have HO700 := n6_
            have HO703 := n7_
            have BK661 := n8_
            have BK678 := n9_
            have BK686 := n10_
            have BK695 := n11_
            have HB := n12_
            clear n0_ n1_ n2_ n3_ n4_ n5_ n6_ n7_ n8_ n9_ n10_ n11_ n12_
            (try clear hb)
            (try clear hb2)
            (try clear hk)
            (try clear hi)
            (try clear ho0)
            (try clear ho1)
            obtain ⟨Ao69, co69, eo69⟩ := Kd.R_slice HO700.out
            (first | subst eo69 | (injection eo69 with f1_ f2_ f3_; have f4_ := f1_.symm; have f5_ := f3_.symm; clear f1_ f2_ f3_; subst f4_; subst f5_))
            obtain ⟨Ao70, co70, eo70⟩ := Kd.R_slice HO703.out
            (first | subst eo70 | (injection eo70 with f1_ f2_ f3_; have f4_ := f1_.symm; have f5_ := f3_.symm; clear f1_ f2_ f3_; subst f4_; subst f5_))
            refine hK.out _ _ ⟨(blk_cell BK686.out 0).trans rfl, (blk_cell BK686.out 1).trans rfl, (blk_cell BK686.out 2).trans rfl, (blk_cell BK661.out 0).trans rfl, (blk_cell BK661.out 1).trans rfl, (blk_cell BK661.out 2).trans rfl⟩ (fun hHeld => ?_)
            clear hK K
            refine norm_ (a' := ?_) ?_ ?_
            rotate_left
            · show Act.put _ (some 43) _ = _
              simp only [Act.put, List.setIfInBounds_toArray, List.set_cons_zero, List.set_cons_succ, i64_w, i32_w]
              rfl
            refine one_ (i := 3) (N := some 44) #[true, true, true, true, false] rfl rfl (by kernel_rfl) (by decide) (fun K hK => ?_)
            refine goes_ Try.func17 (by kernel_rfl) rfl #[.agg #[.bool t679, .slice Ao31 t680.length co31, .slice Ao32 t683.length co32], .agg #[.bool t697, .slice Ao69 t698.length co69, .slice Ao70 t701.length co70]] (by rfl) rfl rfl (by (try simp only [List.map_toArray, List.map_cons, List.map_nil]); first | done | rfl | (simp only [List.length_drop, List.length_take]; rfl)) ?_
            with_reducible refine (laws_eqRat.calls kj10 t679 _ _ t680 _ _ t683 t697 _ _ t698 _ _ t701 true _ ?side1 ?side2 ?side3 ?side4 ?side5 ?side6 ?side7 ?side8 A63.out).mono ?_
            (case side1 => repeat (first | exact (Kd.R_reads' HO_687001.out).2.2 | (with_reducible refine Kd.C_alloc ?_ _) | (with_reducible refine Kd.C_drewN ?_ _) | (with_reducible refine Kd.C_drew ?_)))
            (case side2 => exact (Kd.R_reads' HO_687001.out).2.1)
            (case side3 => repeat (first | exact (Kd.R_reads' HO_687002.out).2.2 | (with_reducible refine Kd.C_alloc ?_ _) | (with_reducible refine Kd.C_drewN ?_ _) | (with_reducible refine Kd.C_drew ?_)))
            (case side4 => exact (Kd.R_reads' HO_687002.out).2.1)
            (case side5 => repeat (first | exact (Kd.R_reads' HO700.out).2.2 | (with_reducible refine Kd.C_alloc ?_ _) | (with_reducible refine Kd.C_drewN ?_ _) | (with_reducible refine Kd.C_drew ?_)))
            (case side6 => exact (Kd.R_reads' HO700.out).2.1)
            (case side7 => repeat (first | exact (Kd.R_reads' HO703.out).2.2 | (with_reducible refine Kd.C_alloc ?_ _) | (with_reducible refine Kd.C_drewN ?_ _) | (with_reducible refine Kd.C_drew ?_)))
            (case side8 => exact (Kd.R_reads' HO703.out).2.1)
            rintro e w71 ⟨rfl, hb⟩
            refine ⟨_, rfl, ?_⟩
            have n0_ := Aside0.mk (Kd.R_below (by (with_reducible repeat (first | apply Kd.R_alloc | apply Kd.R_drewN | apply Kd.R_drew)); exact HO_679001.out) hb)
            have n1_ := Aside0.mk (Kd.R_below (by (with_reducible repeat (first | apply Kd.R_alloc | apply Kd.R_drewN | apply Kd.R_drew)); exact HO_679002.out) hb)
            have n2_ := Aside0.mk (Kd.R_below (by (with_reducible repeat (first | apply Kd.R_alloc | apply Kd.R_drewN | apply Kd.R_drew)); exact HO_687001.out) hb)
            have n3_ := Aside0.mk (Kd.R_below (by (with_reducible repeat (first | apply Kd.R_alloc | apply Kd.R_drewN | apply Kd.R_drew)); exact HO_687002.out) hb)
            have n4_ := Aside0.mk (Kd.R_below (by (with_reducible repeat (first | apply Kd.R_alloc | apply Kd.R_drewN | apply Kd.R_drew)); exact HO_696001.out) hb)
            have n5_ := Aside0.mk (Kd.R_below (by (with_reducible repeat (first | apply Kd.R_alloc | apply Kd.R_drewN | apply Kd.R_drew)); exact HO_696002.out) hb)
            have n6_ := Aside0.mk (Kd.R_below (by (with_reducible repeat (first | apply Kd.R_alloc | apply Kd.R_drewN | apply Kd.R_drew)); exact HO700.out) hb)
            have n7_ := Aside0.mk (Kd.R_below (by (with_reducible repeat (first | apply Kd.R_alloc | apply Kd.R_drewN | apply Kd.R_drew)); exact HO703.out) hb)
            have n8_ := Aside0.mk (blk_below (g := gb661) (o := .cells #[.bool a0_0, .slice A0_1 l0_1.length c0_1, .slice A0_2 l0_2.length c0_2] 30 (0, 0)) (by (with_reducible repeat (first | refine blk_drewN ?_ _ | refine blk_drew ?_ | refine blk_alloc ?_ _)); exact BK661.out) hb)
            have n9_ := Aside0.mk (blk_below (g := gb678) (o := .cells #[.bool t670, .slice Ao23 t671.length co23, .slice Ao24 t674.length co24] 24 (0, 0)) (by (with_reducible repeat (first | refine blk_drewN ?_ _ | refine blk_drew ?_ | refine blk_alloc ?_ _)); exact BK678.out) hb)
            have n10_ := Aside0.mk (blk_below (g := gb686) (o := .cells #[.bool t679, .slice Ao31 t680.length co31, .slice Ao32 t683.length co32] 24 (0, 0)) (by (with_reducible repeat (first | refine blk_drewN ?_ _ | refine blk_drew ?_ | refine blk_alloc ?_ _)); exact BK686.out) hb)
            have n11_ := Aside0.mk (blk_below (g := gb695) (o := .cells #[.bool t687, .slice Ao41 t688.length co41, .slice Ao42 t691.length co42] 24 (0, 0)) (by (with_reducible repeat (first | refine blk_drewN ?_ _ | refine blk_drew ?_ | refine blk_alloc ?_ _)); exact BK695.out) hb)
            have n12_ := Aside0.mk (below_step (by repeat (first | (with_reducible first | exact HB.out | apply below_alloc | apply pw_below_drewN | apply below_drew1 | refine below_set ?_ GE661.out | refine below_set ?_ GE678.out | refine below_set ?_ GE686.out | refine below_set ?_ GE695.out) | exact HB.out)) hb)
            clear HO_679001
            clear HO_679002
            clear HO_687001
            clear HO_687002
            clear HO_696001
            clear HO_696002
            clear HO700
            clear HO703
            clear BK661
            clear BK678
            clear BK686
            clear BK695
            clear HB
            have HO_679001 := n0_
            have HO_679002 := n1_
            have HO_687001 := n2_
            have HO_687002 := n3_
            have HO_696001 := n4_
            have HO_696002 := n5_
            have HO700 := n6_
            have HO703 := n7_
            have BK661 := n8_
            have BK678 := n9_
            have BK686 := n10_
            have BK695 := n11_
            have HB := n12_
            clear n0_ n1_ n2_ n3_ n4_ n5_ n6_ n7_ n8_ n9_ n10_ n11_ n12_
            (try clear hb)
            (try clear hb2)
            (try clear hk)
            (try clear hi)
            refine hK.out _ _ ⟨(blk_cell BK686.out 0).trans rfl, (blk_cell BK686.out 1).trans rfl, (blk_cell BK686.out 2).trans rfl, (blk_cell BK661.out 0).trans rfl, (blk_cell BK661.out 1).trans rfl, (blk_cell BK661.out 2).trans rfl⟩ (fun hHeld => ?_)
            clear hK K
            refine norm_ (a' := ?_) ?_ ?_
            rotate_left
            · show Act.put _ (some 44) _ = _
              simp only [Act.put, List.setIfInBounds_toArray, List.set_cons_zero, List.set_cons_succ, i64_w, i32_w]
              rfl
            refine pure_ (i := 4) (N := some 45) (v := ?_) (a' := ?_) #[true, true, true, true, true] rfl rfl (by kernel_rfl) (fun _ _ _ h => h) (Or.inl ⟨by rfl, ?_⟩) ?_ ?_
            rotate_left
            · intro w'
              go_simp
              with_reducible rfl
            rotate_left
            · simp only [Act.put, List.setIfInBounds_toArray, List.set_cons_zero, List.set_cons_succ, i64_w, i32_w]
              rfl
            refine done_ (by kernel_rfl) ?_
            have hnb72 := NB686_661.out
            have hnc72 := NB661_686.out
            have hnb73 := NB686_678.out
            have hnc73 := NB678_686.out
            have hnb74 := NB686_695.out
            have hnc74 := NB695_686.out
            have hcz75_0 : w71.cell? ⟨gb686, 0, none⟩ = some (.bool t679) := (blk_cell BK686.out 0).trans rfl
            have hcz75_1 : w71.cell? ⟨gb686, 1, none⟩ = some (.slice Ao31 t680.length co31) := (blk_cell BK686.out 1).trans rfl
            have hcz75_2 : w71.cell? ⟨gb686, 2, none⟩ = some (.slice Ao32 t683.length co32) := (blk_cell BK686.out 2).trans rfl
            have hfz75_0 := blk_frozen BK686.out 0
            have hfz75_1 := blk_frozen BK686.out 1
            have hfz75_2 := blk_frozen BK686.out 2
            go_upto_region 14 with (first | ((with_reducible refine gate_callee (f := 18) rfl ?_); refine goesL_ (some 48) rfl rfl Try.func18 (by kernel_rfl) rfl #[.agg #[.bool t679, .slice Ao31 t680.length co31, .slice Ao32 t683.length co32], .int .i64 1] rfl (by (try simp only [List.map_toArray, List.map_cons, List.map_nil]); first | done | rfl | (simp only [List.length_drop, List.length_take]; rfl)) ?_; (with_reducible refine (laws_markRat.calls kj10 t679 (fun k_ => some k_ = (.slice Ao31 t680.length co31 : Value).ownBlock) (.slice Ao31 t680.length co31) t680 (fun k_ => some k_ = (.slice Ao32 t683.length co32 : Value).ownBlock) (.slice Ao32 t683.length co32) t683 1 t705 t706 t707 w _ ?side1 ?side2 ?side3 ?side4 ?side5 A65.out).mono ?_); (case side1 => repeat (first | (with_reducible first | exact HB.out | apply below_alloc | apply pw_below_drewN | apply below_drew1 | refine below_set ?_ GE661.out | refine below_set ?_ GE678.out | refine below_set ?_ GE686.out | refine below_set ?_ GE695.out) | exact HB.out)); (case side2 => exact Kd.R_tight rfl HO_687001.out); (case side3 => exact fun k_ e_ => (HO_687001.out.1 k_ e_.symm).1.1.2.2.1); (case side4 => exact Kd.R_tight rfl HO_687002.out); (case side5 => exact fun k_ e_ => (HO_687002.out.1 k_ e_.symm).1.1.2.2.1); rintro e w76 ⟨rfl, hy0, hy1, hb, hkp⟩; refine ⟨_, rfl, ?_⟩; have n0_ := Aside0.mk (Kd.R_mono (ok' := fun k_ => some k_ ≠ (.slice Ao24 t674.length co24 : Value).ownBlock ∧ some k_ ≠ (.slice Ao31 t680.length co31 : Value).ownBlock ∧ some k_ ≠ (.slice Ao32 t683.length co32 : Value).ownBlock ∧ some k_ ≠ (.slice Ao41 t688.length co41 : Value).ownBlock ∧ some k_ ≠ (.slice Ao42 t691.length co42 : Value).ownBlock ∧ some k_ ≠ (.slice Ao69 t698.length co69 : Value).ownBlock ∧ some k_ ≠ (.slice Ao70 t701.length co70 : Value).ownBlock) (Kd.R_keptB (HO_679001.out) hkp (fun k_ hk_ hs_ => Or.elim hs_ (fun e_ => (hk_.1.1.2.1) e_) (fun e_ => (hk_.1.1.2.2.1) e_))) (fun k_ hk_ => ⟨hk_.1.1.1.1, hk_.1.1.1.2.1, hk_.1.1.1.2.2.1, hk_.1.1.1.2.2.2.1, hk_.1.1.1.2.2.2.2, hk_.1.1.2, hk_.1.2⟩)); have n1_ := Aside0.mk (Kd.R_mono (ok' := fun k_ => some k_ ≠ (.slice Ao23 t671.length co23 : Value).ownBlock ∧ some k_ ≠ (.slice Ao31 t680.length co31 : Value).ownBlock ∧ some k_ ≠ (.slice Ao32 t683.length co32 : Value).ownBlock ∧ some k_ ≠ (.slice Ao41 t688.length co41 : Value).ownBlock ∧ some k_ ≠ (.slice Ao42 t691.length co42 : Value).ownBlock ∧ some k_ ≠ (.slice Ao69 t698.length co69 : Value).ownBlock ∧ some k_ ≠ (.slice Ao70 t701.length co70 : Value).ownBlock) (Kd.R_keptB (HO_679002.out) hkp (fun k_ hk_ hs_ => Or.elim hs_ (fun e_ => (hk_.1.1.2.1) e_) (fun e_ => (hk_.1.1.2.2.1) e_))) (fun k_ hk_ => ⟨hk_.1.1.1.1, hk_.1.1.1.2.1, hk_.1.1.1.2.2.1, hk_.1.1.1.2.2.2.1, hk_.1.1.1.2.2.2.2, hk_.1.1.2, hk_.1.2⟩)); have n2_ := Aside0.mk (Kd.R_reok rfl hy0 (fun k_ e_ => HO_687001.out.1 k_ e_)); have n3_ := Aside0.mk (Kd.R_reok rfl hy1 (fun k_ e_ => HO_687002.out.1 k_ e_)); have n4_ := Aside0.mk (Kd.R_mono (ok' := fun k_ => some k_ ≠ (.slice Ao23 t671.length co23 : Value).ownBlock ∧ some k_ ≠ (.slice Ao24 t674.length co24 : Value).ownBlock ∧ some k_ ≠ (.slice Ao31 t680.length co31 : Value).ownBlock ∧ some k_ ≠ (.slice Ao32 t683.length co32 : Value).ownBlock ∧ some k_ ≠ (.slice Ao42 t691.length co42 : Value).ownBlock ∧ some k_ ≠ (.slice Ao69 t698.length co69 : Value).ownBlock ∧ some k_ ≠ (.slice Ao70 t701.length co70 : Value).ownBlock) (Kd.R_keptB (HO_696001.out) hkp (fun k_ hk_ hs_ => Or.elim hs_ (fun e_ => (hk_.1.1.2.2.1) e_) (fun e_ => (hk_.1.1.2.2.2.1) e_))) (fun k_ hk_ => ⟨hk_.1.1.1.1, hk_.1.1.1.2.1, hk_.1.1.1.2.2.1, hk_.1.1.1.2.2.2.1, hk_.1.1.1.2.2.2.2, hk_.1.1.2, hk_.1.2⟩)); have n5_ := Aside0.mk (Kd.R_mono (ok' := fun k_ => some k_ ≠ (.slice Ao23 t671.length co23 : Value).ownBlock ∧ some k_ ≠ (.slice Ao24 t674.length co24 : Value).ownBlock ∧ some k_ ≠ (.slice Ao31 t680.length co31 : Value).ownBlock ∧ some k_ ≠ (.slice Ao32 t683.length co32 : Value).ownBlock ∧ some k_ ≠ (.slice Ao41 t688.length co41 : Value).ownBlock ∧ some k_ ≠ (.slice Ao69 t698.length co69 : Value).ownBlock ∧ some k_ ≠ (.slice Ao70 t701.length co70 : Value).ownBlock) (Kd.R_keptB (HO_696002.out) hkp (fun k_ hk_ hs_ => Or.elim hs_ (fun e_ => (hk_.1.1.2.2.1) e_) (fun e_ => (hk_.1.1.2.2.2.1) e_))) (fun k_ hk_ => ⟨hk_.1.1.1.1, hk_.1.1.1.2.1, hk_.1.1.1.2.2.1, hk_.1.1.1.2.2.2.1, hk_.1.1.1.2.2.2.2, hk_.1.1.2, hk_.1.2⟩)); have n6_ := Aside0.mk (blk_kept (by (with_reducible repeat (first | refine blk_drewN ?_ _ | refine blk_drew ?_ | refine blk_alloc ?_ _)); exact BK661.out) hkp (fun hs_ => Or.elim hs_ (fun e_ => (fun e_ => (Kd.R_ne HO_687001.out BK661.out (by decide)) e_) e_) (fun e_ => (fun e_ => (Kd.R_ne HO_687002.out BK661.out (by decide)) e_) e_))); have n7_ := Aside0.mk (blk_kept (by (with_reducible repeat (first | refine blk_drewN ?_ _ | refine blk_drew ?_ | refine blk_alloc ?_ _)); exact BK678.out) hkp (fun hs_ => Or.elim hs_ (fun e_ => (fun e_ => (Kd.R_ne HO_687001.out BK678.out (by decide)) e_) e_) (fun e_ => (fun e_ => (Kd.R_ne HO_687002.out BK678.out (by decide)) e_) e_))); have n8_ := Aside0.mk (blk_kept (by (with_reducible repeat (first | refine blk_drewN ?_ _ | refine blk_drew ?_ | refine blk_alloc ?_ _)); exact BK686.out) hkp (fun hs_ => Or.elim hs_ (fun e_ => (fun e_ => (Kd.R_ne HO_687001.out BK686.out (by decide)) e_) e_) (fun e_ => (fun e_ => (Kd.R_ne HO_687002.out BK686.out (by decide)) e_) e_))); have n9_ := Aside0.mk (blk_kept (by (with_reducible repeat (first | refine blk_drewN ?_ _ | refine blk_drew ?_ | refine blk_alloc ?_ _)); exact BK695.out) hkp (fun hs_ => Or.elim hs_ (fun e_ => (fun e_ => (Kd.R_ne HO_687001.out BK695.out (by decide)) e_) e_) (fun e_ => (fun e_ => (Kd.R_ne HO_687002.out BK695.out (by decide)) e_) e_))); have n10_ := Aside0.mk (Kd.R_mono (ok' := fun k_ => some k_ ≠ (.slice Ao23 t671.length co23 : Value).ownBlock ∧ some k_ ≠ (.slice Ao24 t674.length co24 : Value).ownBlock ∧ some k_ ≠ (.slice Ao31 t680.length co31 : Value).ownBlock ∧ some k_ ≠ (.slice Ao32 t683.length co32 : Value).ownBlock ∧ some k_ ≠ (.slice Ao41 t688.length co41 : Value).ownBlock ∧ some k_ ≠ (.slice Ao42 t691.length co42 : Value).ownBlock ∧ some k_ ≠ (.slice Ao70 t701.length co70 : Value).ownBlock) (Kd.R_keptB (HO700.out) hkp (fun k_ hk_ hs_ => Or.elim hs_ (fun e_ => (hk_.1.1.1.2) e_) (fun e_ => (hk_.1.1.2) e_))) (fun k_ hk_ => ⟨hk_.1.1.1.1.1.1.2, hk_.1.1.1.1.1.2, hk_.1.1.1.1.2, hk_.1.1.1.2, hk_.1.1.2, hk_.1.2, hk_.1.1.1.1.1.1.1⟩)); have n11_ := Aside0.mk (Kd.R_mono (ok' := fun k_ => some k_ ≠ (.slice Ao23 t671.length co23 : Value).ownBlock ∧ some k_ ≠ (.slice Ao24 t674.length co24 : Value).ownBlock ∧ some k_ ≠ (.slice Ao31 t680.length co31 : Value).ownBlock ∧ some k_ ≠ (.slice Ao32 t683.length co32 : Value).ownBlock ∧ some k_ ≠ (.slice Ao41 t688.length co41 : Value).ownBlock ∧ some k_ ≠ (.slice Ao42 t691.length co42 : Value).ownBlock ∧ some k_ ≠ (.slice Ao69 t698.length co69 : Value).ownBlock) (Kd.R_keptB (HO703.out) hkp (fun k_ hk_ hs_ => Or.elim hs_ (fun e_ => (hk_.1.1.1.2) e_) (fun e_ => (hk_.1.1.2) e_))) (fun k_ hk_ => ⟨hk_.1.1.1.1.1.1.2, hk_.1.1.1.1.1.2, hk_.1.1.1.1.2, hk_.1.1.1.2, hk_.1.1.2, hk_.1.2, hk_.1.1.1.1.1.1.1⟩)); have n12_ := Aside0.mk (hb); clear HO_679001; clear HO_679002; clear HO_687001; clear HO_687002; clear HO_696001; clear HO_696002; clear BK661; clear BK678; clear BK686; clear BK695; clear HO700; clear HO703; clear HB; have HO_679001 := n0_; have HO_679002 := n1_; have HO_687001 := n2_; have HO_687002 := n3_; have HO_696001 := n4_; have HO_696002 := n5_; have BK661 := n6_; have BK678 := n7_; have BK686 := n8_; have BK695 := n9_; have HO700 := n10_; have HO703 := n11_; have HB := n12_; clear n0_ n1_ n2_ n3_ n4_ n5_ n6_ n7_ n8_ n9_ n10_ n11_ n12_; (try clear hb); (try clear hkp); (try clear hy0); (try clear hy1)))
            (try simp only [Act.put, List.setIfInBounds_toArray, List.set_cons_zero, List.set_cons_succ])
            go_cut [61] (fun v61 wc => ∃ (kq : Nat) (x61_65 : Bool), v61 = .bool x61_65 ∧ Aside0 (laws_FnExactNegRat.j1 kq t677 x61_65 a0_0 l0_1 l0_2 t670 t671 t674 t687 t688 t691 = some r) ∧ Aside0 (kq ≤ kj10) ∧ Aside0 (Kd.R (Kd.int .i64) 3 wc w.heap.size (fun k_ => some k_ ≠ ((.slice Ao24 t674.length co24) : Value).ownBlock ∧ some k_ ≠ ((.slice Ao31 t680.length co31) : Value).ownBlock ∧ some k_ ≠ ((.slice Ao32 t683.length co32) : Value).ownBlock ∧ some k_ ≠ ((.slice Ao41 t688.length co41) : Value).ownBlock ∧ some k_ ≠ ((.slice Ao42 t691.length co42) : Value).ownBlock) (.slice Ao23 t671.length co23) t671) ∧ Aside0 (Kd.R (Kd.int .i64) 3 wc w.heap.size (fun k_ => some k_ ≠ ((.slice Ao23 t671.length co23) : Value).ownBlock ∧ some k_ ≠ ((.slice Ao31 t680.length co31) : Value).ownBlock ∧ some k_ ≠ ((.slice Ao32 t683.length co32) : Value).ownBlock ∧ some k_ ≠ ((.slice Ao41 t688.length co41) : Value).ownBlock ∧ some k_ ≠ ((.slice Ao42 t691.length co42) : Value).ownBlock) (.slice Ao24 t674.length co24) t674) ∧ Aside0 (Kd.R (Kd.int .i64) 3 wc w.heap.size (fun k_ => some k_ ≠ ((.slice Ao23 t671.length co23) : Value).ownBlock ∧ some k_ ≠ ((.slice Ao24 t674.length co24) : Value).ownBlock ∧ some k_ ≠ ((.slice Ao32 t683.length co32) : Value).ownBlock ∧ some k_ ≠ ((.slice Ao41 t688.length co41) : Value).ownBlock ∧ some k_ ≠ ((.slice Ao42 t691.length co42) : Value).ownBlock) (.slice Ao31 t680.length co31) t706) ∧ Aside0 (Kd.R (Kd.int .i64) 3 wc w.heap.size (fun k_ => some k_ ≠ ((.slice Ao23 t671.length co23) : Value).ownBlock ∧ some k_ ≠ ((.slice Ao24 t674.length co24) : Value).ownBlock ∧ some k_ ≠ ((.slice Ao31 t680.length co31) : Value).ownBlock ∧ some k_ ≠ ((.slice Ao41 t688.length co41) : Value).ownBlock ∧ some k_ ≠ ((.slice Ao42 t691.length co42) : Value).ownBlock) (.slice Ao32 t683.length co32) t707) ∧ Aside0 (Kd.R (Kd.int .i64) 3 wc w.heap.size (fun k_ => some k_ ≠ ((.slice Ao23 t671.length co23) : Value).ownBlock ∧ some k_ ≠ ((.slice Ao24 t674.length co24) : Value).ownBlock ∧ some k_ ≠ ((.slice Ao31 t680.length co31) : Value).ownBlock ∧ some k_ ≠ ((.slice Ao32 t683.length co32) : Value).ownBlock ∧ some k_ ≠ ((.slice Ao42 t691.length co42) : Value).ownBlock) (.slice Ao41 t688.length co41) t688) ∧ Aside0 (Kd.R (Kd.int .i64) 3 wc w.heap.size (fun k_ => some k_ ≠ ((.slice Ao23 t671.length co23) : Value).ownBlock ∧ some k_ ≠ ((.slice Ao24 t674.length co24) : Value).ownBlock ∧ some k_ ≠ ((.slice Ao31 t680.length co31) : Value).ownBlock ∧ some k_ ≠ ((.slice Ao32 t683.length co32) : Value).ownBlock ∧ some k_ ≠ ((.slice Ao41 t688.length co41) : Value).ownBlock) (.slice Ao42 t691.length co42) t691) ∧ Aside0 (wc.heap[gb661]? = some (.cells #[.bool a0_0, (.slice A0_1 l0_1.length c0_1), (.slice A0_2 l0_2.length c0_2)] 30 (0, 0))) ∧ Aside0 (wc.heap[gb678]? = some (.cells #[.bool t670, (.slice Ao23 t671.length co23), (.slice Ao24 t674.length co24)] 24 (0, 0))) ∧ Aside0 (wc.heap[gb686]? = some (.cells #[.bool t679, (.slice Ao31 t680.length co31), (.slice Ao32 t683.length co32)] 24 (0, 0))) ∧ Aside0 (wc.heap[gb695]? = some (.cells #[.bool t687, (.slice Ao41 t688.length co41), (.slice Ao42 t691.length co42)] 24 (0, 0))) ∧ Aside0 (Below w.heap.size w wc))
            case first =>
              have H := HC66.out
              clear HC66
              by_cases c77 : t705 < 0
              · rw [if_pos c77] at H
                have c77b0 : decide (t705 < 0) = true := decide_eq_true c77
                clear c77
                (first | rw [c77b0] | (simp only [i64_w, i32_w]; rw [c77b0]) | skip)
                have H' := Aside0.mk H
                clear H
                go_wp2
                go_meet
                case rel => exact ⟨_, (true), (by first | rfl | (simp; done) | (simp [*]; done)), H', ⟨by have := HJ10.out; first | omega | exact Nat.le_refl _⟩, ⟨by (with_reducible repeat (first | apply Kd.R_alloc | apply Kd.R_drewN | apply Kd.R_drew)); exact Kd.R_mono HO_679001.out (fun _ hk => ⟨hk.1, ⟨hk.2.1, ⟨hk.2.2.1, ⟨hk.2.2.2.1, hk.2.2.2.2.1⟩⟩⟩⟩)⟩, ⟨by (with_reducible repeat (first | apply Kd.R_alloc | apply Kd.R_drewN | apply Kd.R_drew)); exact Kd.R_mono HO_679002.out (fun _ hk => ⟨hk.1, ⟨hk.2.1, ⟨hk.2.2.1, ⟨hk.2.2.2.1, hk.2.2.2.2.1⟩⟩⟩⟩)⟩, ⟨by (with_reducible repeat (first | apply Kd.R_alloc | apply Kd.R_drewN | apply Kd.R_drew)); exact Kd.R_mono HO_687001.out (fun _ hk => ⟨hk.1.1.1, ⟨hk.1.1.2.1, ⟨hk.1.1.2.2.1, ⟨hk.1.1.2.2.2.1, hk.1.1.2.2.2.2⟩⟩⟩⟩)⟩, ⟨by (with_reducible repeat (first | apply Kd.R_alloc | apply Kd.R_drewN | apply Kd.R_drew)); exact Kd.R_mono HO_687002.out (fun _ hk => ⟨hk.1.1.1, ⟨hk.1.1.2.1, ⟨hk.1.1.2.2.1, ⟨hk.1.1.2.2.2.1, hk.1.1.2.2.2.2⟩⟩⟩⟩)⟩, ⟨by (with_reducible repeat (first | apply Kd.R_alloc | apply Kd.R_drewN | apply Kd.R_drew)); exact Kd.R_mono HO_696001.out (fun _ hk => ⟨hk.1, ⟨hk.2.1, ⟨hk.2.2.1, ⟨hk.2.2.2.1, hk.2.2.2.2.1⟩⟩⟩⟩)⟩, ⟨by (with_reducible repeat (first | apply Kd.R_alloc | apply Kd.R_drewN | apply Kd.R_drew)); exact Kd.R_mono HO_696002.out (fun _ hk => ⟨hk.1, ⟨hk.2.1, ⟨hk.2.2.1, ⟨hk.2.2.2.1, hk.2.2.2.2.1⟩⟩⟩⟩)⟩, ⟨by (with_reducible repeat (first | refine blk_drewN ?_ _ | refine blk_drew ?_ | refine blk_alloc ?_ _)); exact BK661.out⟩, ⟨by (with_reducible repeat (first | refine blk_drewN ?_ _ | refine blk_drew ?_ | refine blk_alloc ?_ _)); exact BK678.out⟩, ⟨by (with_reducible repeat (first | refine blk_drewN ?_ _ | refine blk_drew ?_ | refine blk_alloc ?_ _)); exact BK686.out⟩, ⟨by (with_reducible repeat (first | refine blk_drewN ?_ _ | refine blk_drew ?_ | refine blk_alloc ?_ _)); exact BK695.out⟩, ⟨by repeat (first | (with_reducible first | exact HB.out | apply below_alloc | apply pw_below_drewN | apply below_drew1 | refine below_set ?_ GE661.out | refine below_set ?_ GE678.out | refine below_set ?_ GE686.out | refine below_set ?_ GE695.out) | exact HB.out)⟩⟩
              · rw [if_neg c77] at H
                have c77b0 : decide (t705 < 0) = false := decide_eq_false c77
                clear c77
                (first | rw [c77b0] | (simp only [i64_w, i32_w]; rw [c77b0]) | skip)
                replace H := Option.bind_eq_some_iff.mp H
                obtain ⟨t708, A780, H⟩ := H
                replace H : (if t708 = true then (laws_FnExactNegRat.j1 kj10 t677 (t694 != t677) a0_0 l0_1 l0_2 t670 t671 t674 t687 t688 t691) else (laws_FnExactNegRat.j1 kj10 t677 true a0_0 l0_1 l0_2 t670 t671 t674 t687 t688 t691)) = some r := H
                have A78 := Aside0.mk A780
                clear A780
                by_cases c79 : t708 = true
                · subst c79
                  have H1 : (laws_FnExactNegRat.j1 kj10 t677 (t694 != t677) a0_0 l0_1 l0_2 t670 t671 t674 t687 t688 t691) = some r := by rw [if_pos rfl] at H; exact H
                  clear H
                  have H := H1
                  clear H1
                  have H' := Aside0.mk H
                  clear H
                  have hnb80 := NB695_661.out
                  have hnc80 := NB661_695.out
                  have hnb81 := NB695_678.out
                  have hnc81 := NB678_695.out
                  have hnb82 := NB695_686.out
                  have hnc82 := NB686_695.out
                  have hcz83_0 : w76.cell? ⟨gb695, 0, none⟩ = some (.bool t687) := (blk_cell BK695.out 0).trans rfl
                  have hcz83_1 : w76.cell? ⟨gb695, 1, none⟩ = some (.slice Ao41 t688.length co41) := (blk_cell BK695.out 1).trans rfl
                  have hcz83_2 : w76.cell? ⟨gb695, 2, none⟩ = some (.slice Ao42 t691.length co42) := (blk_cell BK695.out 2).trans rfl
                  have hfz83_0 := blk_frozen BK695.out 0
                  have hfz83_1 := blk_frozen BK695.out 1
                  have hfz83_2 := blk_frozen BK695.out 2
                  have hnb84 := NB678_661.out
                  have hnc84 := NB661_678.out
                  have hnb85 := NB678_686.out
                  have hnc85 := NB686_678.out
                  have hcz86_0 : w76.cell? ⟨gb678, 0, none⟩ = some (.bool t670) := (blk_cell BK678.out 0).trans rfl
                  have hcz86_1 : w76.cell? ⟨gb678, 1, none⟩ = some (.slice Ao23 t671.length co23) := (blk_cell BK678.out 1).trans rfl
                  have hcz86_2 : w76.cell? ⟨gb678, 2, none⟩ = some (.slice Ao24 t674.length co24) := (blk_cell BK678.out 2).trans rfl
                  have hfz86_0 := blk_frozen BK678.out 0
                  have hfz86_1 := blk_frozen BK678.out 1
                  have hfz86_2 := blk_frozen BK678.out 2
                  go_wp2_with (first | (go_at_call 17; (with_reducible refine (laws_eqRat.calls kj10 t687 _ _ t688 _ _ t691 t670 _ _ t671 _ _ t674 true _ ?side1 ?side2 ?side3 ?side4 ?side5 ?side6 ?side7 ?side8 A78.out).mono ?_); (case side1 => repeat (first | exact (Kd.R_reads' HO_696001.out).2.2 | (with_reducible refine Kd.C_alloc ?_ _) | (with_reducible refine Kd.C_drewN ?_ _) | (with_reducible refine Kd.C_drew ?_))); (case side2 => exact (Kd.R_reads' HO_696001.out).2.1); (case side3 => repeat (first | exact (Kd.R_reads' HO_696002.out).2.2 | (with_reducible refine Kd.C_alloc ?_ _) | (with_reducible refine Kd.C_drewN ?_ _) | (with_reducible refine Kd.C_drew ?_))); (case side4 => exact (Kd.R_reads' HO_696002.out).2.1); (case side5 => repeat (first | exact (Kd.R_reads' HO_679001.out).2.2 | (with_reducible refine Kd.C_alloc ?_ _) | (with_reducible refine Kd.C_drewN ?_ _) | (with_reducible refine Kd.C_drew ?_))); (case side6 => exact (Kd.R_reads' HO_679001.out).2.1); (case side7 => repeat (first | exact (Kd.R_reads' HO_679002.out).2.2 | (with_reducible refine Kd.C_alloc ?_ _) | (with_reducible refine Kd.C_drewN ?_ _) | (with_reducible refine Kd.C_drew ?_))); (case side8 => exact (Kd.R_reads' HO_679002.out).2.1); rintro e w87 ⟨rfl, hb⟩; have n0_ := Aside0.mk (Kd.R_below (by (with_reducible repeat (first | apply Kd.R_alloc | apply Kd.R_drewN | apply Kd.R_drew)); exact HO_679001.out) hb); have n1_ := Aside0.mk (Kd.R_below (by (with_reducible repeat (first | apply Kd.R_alloc | apply Kd.R_drewN | apply Kd.R_drew)); exact HO_679002.out) hb); have n2_ := Aside0.mk (Kd.R_below (by (with_reducible repeat (first | apply Kd.R_alloc | apply Kd.R_drewN | apply Kd.R_drew)); exact HO_687001.out) hb); have n3_ := Aside0.mk (Kd.R_below (by (with_reducible repeat (first | apply Kd.R_alloc | apply Kd.R_drewN | apply Kd.R_drew)); exact HO_687002.out) hb); have n4_ := Aside0.mk (Kd.R_below (by (with_reducible repeat (first | apply Kd.R_alloc | apply Kd.R_drewN | apply Kd.R_drew)); exact HO_696001.out) hb); have n5_ := Aside0.mk (Kd.R_below (by (with_reducible repeat (first | apply Kd.R_alloc | apply Kd.R_drewN | apply Kd.R_drew)); exact HO_696002.out) hb); have n6_ := Aside0.mk (Kd.R_below (by (with_reducible repeat (first | apply Kd.R_alloc | apply Kd.R_drewN | apply Kd.R_drew)); exact HO700.out) hb); have n7_ := Aside0.mk (Kd.R_below (by (with_reducible repeat (first | apply Kd.R_alloc | apply Kd.R_drewN | apply Kd.R_drew)); exact HO703.out) hb); have n8_ := Aside0.mk (blk_below (g := gb661) (o := .cells #[.bool a0_0, .slice A0_1 l0_1.length c0_1, .slice A0_2 l0_2.length c0_2] 30 (0, 0)) (by (with_reducible repeat (first | refine blk_drewN ?_ _ | refine blk_drew ?_ | refine blk_alloc ?_ _)); exact BK661.out) hb); have n9_ := Aside0.mk (blk_below (g := gb678) (o := .cells #[.bool t670, .slice Ao23 t671.length co23, .slice Ao24 t674.length co24] 24 (0, 0)) (by (with_reducible repeat (first | refine blk_drewN ?_ _ | refine blk_drew ?_ | refine blk_alloc ?_ _)); exact BK678.out) hb); have n10_ := Aside0.mk (blk_below (g := gb686) (o := .cells #[.bool t679, .slice Ao31 t680.length co31, .slice Ao32 t683.length co32] 24 (0, 0)) (by (with_reducible repeat (first | refine blk_drewN ?_ _ | refine blk_drew ?_ | refine blk_alloc ?_ _)); exact BK686.out) hb); have n11_ := Aside0.mk (blk_below (g := gb695) (o := .cells #[.bool t687, .slice Ao41 t688.length co41, .slice Ao42 t691.length co42] 24 (0, 0)) (by (with_reducible repeat (first | refine blk_drewN ?_ _ | refine blk_drew ?_ | refine blk_alloc ?_ _)); exact BK695.out) hb); have n12_ := Aside0.mk (below_step (by repeat (first | (with_reducible first | exact HB.out | apply below_alloc | apply pw_below_drewN | apply below_drew1 | refine below_set ?_ GE661.out | refine below_set ?_ GE678.out | refine below_set ?_ GE686.out | refine below_set ?_ GE695.out) | exact HB.out)) hb); clear HO_679001; clear HO_679002; clear HO_687001; clear HO_687002; clear HO_696001; clear HO_696002; clear HO700; clear HO703; clear BK661; clear BK678; clear BK686; clear BK695; clear HB; have HO_679001 := n0_; have HO_679002 := n1_; have HO_687001 := n2_; have HO_687002 := n3_; have HO_696001 := n4_; have HO_696002 := n5_; have HO700 := n6_; have HO703 := n7_; have BK661 := n8_; have BK678 := n9_; have BK686 := n10_; have BK695 := n11_; have HB := n12_; clear n0_ n1_ n2_ n3_ n4_ n5_ n6_ n7_ n8_ n9_ n10_ n11_ n12_; (try clear hb); (try clear hb2); (try clear hk); (try clear hi)))
                  go_meet
                  case rel => exact ⟨_, ((t694 != t677)), (by first | rfl | (simp; done) | (simp [*]; done)), H', ⟨by have := HJ10.out; first | omega | exact Nat.le_refl _⟩, ⟨by (with_reducible repeat (first | apply Kd.R_alloc | apply Kd.R_drewN | apply Kd.R_drew)); exact Kd.R_mono HO_679001.out (fun _ hk => ⟨hk.1, ⟨hk.2.1, ⟨hk.2.2.1, ⟨hk.2.2.2.1, hk.2.2.2.2.1⟩⟩⟩⟩)⟩, ⟨by (with_reducible repeat (first | apply Kd.R_alloc | apply Kd.R_drewN | apply Kd.R_drew)); exact Kd.R_mono HO_679002.out (fun _ hk => ⟨hk.1, ⟨hk.2.1, ⟨hk.2.2.1, ⟨hk.2.2.2.1, hk.2.2.2.2.1⟩⟩⟩⟩)⟩, ⟨by (with_reducible repeat (first | apply Kd.R_alloc | apply Kd.R_drewN | apply Kd.R_drew)); exact Kd.R_mono HO_687001.out (fun _ hk => ⟨hk.1.1.1, ⟨hk.1.1.2.1, ⟨hk.1.1.2.2.1, ⟨hk.1.1.2.2.2.1, hk.1.1.2.2.2.2⟩⟩⟩⟩)⟩, ⟨by (with_reducible repeat (first | apply Kd.R_alloc | apply Kd.R_drewN | apply Kd.R_drew)); exact Kd.R_mono HO_687002.out (fun _ hk => ⟨hk.1.1.1, ⟨hk.1.1.2.1, ⟨hk.1.1.2.2.1, ⟨hk.1.1.2.2.2.1, hk.1.1.2.2.2.2⟩⟩⟩⟩)⟩, ⟨by (with_reducible repeat (first | apply Kd.R_alloc | apply Kd.R_drewN | apply Kd.R_drew)); exact Kd.R_mono HO_696001.out (fun _ hk => ⟨hk.1, ⟨hk.2.1, ⟨hk.2.2.1, ⟨hk.2.2.2.1, hk.2.2.2.2.1⟩⟩⟩⟩)⟩, ⟨by (with_reducible repeat (first | apply Kd.R_alloc | apply Kd.R_drewN | apply Kd.R_drew)); exact Kd.R_mono HO_696002.out (fun _ hk => ⟨hk.1, ⟨hk.2.1, ⟨hk.2.2.1, ⟨hk.2.2.2.1, hk.2.2.2.2.1⟩⟩⟩⟩)⟩, ⟨by (with_reducible repeat (first | refine blk_drewN ?_ _ | refine blk_drew ?_ | refine blk_alloc ?_ _)); exact BK661.out⟩, ⟨by (with_reducible repeat (first | refine blk_drewN ?_ _ | refine blk_drew ?_ | refine blk_alloc ?_ _)); exact BK678.out⟩, ⟨by (with_reducible repeat (first | refine blk_drewN ?_ _ | refine blk_drew ?_ | refine blk_alloc ?_ _)); exact BK686.out⟩, ⟨by (with_reducible repeat (first | refine blk_drewN ?_ _ | refine blk_drew ?_ | refine blk_alloc ?_ _)); exact BK695.out⟩, ⟨by repeat (first | (with_reducible first | exact HB.out | apply below_alloc | apply pw_below_drewN | apply below_drew1 | refine below_set ?_ GE661.out | refine below_set ?_ GE678.out | refine below_set ?_ GE686.out | refine below_set ?_ GE695.out) | exact HB.out)⟩⟩
                · replace c79 := Bool.eq_false_iff.mpr c79
                  subst c79
                  have H1 : (laws_FnExactNegRat.j1 kj10 t677 true a0_0 l0_1 l0_2 t670 t671 t674 t687 t688 t691) = some r := by rw [if_neg (show ¬ (false = true) by decide)] at H; exact H
                  clear H
                  have H := H1
                  clear H1
                  have H' := Aside0.mk H
                  clear H
                  have hnb88 := NB695_661.out
                  have hnc88 := NB661_695.out
                  have hnb89 := NB695_678.out
                  have hnc89 := NB678_695.out
                  have hnb90 := NB695_686.out
                  have hnc90 := NB686_695.out
                  have hcz91_0 : w76.cell? ⟨gb695, 0, none⟩ = some (.bool t687) := (blk_cell BK695.out 0).trans rfl
                  have hcz91_1 : w76.cell? ⟨gb695, 1, none⟩ = some (.slice Ao41 t688.length co41) := (blk_cell BK695.out 1).trans rfl
                  have hcz91_2 : w76.cell? ⟨gb695, 2, none⟩ = some (.slice Ao42 t691.length co42) := (blk_cell BK695.out 2).trans rfl
                  have hfz91_0 := blk_frozen BK695.out 0
                  have hfz91_1 := blk_frozen BK695.out 1
                  have hfz91_2 := blk_frozen BK695.out 2
                  have hnb92 := NB678_661.out
                  have hnc92 := NB661_678.out
                  have hnb93 := NB678_686.out
                  have hnc93 := NB686_678.out
                  have hcz94_0 : w76.cell? ⟨gb678, 0, none⟩ = some (.bool t670) := (blk_cell BK678.out 0).trans rfl
                  have hcz94_1 : w76.cell? ⟨gb678, 1, none⟩ = some (.slice Ao23 t671.length co23) := (blk_cell BK678.out 1).trans rfl
                  have hcz94_2 : w76.cell? ⟨gb678, 2, none⟩ = some (.slice Ao24 t674.length co24) := (blk_cell BK678.out 2).trans rfl
                  have hfz94_0 := blk_frozen BK678.out 0
                  have hfz94_1 := blk_frozen BK678.out 1
                  have hfz94_2 := blk_frozen BK678.out 2
                  go_wp2_with (first | (go_at_call 17; (with_reducible refine (laws_eqRat.calls kj10 t687 _ _ t688 _ _ t691 t670 _ _ t671 _ _ t674 false _ ?side1 ?side2 ?side3 ?side4 ?side5 ?side6 ?side7 ?side8 A78.out).mono ?_); (case side1 => repeat (first | exact (Kd.R_reads' HO_696001.out).2.2 | (with_reducible refine Kd.C_alloc ?_ _) | (with_reducible refine Kd.C_drewN ?_ _) | (with_reducible refine Kd.C_drew ?_))); (case side2 => exact (Kd.R_reads' HO_696001.out).2.1); (case side3 => repeat (first | exact (Kd.R_reads' HO_696002.out).2.2 | (with_reducible refine Kd.C_alloc ?_ _) | (with_reducible refine Kd.C_drewN ?_ _) | (with_reducible refine Kd.C_drew ?_))); (case side4 => exact (Kd.R_reads' HO_696002.out).2.1); (case side5 => repeat (first | exact (Kd.R_reads' HO_679001.out).2.2 | (with_reducible refine Kd.C_alloc ?_ _) | (with_reducible refine Kd.C_drewN ?_ _) | (with_reducible refine Kd.C_drew ?_))); (case side6 => exact (Kd.R_reads' HO_679001.out).2.1); (case side7 => repeat (first | exact (Kd.R_reads' HO_679002.out).2.2 | (with_reducible refine Kd.C_alloc ?_ _) | (with_reducible refine Kd.C_drewN ?_ _) | (with_reducible refine Kd.C_drew ?_))); (case side8 => exact (Kd.R_reads' HO_679002.out).2.1); rintro e w95 ⟨rfl, hb⟩; have n0_ := Aside0.mk (Kd.R_below (by (with_reducible repeat (first | apply Kd.R_alloc | apply Kd.R_drewN | apply Kd.R_drew)); exact HO_679001.out) hb); have n1_ := Aside0.mk (Kd.R_below (by (with_reducible repeat (first | apply Kd.R_alloc | apply Kd.R_drewN | apply Kd.R_drew)); exact HO_679002.out) hb); have n2_ := Aside0.mk (Kd.R_below (by (with_reducible repeat (first | apply Kd.R_alloc | apply Kd.R_drewN | apply Kd.R_drew)); exact HO_687001.out) hb); have n3_ := Aside0.mk (Kd.R_below (by (with_reducible repeat (first | apply Kd.R_alloc | apply Kd.R_drewN | apply Kd.R_drew)); exact HO_687002.out) hb); have n4_ := Aside0.mk (Kd.R_below (by (with_reducible repeat (first | apply Kd.R_alloc | apply Kd.R_drewN | apply Kd.R_drew)); exact HO_696001.out) hb); have n5_ := Aside0.mk (Kd.R_below (by (with_reducible repeat (first | apply Kd.R_alloc | apply Kd.R_drewN | apply Kd.R_drew)); exact HO_696002.out) hb); have n6_ := Aside0.mk (Kd.R_below (by (with_reducible repeat (first | apply Kd.R_alloc | apply Kd.R_drewN | apply Kd.R_drew)); exact HO700.out) hb); have n7_ := Aside0.mk (Kd.R_below (by (with_reducible repeat (first | apply Kd.R_alloc | apply Kd.R_drewN | apply Kd.R_drew)); exact HO703.out) hb); have n8_ := Aside0.mk (blk_below (g := gb661) (o := .cells #[.bool a0_0, .slice A0_1 l0_1.length c0_1, .slice A0_2 l0_2.length c0_2] 30 (0, 0)) (by (with_reducible repeat (first | refine blk_drewN ?_ _ | refine blk_drew ?_ | refine blk_alloc ?_ _)); exact BK661.out) hb); have n9_ := Aside0.mk (blk_below (g := gb678) (o := .cells #[.bool t670, .slice Ao23 t671.length co23, .slice Ao24 t674.length co24] 24 (0, 0)) (by (with_reducible repeat (first | refine blk_drewN ?_ _ | refine blk_drew ?_ | refine blk_alloc ?_ _)); exact BK678.out) hb); have n10_ := Aside0.mk (blk_below (g := gb686) (o := .cells #[.bool t679, .slice Ao31 t680.length co31, .slice Ao32 t683.length co32] 24 (0, 0)) (by (with_reducible repeat (first | refine blk_drewN ?_ _ | refine blk_drew ?_ | refine blk_alloc ?_ _)); exact BK686.out) hb); have n11_ := Aside0.mk (blk_below (g := gb695) (o := .cells #[.bool t687, .slice Ao41 t688.length co41, .slice Ao42 t691.length co42] 24 (0, 0)) (by (with_reducible repeat (first | refine blk_drewN ?_ _ | refine blk_drew ?_ | refine blk_alloc ?_ _)); exact BK695.out) hb); have n12_ := Aside0.mk (below_step (by repeat (first | (with_reducible first | exact HB.out | apply below_alloc | apply pw_below_drewN | apply below_drew1 | refine below_set ?_ GE661.out | refine below_set ?_ GE678.out | refine below_set ?_ GE686.out | refine below_set ?_ GE695.out) | exact HB.out)) hb); clear HO_679001; clear HO_679002; clear HO_687001; clear HO_687002; clear HO_696001; clear HO_696002; clear HO700; clear HO703; clear BK661; clear BK678; clear BK686; clear BK695; clear HB; have HO_679001 := n0_; have HO_679002 := n1_; have HO_687001 := n2_; have HO_687002 := n3_; have HO_696001 := n4_; have HO_696002 := n5_; have HO700 := n6_; have HO703 := n7_; have BK661 := n8_; have BK678 := n9_; have BK686 := n10_; have BK695 := n11_; have HB := n12_; clear n0_ n1_ n2_ n3_ n4_ n5_ n6_ n7_ n8_ n9_ n10_ n11_ n12_; (try clear hb); (try clear hb2); (try clear hk); (try clear hi)))
                  go_meet
                  case rel => exact ⟨_, (true), (by first | rfl | (simp; done) | (simp [*]; done)), H', ⟨by have := HJ10.out; first | omega | exact Nat.le_refl _⟩, ⟨by (with_reducible repeat (first | apply Kd.R_alloc | apply Kd.R_drewN | apply Kd.R_drew)); exact Kd.R_mono HO_679001.out (fun _ hk => ⟨hk.1, ⟨hk.2.1, ⟨hk.2.2.1, ⟨hk.2.2.2.1, hk.2.2.2.2.1⟩⟩⟩⟩)⟩, ⟨by (with_reducible repeat (first | apply Kd.R_alloc | apply Kd.R_drewN | apply Kd.R_drew)); exact Kd.R_mono HO_679002.out (fun _ hk => ⟨hk.1, ⟨hk.2.1, ⟨hk.2.2.1, ⟨hk.2.2.2.1, hk.2.2.2.2.1⟩⟩⟩⟩)⟩, ⟨by (with_reducible repeat (first | apply Kd.R_alloc | apply Kd.R_drewN | apply Kd.R_drew)); exact Kd.R_mono HO_687001.out (fun _ hk => ⟨hk.1.1.1, ⟨hk.1.1.2.1, ⟨hk.1.1.2.2.1, ⟨hk.1.1.2.2.2.1, hk.1.1.2.2.2.2⟩⟩⟩⟩)⟩, ⟨by (with_reducible repeat (first | apply Kd.R_alloc | apply Kd.R_drewN | apply Kd.R_drew)); exact Kd.R_mono HO_687002.out (fun _ hk => ⟨hk.1.1.1, ⟨hk.1.1.2.1, ⟨hk.1.1.2.2.1, ⟨hk.1.1.2.2.2.1, hk.1.1.2.2.2.2⟩⟩⟩⟩)⟩, ⟨by (with_reducible repeat (first | apply Kd.R_alloc | apply Kd.R_drewN | apply Kd.R_drew)); exact Kd.R_mono HO_696001.out (fun _ hk => ⟨hk.1, ⟨hk.2.1, ⟨hk.2.2.1, ⟨hk.2.2.2.1, hk.2.2.2.2.1⟩⟩⟩⟩)⟩, ⟨by (with_reducible repeat (first | apply Kd.R_alloc | apply Kd.R_drewN | apply Kd.R_drew)); exact Kd.R_mono HO_696002.out (fun _ hk => ⟨hk.1, ⟨hk.2.1, ⟨hk.2.2.1, ⟨hk.2.2.2.1, hk.2.2.2.2.1⟩⟩⟩⟩)⟩, ⟨by (with_reducible repeat (first | refine blk_drewN ?_ _ | refine blk_drew ?_ | refine blk_alloc ?_ _)); exact BK661.out⟩, ⟨by (with_reducible repeat (first | refine blk_drewN ?_ _ | refine blk_drew ?_ | refine blk_alloc ?_ _)); exact BK678.out⟩, ⟨by (with_reducible repeat (first | refine blk_drewN ?_ _ | refine blk_drew ?_ | refine blk_alloc ?_ _)); exact BK686.out⟩, ⟨by (with_reducible repeat (first | refine blk_drewN ?_ _ | refine blk_drew ?_ | refine blk_alloc ?_ _)); exact BK695.out⟩, ⟨by repeat (first | (with_reducible first | exact HB.out | apply below_alloc | apply pw_below_drewN | apply below_drew1 | refine below_set ?_ GE661.out | refine below_set ?_ GE678.out | refine below_set ?_ GE686.out | refine below_set ?_ GE695.out) | exact HB.out)⟩⟩
            case rest =>
              clear HC66
              try clear c1
              try clear c2
              try clear p2
              try clear c3
              try clear c3b0
              try clear c4
              try clear c5
              try clear c6
              try clear c7
              try clear c8
              try clear c9
              try clear c17
              try clear c18
              try clear c20
              try clear c21
              try clear c22
              try clear c24
              try clear c25
              try clear c28
              try clear c29
              try clear c37
              try clear c38
              try clear c39
              try clear c44
              try clear c45
              try clear c46
              try clear c47
              try clear c49
              try clear c50
              try clear c53
              try clear c54
              try clear c55
              try clear c57
              try clear c58
              try clear c61
              try clear c64
              try clear c72
              try clear c73
              try clear c74
              try clear c77
              try clear c77b0
              try clear c79
              try clear c80
              try clear c81
              try clear c82
              try clear c84
              try clear c85
              try clear c88
              try clear c89
              try clear c90
              try clear c92
              try clear c93
              try clear hcz13_0
              try clear hcz13_1
              try clear hcz13_2
              try clear hcz15_0
              try clear hcz15_1
              try clear hcz15_2
              try clear hcz22_0
              try clear hcz22_1
              try clear hcz22_2
              try clear hcz25_0
              try clear hcz25_1
              try clear hcz25_2
              try clear hcz30_0
              try clear hcz30_1
              try clear hcz30_2
              try clear hcz34_0
              try clear hcz34_1
              try clear hcz34_2
              try clear hcz40_0
              try clear hcz40_1
              try clear hcz40_2
              try clear hcz48_0
              try clear hcz48_1
              try clear hcz48_2
              try clear hcz51_0
              try clear hcz51_1
              try clear hcz51_2
              try clear hcz56_0
              try clear hcz56_1
              try clear hcz56_2
              try clear hcz59_0
              try clear hcz59_1
              try clear hcz59_2
              try clear hcz5_0
              try clear hcz5_1
              try clear hcz5_2
              try clear hcz75_0
              try clear hcz75_1
              try clear hcz75_2
              try clear hcz83_0
              try clear hcz83_1
              try clear hcz83_2
              try clear hcz86_0
              try clear hcz86_1
              try clear hcz86_2
              try clear hcz91_0
              try clear hcz91_1
              try clear hcz91_2
              try clear hcz94_0
              try clear hcz94_1
              try clear hcz94_2
              try clear hfz13_0
              try clear hfz13_1
              try clear hfz13_2
              try clear hfz15_0
              try clear hfz15_1
              try clear hfz15_2
              try clear hfz22_0
              try clear hfz22_1
              try clear hfz22_2
              try clear hfz25_0
              try clear hfz25_1
              try clear hfz25_2
              try clear hfz30_0
              try clear hfz30_1
              try clear hfz30_2
              try clear hfz34_0
              try clear hfz34_1
              try clear hfz34_2
              try clear hfz40_0
              try clear hfz40_1
              try clear hfz40_2
              try clear hfz48_0
              try clear hfz48_1
              try clear hfz48_2
              try clear hfz51_0
              try clear hfz51_1
              try clear hfz51_2
              try clear hfz56_0
              try clear hfz56_1
              try clear hfz56_2
              try clear hfz59_0
              try clear hfz59_1
              try clear hfz59_2
              try clear hfz5_0
              try clear hfz5_1
              try clear hfz5_2
              try clear hfz75_0
              try clear hfz75_1
              try clear hfz75_2
              try clear hfz83_0
              try clear hfz83_1
              try clear hfz83_2
              try clear hfz86_0
              try clear hfz86_1
              try clear hfz86_2
              try clear hfz91_0
              try clear hfz91_1
              try clear hfz91_2
              try clear hfz94_0
              try clear hfz94_1
              try clear hfz94_2
              try clear p2
              obtain ⟨kq, x61_65, rfl, HA, HJ65, HO_679001, HO_679002, HO_687001, HO_687002, HO_696001, HO_696002, BK661, BK678, BK686, BK695, HB⟩ := hcut
              have hl687001_65 := (Kd.R_reads' HO_687001.out).1
              rw [hl687001_65] at HO_687001
              (try simp only [hl687001_65])
              (try simp only [hl687001_65] at BK661)
              (try simp only [hl687001_65] at BK678)
              (try simp only [hl687001_65] at BK686)
              (try simp only [hl687001_65] at BK695)
              (try simp only [hl687001_65] at HO_679001)
              (try simp only [hl687001_65] at HO_679002)
              (try simp only [hl687001_65] at HO_687002)
              (try simp only [hl687001_65] at HO_696001)
              (try simp only [hl687001_65] at HO_696002)
              have hl687002_65 := (Kd.R_reads' HO_687002.out).1
              rw [hl687002_65] at HO_687002
              (try simp only [hl687002_65])
              (try simp only [hl687002_65] at BK661)
              (try simp only [hl687002_65] at BK678)
              (try simp only [hl687002_65] at BK686)
              (try simp only [hl687002_65] at BK695)
              (try simp only [hl687002_65] at HO_679001)
              (try simp only [hl687002_65] at HO_679002)
              (try simp only [hl687002_65] at HO_687001)
              (try simp only [hl687002_65] at HO_696001)
              (try simp only [hl687002_65] at HO_696002)
              cases kq with
              | zero => exact absurd HA.out (by simp [laws_FnExactNegRat.j1])
              | succ kj65 =>
                have H := HA.out
                clear HA
                simp only [laws_FnExactNegRat.j1] at H
                by_cases c96 : x61_65 = true
                · subst c96
                  have H1 : (some false) = some r := by rw [if_pos rfl] at H; exact H
                  clear H
                  have H := H1
                  clear H1
                  obtain rfl := Option.some.inj H
                  exact absurd hr_ (by decide)
                · replace c96 := Bool.eq_false_iff.mpr c96
                  subst c96
                  have H1 : ((laws_markRat.f kj65 t687 t688 t691 1).bind fun bt709 => ((laws_heldRat.f kj65 t687 bt709.2.1 bt709.2.2 1).bind fun t712 => (if t712 < 0 then (some false) else (if t712 = bt709.1 then ((laws_toRat.f kj65 a0_0 l0_1 l0_2).bind fun bt713 => ((impl_NegRat.f kj65 bt713.1 bt713.2.1 bt713.2.2).bind fun bt720 => ((laws_eqRat.f kj65 bt720.1 bt720.2.1 bt720.2.2.1 t670 t671 t674).bind fun t729 => (if t729 = true then (laws_FnExactNegRat.j2 kj65 bt709.1 (bt720.2.2.2 != t677) t687 bt709.2.1 bt709.2.2) else (laws_FnExactNegRat.j2 kj65 bt709.1 true t687 bt709.2.1 bt709.2.2))))) else (some false))))) = some r := by rw [if_neg (show ¬ (false = true) by decide)] at H; exact H
                  clear H
                  have H := H1
                  clear H1
                  replace H := Option.bind_eq_some_iff.mp H
                  obtain ⟨⟨t709, t710, t711⟩, A970, H⟩ := H
                  replace H : ((laws_heldRat.f kj65 t687 t710 t711 1).bind fun t712 => (if t712 < 0 then (some false) else (if t712 = t709 then ((laws_toRat.f kj65 a0_0 l0_1 l0_2).bind fun bt713 => ((impl_NegRat.f kj65 bt713.1 bt713.2.1 bt713.2.2).bind fun bt720 => ((laws_eqRat.f kj65 bt720.1 bt720.2.1 bt720.2.2.1 t670 t671 t674).bind fun t729 => (if t729 = true then (laws_FnExactNegRat.j2 kj65 t709 (bt720.2.2.2 != t677) t687 t710 t711) else (laws_FnExactNegRat.j2 kj65 t709 true t687 t710 t711))))) else (some false)))) = some r := H
                  have A97 := Aside0.mk A970
                  clear A970
                  replace H := Option.bind_eq_some_iff.mp H
                  obtain ⟨t712, A980, H⟩ := H
                  replace H : (if t712 < 0 then (some false) else (if t712 = t709 then ((laws_toRat.f kj65 a0_0 l0_1 l0_2).bind fun bt713 => ((impl_NegRat.f kj65 bt713.1 bt713.2.1 bt713.2.2).bind fun bt720 => ((laws_eqRat.f kj65 bt720.1 bt720.2.1 bt720.2.2.1 t670 t671 t674).bind fun t729 => (if t729 = true then (laws_FnExactNegRat.j2 kj65 t709 (bt720.2.2.2 != t677) t687 t710 t711) else (laws_FnExactNegRat.j2 kj65 t709 true t687 t710 t711))))) else (some false))) = some r := H
                  have A98 := Aside0.mk A980
                  clear A980
                  by_cases c99 : t712 < 0
                  · rw [if_pos c99] at H
                    have c99b0 : decide (t712 < 0) = true := decide_eq_true c99
                    clear c99
                    obtain rfl := Option.some.inj H
                    exact absurd hr_ (by decide)
                  · rw [if_neg c99] at H
                    have c99b0 : decide (t712 < 0) = false := decide_eq_false c99
                    clear c99
                    by_cases c107 : t712 = t709
                    · rw [if_pos c107] at H
                      have c107b0 : (t712 == t709) = true := beq_iff_eq.mpr c107
                      have c107b1 : (t712 != t709) = false := bne_eq_false_iff_eq.mpr c107
                      clear c107
                      replace H := Option.bind_eq_some_iff.mp H
                      obtain ⟨⟨t713, t714, t717⟩, A1080, H⟩ := H
                      replace H : ((impl_NegRat.f kj65 t713 t714 t717).bind fun bt720 => ((laws_eqRat.f kj65 bt720.1 bt720.2.1 bt720.2.2.1 t670 t671 t674).bind fun t729 => (if t729 = true then (laws_FnExactNegRat.j2 kj65 t709 (bt720.2.2.2 != t677) t687 t710 t711) else (laws_FnExactNegRat.j2 kj65 t709 true t687 t710 t711)))) = some r := H
                      have A108 := Aside0.mk A1080
                      clear A1080
                      replace H := Option.bind_eq_some_iff.mp H
                      obtain ⟨⟨t720, t721, t724, t727⟩, A1090, H⟩ := H
                      replace H : ((laws_eqRat.f kj65 t720 t721 t724 t670 t671 t674).bind fun t729 => (if t729 = true then (laws_FnExactNegRat.j2 kj65 t709 (t727 != t677) t687 t710 t711) else (laws_FnExactNegRat.j2 kj65 t709 true t687 t710 t711))) = some r := H
                      have A109 := Aside0.mk A1090
                      clear A1090
                      have HC110 := Aside0.mk H
                      clear H
                      have hnb111 := NB695_661.out
                      have hnc111 := NB661_695.out
                      have hnb112 := NB695_678.out
                      have hnc112 := NB678_695.out
                      have hnb113 := NB695_686.out
                      have hnc113 := NB686_695.out
                      have hcz114_0 : wc.cell? ⟨gb695, 0, none⟩ = some (.bool t687) := (blk_cell BK695.out 0).trans rfl
                      have hcz114_1 : wc.cell? ⟨gb695, 1, none⟩ = some (.slice Ao41 t688.length co41) := (blk_cell BK695.out 1).trans rfl
                      have hcz114_2 : wc.cell? ⟨gb695, 2, none⟩ = some (.slice Ao42 t691.length co42) := (blk_cell BK695.out 2).trans rfl
                      have hfz114_0 := blk_frozen BK695.out 0
                      have hfz114_1 := blk_frozen BK695.out 1
                      have hfz114_2 := blk_frozen BK695.out 2
                      go_upto_region 25 with (first | ((with_reducible refine gate_callee (f := 18) rfl ?_); refine goesL_ (some 64) rfl rfl Try.func18 (by kernel_rfl) rfl #[.agg #[.bool t687, .slice Ao41 t688.length co41, .slice Ao42 t691.length co42], .int .i64 1] rfl (by (try simp only [List.map_toArray, List.map_cons, List.map_nil]); first | done | rfl | (simp only [List.length_drop, List.length_take]; rfl)) ?_; (with_reducible refine (laws_markRat.calls kj65 t687 (fun k_ => some k_ = (.slice Ao41 t688.length co41 : Value).ownBlock) (.slice Ao41 t688.length co41) t688 (fun k_ => some k_ = (.slice Ao42 t691.length co42 : Value).ownBlock) (.slice Ao42 t691.length co42) t691 1 t709 t710 t711 w _ ?side1 ?side2 ?side3 ?side4 ?side5 A97.out).mono ?_); (case side1 => repeat (first | (with_reducible first | exact HB.out | apply below_alloc | apply pw_below_drewN | apply below_drew1 | refine below_set ?_ GE661.out | refine below_set ?_ GE678.out | refine below_set ?_ GE686.out | refine below_set ?_ GE695.out) | exact HB.out)); (case side2 => exact Kd.R_tight rfl HO_696001.out); (case side3 => exact fun k_ e_ => (HO_696001.out.1 k_ e_.symm).2.2.2.2); (case side4 => exact Kd.R_tight rfl HO_696002.out); (case side5 => exact fun k_ e_ => (HO_696002.out.1 k_ e_.symm).2.2.2.2); rintro e w115 ⟨rfl, hy0, hy1, hb, hkp⟩; refine ⟨_, rfl, ?_⟩; have n0_ := Aside0.mk (Kd.R_mono (ok' := fun k_ => some k_ ≠ (.slice Ao24 t674.length co24 : Value).ownBlock ∧ some k_ ≠ (.slice Ao31 t706.length co31 : Value).ownBlock ∧ some k_ ≠ (.slice Ao32 t707.length co32 : Value).ownBlock ∧ some k_ ≠ (.slice Ao41 t688.length co41 : Value).ownBlock ∧ some k_ ≠ (.slice Ao42 t691.length co42 : Value).ownBlock) (Kd.R_keptB (HO_679001.out) hkp (fun k_ hk_ hs_ => Or.elim hs_ (fun e_ => (hk_.2.2.2.1) e_) (fun e_ => (hk_.2.2.2.2) e_))) (fun k_ hk_ => ⟨hk_.1.1, hk_.1.2.1, hk_.1.2.2.1, hk_.1.2.2.2.1, hk_.1.2.2.2.2⟩)); have n1_ := Aside0.mk (Kd.R_mono (ok' := fun k_ => some k_ ≠ (.slice Ao23 t671.length co23 : Value).ownBlock ∧ some k_ ≠ (.slice Ao31 t706.length co31 : Value).ownBlock ∧ some k_ ≠ (.slice Ao32 t707.length co32 : Value).ownBlock ∧ some k_ ≠ (.slice Ao41 t688.length co41 : Value).ownBlock ∧ some k_ ≠ (.slice Ao42 t691.length co42 : Value).ownBlock) (Kd.R_keptB (HO_679002.out) hkp (fun k_ hk_ hs_ => Or.elim hs_ (fun e_ => (hk_.2.2.2.1) e_) (fun e_ => (hk_.2.2.2.2) e_))) (fun k_ hk_ => ⟨hk_.1.1, hk_.1.2.1, hk_.1.2.2.1, hk_.1.2.2.2.1, hk_.1.2.2.2.2⟩)); have n2_ := Aside0.mk (Kd.R_mono (ok' := fun k_ => some k_ ≠ (.slice Ao23 t671.length co23 : Value).ownBlock ∧ some k_ ≠ (.slice Ao24 t674.length co24 : Value).ownBlock ∧ some k_ ≠ (.slice Ao32 t707.length co32 : Value).ownBlock ∧ some k_ ≠ (.slice Ao41 t688.length co41 : Value).ownBlock ∧ some k_ ≠ (.slice Ao42 t691.length co42 : Value).ownBlock) (Kd.R_keptB (HO_687001.out) hkp (fun k_ hk_ hs_ => Or.elim hs_ (fun e_ => (hk_.2.2.2.1) e_) (fun e_ => (hk_.2.2.2.2) e_))) (fun k_ hk_ => ⟨hk_.1.1, hk_.1.2.1, hk_.1.2.2.1, hk_.1.2.2.2.1, hk_.1.2.2.2.2⟩)); have n3_ := Aside0.mk (Kd.R_mono (ok' := fun k_ => some k_ ≠ (.slice Ao23 t671.length co23 : Value).ownBlock ∧ some k_ ≠ (.slice Ao24 t674.length co24 : Value).ownBlock ∧ some k_ ≠ (.slice Ao31 t706.length co31 : Value).ownBlock ∧ some k_ ≠ (.slice Ao41 t688.length co41 : Value).ownBlock ∧ some k_ ≠ (.slice Ao42 t691.length co42 : Value).ownBlock) (Kd.R_keptB (HO_687002.out) hkp (fun k_ hk_ hs_ => Or.elim hs_ (fun e_ => (hk_.2.2.2.1) e_) (fun e_ => (hk_.2.2.2.2) e_))) (fun k_ hk_ => ⟨hk_.1.1, hk_.1.2.1, hk_.1.2.2.1, hk_.1.2.2.2.1, hk_.1.2.2.2.2⟩)); have n4_ := Aside0.mk (Kd.R_reok rfl hy0 (fun k_ e_ => HO_696001.out.1 k_ e_)); have n5_ := Aside0.mk (Kd.R_reok rfl hy1 (fun k_ e_ => HO_696002.out.1 k_ e_)); have n6_ := Aside0.mk (blk_kept (by (with_reducible repeat (first | refine blk_drewN ?_ _ | refine blk_drew ?_ | refine blk_alloc ?_ _)); exact BK661.out) hkp (fun hs_ => Or.elim hs_ (fun e_ => (fun e_ => (Kd.R_ne HO_696001.out BK661.out (by decide)) e_) e_) (fun e_ => (fun e_ => (Kd.R_ne HO_696002.out BK661.out (by decide)) e_) e_))); have n7_ := Aside0.mk (blk_kept (by (with_reducible repeat (first | refine blk_drewN ?_ _ | refine blk_drew ?_ | refine blk_alloc ?_ _)); exact BK678.out) hkp (fun hs_ => Or.elim hs_ (fun e_ => (fun e_ => (Kd.R_ne HO_696001.out BK678.out (by decide)) e_) e_) (fun e_ => (fun e_ => (Kd.R_ne HO_696002.out BK678.out (by decide)) e_) e_))); have n8_ := Aside0.mk (blk_kept (by (with_reducible repeat (first | refine blk_drewN ?_ _ | refine blk_drew ?_ | refine blk_alloc ?_ _)); exact BK686.out) hkp (fun hs_ => Or.elim hs_ (fun e_ => (fun e_ => (Kd.R_ne HO_696001.out BK686.out (by decide)) e_) e_) (fun e_ => (fun e_ => (Kd.R_ne HO_696002.out BK686.out (by decide)) e_) e_))); have n9_ := Aside0.mk (blk_kept (by (with_reducible repeat (first | refine blk_drewN ?_ _ | refine blk_drew ?_ | refine blk_alloc ?_ _)); exact BK695.out) hkp (fun hs_ => Or.elim hs_ (fun e_ => (fun e_ => (Kd.R_ne HO_696001.out BK695.out (by decide)) e_) e_) (fun e_ => (fun e_ => (Kd.R_ne HO_696002.out BK695.out (by decide)) e_) e_))); have n10_ := Aside0.mk (hb); clear HO_679001; clear HO_679002; clear HO_687001; clear HO_687002; clear HO_696001; clear HO_696002; clear BK661; clear BK678; clear BK686; clear BK695; clear HB; have HO_679001 := n0_; have HO_679002 := n1_; have HO_687001 := n2_; have HO_687002 := n3_; have HO_696001 := n4_; have HO_696002 := n5_; have BK661 := n6_; have BK678 := n7_; have BK686 := n8_; have BK695 := n9_; have HB := n10_; clear n0_ n1_ n2_ n3_ n4_ n5_ n6_ n7_ n8_ n9_ n10_; (try clear hb); (try clear hkp); (try clear hy0); (try clear hy1); have hcz116_0 : w115.cell? ⟨gb695, 0, none⟩ = some (.bool t687) := (blk_cell BK695.out 0).trans rfl; have hcz116_1 : w115.cell? ⟨gb695, 1, none⟩ = some (.slice Ao41 t688.length co41) := (blk_cell BK695.out 1).trans rfl; have hcz116_2 : w115.cell? ⟨gb695, 2, none⟩ = some (.slice Ao42 t691.length co42) := (blk_cell BK695.out 2).trans rfl; have hfz116_0 := blk_frozen BK695.out 0; have hfz116_1 := blk_frozen BK695.out 1; have hfz116_2 := blk_frozen BK695.out 2) | ((with_reducible refine gate_callee (f := 19) rfl ?_); refine goesL_ (some 67) rfl rfl Try.func19 (by kernel_rfl) rfl #[.agg #[.bool t687, .slice Ao41 t710.length co41, .slice Ao42 t711.length co42], .int .i64 1] rfl (by (try simp only [List.map_toArray, List.map_cons, List.map_nil]); first | done | (rw [show t710.length = t688.length from (Kd.R_reads' HO_696001.out).1.symm, show t711.length = t691.length from (Kd.R_reads' HO_696002.out).1.symm] <;> rfl) | rfl | (simp only [List.length_drop, List.length_take]; rfl)) ?_; (with_reducible refine (laws_heldRat.calls kj65 t687 _ _ t710 _ _ t711 1 t712 _ ?side1 ?side2 ?side3 ?side4 A98.out).mono ?_); (case side1 => repeat (first | exact (Kd.R_reads' HO_696001.out).2.2 | (with_reducible refine Kd.C_alloc ?_ _) | (with_reducible refine Kd.C_drewN ?_ _) | (with_reducible refine Kd.C_drew ?_))); (case side2 => rw [show t710.length = t688.length from (Kd.R_reads' HO_696001.out).1.symm]; exact (Kd.R_reads' HO_696001.out).2.1); (case side3 => repeat (first | exact (Kd.R_reads' HO_696002.out).2.2 | (with_reducible refine Kd.C_alloc ?_ _) | (with_reducible refine Kd.C_drewN ?_ _) | (with_reducible refine Kd.C_drew ?_))); (case side4 => rw [show t711.length = t691.length from (Kd.R_reads' HO_696002.out).1.symm]; exact (Kd.R_reads' HO_696002.out).2.1); rintro e w117 ⟨rfl, hb⟩; refine ⟨_, rfl, ?_⟩; have n0_ := Aside0.mk (Kd.R_below (by (with_reducible repeat (first | apply Kd.R_alloc | apply Kd.R_drewN | apply Kd.R_drew)); exact HO_679001.out) hb); have n1_ := Aside0.mk (Kd.R_below (by (with_reducible repeat (first | apply Kd.R_alloc | apply Kd.R_drewN | apply Kd.R_drew)); exact HO_679002.out) hb); have n2_ := Aside0.mk (Kd.R_below (by (with_reducible repeat (first | apply Kd.R_alloc | apply Kd.R_drewN | apply Kd.R_drew)); exact HO_687001.out) hb); have n3_ := Aside0.mk (Kd.R_below (by (with_reducible repeat (first | apply Kd.R_alloc | apply Kd.R_drewN | apply Kd.R_drew)); exact HO_687002.out) hb); have n4_ := Aside0.mk (Kd.R_below (by (with_reducible repeat (first | apply Kd.R_alloc | apply Kd.R_drewN | apply Kd.R_drew)); exact HO_696001.out) hb); have n5_ := Aside0.mk (Kd.R_below (by (with_reducible repeat (first | apply Kd.R_alloc | apply Kd.R_drewN | apply Kd.R_drew)); exact HO_696002.out) hb); have n6_ := Aside0.mk (blk_below (g := gb661) (o := .cells #[.bool a0_0, .slice A0_1 l0_1.length c0_1, .slice A0_2 l0_2.length c0_2] 30 (0, 0)) (by (with_reducible repeat (first | refine blk_drewN ?_ _ | refine blk_drew ?_ | refine blk_alloc ?_ _)); exact BK661.out) hb); have n7_ := Aside0.mk (blk_below (g := gb678) (o := .cells #[.bool t670, .slice Ao23 t671.length co23, .slice Ao24 t674.length co24] 24 (0, 0)) (by (with_reducible repeat (first | refine blk_drewN ?_ _ | refine blk_drew ?_ | refine blk_alloc ?_ _)); exact BK678.out) hb); have n8_ := Aside0.mk (blk_below (g := gb686) (o := .cells #[.bool t679, .slice Ao31 t706.length co31, .slice Ao32 t707.length co32] 24 (0, 0)) (by (with_reducible repeat (first | refine blk_drewN ?_ _ | refine blk_drew ?_ | refine blk_alloc ?_ _)); exact BK686.out) hb); have n9_ := Aside0.mk (blk_below (g := gb695) (o := .cells #[.bool t687, .slice Ao41 t688.length co41, .slice Ao42 t691.length co42] 24 (0, 0)) (by (with_reducible repeat (first | refine blk_drewN ?_ _ | refine blk_drew ?_ | refine blk_alloc ?_ _)); exact BK695.out) hb); have n10_ := Aside0.mk (below_step (by repeat (first | (with_reducible first | exact HB.out | apply below_alloc | apply pw_below_drewN | apply below_drew1 | refine below_set ?_ GE661.out | refine below_set ?_ GE678.out | refine below_set ?_ GE686.out | refine below_set ?_ GE695.out) | exact HB.out)) hb); clear HO_679001; clear HO_679002; clear HO_687001; clear HO_687002; clear HO_696001; clear HO_696002; clear BK661; clear BK678; clear BK686; clear BK695; clear HB; have HO_679001 := n0_; have HO_679002 := n1_; have HO_687001 := n2_; have HO_687002 := n3_; have HO_696001 := n4_; have HO_696002 := n5_; have BK661 := n6_; have BK678 := n7_; have BK686 := n8_; have BK695 := n9_; have HB := n10_; clear n0_ n1_ n2_ n3_ n4_ n5_ n6_ n7_ n8_ n9_ n10_; (try clear hb); (try clear hb2); (try clear hk); (try clear hi); have hnb118 := NB661_678.out; have hnc118 := NB678_661.out; have hnb119 := NB661_686.out; have hnc119 := NB686_661.out; have hcz120_0 : w117.cell? ⟨gb661, 0, none⟩ = some (.bool a0_0) := (blk_cell BK661.out 0).trans rfl; have hcz120_1 : w117.cell? ⟨gb661, 1, none⟩ = some (.slice A0_1 l0_1.length c0_1) := (blk_cell BK661.out 1).trans rfl; have hcz120_2 : w117.cell? ⟨gb661, 2, none⟩ = some (.slice A0_2 l0_2.length c0_2) := (blk_cell BK661.out 2).trans rfl; have hfz120_0 := blk_frozen BK661.out 0; have hfz120_1 := blk_frozen BK661.out 1; have hfz120_2 := blk_frozen BK661.out 2) | ((with_reducible refine gate_callee (f := 22) rfl ?_); refine goesL_ (some 75) rfl rfl Try.func22 (by kernel_rfl) rfl #[.agg #[.bool a0_0, .slice A0_1 l0_1.length c0_1, .slice A0_2 l0_2.length c0_2]] rfl (by (try simp only [List.map_toArray, List.map_cons, List.map_nil]); first | done | rfl | (simp only [List.length_drop, List.length_take]; rfl)) ?_; (with_reducible refine (laws_toRat.calls kj65 a0_0 _ _ l0_1 _ _ l0_2 t713 t714 t717 _ ?side1 ?side2 ?side3 ?side4 A108.out).mono ?_); (case side1 => repeat (first | exact (Kd.C_below HR0_1.out HB.out) | (with_reducible refine Kd.C_alloc ?_ _) | (with_reducible refine Kd.C_drewN ?_ _) | (with_reducible refine Kd.C_drew ?_))); (case side2 => exact HC0_1.out); (case side3 => repeat (first | exact (Kd.C_below HR0_2.out HB.out) | (with_reducible refine Kd.C_alloc ?_ _) | (with_reducible refine Kd.C_drewN ?_ _) | (with_reducible refine Kd.C_drew ?_))); (case side4 => exact HC0_2.out); rintro e w121 ⟨v715, v718, rfl, ho0, ho1, hb⟩; refine ⟨_, rfl, ?_⟩; have n0_ := Aside0.mk (Kd.R_mono (Kd.R_told (Kd.R_told (Kd.R_old (by (with_reducible repeat (first | apply Kd.R_alloc | apply Kd.R_drewN | apply Kd.R_drew)); exact HO_679001.out) hb) (Kd.R_base ho0)) (Kd.R_base ho1)) (fun _ h_ => h_.1)); have n1_ := Aside0.mk (Kd.R_mono (Kd.R_told (Kd.R_told (Kd.R_old (by (with_reducible repeat (first | apply Kd.R_alloc | apply Kd.R_drewN | apply Kd.R_drew)); exact HO_679002.out) hb) (Kd.R_base ho0)) (Kd.R_base ho1)) (fun _ h_ => h_.1)); have n2_ := Aside0.mk (Kd.R_mono (Kd.R_told (Kd.R_told (Kd.R_old (by (with_reducible repeat (first | apply Kd.R_alloc | apply Kd.R_drewN | apply Kd.R_drew)); exact HO_687001.out) hb) (Kd.R_base ho0)) (Kd.R_base ho1)) (fun _ h_ => h_.1)); have n3_ := Aside0.mk (Kd.R_mono (Kd.R_told (Kd.R_told (Kd.R_old (by (with_reducible repeat (first | apply Kd.R_alloc | apply Kd.R_drewN | apply Kd.R_drew)); exact HO_687002.out) hb) (Kd.R_base ho0)) (Kd.R_base ho1)) (fun _ h_ => h_.1)); have n4_ := Aside0.mk (Kd.R_mono (Kd.R_told (Kd.R_told (Kd.R_old (by (with_reducible repeat (first | apply Kd.R_alloc | apply Kd.R_drewN | apply Kd.R_drew)); exact HO_696001.out) hb) (Kd.R_base ho0)) (Kd.R_base ho1)) (fun _ h_ => h_.1)); have n5_ := Aside0.mk (Kd.R_mono (Kd.R_told (Kd.R_told (Kd.R_old (by (with_reducible repeat (first | apply Kd.R_alloc | apply Kd.R_drewN | apply Kd.R_drew)); exact HO_696002.out) hb) (Kd.R_base ho0)) (Kd.R_base ho1)) (fun _ h_ => h_.1)); have n6_ := Aside0.mk (Kd.R_lower (Kd.R_new' (Kd.R_new' (Kd.R_new' (Kd.R_new' (Kd.R_new' (Kd.R_new' ho0 (Kd.R_lt (by (with_reducible repeat (first | apply Kd.R_alloc | apply Kd.R_drewN | apply Kd.R_drew)); exact HO_679001.out))) (Kd.R_lt (by (with_reducible repeat (first | apply Kd.R_alloc | apply Kd.R_drewN | apply Kd.R_drew)); exact HO_679002.out))) (Kd.R_lt (by (with_reducible repeat (first | apply Kd.R_alloc | apply Kd.R_drewN | apply Kd.R_drew)); exact HO_687001.out))) (Kd.R_lt (by (with_reducible repeat (first | apply Kd.R_alloc | apply Kd.R_drewN | apply Kd.R_drew)); exact HO_687002.out))) (Kd.R_lt (by (with_reducible repeat (first | apply Kd.R_alloc | apply Kd.R_drewN | apply Kd.R_drew)); exact HO_696001.out))) (Kd.R_lt (by (with_reducible repeat (first | apply Kd.R_alloc | apply Kd.R_drewN | apply Kd.R_drew)); exact HO_696002.out))) (below_size (by repeat (first | (with_reducible first | exact HB.out | apply below_alloc | apply pw_below_drewN | apply below_drew1 | refine below_set ?_ GE661.out | refine below_set ?_ GE678.out | refine below_set ?_ GE686.out | refine below_set ?_ GE695.out) | exact HB.out)))); have n7_ := Aside0.mk (Kd.R_lower (Kd.R_new' (Kd.R_new' (Kd.R_new' (Kd.R_new' (Kd.R_new' (Kd.R_new' ho1 (Kd.R_lt (by (with_reducible repeat (first | apply Kd.R_alloc | apply Kd.R_drewN | apply Kd.R_drew)); exact HO_679001.out))) (Kd.R_lt (by (with_reducible repeat (first | apply Kd.R_alloc | apply Kd.R_drewN | apply Kd.R_drew)); exact HO_679002.out))) (Kd.R_lt (by (with_reducible repeat (first | apply Kd.R_alloc | apply Kd.R_drewN | apply Kd.R_drew)); exact HO_687001.out))) (Kd.R_lt (by (with_reducible repeat (first | apply Kd.R_alloc | apply Kd.R_drewN | apply Kd.R_drew)); exact HO_687002.out))) (Kd.R_lt (by (with_reducible repeat (first | apply Kd.R_alloc | apply Kd.R_drewN | apply Kd.R_drew)); exact HO_696001.out))) (Kd.R_lt (by (with_reducible repeat (first | apply Kd.R_alloc | apply Kd.R_drewN | apply Kd.R_drew)); exact HO_696002.out))) (below_size (by repeat (first | (with_reducible first | exact HB.out | apply below_alloc | apply pw_below_drewN | apply below_drew1 | refine below_set ?_ GE661.out | refine below_set ?_ GE678.out | refine below_set ?_ GE686.out | refine below_set ?_ GE695.out) | exact HB.out)))); have n8_ := Aside0.mk (blk_below (g := gb661) (o := .cells #[.bool a0_0, .slice A0_1 l0_1.length c0_1, .slice A0_2 l0_2.length c0_2] 30 (0, 0)) (by (with_reducible repeat (first | refine blk_drewN ?_ _ | refine blk_drew ?_ | refine blk_alloc ?_ _)); exact BK661.out) hb); have n9_ := Aside0.mk (blk_below (g := gb678) (o := .cells #[.bool t670, .slice Ao23 t671.length co23, .slice Ao24 t674.length co24] 24 (0, 0)) (by (with_reducible repeat (first | refine blk_drewN ?_ _ | refine blk_drew ?_ | refine blk_alloc ?_ _)); exact BK678.out) hb); have n10_ := Aside0.mk (blk_below (g := gb686) (o := .cells #[.bool t679, .slice Ao31 t706.length co31, .slice Ao32 t707.length co32] 24 (0, 0)) (by (with_reducible repeat (first | refine blk_drewN ?_ _ | refine blk_drew ?_ | refine blk_alloc ?_ _)); exact BK686.out) hb); have n11_ := Aside0.mk (blk_below (g := gb695) (o := .cells #[.bool t687, .slice Ao41 t688.length co41, .slice Ao42 t691.length co42] 24 (0, 0)) (by (with_reducible repeat (first | refine blk_drewN ?_ _ | refine blk_drew ?_ | refine blk_alloc ?_ _)); exact BK695.out) hb); have n12_ := Aside0.mk (below_step (by repeat (first | (with_reducible first | exact HB.out | apply below_alloc | apply pw_below_drewN | apply below_drew1 | refine below_set ?_ GE661.out | refine below_set ?_ GE678.out | refine below_set ?_ GE686.out | refine below_set ?_ GE695.out) | exact HB.out)) hb); clear HO_679001; clear HO_679002; clear HO_687001; clear HO_687002; clear HO_696001; clear HO_696002; clear BK661; clear BK678; clear BK686; clear BK695; clear HB; have HO_679001 := n0_; have HO_679002 := n1_; have HO_687001 := n2_; have HO_687002 := n3_; have HO_696001 := n4_; have HO_696002 := n5_; have HO716 := n6_; have HO719 := n7_; have BK661 := n8_; have BK678 := n9_; have BK686 := n10_; have BK695 := n11_; have HB := n12_; clear n0_ n1_ n2_ n3_ n4_ n5_ n6_ n7_ n8_ n9_ n10_ n11_ n12_; (try clear hb); (try clear hb2); (try clear hk); (try clear hi); (try clear ho0); (try clear ho1); obtain ⟨Ao122, co122, eo122⟩ := Kd.R_slice HO716.out; subst eo122; obtain ⟨Ao123, co123, eo123⟩ := Kd.R_slice HO719.out; subst eo123) | ((with_reducible refine gate_callee (f := 25) rfl ?_); refine goesL_ (some 76) rfl rfl Try.func25 (by kernel_rfl) rfl #[.agg #[.bool t713, .slice Ao122 t714.length co122, .slice Ao123 t717.length co123]] rfl (by (try simp only [List.map_toArray, List.map_cons, List.map_nil]); first | done | rfl | (simp only [List.length_drop, List.length_take]; rfl)) ?_; (with_reducible refine (impl_NegRat.calls kj65 t713 (fun k_ => some k_ = (.slice Ao122 t714.length co122 : Value).ownBlock) _ _ t714 (fun k_ => some k_ = (.slice Ao123 t717.length co123 : Value).ownBlock) _ _ t717 t720 t721 t724 t727 _ ?side1 ?side2 A109.out).mono ?_); (case side1 => exact Kd.R_V (Kd.R_tight rfl (Kd.R_types (Kd.R_types (Kd.R_types (Kd.R_types (HO716.out) BK661.out (by decide)) BK678.out (by decide)) BK686.out (by decide)) BK695.out (by decide)))); (case side2 => exact Kd.R_V (Kd.R_tight rfl (Kd.R_types (Kd.R_types (Kd.R_types (Kd.R_types (HO719.out) BK661.out (by decide)) BK678.out (by decide)) BK686.out (by decide)) BK695.out (by decide)))); rintro e w124 ⟨v722, v725, rfl, ho0, ho1, hb⟩; refine ⟨_, rfl, ?_⟩; have n0_ := Aside0.mk (Kd.R_mono (Kd.R_told (Kd.R_told (Kd.R_old (by (with_reducible repeat (first | apply Kd.R_alloc | apply Kd.R_drewN | apply Kd.R_drew)); exact HO_679001.out) hb) (Kd.R_base ho0)) (Kd.R_base ho1)) (fun _ h_ => h_.1)); have n1_ := Aside0.mk (Kd.R_mono (Kd.R_told (Kd.R_told (Kd.R_old (by (with_reducible repeat (first | apply Kd.R_alloc | apply Kd.R_drewN | apply Kd.R_drew)); exact HO_679002.out) hb) (Kd.R_base ho0)) (Kd.R_base ho1)) (fun _ h_ => h_.1)); have n2_ := Aside0.mk (Kd.R_mono (Kd.R_told (Kd.R_told (Kd.R_old (by (with_reducible repeat (first | apply Kd.R_alloc | apply Kd.R_drewN | apply Kd.R_drew)); exact HO_687001.out) hb) (Kd.R_base ho0)) (Kd.R_base ho1)) (fun _ h_ => h_.1)); have n3_ := Aside0.mk (Kd.R_mono (Kd.R_told (Kd.R_told (Kd.R_old (by (with_reducible repeat (first | apply Kd.R_alloc | apply Kd.R_drewN | apply Kd.R_drew)); exact HO_687002.out) hb) (Kd.R_base ho0)) (Kd.R_base ho1)) (fun _ h_ => h_.1)); have n4_ := Aside0.mk (Kd.R_mono (Kd.R_told (Kd.R_told (Kd.R_old (by (with_reducible repeat (first | apply Kd.R_alloc | apply Kd.R_drewN | apply Kd.R_drew)); exact HO_696001.out) hb) (Kd.R_base ho0)) (Kd.R_base ho1)) (fun _ h_ => h_.1)); have n5_ := Aside0.mk (Kd.R_mono (Kd.R_told (Kd.R_told (Kd.R_old (by (with_reducible repeat (first | apply Kd.R_alloc | apply Kd.R_drewN | apply Kd.R_drew)); exact HO_696002.out) hb) (Kd.R_base ho0)) (Kd.R_base ho1)) (fun _ h_ => h_.1)); have n6_ := Aside0.mk (Kd.R_mono (Kd.R_told (Kd.R_told (Kd.R_old (by (with_reducible repeat (first | apply Kd.R_alloc | apply Kd.R_drewN | apply Kd.R_drew)); exact HO716.out) hb) (Kd.R_base ho0)) (Kd.R_base ho1)) (fun _ h_ => h_.1)); have n7_ := Aside0.mk (Kd.R_mono (Kd.R_told (Kd.R_told (Kd.R_old (by (with_reducible repeat (first | apply Kd.R_alloc | apply Kd.R_drewN | apply Kd.R_drew)); exact HO719.out) hb) (Kd.R_base ho0)) (Kd.R_base ho1)) (fun _ h_ => h_.1)); have n8_ := Aside0.mk (Kd.R_lower (Kd.R_new' (Kd.R_new' (Kd.R_new' (Kd.R_new' (Kd.R_new' (Kd.R_new' (Kd.R_new' (Kd.R_new' (Kd.R_mono (ok' := fun k_ => some k_ ≠ (v725 : Value).ownBlock) ho0 (fun _ hk_ => hk_.2)) (Kd.R_lt (by (with_reducible repeat (first | apply Kd.R_alloc | apply Kd.R_drewN | apply Kd.R_drew)); exact HO_679001.out))) (Kd.R_lt (by (with_reducible repeat (first | apply Kd.R_alloc | apply Kd.R_drewN | apply Kd.R_drew)); exact HO_679002.out))) (Kd.R_lt (by (with_reducible repeat (first | apply Kd.R_alloc | apply Kd.R_drewN | apply Kd.R_drew)); exact HO_687001.out))) (Kd.R_lt (by (with_reducible repeat (first | apply Kd.R_alloc | apply Kd.R_drewN | apply Kd.R_drew)); exact HO_687002.out))) (Kd.R_lt (by (with_reducible repeat (first | apply Kd.R_alloc | apply Kd.R_drewN | apply Kd.R_drew)); exact HO_696001.out))) (Kd.R_lt (by (with_reducible repeat (first | apply Kd.R_alloc | apply Kd.R_drewN | apply Kd.R_drew)); exact HO_696002.out))) (Kd.R_lt (by (with_reducible repeat (first | apply Kd.R_alloc | apply Kd.R_drewN | apply Kd.R_drew)); exact HO716.out))) (Kd.R_lt (by (with_reducible repeat (first | apply Kd.R_alloc | apply Kd.R_drewN | apply Kd.R_drew)); exact HO719.out))) (below_size (by repeat (first | (with_reducible first | exact HB.out | apply below_alloc | apply pw_below_drewN | apply below_drew1 | refine below_set ?_ GE661.out | refine below_set ?_ GE678.out | refine below_set ?_ GE686.out | refine below_set ?_ GE695.out) | exact HB.out)))); have n9_ := Aside0.mk (Kd.R_lower (Kd.R_new' (Kd.R_new' (Kd.R_new' (Kd.R_new' (Kd.R_new' (Kd.R_new' (Kd.R_new' (Kd.R_new' (Kd.R_mono (ok' := fun k_ => some k_ ≠ (v722 : Value).ownBlock) ho1 (fun _ hk_ => hk_.2)) (Kd.R_lt (by (with_reducible repeat (first | apply Kd.R_alloc | apply Kd.R_drewN | apply Kd.R_drew)); exact HO_679001.out))) (Kd.R_lt (by (with_reducible repeat (first | apply Kd.R_alloc | apply Kd.R_drewN | apply Kd.R_drew)); exact HO_679002.out))) (Kd.R_lt (by (with_reducible repeat (first | apply Kd.R_alloc | apply Kd.R_drewN | apply Kd.R_drew)); exact HO_687001.out))) (Kd.R_lt (by (with_reducible repeat (first | apply Kd.R_alloc | apply Kd.R_drewN | apply Kd.R_drew)); exact HO_687002.out))) (Kd.R_lt (by (with_reducible repeat (first | apply Kd.R_alloc | apply Kd.R_drewN | apply Kd.R_drew)); exact HO_696001.out))) (Kd.R_lt (by (with_reducible repeat (first | apply Kd.R_alloc | apply Kd.R_drewN | apply Kd.R_drew)); exact HO_696002.out))) (Kd.R_lt (by (with_reducible repeat (first | apply Kd.R_alloc | apply Kd.R_drewN | apply Kd.R_drew)); exact HO716.out))) (Kd.R_lt (by (with_reducible repeat (first | apply Kd.R_alloc | apply Kd.R_drewN | apply Kd.R_drew)); exact HO719.out))) (below_size (by repeat (first | (with_reducible first | exact HB.out | apply below_alloc | apply pw_below_drewN | apply below_drew1 | refine below_set ?_ GE661.out | refine below_set ?_ GE678.out | refine below_set ?_ GE686.out | refine below_set ?_ GE695.out) | exact HB.out)))); have n10_ := Aside0.mk (blk_below (g := gb661) (o := .cells #[.bool a0_0, .slice A0_1 l0_1.length c0_1, .slice A0_2 l0_2.length c0_2] 30 (0, 0)) (by (with_reducible repeat (first | refine blk_drewN ?_ _ | refine blk_drew ?_ | refine blk_alloc ?_ _)); exact BK661.out) hb); have n11_ := Aside0.mk (blk_below (g := gb678) (o := .cells #[.bool t670, .slice Ao23 t671.length co23, .slice Ao24 t674.length co24] 24 (0, 0)) (by (with_reducible repeat (first | refine blk_drewN ?_ _ | refine blk_drew ?_ | refine blk_alloc ?_ _)); exact BK678.out) hb); have n12_ := Aside0.mk (blk_below (g := gb686) (o := .cells #[.bool t679, .slice Ao31 t706.length co31, .slice Ao32 t707.length co32] 24 (0, 0)) (by (with_reducible repeat (first | refine blk_drewN ?_ _ | refine blk_drew ?_ | refine blk_alloc ?_ _)); exact BK686.out) hb); have n13_ := Aside0.mk (blk_below (g := gb695) (o := .cells #[.bool t687, .slice Ao41 t688.length co41, .slice Ao42 t691.length co42] 24 (0, 0)) (by (with_reducible repeat (first | refine blk_drewN ?_ _ | refine blk_drew ?_ | refine blk_alloc ?_ _)); exact BK695.out) hb); have n14_ := Aside0.mk (below_step (by repeat (first | (with_reducible first | exact HB.out | apply below_alloc | apply pw_below_drewN | apply below_drew1 | refine below_set ?_ GE661.out | refine below_set ?_ GE678.out | refine below_set ?_ GE686.out | refine below_set ?_ GE695.out) | exact HB.out)) hb); clear HO_679001; clear HO_679002; clear HO_687001; clear HO_687002; clear HO_696001; clear HO_696002; clear HO716; clear HO719; clear BK661; clear BK678; clear BK686; clear BK695; clear HB; have HO_679001 := n0_; have HO_679002 := n1_; have HO_687001 := n2_; have HO_687002 := n3_; have HO_696001 := n4_; have HO_696002 := n5_; have HO716 := n6_; have HO719 := n7_; have HO723 := n8_; have HO726 := n9_; have BK661 := n10_; have BK678 := n11_; have BK686 := n12_; have BK695 := n13_; have HB := n14_; clear n0_ n1_ n2_ n3_ n4_ n5_ n6_ n7_ n8_ n9_ n10_ n11_ n12_ n13_ n14_; (try clear hb); (try clear hb2); (try clear hk); (try clear hi); (try clear ho0); (try clear ho1)) | ((with_reducible refine gate_dst (N := 12) rfl ?_); refine box_event ?hg (N := 12) ?hd (cs := #[.bool false, .slice none 0 0, .slice none 0 0]) (t := 24) ?hr ?_; (case hd => rfl); (case hg => rfl); (case hr => first | (go_simp; done) | (go_simp; rfl)); intro gb728 hg w125 hbox hb; have n0_ := Aside0.mk (Kd.R_below (by (with_reducible repeat (first | apply Kd.R_alloc | apply Kd.R_drewN | apply Kd.R_drew)); exact HO_679001.out) hb); have n1_ := Aside0.mk (Kd.R_below (by (with_reducible repeat (first | apply Kd.R_alloc | apply Kd.R_drewN | apply Kd.R_drew)); exact HO_679002.out) hb); have n2_ := Aside0.mk (Kd.R_below (by (with_reducible repeat (first | apply Kd.R_alloc | apply Kd.R_drewN | apply Kd.R_drew)); exact HO_687001.out) hb); have n3_ := Aside0.mk (Kd.R_below (by (with_reducible repeat (first | apply Kd.R_alloc | apply Kd.R_drewN | apply Kd.R_drew)); exact HO_687002.out) hb); have n4_ := Aside0.mk (Kd.R_below (by (with_reducible repeat (first | apply Kd.R_alloc | apply Kd.R_drewN | apply Kd.R_drew)); exact HO_696001.out) hb); have n5_ := Aside0.mk (Kd.R_below (by (with_reducible repeat (first | apply Kd.R_alloc | apply Kd.R_drewN | apply Kd.R_drew)); exact HO_696002.out) hb); have n6_ := Aside0.mk (Kd.R_below (by (with_reducible repeat (first | apply Kd.R_alloc | apply Kd.R_drewN | apply Kd.R_drew)); exact HO716.out) hb); have n7_ := Aside0.mk (Kd.R_below (by (with_reducible repeat (first | apply Kd.R_alloc | apply Kd.R_drewN | apply Kd.R_drew)); exact HO719.out) hb); have n8_ := Aside0.mk (Kd.R_below (by (with_reducible repeat (first | apply Kd.R_alloc | apply Kd.R_drewN | apply Kd.R_drew)); exact HO723.out) hb); have n9_ := Aside0.mk (Kd.R_below (by (with_reducible repeat (first | apply Kd.R_alloc | apply Kd.R_drewN | apply Kd.R_drew)); exact HO726.out) hb); have n10_ := Aside0.mk (blk_below (g := gb661) (o := .cells #[.bool a0_0, .slice A0_1 l0_1.length c0_1, .slice A0_2 l0_2.length c0_2] 30 (0, 0)) (by (with_reducible repeat (first | refine blk_drewN ?_ _ | refine blk_drew ?_ | refine blk_alloc ?_ _)); exact BK661.out) hb); have n11_ := Aside0.mk (blk_below (g := gb678) (o := .cells #[.bool t670, .slice Ao23 t671.length co23, .slice Ao24 t674.length co24] 24 (0, 0)) (by (with_reducible repeat (first | refine blk_drewN ?_ _ | refine blk_drew ?_ | refine blk_alloc ?_ _)); exact BK678.out) hb); have n12_ := Aside0.mk (blk_below (g := gb686) (o := .cells #[.bool t679, .slice Ao31 t706.length co31, .slice Ao32 t707.length co32] 24 (0, 0)) (by (with_reducible repeat (first | refine blk_drewN ?_ _ | refine blk_drew ?_ | refine blk_alloc ?_ _)); exact BK686.out) hb); have n13_ := Aside0.mk (blk_below (g := gb695) (o := .cells #[.bool t687, .slice Ao41 t688.length co41, .slice Ao42 t691.length co42] 24 (0, 0)) (by (with_reducible repeat (first | refine blk_drewN ?_ _ | refine blk_drew ?_ | refine blk_alloc ?_ _)); exact BK695.out) hb); have n14_ := Aside0.mk (below_step (by repeat (first | (with_reducible first | exact HB.out | apply below_alloc | apply pw_below_drewN | apply below_drew1 | refine below_set ?_ GE661.out | refine below_set ?_ GE678.out | refine below_set ?_ GE686.out | refine below_set ?_ GE695.out) | exact HB.out)) hb); have n15_ := Aside0.mk (hbox); have n16_ := Aside0.mk ((by rw [hg]; exact (below_size (by repeat (first | (with_reducible first | exact HB.out | apply below_alloc | apply pw_below_drewN | apply below_drew1 | refine below_set ?_ GE661.out | refine below_set ?_ GE678.out | refine below_set ?_ GE686.out | refine below_set ?_ GE695.out) | exact HB.out))) : w.heap.size ≤ gb728)); have n17_ := Aside0.mk ((by rw [hg]; exact (below_size (by repeat (first | (with_reducible first | exact HB.out | apply below_alloc | apply pw_below_drewN | apply below_drew1 | refine below_set ?_ GE661.out | refine below_set ?_ GE678.out | refine below_set ?_ GE686.out | refine below_set ?_ GE695.out) | exact HB.out))) : w.heap.size ≤ gb728)); have n18_ := Aside0.mk ((by rw [hg]; exact Nat.ne_of_lt (blk_lt (g := gb661) (o := .cells #[.bool a0_0, .slice A0_1 l0_1.length c0_1, .slice A0_2 l0_2.length c0_2] 30 (0, 0)) (by (with_reducible repeat (first | refine blk_drewN ?_ _ | refine blk_drew ?_ | refine blk_alloc ?_ _)); exact BK661.out)) : gb661 ≠ gb728)); have n19_ := Aside0.mk ((by rw [hg]; exact Nat.ne_of_gt (blk_lt (g := gb661) (o := .cells #[.bool a0_0, .slice A0_1 l0_1.length c0_1, .slice A0_2 l0_2.length c0_2] 30 (0, 0)) (by (with_reducible repeat (first | refine blk_drewN ?_ _ | refine blk_drew ?_ | refine blk_alloc ?_ _)); exact BK661.out)) : gb728 ≠ gb661)); have n20_ := Aside0.mk ((by rw [hg]; exact Nat.ne_of_lt (blk_lt (g := gb678) (o := .cells #[.bool t670, .slice Ao23 t671.length co23, .slice Ao24 t674.length co24] 24 (0, 0)) (by (with_reducible repeat (first | refine blk_drewN ?_ _ | refine blk_drew ?_ | refine blk_alloc ?_ _)); exact BK678.out)) : gb678 ≠ gb728)); have n21_ := Aside0.mk ((by rw [hg]; exact Nat.ne_of_gt (blk_lt (g := gb678) (o := .cells #[.bool t670, .slice Ao23 t671.length co23, .slice Ao24 t674.length co24] 24 (0, 0)) (by (with_reducible repeat (first | refine blk_drewN ?_ _ | refine blk_drew ?_ | refine blk_alloc ?_ _)); exact BK678.out)) : gb728 ≠ gb678)); have n22_ := Aside0.mk ((by rw [hg]; exact Nat.ne_of_lt (blk_lt (g := gb686) (o := .cells #[.bool t679, .slice Ao31 t706.length co31, .slice Ao32 t707.length co32] 24 (0, 0)) (by (with_reducible repeat (first | refine blk_drewN ?_ _ | refine blk_drew ?_ | refine blk_alloc ?_ _)); exact BK686.out)) : gb686 ≠ gb728)); have n23_ := Aside0.mk ((by rw [hg]; exact Nat.ne_of_gt (blk_lt (g := gb686) (o := .cells #[.bool t679, .slice Ao31 t706.length co31, .slice Ao32 t707.length co32] 24 (0, 0)) (by (with_reducible repeat (first | refine blk_drewN ?_ _ | refine blk_drew ?_ | refine blk_alloc ?_ _)); exact BK686.out)) : gb728 ≠ gb686)); have n24_ := Aside0.mk ((by rw [hg]; exact Nat.ne_of_lt (blk_lt (g := gb695) (o := .cells #[.bool t687, .slice Ao41 t688.length co41, .slice Ao42 t691.length co42] 24 (0, 0)) (by (with_reducible repeat (first | refine blk_drewN ?_ _ | refine blk_drew ?_ | refine blk_alloc ?_ _)); exact BK695.out)) : gb695 ≠ gb728)); have n25_ := Aside0.mk ((by rw [hg]; exact Nat.ne_of_gt (blk_lt (g := gb695) (o := .cells #[.bool t687, .slice Ao41 t688.length co41, .slice Ao42 t691.length co42] 24 (0, 0)) (by (with_reducible repeat (first | refine blk_drewN ?_ _ | refine blk_drew ?_ | refine blk_alloc ?_ _)); exact BK695.out)) : gb728 ≠ gb695)); clear HO_679001; clear HO_679002; clear HO_687001; clear HO_687002; clear HO_696001; clear HO_696002; clear HO716; clear HO719; clear HO723; clear HO726; clear BK661; clear BK678; clear BK686; clear BK695; clear HB; have HO_679001 := n0_; have HO_679002 := n1_; have HO_687001 := n2_; have HO_687002 := n3_; have HO_696001 := n4_; have HO_696002 := n5_; have HO716 := n6_; have HO719 := n7_; have HO723 := n8_; have HO726 := n9_; have BK661 := n10_; have BK678 := n11_; have BK686 := n12_; have BK695 := n13_; have HB := n14_; have BK728 := n15_; have GW728 := n16_; have GE728 := n17_; have NB661_728 := n18_; have NB728_661 := n19_; have NB678_728 := n20_; have NB728_678 := n21_; have NB686_728 := n22_; have NB728_686 := n23_; have NB695_728 := n24_; have NB728_695 := n25_; clear n0_ n1_ n2_ n3_ n4_ n5_ n6_ n7_ n8_ n9_ n10_ n11_ n12_ n13_ n14_ n15_ n16_ n17_ n18_ n19_ n20_ n21_ n22_ n23_ n24_ n25_; clear hb hbox hg; have hnb126 := NB728_661.out; have hnc126 := NB661_728.out; have hnb127 := NB728_678.out; have hnc127 := NB678_728.out; have hnb128 := NB728_686.out; have hnc128 := NB686_728.out; have hnb129 := NB728_695.out; have hnc129 := NB695_728.out; have hcz130_0 : w125.cell? ⟨gb728, 0, none⟩ = some (.bool false) := (blk_cell BK728.out 0).trans rfl; have hcz130_1 : w125.cell? ⟨gb728, 1, none⟩ = some (.slice none 0 0) := (blk_cell BK728.out 1).trans rfl; have hcz130_2 : w125.cell? ⟨gb728, 2, none⟩ = some (.slice none 0 0) := (blk_cell BK728.out 2).trans rfl; have hfz130_0 := blk_frozen BK728.out 0; have hfz130_1 := blk_frozen BK728.out 1; have hfz130_2 := blk_frozen BK728.out 2; obtain ⟨Ao131, co131, eo131⟩ := Kd.R_slice HO723.out; subst eo131; obtain ⟨Ao132, co132, eo132⟩ := Kd.R_slice HO726.out; subst eo132))
                      (try simp only [Act.put, List.setIfInBounds_toArray, List.set_cons_zero, List.set_cons_succ])
                      go_cut [87] (fun v87 wc => ∃ (kq : Nat) (x87_109 : Bool), v87 = .bool x87_109 ∧ Aside0 (laws_FnExactNegRat.j2 kq t709 x87_109 t687 t710 t711 = some r) ∧ Aside0 (kq ≤ kj65) ∧ Aside0 (Kd.R (Kd.int .i64) 3 wc w.heap.size (fun k_ => some k_ ≠ ((.slice Ao24 t674.length co24) : Value).ownBlock ∧ some k_ ≠ ((.slice Ao31 t706.length co31) : Value).ownBlock ∧ some k_ ≠ ((.slice Ao32 t707.length co32) : Value).ownBlock ∧ some k_ ≠ ((.slice Ao41 t688.length co41) : Value).ownBlock ∧ some k_ ≠ ((.slice Ao42 t691.length co42) : Value).ownBlock ∧ some k_ ≠ ((.slice Ao131 t721.length co131) : Value).ownBlock ∧ some k_ ≠ ((.slice Ao132 t724.length co132) : Value).ownBlock) (.slice Ao23 t671.length co23) t671) ∧ Aside0 (Kd.R (Kd.int .i64) 3 wc w.heap.size (fun k_ => some k_ ≠ ((.slice Ao23 t671.length co23) : Value).ownBlock ∧ some k_ ≠ ((.slice Ao31 t706.length co31) : Value).ownBlock ∧ some k_ ≠ ((.slice Ao32 t707.length co32) : Value).ownBlock ∧ some k_ ≠ ((.slice Ao41 t688.length co41) : Value).ownBlock ∧ some k_ ≠ ((.slice Ao42 t691.length co42) : Value).ownBlock ∧ some k_ ≠ ((.slice Ao131 t721.length co131) : Value).ownBlock ∧ some k_ ≠ ((.slice Ao132 t724.length co132) : Value).ownBlock) (.slice Ao24 t674.length co24) t674) ∧ Aside0 (Kd.R (Kd.int .i64) 3 wc w.heap.size (fun k_ => some k_ ≠ ((.slice Ao23 t671.length co23) : Value).ownBlock ∧ some k_ ≠ ((.slice Ao24 t674.length co24) : Value).ownBlock ∧ some k_ ≠ ((.slice Ao32 t707.length co32) : Value).ownBlock ∧ some k_ ≠ ((.slice Ao41 t688.length co41) : Value).ownBlock ∧ some k_ ≠ ((.slice Ao42 t691.length co42) : Value).ownBlock ∧ some k_ ≠ ((.slice Ao131 t721.length co131) : Value).ownBlock ∧ some k_ ≠ ((.slice Ao132 t724.length co132) : Value).ownBlock) (.slice Ao31 t706.length co31) t706) ∧ Aside0 (Kd.R (Kd.int .i64) 3 wc w.heap.size (fun k_ => some k_ ≠ ((.slice Ao23 t671.length co23) : Value).ownBlock ∧ some k_ ≠ ((.slice Ao24 t674.length co24) : Value).ownBlock ∧ some k_ ≠ ((.slice Ao31 t706.length co31) : Value).ownBlock ∧ some k_ ≠ ((.slice Ao41 t688.length co41) : Value).ownBlock ∧ some k_ ≠ ((.slice Ao42 t691.length co42) : Value).ownBlock ∧ some k_ ≠ ((.slice Ao131 t721.length co131) : Value).ownBlock ∧ some k_ ≠ ((.slice Ao132 t724.length co132) : Value).ownBlock) (.slice Ao32 t707.length co32) t707) ∧ Aside0 (Kd.R (Kd.int .i64) 3 wc w.heap.size (fun k_ => some k_ ≠ ((.slice Ao23 t671.length co23) : Value).ownBlock ∧ some k_ ≠ ((.slice Ao24 t674.length co24) : Value).ownBlock ∧ some k_ ≠ ((.slice Ao31 t706.length co31) : Value).ownBlock ∧ some k_ ≠ ((.slice Ao32 t707.length co32) : Value).ownBlock ∧ some k_ ≠ ((.slice Ao42 t691.length co42) : Value).ownBlock ∧ some k_ ≠ ((.slice Ao131 t721.length co131) : Value).ownBlock ∧ some k_ ≠ ((.slice Ao132 t724.length co132) : Value).ownBlock) (.slice Ao41 t688.length co41) t710) ∧ Aside0 (Kd.R (Kd.int .i64) 3 wc w.heap.size (fun k_ => some k_ ≠ ((.slice Ao23 t671.length co23) : Value).ownBlock ∧ some k_ ≠ ((.slice Ao24 t674.length co24) : Value).ownBlock ∧ some k_ ≠ ((.slice Ao31 t706.length co31) : Value).ownBlock ∧ some k_ ≠ ((.slice Ao32 t707.length co32) : Value).ownBlock ∧ some k_ ≠ ((.slice Ao41 t688.length co41) : Value).ownBlock ∧ some k_ ≠ ((.slice Ao131 t721.length co131) : Value).ownBlock ∧ some k_ ≠ ((.slice Ao132 t724.length co132) : Value).ownBlock) (.slice Ao42 t691.length co42) t711) ∧ Aside0 (Kd.R (Kd.int .i64) 3 wc w.heap.size (fun k_ => some k_ ≠ ((.slice Ao23 t671.length co23) : Value).ownBlock ∧ some k_ ≠ ((.slice Ao24 t674.length co24) : Value).ownBlock ∧ some k_ ≠ ((.slice Ao31 t706.length co31) : Value).ownBlock ∧ some k_ ≠ ((.slice Ao32 t707.length co32) : Value).ownBlock ∧ some k_ ≠ ((.slice Ao41 t688.length co41) : Value).ownBlock ∧ some k_ ≠ ((.slice Ao42 t691.length co42) : Value).ownBlock ∧ some k_ ≠ ((.slice Ao132 t724.length co132) : Value).ownBlock) (.slice Ao131 t721.length co131) t721) ∧ Aside0 (Kd.R (Kd.int .i64) 3 wc w.heap.size (fun k_ => some k_ ≠ ((.slice Ao23 t671.length co23) : Value).ownBlock ∧ some k_ ≠ ((.slice Ao24 t674.length co24) : Value).ownBlock ∧ some k_ ≠ ((.slice Ao31 t706.length co31) : Value).ownBlock ∧ some k_ ≠ ((.slice Ao32 t707.length co32) : Value).ownBlock ∧ some k_ ≠ ((.slice Ao41 t688.length co41) : Value).ownBlock ∧ some k_ ≠ ((.slice Ao42 t691.length co42) : Value).ownBlock ∧ some k_ ≠ ((.slice Ao131 t721.length co131) : Value).ownBlock) (.slice Ao132 t724.length co132) t724) ∧ Aside0 (wc.heap[gb661]? = some (.cells #[.bool a0_0, (.slice A0_1 l0_1.length c0_1), (.slice A0_2 l0_2.length c0_2)] 30 (0, 0))) ∧ Aside0 (wc.heap[gb678]? = some (.cells #[.bool t670, (.slice Ao23 t671.length co23), (.slice Ao24 t674.length co24)] 24 (0, 0))) ∧ Aside0 (wc.heap[gb686]? = some (.cells #[.bool t679, (.slice Ao31 t706.length co31), (.slice Ao32 t707.length co32)] 24 (0, 0))) ∧ Aside0 (wc.heap[gb695]? = some (.cells #[.bool t687, (.slice Ao41 t688.length co41), (.slice Ao42 t691.length co42)] 24 (0, 0))) ∧ Aside0 (wc.heap[gb728]? = some (.cells #[.bool t720, (.slice Ao131 t721.length co131), (.slice Ao132 t724.length co132)] 24 (0, 0))) ∧ Aside0 (Below w.heap.size w wc))
                      case first =>
                        have H := HC110.out
                        clear HC110
                        replace H := Option.bind_eq_some_iff.mp H
                        obtain ⟨t729, A1330, H⟩ := H
                        replace H : (if t729 = true then (laws_FnExactNegRat.j2 kj65 t709 (t727 != t677) t687 t710 t711) else (laws_FnExactNegRat.j2 kj65 t709 true t687 t710 t711)) = some r := H
                        have A133 := Aside0.mk A1330
                        clear A1330
                        by_cases c134 : t729 = true
                        · subst c134
                          have H1 : (laws_FnExactNegRat.j2 kj65 t709 (t727 != t677) t687 t710 t711) = some r := by rw [if_pos rfl] at H; exact H
                          clear H
                          have H := H1
                          clear H1
                          have H' := Aside0.mk H
                          clear H
                          have hnb135 := NB728_661.out
                          have hnc135 := NB661_728.out
                          have hnb136 := NB728_678.out
                          have hnc136 := NB678_728.out
                          have hnb137 := NB728_686.out
                          have hnc137 := NB686_728.out
                          have hnb138 := NB728_695.out
                          have hnc138 := NB695_728.out
                          have hcz139_0 : w125.cell? ⟨gb728, 0, none⟩ = some (.bool false) := (blk_cell BK728.out 0).trans rfl
                          have hcz139_1 : w125.cell? ⟨gb728, 1, none⟩ = some (.slice none 0 0) := (blk_cell BK728.out 1).trans rfl
                          have hcz139_2 : w125.cell? ⟨gb728, 2, none⟩ = some (.slice none 0 0) := (blk_cell BK728.out 2).trans rfl
                          have hfz139_0 := blk_frozen BK728.out 0
                          have hfz139_1 := blk_frozen BK728.out 1
                          have hfz139_2 := blk_frozen BK728.out 2
                          have hnb140 := NB678_661.out
                          have hnc140 := NB661_678.out
                          have hnb141 := NB678_686.out
                          have hnc141 := NB686_678.out
                          have hnb142 := NB678_695.out
                          have hnc142 := NB695_678.out
                          have hcz143_0 : w125.cell? ⟨gb678, 0, none⟩ = some (.bool t670) := (blk_cell BK678.out 0).trans rfl
                          have hcz143_1 : w125.cell? ⟨gb678, 1, none⟩ = some (.slice Ao23 t671.length co23) := (blk_cell BK678.out 1).trans rfl
                          have hcz143_2 : w125.cell? ⟨gb678, 2, none⟩ = some (.slice Ao24 t674.length co24) := (blk_cell BK678.out 2).trans rfl
                          have hfz143_0 := blk_frozen BK678.out 0
                          have hfz143_1 := blk_frozen BK678.out 1
                          have hfz143_2 := blk_frozen BK678.out 2
                          go_wp2_with (first | ((with_reducible refine gate_callee (f := 17) rfl ?_); refine goesL_ (some 81) rfl rfl Try.func17 (by kernel_rfl) rfl #[.agg #[.bool t720, .slice Ao131 t721.length co131, .slice Ao132 t724.length co132], .agg #[.bool t670, .slice Ao23 t671.length co23, .slice Ao24 t674.length co24]] rfl (by (try simp only [List.map_toArray, List.map_cons, List.map_nil]); first | done | rfl | (simp only [List.length_drop, List.length_take]; rfl)) ?_; (with_reducible refine (laws_eqRat.calls kj65 t720 _ _ t721 _ _ t724 t670 _ _ t671 _ _ t674 true _ ?side1 ?side2 ?side3 ?side4 ?side5 ?side6 ?side7 ?side8 A133.out).mono ?_); (case side1 => refine (Kd.R_reads' (e := 3) (base := w.heap.size) (ok := fun k_ => ((((((((some k_ ≠ (.slice Ao132 t724.length co132 : Value).ownBlock ∧ some k_ ≠ (.slice Ao23 t671.length co23 : Value).ownBlock) ∧ some k_ ≠ (.slice Ao24 t674.length co24 : Value).ownBlock) ∧ some k_ ≠ (.slice Ao31 t706.length co31 : Value).ownBlock) ∧ some k_ ≠ (.slice Ao32 t707.length co32 : Value).ownBlock) ∧ some k_ ≠ (.slice Ao41 t688.length co41 : Value).ownBlock) ∧ some k_ ≠ (.slice Ao42 t691.length co42 : Value).ownBlock) ∧ some k_ ≠ (.slice Ao122 t714.length co122 : Value).ownBlock) ∧ some k_ ≠ (.slice Ao123 t717.length co123 : Value).ownBlock)) (n := t721.length) (c := co131) ?_).2.2; exact (by (with_reducible repeat (first | apply Kd.R_alloc | apply Kd.R_drewN | apply Kd.R_drew)); exact (Kd.R_mono (Kd.R_far (p := ⟨gb728, 2, none⟩) (Kd.R_far (p := ⟨gb728, 1, none⟩) (Kd.R_far (p := ⟨gb728, 0, none⟩) (Kd.R_types HO723.out BK728.out (by decide)) (fun _ hk => hk.2) (.bool t720)) (fun _ hk => hk.2) (.slice Ao131 t721.length co131)) (fun _ hk => hk.2) (.slice Ao132 t724.length co132)) (fun _ h_ => h_.1)))); (case side2 => exact (Kd.R_reads' HO723.out).2.1); (case side3 => refine (Kd.R_reads' (e := 3) (base := w.heap.size) (ok := fun k_ => ((((((((some k_ ≠ (.slice Ao131 t721.length co131 : Value).ownBlock ∧ some k_ ≠ (.slice Ao23 t671.length co23 : Value).ownBlock) ∧ some k_ ≠ (.slice Ao24 t674.length co24 : Value).ownBlock) ∧ some k_ ≠ (.slice Ao31 t706.length co31 : Value).ownBlock) ∧ some k_ ≠ (.slice Ao32 t707.length co32 : Value).ownBlock) ∧ some k_ ≠ (.slice Ao41 t688.length co41 : Value).ownBlock) ∧ some k_ ≠ (.slice Ao42 t691.length co42 : Value).ownBlock) ∧ some k_ ≠ (.slice Ao122 t714.length co122 : Value).ownBlock) ∧ some k_ ≠ (.slice Ao123 t717.length co123 : Value).ownBlock)) (n := t724.length) (c := co132) ?_).2.2; exact (by (with_reducible repeat (first | apply Kd.R_alloc | apply Kd.R_drewN | apply Kd.R_drew)); exact (Kd.R_mono (Kd.R_far (p := ⟨gb728, 2, none⟩) (Kd.R_far (p := ⟨gb728, 1, none⟩) (Kd.R_far (p := ⟨gb728, 0, none⟩) (Kd.R_types HO726.out BK728.out (by decide)) (fun _ hk => hk.2) (.bool t720)) (fun _ hk => hk.2) (.slice Ao131 t721.length co131)) (fun _ hk => hk.2) (.slice Ao132 t724.length co132)) (fun _ h_ => h_.1)))); (case side4 => exact (Kd.R_reads' HO726.out).2.1); (case side5 => refine (Kd.R_reads' (e := 3) (base := w.heap.size) (ok := fun k_ => (((((some k_ ≠ (.slice Ao24 t674.length co24 : Value).ownBlock ∧ (some k_ ≠ (.slice Ao31 t706.length co31 : Value).ownBlock ∧ (some k_ ≠ (.slice Ao32 t707.length co32 : Value).ownBlock ∧ (some k_ ≠ (.slice Ao41 t688.length co41 : Value).ownBlock ∧ some k_ ≠ (.slice Ao42 t691.length co42 : Value).ownBlock)))) ∧ some k_ ≠ (.slice Ao122 t714.length co122 : Value).ownBlock) ∧ some k_ ≠ (.slice Ao123 t717.length co123 : Value).ownBlock) ∧ some k_ ≠ (.slice Ao131 t721.length co131 : Value).ownBlock) ∧ some k_ ≠ (.slice Ao132 t724.length co132 : Value).ownBlock)) (n := t671.length) (c := co23) ?_).2.2; exact (by (with_reducible repeat (first | apply Kd.R_alloc | apply Kd.R_drewN | apply Kd.R_drew)); exact (Kd.R_mono (Kd.R_far (p := ⟨gb728, 2, none⟩) (Kd.R_far (p := ⟨gb728, 1, none⟩) (Kd.R_far (p := ⟨gb728, 0, none⟩) (Kd.R_types HO_679001.out BK728.out (by decide)) (fun _ hk => hk.2) (.bool t720)) (fun _ hk => hk.2) (.slice Ao131 t721.length co131)) (fun _ hk => hk.2) (.slice Ao132 t724.length co132)) (fun _ h_ => h_.1)))); (case side6 => exact (Kd.R_reads' HO_679001.out).2.1); (case side7 => refine (Kd.R_reads' (e := 3) (base := w.heap.size) (ok := fun k_ => (((((some k_ ≠ (.slice Ao23 t671.length co23 : Value).ownBlock ∧ (some k_ ≠ (.slice Ao31 t706.length co31 : Value).ownBlock ∧ (some k_ ≠ (.slice Ao32 t707.length co32 : Value).ownBlock ∧ (some k_ ≠ (.slice Ao41 t688.length co41 : Value).ownBlock ∧ some k_ ≠ (.slice Ao42 t691.length co42 : Value).ownBlock)))) ∧ some k_ ≠ (.slice Ao122 t714.length co122 : Value).ownBlock) ∧ some k_ ≠ (.slice Ao123 t717.length co123 : Value).ownBlock) ∧ some k_ ≠ (.slice Ao131 t721.length co131 : Value).ownBlock) ∧ some k_ ≠ (.slice Ao132 t724.length co132 : Value).ownBlock)) (n := t674.length) (c := co24) ?_).2.2; exact (by (with_reducible repeat (first | apply Kd.R_alloc | apply Kd.R_drewN | apply Kd.R_drew)); exact (Kd.R_mono (Kd.R_far (p := ⟨gb728, 2, none⟩) (Kd.R_far (p := ⟨gb728, 1, none⟩) (Kd.R_far (p := ⟨gb728, 0, none⟩) (Kd.R_types HO_679002.out BK728.out (by decide)) (fun _ hk => hk.2) (.bool t720)) (fun _ hk => hk.2) (.slice Ao131 t721.length co131)) (fun _ hk => hk.2) (.slice Ao132 t724.length co132)) (fun _ h_ => h_.1)))); (case side8 => exact (Kd.R_reads' HO_679002.out).2.1); rintro e w144 ⟨rfl, hb⟩; refine ⟨_, rfl, ?_⟩; have n0_ := Aside0.mk (Kd.R_below (by (with_reducible repeat (first | apply Kd.R_alloc | apply Kd.R_drewN | apply Kd.R_drew)); exact (Kd.R_mono (Kd.R_far (p := ⟨gb728, 2, none⟩) (Kd.R_far (p := ⟨gb728, 1, none⟩) (Kd.R_far (p := ⟨gb728, 0, none⟩) (Kd.R_types HO_679001.out BK728.out (by decide)) (fun _ hk => hk.2) (.bool t720)) (fun _ hk => hk.2) (.slice Ao131 t721.length co131)) (fun _ hk => hk.2) (.slice Ao132 t724.length co132)) (fun _ h_ => h_.1))) hb); have n1_ := Aside0.mk (Kd.R_below (by (with_reducible repeat (first | apply Kd.R_alloc | apply Kd.R_drewN | apply Kd.R_drew)); exact (Kd.R_mono (Kd.R_far (p := ⟨gb728, 2, none⟩) (Kd.R_far (p := ⟨gb728, 1, none⟩) (Kd.R_far (p := ⟨gb728, 0, none⟩) (Kd.R_types HO_679002.out BK728.out (by decide)) (fun _ hk => hk.2) (.bool t720)) (fun _ hk => hk.2) (.slice Ao131 t721.length co131)) (fun _ hk => hk.2) (.slice Ao132 t724.length co132)) (fun _ h_ => h_.1))) hb); have n2_ := Aside0.mk (Kd.R_below (by (with_reducible repeat (first | apply Kd.R_alloc | apply Kd.R_drewN | apply Kd.R_drew)); exact (Kd.R_mono (Kd.R_far (p := ⟨gb728, 2, none⟩) (Kd.R_far (p := ⟨gb728, 1, none⟩) (Kd.R_far (p := ⟨gb728, 0, none⟩) (Kd.R_types HO_687001.out BK728.out (by decide)) (fun _ hk => hk.2) (.bool t720)) (fun _ hk => hk.2) (.slice Ao131 t721.length co131)) (fun _ hk => hk.2) (.slice Ao132 t724.length co132)) (fun _ h_ => h_.1))) hb); have n3_ := Aside0.mk (Kd.R_below (by (with_reducible repeat (first | apply Kd.R_alloc | apply Kd.R_drewN | apply Kd.R_drew)); exact (Kd.R_mono (Kd.R_far (p := ⟨gb728, 2, none⟩) (Kd.R_far (p := ⟨gb728, 1, none⟩) (Kd.R_far (p := ⟨gb728, 0, none⟩) (Kd.R_types HO_687002.out BK728.out (by decide)) (fun _ hk => hk.2) (.bool t720)) (fun _ hk => hk.2) (.slice Ao131 t721.length co131)) (fun _ hk => hk.2) (.slice Ao132 t724.length co132)) (fun _ h_ => h_.1))) hb); have n4_ := Aside0.mk (Kd.R_below (by (with_reducible repeat (first | apply Kd.R_alloc | apply Kd.R_drewN | apply Kd.R_drew)); exact (Kd.R_mono (Kd.R_far (p := ⟨gb728, 2, none⟩) (Kd.R_far (p := ⟨gb728, 1, none⟩) (Kd.R_far (p := ⟨gb728, 0, none⟩) (Kd.R_types HO_696001.out BK728.out (by decide)) (fun _ hk => hk.2) (.bool t720)) (fun _ hk => hk.2) (.slice Ao131 t721.length co131)) (fun _ hk => hk.2) (.slice Ao132 t724.length co132)) (fun _ h_ => h_.1))) hb); have n5_ := Aside0.mk (Kd.R_below (by (with_reducible repeat (first | apply Kd.R_alloc | apply Kd.R_drewN | apply Kd.R_drew)); exact (Kd.R_mono (Kd.R_far (p := ⟨gb728, 2, none⟩) (Kd.R_far (p := ⟨gb728, 1, none⟩) (Kd.R_far (p := ⟨gb728, 0, none⟩) (Kd.R_types HO_696002.out BK728.out (by decide)) (fun _ hk => hk.2) (.bool t720)) (fun _ hk => hk.2) (.slice Ao131 t721.length co131)) (fun _ hk => hk.2) (.slice Ao132 t724.length co132)) (fun _ h_ => h_.1))) hb); have n6_ := Aside0.mk (Kd.R_below (by (with_reducible repeat (first | apply Kd.R_alloc | apply Kd.R_drewN | apply Kd.R_drew)); exact (Kd.R_mono (Kd.R_far (p := ⟨gb728, 2, none⟩) (Kd.R_far (p := ⟨gb728, 1, none⟩) (Kd.R_far (p := ⟨gb728, 0, none⟩) (Kd.R_types HO716.out BK728.out (by decide)) (fun _ hk => hk.2) (.bool t720)) (fun _ hk => hk.2) (.slice Ao131 t721.length co131)) (fun _ hk => hk.2) (.slice Ao132 t724.length co132)) (fun _ h_ => h_.1))) hb); have n7_ := Aside0.mk (Kd.R_below (by (with_reducible repeat (first | apply Kd.R_alloc | apply Kd.R_drewN | apply Kd.R_drew)); exact (Kd.R_mono (Kd.R_far (p := ⟨gb728, 2, none⟩) (Kd.R_far (p := ⟨gb728, 1, none⟩) (Kd.R_far (p := ⟨gb728, 0, none⟩) (Kd.R_types HO719.out BK728.out (by decide)) (fun _ hk => hk.2) (.bool t720)) (fun _ hk => hk.2) (.slice Ao131 t721.length co131)) (fun _ hk => hk.2) (.slice Ao132 t724.length co132)) (fun _ h_ => h_.1))) hb); have n8_ := Aside0.mk (Kd.R_below (by (with_reducible repeat (first | apply Kd.R_alloc | apply Kd.R_drewN | apply Kd.R_drew)); exact (Kd.R_mono (Kd.R_far (p := ⟨gb728, 2, none⟩) (Kd.R_far (p := ⟨gb728, 1, none⟩) (Kd.R_far (p := ⟨gb728, 0, none⟩) (Kd.R_types HO723.out BK728.out (by decide)) (fun _ hk => hk.2) (.bool t720)) (fun _ hk => hk.2) (.slice Ao131 t721.length co131)) (fun _ hk => hk.2) (.slice Ao132 t724.length co132)) (fun _ h_ => h_.1))) hb); have n9_ := Aside0.mk (Kd.R_below (by (with_reducible repeat (first | apply Kd.R_alloc | apply Kd.R_drewN | apply Kd.R_drew)); exact (Kd.R_mono (Kd.R_far (p := ⟨gb728, 2, none⟩) (Kd.R_far (p := ⟨gb728, 1, none⟩) (Kd.R_far (p := ⟨gb728, 0, none⟩) (Kd.R_types HO726.out BK728.out (by decide)) (fun _ hk => hk.2) (.bool t720)) (fun _ hk => hk.2) (.slice Ao131 t721.length co131)) (fun _ hk => hk.2) (.slice Ao132 t724.length co132)) (fun _ h_ => h_.1))) hb); have n10_ := Aside0.mk (blk_below (g := gb661) (o := .cells #[.bool a0_0, .slice A0_1 l0_1.length c0_1, .slice A0_2 l0_2.length c0_2] 30 (0, 0)) (by (with_reducible repeat (first | refine blk_drewN ?_ _ | refine blk_drew ?_ | refine blk_alloc ?_ _)); refine blk_far ?_ NB661_728.out _; (with_reducible repeat (first | refine blk_drewN ?_ _ | refine blk_drew ?_ | refine blk_alloc ?_ _)); refine blk_far ?_ NB661_728.out _; (with_reducible repeat (first | refine blk_drewN ?_ _ | refine blk_drew ?_ | refine blk_alloc ?_ _)); refine blk_far ?_ NB661_728.out _; (with_reducible repeat (first | refine blk_drewN ?_ _ | refine blk_drew ?_ | refine blk_alloc ?_ _)); exact BK661.out) hb); have n11_ := Aside0.mk (blk_below (g := gb678) (o := .cells #[.bool t670, .slice Ao23 t671.length co23, .slice Ao24 t674.length co24] 24 (0, 0)) (by (with_reducible repeat (first | refine blk_drewN ?_ _ | refine blk_drew ?_ | refine blk_alloc ?_ _)); refine blk_far ?_ NB678_728.out _; (with_reducible repeat (first | refine blk_drewN ?_ _ | refine blk_drew ?_ | refine blk_alloc ?_ _)); refine blk_far ?_ NB678_728.out _; (with_reducible repeat (first | refine blk_drewN ?_ _ | refine blk_drew ?_ | refine blk_alloc ?_ _)); refine blk_far ?_ NB678_728.out _; (with_reducible repeat (first | refine blk_drewN ?_ _ | refine blk_drew ?_ | refine blk_alloc ?_ _)); exact BK678.out) hb); have n12_ := Aside0.mk (blk_below (g := gb686) (o := .cells #[.bool t679, .slice Ao31 t706.length co31, .slice Ao32 t707.length co32] 24 (0, 0)) (by (with_reducible repeat (first | refine blk_drewN ?_ _ | refine blk_drew ?_ | refine blk_alloc ?_ _)); refine blk_far ?_ NB686_728.out _; (with_reducible repeat (first | refine blk_drewN ?_ _ | refine blk_drew ?_ | refine blk_alloc ?_ _)); refine blk_far ?_ NB686_728.out _; (with_reducible repeat (first | refine blk_drewN ?_ _ | refine blk_drew ?_ | refine blk_alloc ?_ _)); refine blk_far ?_ NB686_728.out _; (with_reducible repeat (first | refine blk_drewN ?_ _ | refine blk_drew ?_ | refine blk_alloc ?_ _)); exact BK686.out) hb); have n13_ := Aside0.mk (blk_below (g := gb695) (o := .cells #[.bool t687, .slice Ao41 t688.length co41, .slice Ao42 t691.length co42] 24 (0, 0)) (by (with_reducible repeat (first | refine blk_drewN ?_ _ | refine blk_drew ?_ | refine blk_alloc ?_ _)); refine blk_far ?_ NB695_728.out _; (with_reducible repeat (first | refine blk_drewN ?_ _ | refine blk_drew ?_ | refine blk_alloc ?_ _)); refine blk_far ?_ NB695_728.out _; (with_reducible repeat (first | refine blk_drewN ?_ _ | refine blk_drew ?_ | refine blk_alloc ?_ _)); refine blk_far ?_ NB695_728.out _; (with_reducible repeat (first | refine blk_drewN ?_ _ | refine blk_drew ?_ | refine blk_alloc ?_ _)); exact BK695.out) hb); have n14_ := Aside0.mk (blk_below (g := gb728) (o := .cells #[.bool t720, .slice Ao131 t721.length co131, .slice Ao132 t724.length co132] 24 (0, 0)) (by (with_reducible repeat (first | refine blk_drewN ?_ _ | refine blk_drew ?_ | refine blk_alloc ?_ _)); refine blk_put (cs := #[.bool t720, .slice Ao131 t721.length co131, .slice none 0 0]) ?_ 2 _ rfl; (with_reducible repeat (first | refine blk_drewN ?_ _ | refine blk_drew ?_ | refine blk_alloc ?_ _)); refine blk_put (cs := #[.bool t720, .slice none 0 0, .slice none 0 0]) ?_ 1 _ rfl; (with_reducible repeat (first | refine blk_drewN ?_ _ | refine blk_drew ?_ | refine blk_alloc ?_ _)); refine blk_put (cs := #[.bool false, .slice none 0 0, .slice none 0 0]) ?_ 0 _ rfl; (with_reducible repeat (first | refine blk_drewN ?_ _ | refine blk_drew ?_ | refine blk_alloc ?_ _)); exact BK728.out) hb); have n15_ := Aside0.mk (below_step (by repeat (first | (with_reducible first | exact HB.out | apply below_alloc | apply pw_below_drewN | apply below_drew1 | refine below_set ?_ GE661.out | refine below_set ?_ GE678.out | refine below_set ?_ GE686.out | refine below_set ?_ GE695.out | refine below_set ?_ GE728.out) | exact HB.out)) hb); clear HO_679001; clear HO_679002; clear HO_687001; clear HO_687002; clear HO_696001; clear HO_696002; clear HO716; clear HO719; clear HO723; clear HO726; clear BK661; clear BK678; clear BK686; clear BK695; clear BK728; clear HB; have HO_679001 := n0_; have HO_679002 := n1_; have HO_687001 := n2_; have HO_687002 := n3_; have HO_696001 := n4_; have HO_696002 := n5_; have HO716 := n6_; have HO719 := n7_; have HO723 := n8_; have HO726 := n9_; have BK661 := n10_; have BK678 := n11_; have BK686 := n12_; have BK695 := n13_; have BK728 := n14_; have HB := n15_; clear n0_ n1_ n2_ n3_ n4_ n5_ n6_ n7_ n8_ n9_ n10_ n11_ n12_ n13_ n14_ n15_; (try clear hb); (try clear hb2); (try clear hk); (try clear hi)))
                          go_meet
                          case rel => exact ⟨_, ((t727 != t677)), (by first | rfl | (simp; done) | (simp [*]; done)), H', ⟨by have := HJ10.out; have := HJ65.out; first | omega | exact Nat.le_refl _⟩, ⟨by (try simp only [hl687001_65]); (try simp only [hl687002_65]); (with_reducible repeat (first | apply Kd.R_alloc | apply Kd.R_drewN | apply Kd.R_drew)); exact Kd.R_mono HO_679001.out (fun _ hk => ⟨hk.1.1.1.1.1, ⟨hk.1.1.1.1.2.1, ⟨hk.1.1.1.1.2.2.1, ⟨hk.1.1.1.1.2.2.2.1, ⟨hk.1.1.1.1.2.2.2.2, ⟨hk.1.2, hk.2⟩⟩⟩⟩⟩⟩)⟩, ⟨by (try simp only [hl687001_65]); (try simp only [hl687002_65]); (with_reducible repeat (first | apply Kd.R_alloc | apply Kd.R_drewN | apply Kd.R_drew)); exact Kd.R_mono HO_679002.out (fun _ hk => ⟨hk.1.1.1.1.1, ⟨hk.1.1.1.1.2.1, ⟨hk.1.1.1.1.2.2.1, ⟨hk.1.1.1.1.2.2.2.1, ⟨hk.1.1.1.1.2.2.2.2, ⟨hk.1.2, hk.2⟩⟩⟩⟩⟩⟩)⟩, ⟨by (try simp only [hl687001_65]); (try simp only [hl687002_65]); (with_reducible repeat (first | apply Kd.R_alloc | apply Kd.R_drewN | apply Kd.R_drew)); exact Kd.R_mono HO_687001.out (fun _ hk => ⟨hk.1.1.1.1.1, ⟨hk.1.1.1.1.2.1, ⟨hk.1.1.1.1.2.2.1, ⟨hk.1.1.1.1.2.2.2.1, ⟨hk.1.1.1.1.2.2.2.2, ⟨hk.1.2, hk.2⟩⟩⟩⟩⟩⟩)⟩, ⟨by (try simp only [hl687001_65]); (try simp only [hl687002_65]); (with_reducible repeat (first | apply Kd.R_alloc | apply Kd.R_drewN | apply Kd.R_drew)); exact Kd.R_mono HO_687002.out (fun _ hk => ⟨hk.1.1.1.1.1, ⟨hk.1.1.1.1.2.1, ⟨hk.1.1.1.1.2.2.1, ⟨hk.1.1.1.1.2.2.2.1, ⟨hk.1.1.1.1.2.2.2.2, ⟨hk.1.2, hk.2⟩⟩⟩⟩⟩⟩)⟩, ⟨by (try simp only [hl687001_65]); (try simp only [hl687002_65]); (with_reducible repeat (first | apply Kd.R_alloc | apply Kd.R_drewN | apply Kd.R_drew)); exact Kd.R_mono HO_696001.out (fun _ hk => ⟨hk.1.1.1.1.1, ⟨hk.1.1.1.1.2.1, ⟨hk.1.1.1.1.2.2.1, ⟨hk.1.1.1.1.2.2.2.1, ⟨hk.1.1.1.1.2.2.2.2, ⟨hk.1.2, hk.2⟩⟩⟩⟩⟩⟩)⟩, ⟨by (try simp only [hl687001_65]); (try simp only [hl687002_65]); (with_reducible repeat (first | apply Kd.R_alloc | apply Kd.R_drewN | apply Kd.R_drew)); exact Kd.R_mono HO_696002.out (fun _ hk => ⟨hk.1.1.1.1.1, ⟨hk.1.1.1.1.2.1, ⟨hk.1.1.1.1.2.2.1, ⟨hk.1.1.1.1.2.2.2.1, ⟨hk.1.1.1.1.2.2.2.2, ⟨hk.1.2, hk.2⟩⟩⟩⟩⟩⟩)⟩, ⟨by (try simp only [hl687001_65]); (try simp only [hl687002_65]); (with_reducible repeat (first | apply Kd.R_alloc | apply Kd.R_drewN | apply Kd.R_drew)); exact Kd.R_mono HO723.out (fun _ hk => ⟨hk.1.1.1.1.1.1.1.2, ⟨hk.1.1.1.1.1.1.2, ⟨hk.1.1.1.1.1.2, ⟨hk.1.1.1.1.2, ⟨hk.1.1.1.2, ⟨hk.1.1.2, hk.1.1.1.1.1.1.1.1⟩⟩⟩⟩⟩⟩)⟩, ⟨by (try simp only [hl687001_65]); (try simp only [hl687002_65]); (with_reducible repeat (first | apply Kd.R_alloc | apply Kd.R_drewN | apply Kd.R_drew)); exact Kd.R_mono HO726.out (fun _ hk => ⟨hk.1.1.1.1.1.1.1.2, ⟨hk.1.1.1.1.1.1.2, ⟨hk.1.1.1.1.1.2, ⟨hk.1.1.1.1.2, ⟨hk.1.1.1.2, ⟨hk.1.1.2, hk.1.1.1.1.1.1.1.1⟩⟩⟩⟩⟩⟩)⟩, ⟨by (try simp only [hl687001_65]); (try simp only [hl687002_65]); (with_reducible repeat (first | refine blk_drewN ?_ _ | refine blk_drew ?_ | refine blk_alloc ?_ _)); exact BK661.out⟩, ⟨by (try simp only [hl687001_65]); (try simp only [hl687002_65]); (with_reducible repeat (first | refine blk_drewN ?_ _ | refine blk_drew ?_ | refine blk_alloc ?_ _)); exact BK678.out⟩, ⟨by (try simp only [hl687001_65]); (try simp only [hl687002_65]); (with_reducible repeat (first | refine blk_drewN ?_ _ | refine blk_drew ?_ | refine blk_alloc ?_ _)); exact BK686.out⟩, ⟨by (try simp only [hl687001_65]); (try simp only [hl687002_65]); (with_reducible repeat (first | refine blk_drewN ?_ _ | refine blk_drew ?_ | refine blk_alloc ?_ _)); exact BK695.out⟩, ⟨by (try simp only [hl687001_65]); (try simp only [hl687002_65]); (with_reducible repeat (first | refine blk_drewN ?_ _ | refine blk_drew ?_ | refine blk_alloc ?_ _)); exact BK728.out⟩, ⟨by repeat (first | (with_reducible first | exact HB.out | apply below_alloc | apply pw_below_drewN | apply below_drew1 | refine below_set ?_ GE661.out | refine below_set ?_ GE678.out | refine below_set ?_ GE686.out | refine below_set ?_ GE695.out | refine below_set ?_ GE728.out) | exact HB.out)⟩⟩
                        · replace c134 := Bool.eq_false_iff.mpr c134
                          subst c134
                          have H1 : (laws_FnExactNegRat.j2 kj65 t709 true t687 t710 t711) = some r := by rw [if_neg (show ¬ (false = true) by decide)] at H; exact H
                          clear H
                          have H := H1
                          clear H1
                          have H' := Aside0.mk H
                          clear H
                          have hnb145 := NB728_661.out
                          have hnc145 := NB661_728.out
                          have hnb146 := NB728_678.out
                          have hnc146 := NB678_728.out
                          have hnb147 := NB728_686.out
                          have hnc147 := NB686_728.out
                          have hnb148 := NB728_695.out
                          have hnc148 := NB695_728.out
                          have hcz149_0 : w125.cell? ⟨gb728, 0, none⟩ = some (.bool false) := (blk_cell BK728.out 0).trans rfl
                          have hcz149_1 : w125.cell? ⟨gb728, 1, none⟩ = some (.slice none 0 0) := (blk_cell BK728.out 1).trans rfl
                          have hcz149_2 : w125.cell? ⟨gb728, 2, none⟩ = some (.slice none 0 0) := (blk_cell BK728.out 2).trans rfl
                          have hfz149_0 := blk_frozen BK728.out 0
                          have hfz149_1 := blk_frozen BK728.out 1
                          have hfz149_2 := blk_frozen BK728.out 2
                          have hnb150 := NB678_661.out
                          have hnc150 := NB661_678.out
                          have hnb151 := NB678_686.out
                          have hnc151 := NB686_678.out
                          have hnb152 := NB678_695.out
                          have hnc152 := NB695_678.out
                          have hcz153_0 : w125.cell? ⟨gb678, 0, none⟩ = some (.bool t670) := (blk_cell BK678.out 0).trans rfl
                          have hcz153_1 : w125.cell? ⟨gb678, 1, none⟩ = some (.slice Ao23 t671.length co23) := (blk_cell BK678.out 1).trans rfl
                          have hcz153_2 : w125.cell? ⟨gb678, 2, none⟩ = some (.slice Ao24 t674.length co24) := (blk_cell BK678.out 2).trans rfl
                          have hfz153_0 := blk_frozen BK678.out 0
                          have hfz153_1 := blk_frozen BK678.out 1
                          have hfz153_2 := blk_frozen BK678.out 2
                          go_wp2_with (first | ((with_reducible refine gate_callee (f := 17) rfl ?_); refine goesL_ (some 81) rfl rfl Try.func17 (by kernel_rfl) rfl #[.agg #[.bool t720, .slice Ao131 t721.length co131, .slice Ao132 t724.length co132], .agg #[.bool t670, .slice Ao23 t671.length co23, .slice Ao24 t674.length co24]] rfl (by (try simp only [List.map_toArray, List.map_cons, List.map_nil]); first | done | rfl | (simp only [List.length_drop, List.length_take]; rfl)) ?_; (with_reducible refine (laws_eqRat.calls kj65 t720 _ _ t721 _ _ t724 t670 _ _ t671 _ _ t674 false _ ?side1 ?side2 ?side3 ?side4 ?side5 ?side6 ?side7 ?side8 A133.out).mono ?_); (case side1 => refine (Kd.R_reads' (e := 3) (base := w.heap.size) (ok := fun k_ => ((((((((some k_ ≠ (.slice Ao132 t724.length co132 : Value).ownBlock ∧ some k_ ≠ (.slice Ao23 t671.length co23 : Value).ownBlock) ∧ some k_ ≠ (.slice Ao24 t674.length co24 : Value).ownBlock) ∧ some k_ ≠ (.slice Ao31 t706.length co31 : Value).ownBlock) ∧ some k_ ≠ (.slice Ao32 t707.length co32 : Value).ownBlock) ∧ some k_ ≠ (.slice Ao41 t688.length co41 : Value).ownBlock) ∧ some k_ ≠ (.slice Ao42 t691.length co42 : Value).ownBlock) ∧ some k_ ≠ (.slice Ao122 t714.length co122 : Value).ownBlock) ∧ some k_ ≠ (.slice Ao123 t717.length co123 : Value).ownBlock)) (n := t721.length) (c := co131) ?_).2.2; exact (by (with_reducible repeat (first | apply Kd.R_alloc | apply Kd.R_drewN | apply Kd.R_drew)); exact (Kd.R_mono (Kd.R_far (p := ⟨gb728, 2, none⟩) (Kd.R_far (p := ⟨gb728, 1, none⟩) (Kd.R_far (p := ⟨gb728, 0, none⟩) (Kd.R_types HO723.out BK728.out (by decide)) (fun _ hk => hk.2) (.bool t720)) (fun _ hk => hk.2) (.slice Ao131 t721.length co131)) (fun _ hk => hk.2) (.slice Ao132 t724.length co132)) (fun _ h_ => h_.1)))); (case side2 => exact (Kd.R_reads' HO723.out).2.1); (case side3 => refine (Kd.R_reads' (e := 3) (base := w.heap.size) (ok := fun k_ => ((((((((some k_ ≠ (.slice Ao131 t721.length co131 : Value).ownBlock ∧ some k_ ≠ (.slice Ao23 t671.length co23 : Value).ownBlock) ∧ some k_ ≠ (.slice Ao24 t674.length co24 : Value).ownBlock) ∧ some k_ ≠ (.slice Ao31 t706.length co31 : Value).ownBlock) ∧ some k_ ≠ (.slice Ao32 t707.length co32 : Value).ownBlock) ∧ some k_ ≠ (.slice Ao41 t688.length co41 : Value).ownBlock) ∧ some k_ ≠ (.slice Ao42 t691.length co42 : Value).ownBlock) ∧ some k_ ≠ (.slice Ao122 t714.length co122 : Value).ownBlock) ∧ some k_ ≠ (.slice Ao123 t717.length co123 : Value).ownBlock)) (n := t724.length) (c := co132) ?_).2.2; exact (by (with_reducible repeat (first | apply Kd.R_alloc | apply Kd.R_drewN | apply Kd.R_drew)); exact (Kd.R_mono (Kd.R_far (p := ⟨gb728, 2, none⟩) (Kd.R_far (p := ⟨gb728, 1, none⟩) (Kd.R_far (p := ⟨gb728, 0, none⟩) (Kd.R_types HO726.out BK728.out (by decide)) (fun _ hk => hk.2) (.bool t720)) (fun _ hk => hk.2) (.slice Ao131 t721.length co131)) (fun _ hk => hk.2) (.slice Ao132 t724.length co132)) (fun _ h_ => h_.1)))); (case side4 => exact (Kd.R_reads' HO726.out).2.1); (case side5 => refine (Kd.R_reads' (e := 3) (base := w.heap.size) (ok := fun k_ => (((((some k_ ≠ (.slice Ao24 t674.length co24 : Value).ownBlock ∧ (some k_ ≠ (.slice Ao31 t706.length co31 : Value).ownBlock ∧ (some k_ ≠ (.slice Ao32 t707.length co32 : Value).ownBlock ∧ (some k_ ≠ (.slice Ao41 t688.length co41 : Value).ownBlock ∧ some k_ ≠ (.slice Ao42 t691.length co42 : Value).ownBlock)))) ∧ some k_ ≠ (.slice Ao122 t714.length co122 : Value).ownBlock) ∧ some k_ ≠ (.slice Ao123 t717.length co123 : Value).ownBlock) ∧ some k_ ≠ (.slice Ao131 t721.length co131 : Value).ownBlock) ∧ some k_ ≠ (.slice Ao132 t724.length co132 : Value).ownBlock)) (n := t671.length) (c := co23) ?_).2.2; exact (by (with_reducible repeat (first | apply Kd.R_alloc | apply Kd.R_drewN | apply Kd.R_drew)); exact (Kd.R_mono (Kd.R_far (p := ⟨gb728, 2, none⟩) (Kd.R_far (p := ⟨gb728, 1, none⟩) (Kd.R_far (p := ⟨gb728, 0, none⟩) (Kd.R_types HO_679001.out BK728.out (by decide)) (fun _ hk => hk.2) (.bool t720)) (fun _ hk => hk.2) (.slice Ao131 t721.length co131)) (fun _ hk => hk.2) (.slice Ao132 t724.length co132)) (fun _ h_ => h_.1)))); (case side6 => exact (Kd.R_reads' HO_679001.out).2.1); (case side7 => refine (Kd.R_reads' (e := 3) (base := w.heap.size) (ok := fun k_ => (((((some k_ ≠ (.slice Ao23 t671.length co23 : Value).ownBlock ∧ (some k_ ≠ (.slice Ao31 t706.length co31 : Value).ownBlock ∧ (some k_ ≠ (.slice Ao32 t707.length co32 : Value).ownBlock ∧ (some k_ ≠ (.slice Ao41 t688.length co41 : Value).ownBlock ∧ some k_ ≠ (.slice Ao42 t691.length co42 : Value).ownBlock)))) ∧ some k_ ≠ (.slice Ao122 t714.length co122 : Value).ownBlock) ∧ some k_ ≠ (.slice Ao123 t717.length co123 : Value).ownBlock) ∧ some k_ ≠ (.slice Ao131 t721.length co131 : Value).ownBlock) ∧ some k_ ≠ (.slice Ao132 t724.length co132 : Value).ownBlock)) (n := t674.length) (c := co24) ?_).2.2; exact (by (with_reducible repeat (first | apply Kd.R_alloc | apply Kd.R_drewN | apply Kd.R_drew)); exact (Kd.R_mono (Kd.R_far (p := ⟨gb728, 2, none⟩) (Kd.R_far (p := ⟨gb728, 1, none⟩) (Kd.R_far (p := ⟨gb728, 0, none⟩) (Kd.R_types HO_679002.out BK728.out (by decide)) (fun _ hk => hk.2) (.bool t720)) (fun _ hk => hk.2) (.slice Ao131 t721.length co131)) (fun _ hk => hk.2) (.slice Ao132 t724.length co132)) (fun _ h_ => h_.1)))); (case side8 => exact (Kd.R_reads' HO_679002.out).2.1); rintro e w154 ⟨rfl, hb⟩; refine ⟨_, rfl, ?_⟩; have n0_ := Aside0.mk (Kd.R_below (by (with_reducible repeat (first | apply Kd.R_alloc | apply Kd.R_drewN | apply Kd.R_drew)); exact (Kd.R_mono (Kd.R_far (p := ⟨gb728, 2, none⟩) (Kd.R_far (p := ⟨gb728, 1, none⟩) (Kd.R_far (p := ⟨gb728, 0, none⟩) (Kd.R_types HO_679001.out BK728.out (by decide)) (fun _ hk => hk.2) (.bool t720)) (fun _ hk => hk.2) (.slice Ao131 t721.length co131)) (fun _ hk => hk.2) (.slice Ao132 t724.length co132)) (fun _ h_ => h_.1))) hb); have n1_ := Aside0.mk (Kd.R_below (by (with_reducible repeat (first | apply Kd.R_alloc | apply Kd.R_drewN | apply Kd.R_drew)); exact (Kd.R_mono (Kd.R_far (p := ⟨gb728, 2, none⟩) (Kd.R_far (p := ⟨gb728, 1, none⟩) (Kd.R_far (p := ⟨gb728, 0, none⟩) (Kd.R_types HO_679002.out BK728.out (by decide)) (fun _ hk => hk.2) (.bool t720)) (fun _ hk => hk.2) (.slice Ao131 t721.length co131)) (fun _ hk => hk.2) (.slice Ao132 t724.length co132)) (fun _ h_ => h_.1))) hb); have n2_ := Aside0.mk (Kd.R_below (by (with_reducible repeat (first | apply Kd.R_alloc | apply Kd.R_drewN | apply Kd.R_drew)); exact (Kd.R_mono (Kd.R_far (p := ⟨gb728, 2, none⟩) (Kd.R_far (p := ⟨gb728, 1, none⟩) (Kd.R_far (p := ⟨gb728, 0, none⟩) (Kd.R_types HO_687001.out BK728.out (by decide)) (fun _ hk => hk.2) (.bool t720)) (fun _ hk => hk.2) (.slice Ao131 t721.length co131)) (fun _ hk => hk.2) (.slice Ao132 t724.length co132)) (fun _ h_ => h_.1))) hb); have n3_ := Aside0.mk (Kd.R_below (by (with_reducible repeat (first | apply Kd.R_alloc | apply Kd.R_drewN | apply Kd.R_drew)); exact (Kd.R_mono (Kd.R_far (p := ⟨gb728, 2, none⟩) (Kd.R_far (p := ⟨gb728, 1, none⟩) (Kd.R_far (p := ⟨gb728, 0, none⟩) (Kd.R_types HO_687002.out BK728.out (by decide)) (fun _ hk => hk.2) (.bool t720)) (fun _ hk => hk.2) (.slice Ao131 t721.length co131)) (fun _ hk => hk.2) (.slice Ao132 t724.length co132)) (fun _ h_ => h_.1))) hb); have n4_ := Aside0.mk (Kd.R_below (by (with_reducible repeat (first | apply Kd.R_alloc | apply Kd.R_drewN | apply Kd.R_drew)); exact (Kd.R_mono (Kd.R_far (p := ⟨gb728, 2, none⟩) (Kd.R_far (p := ⟨gb728, 1, none⟩) (Kd.R_far (p := ⟨gb728, 0, none⟩) (Kd.R_types HO_696001.out BK728.out (by decide)) (fun _ hk => hk.2) (.bool t720)) (fun _ hk => hk.2) (.slice Ao131 t721.length co131)) (fun _ hk => hk.2) (.slice Ao132 t724.length co132)) (fun _ h_ => h_.1))) hb); have n5_ := Aside0.mk (Kd.R_below (by (with_reducible repeat (first | apply Kd.R_alloc | apply Kd.R_drewN | apply Kd.R_drew)); exact (Kd.R_mono (Kd.R_far (p := ⟨gb728, 2, none⟩) (Kd.R_far (p := ⟨gb728, 1, none⟩) (Kd.R_far (p := ⟨gb728, 0, none⟩) (Kd.R_types HO_696002.out BK728.out (by decide)) (fun _ hk => hk.2) (.bool t720)) (fun _ hk => hk.2) (.slice Ao131 t721.length co131)) (fun _ hk => hk.2) (.slice Ao132 t724.length co132)) (fun _ h_ => h_.1))) hb); have n6_ := Aside0.mk (Kd.R_below (by (with_reducible repeat (first | apply Kd.R_alloc | apply Kd.R_drewN | apply Kd.R_drew)); exact (Kd.R_mono (Kd.R_far (p := ⟨gb728, 2, none⟩) (Kd.R_far (p := ⟨gb728, 1, none⟩) (Kd.R_far (p := ⟨gb728, 0, none⟩) (Kd.R_types HO716.out BK728.out (by decide)) (fun _ hk => hk.2) (.bool t720)) (fun _ hk => hk.2) (.slice Ao131 t721.length co131)) (fun _ hk => hk.2) (.slice Ao132 t724.length co132)) (fun _ h_ => h_.1))) hb); have n7_ := Aside0.mk (Kd.R_below (by (with_reducible repeat (first | apply Kd.R_alloc | apply Kd.R_drewN | apply Kd.R_drew)); exact (Kd.R_mono (Kd.R_far (p := ⟨gb728, 2, none⟩) (Kd.R_far (p := ⟨gb728, 1, none⟩) (Kd.R_far (p := ⟨gb728, 0, none⟩) (Kd.R_types HO719.out BK728.out (by decide)) (fun _ hk => hk.2) (.bool t720)) (fun _ hk => hk.2) (.slice Ao131 t721.length co131)) (fun _ hk => hk.2) (.slice Ao132 t724.length co132)) (fun _ h_ => h_.1))) hb); have n8_ := Aside0.mk (Kd.R_below (by (with_reducible repeat (first | apply Kd.R_alloc | apply Kd.R_drewN | apply Kd.R_drew)); exact (Kd.R_mono (Kd.R_far (p := ⟨gb728, 2, none⟩) (Kd.R_far (p := ⟨gb728, 1, none⟩) (Kd.R_far (p := ⟨gb728, 0, none⟩) (Kd.R_types HO723.out BK728.out (by decide)) (fun _ hk => hk.2) (.bool t720)) (fun _ hk => hk.2) (.slice Ao131 t721.length co131)) (fun _ hk => hk.2) (.slice Ao132 t724.length co132)) (fun _ h_ => h_.1))) hb); have n9_ := Aside0.mk (Kd.R_below (by (with_reducible repeat (first | apply Kd.R_alloc | apply Kd.R_drewN | apply Kd.R_drew)); exact (Kd.R_mono (Kd.R_far (p := ⟨gb728, 2, none⟩) (Kd.R_far (p := ⟨gb728, 1, none⟩) (Kd.R_far (p := ⟨gb728, 0, none⟩) (Kd.R_types HO726.out BK728.out (by decide)) (fun _ hk => hk.2) (.bool t720)) (fun _ hk => hk.2) (.slice Ao131 t721.length co131)) (fun _ hk => hk.2) (.slice Ao132 t724.length co132)) (fun _ h_ => h_.1))) hb); have n10_ := Aside0.mk (blk_below (g := gb661) (o := .cells #[.bool a0_0, .slice A0_1 l0_1.length c0_1, .slice A0_2 l0_2.length c0_2] 30 (0, 0)) (by (with_reducible repeat (first | refine blk_drewN ?_ _ | refine blk_drew ?_ | refine blk_alloc ?_ _)); refine blk_far ?_ NB661_728.out _; (with_reducible repeat (first | refine blk_drewN ?_ _ | refine blk_drew ?_ | refine blk_alloc ?_ _)); refine blk_far ?_ NB661_728.out _; (with_reducible repeat (first | refine blk_drewN ?_ _ | refine blk_drew ?_ | refine blk_alloc ?_ _)); refine blk_far ?_ NB661_728.out _; (with_reducible repeat (first | refine blk_drewN ?_ _ | refine blk_drew ?_ | refine blk_alloc ?_ _)); exact BK661.out) hb); have n11_ := Aside0.mk (blk_below (g := gb678) (o := .cells #[.bool t670, .slice Ao23 t671.length co23, .slice Ao24 t674.length co24] 24 (0, 0)) (by (with_reducible repeat (first | refine blk_drewN ?_ _ | refine blk_drew ?_ | refine blk_alloc ?_ _)); refine blk_far ?_ NB678_728.out _; (with_reducible repeat (first | refine blk_drewN ?_ _ | refine blk_drew ?_ | refine blk_alloc ?_ _)); refine blk_far ?_ NB678_728.out _; (with_reducible repeat (first | refine blk_drewN ?_ _ | refine blk_drew ?_ | refine blk_alloc ?_ _)); refine blk_far ?_ NB678_728.out _; (with_reducible repeat (first | refine blk_drewN ?_ _ | refine blk_drew ?_ | refine blk_alloc ?_ _)); exact BK678.out) hb); have n12_ := Aside0.mk (blk_below (g := gb686) (o := .cells #[.bool t679, .slice Ao31 t706.length co31, .slice Ao32 t707.length co32] 24 (0, 0)) (by (with_reducible repeat (first | refine blk_drewN ?_ _ | refine blk_drew ?_ | refine blk_alloc ?_ _)); refine blk_far ?_ NB686_728.out _; (with_reducible repeat (first | refine blk_drewN ?_ _ | refine blk_drew ?_ | refine blk_alloc ?_ _)); refine blk_far ?_ NB686_728.out _; (with_reducible repeat (first | refine blk_drewN ?_ _ | refine blk_drew ?_ | refine blk_alloc ?_ _)); refine blk_far ?_ NB686_728.out _; (with_reducible repeat (first | refine blk_drewN ?_ _ | refine blk_drew ?_ | refine blk_alloc ?_ _)); exact BK686.out) hb); have n13_ := Aside0.mk (blk_below (g := gb695) (o := .cells #[.bool t687, .slice Ao41 t688.length co41, .slice Ao42 t691.length co42] 24 (0, 0)) (by (with_reducible repeat (first | refine blk_drewN ?_ _ | refine blk_drew ?_ | refine blk_alloc ?_ _)); refine blk_far ?_ NB695_728.out _; (with_reducible repeat (first | refine blk_drewN ?_ _ | refine blk_drew ?_ | refine blk_alloc ?_ _)); refine blk_far ?_ NB695_728.out _; (with_reducible repeat (first | refine blk_drewN ?_ _ | refine blk_drew ?_ | refine blk_alloc ?_ _)); refine blk_far ?_ NB695_728.out _; (with_reducible repeat (first | refine blk_drewN ?_ _ | refine blk_drew ?_ | refine blk_alloc ?_ _)); exact BK695.out) hb); have n14_ := Aside0.mk (blk_below (g := gb728) (o := .cells #[.bool t720, .slice Ao131 t721.length co131, .slice Ao132 t724.length co132] 24 (0, 0)) (by (with_reducible repeat (first | refine blk_drewN ?_ _ | refine blk_drew ?_ | refine blk_alloc ?_ _)); refine blk_put (cs := #[.bool t720, .slice Ao131 t721.length co131, .slice none 0 0]) ?_ 2 _ rfl; (with_reducible repeat (first | refine blk_drewN ?_ _ | refine blk_drew ?_ | refine blk_alloc ?_ _)); refine blk_put (cs := #[.bool t720, .slice none 0 0, .slice none 0 0]) ?_ 1 _ rfl; (with_reducible repeat (first | refine blk_drewN ?_ _ | refine blk_drew ?_ | refine blk_alloc ?_ _)); refine blk_put (cs := #[.bool false, .slice none 0 0, .slice none 0 0]) ?_ 0 _ rfl; (with_reducible repeat (first | refine blk_drewN ?_ _ | refine blk_drew ?_ | refine blk_alloc ?_ _)); exact BK728.out) hb); have n15_ := Aside0.mk (below_step (by repeat (first | (with_reducible first | exact HB.out | apply below_alloc | apply pw_below_drewN | apply below_drew1 | refine below_set ?_ GE661.out | refine below_set ?_ GE678.out | refine below_set ?_ GE686.out | refine below_set ?_ GE695.out | refine below_set ?_ GE728.out) | exact HB.out)) hb); clear HO_679001; clear HO_679002; clear HO_687001; clear HO_687002; clear HO_696001; clear HO_696002; clear HO716; clear HO719; clear HO723; clear HO726; clear BK661; clear BK678; clear BK686; clear BK695; clear BK728; clear HB; have HO_679001 := n0_; have HO_679002 := n1_; have HO_687001 := n2_; have HO_687002 := n3_; have HO_696001 := n4_; have HO_696002 := n5_; have HO716 := n6_; have HO719 := n7_; have HO723 := n8_; have HO726 := n9_; have BK661 := n10_; have BK678 := n11_; have BK686 := n12_; have BK695 := n13_; have BK728 := n14_; have HB := n15_; clear n0_ n1_ n2_ n3_ n4_ n5_ n6_ n7_ n8_ n9_ n10_ n11_ n12_ n13_ n14_ n15_; (try clear hb); (try clear hb2); (try clear hk); (try clear hi)))
                          go_meet
                          case rel => exact ⟨_, (true), (by first | rfl | (simp; done) | (simp [*]; done)), H', ⟨by have := HJ10.out; have := HJ65.out; first | omega | exact Nat.le_refl _⟩, ⟨by (try simp only [hl687001_65]); (try simp only [hl687002_65]); (with_reducible repeat (first | apply Kd.R_alloc | apply Kd.R_drewN | apply Kd.R_drew)); exact Kd.R_mono HO_679001.out (fun _ hk => ⟨hk.1.1.1.1.1, ⟨hk.1.1.1.1.2.1, ⟨hk.1.1.1.1.2.2.1, ⟨hk.1.1.1.1.2.2.2.1, ⟨hk.1.1.1.1.2.2.2.2, ⟨hk.1.2, hk.2⟩⟩⟩⟩⟩⟩)⟩, ⟨by (try simp only [hl687001_65]); (try simp only [hl687002_65]); (with_reducible repeat (first | apply Kd.R_alloc | apply Kd.R_drewN | apply Kd.R_drew)); exact Kd.R_mono HO_679002.out (fun _ hk => ⟨hk.1.1.1.1.1, ⟨hk.1.1.1.1.2.1, ⟨hk.1.1.1.1.2.2.1, ⟨hk.1.1.1.1.2.2.2.1, ⟨hk.1.1.1.1.2.2.2.2, ⟨hk.1.2, hk.2⟩⟩⟩⟩⟩⟩)⟩, ⟨by (try simp only [hl687001_65]); (try simp only [hl687002_65]); (with_reducible repeat (first | apply Kd.R_alloc | apply Kd.R_drewN | apply Kd.R_drew)); exact Kd.R_mono HO_687001.out (fun _ hk => ⟨hk.1.1.1.1.1, ⟨hk.1.1.1.1.2.1, ⟨hk.1.1.1.1.2.2.1, ⟨hk.1.1.1.1.2.2.2.1, ⟨hk.1.1.1.1.2.2.2.2, ⟨hk.1.2, hk.2⟩⟩⟩⟩⟩⟩)⟩, ⟨by (try simp only [hl687001_65]); (try simp only [hl687002_65]); (with_reducible repeat (first | apply Kd.R_alloc | apply Kd.R_drewN | apply Kd.R_drew)); exact Kd.R_mono HO_687002.out (fun _ hk => ⟨hk.1.1.1.1.1, ⟨hk.1.1.1.1.2.1, ⟨hk.1.1.1.1.2.2.1, ⟨hk.1.1.1.1.2.2.2.1, ⟨hk.1.1.1.1.2.2.2.2, ⟨hk.1.2, hk.2⟩⟩⟩⟩⟩⟩)⟩, ⟨by (try simp only [hl687001_65]); (try simp only [hl687002_65]); (with_reducible repeat (first | apply Kd.R_alloc | apply Kd.R_drewN | apply Kd.R_drew)); exact Kd.R_mono HO_696001.out (fun _ hk => ⟨hk.1.1.1.1.1, ⟨hk.1.1.1.1.2.1, ⟨hk.1.1.1.1.2.2.1, ⟨hk.1.1.1.1.2.2.2.1, ⟨hk.1.1.1.1.2.2.2.2, ⟨hk.1.2, hk.2⟩⟩⟩⟩⟩⟩)⟩, ⟨by (try simp only [hl687001_65]); (try simp only [hl687002_65]); (with_reducible repeat (first | apply Kd.R_alloc | apply Kd.R_drewN | apply Kd.R_drew)); exact Kd.R_mono HO_696002.out (fun _ hk => ⟨hk.1.1.1.1.1, ⟨hk.1.1.1.1.2.1, ⟨hk.1.1.1.1.2.2.1, ⟨hk.1.1.1.1.2.2.2.1, ⟨hk.1.1.1.1.2.2.2.2, ⟨hk.1.2, hk.2⟩⟩⟩⟩⟩⟩)⟩, ⟨by (try simp only [hl687001_65]); (try simp only [hl687002_65]); (with_reducible repeat (first | apply Kd.R_alloc | apply Kd.R_drewN | apply Kd.R_drew)); exact Kd.R_mono HO723.out (fun _ hk => ⟨hk.1.1.1.1.1.1.1.2, ⟨hk.1.1.1.1.1.1.2, ⟨hk.1.1.1.1.1.2, ⟨hk.1.1.1.1.2, ⟨hk.1.1.1.2, ⟨hk.1.1.2, hk.1.1.1.1.1.1.1.1⟩⟩⟩⟩⟩⟩)⟩, ⟨by (try simp only [hl687001_65]); (try simp only [hl687002_65]); (with_reducible repeat (first | apply Kd.R_alloc | apply Kd.R_drewN | apply Kd.R_drew)); exact Kd.R_mono HO726.out (fun _ hk => ⟨hk.1.1.1.1.1.1.1.2, ⟨hk.1.1.1.1.1.1.2, ⟨hk.1.1.1.1.1.2, ⟨hk.1.1.1.1.2, ⟨hk.1.1.1.2, ⟨hk.1.1.2, hk.1.1.1.1.1.1.1.1⟩⟩⟩⟩⟩⟩)⟩, ⟨by (try simp only [hl687001_65]); (try simp only [hl687002_65]); (with_reducible repeat (first | refine blk_drewN ?_ _ | refine blk_drew ?_ | refine blk_alloc ?_ _)); exact BK661.out⟩, ⟨by (try simp only [hl687001_65]); (try simp only [hl687002_65]); (with_reducible repeat (first | refine blk_drewN ?_ _ | refine blk_drew ?_ | refine blk_alloc ?_ _)); exact BK678.out⟩, ⟨by (try simp only [hl687001_65]); (try simp only [hl687002_65]); (with_reducible repeat (first | refine blk_drewN ?_ _ | refine blk_drew ?_ | refine blk_alloc ?_ _)); exact BK686.out⟩, ⟨by (try simp only [hl687001_65]); (try simp only [hl687002_65]); (with_reducible repeat (first | refine blk_drewN ?_ _ | refine blk_drew ?_ | refine blk_alloc ?_ _)); exact BK695.out⟩, ⟨by (try simp only [hl687001_65]); (try simp only [hl687002_65]); (with_reducible repeat (first | refine blk_drewN ?_ _ | refine blk_drew ?_ | refine blk_alloc ?_ _)); exact BK728.out⟩, ⟨by repeat (first | (with_reducible first | exact HB.out | apply below_alloc | apply pw_below_drewN | apply below_drew1 | refine below_set ?_ GE661.out | refine below_set ?_ GE678.out | refine below_set ?_ GE686.out | refine below_set ?_ GE695.out | refine below_set ?_ GE728.out) | exact HB.out)⟩⟩
                      case rest =>
                        clear HC110
                        try clear c1
                        try clear c2
                        try clear p2
                        try clear c3
                        try clear c3b0
                        try clear c4
                        try clear c5
                        try clear c6
                        try clear c7
                        try clear c8
                        try clear c9
                        try clear c10
                        try clear c11
                        try clear c12
                        try clear c13
                        try clear c14
                        try clear c15
                        try clear c17
                        try clear c18
                        try clear c19
                        try clear c20
                        try clear c21
                        try clear c22
                        try clear c24
                        try clear c25
                        try clear c28
                        try clear c29
                        try clear c37
                        try clear c38
                        try clear c39
                        try clear c44
                        try clear c45
                        try clear c46
                        try clear c47
                        try clear c49
                        try clear c50
                        try clear c53
                        try clear c54
                        try clear c55
                        try clear c57
                        try clear c58
                        try clear c61
                        try clear c64
                        try clear c72
                        try clear c73
                        try clear c74
                        try clear c77
                        try clear c77b0
                        try clear c79
                        try clear c80
                        try clear c81
                        try clear c82
                        try clear c84
                        try clear c85
                        try clear c88
                        try clear c89
                        try clear c90
                        try clear c92
                        try clear c93
                        try clear c96
                        try clear c99
                        try clear c99b0
                        try clear c100
                        try clear c101
                        try clear c102
                        try clear c107
                        try clear c107b0
                        try clear c107b1
                        try clear c111
                        try clear c112
                        try clear c113
                        try clear c118
                        try clear c119
                        try clear c126
                        try clear c127
                        try clear c128
                        try clear c129
                        try clear c134
                        try clear c135
                        try clear c136
                        try clear c137
                        try clear c138
                        try clear c140
                        try clear c141
                        try clear c142
                        try clear c145
                        try clear c146
                        try clear c147
                        try clear c148
                        try clear c150
                        try clear c151
                        try clear c152
                        try clear hcz103_0
                        try clear hcz103_1
                        try clear hcz103_2
                        try clear hcz105_0
                        try clear hcz105_1
                        try clear hcz105_2
                        try clear hcz114_0
                        try clear hcz114_1
                        try clear hcz114_2
                        try clear hcz116_0
                        try clear hcz116_1
                        try clear hcz116_2
                        try clear hcz120_0
                        try clear hcz120_1
                        try clear hcz120_2
                        try clear hcz130_0
                        try clear hcz130_1
                        try clear hcz130_2
                        try clear hcz139_0
                        try clear hcz139_1
                        try clear hcz139_2
                        try clear hcz13_0
                        try clear hcz13_1
                        try clear hcz13_2
                        try clear hcz143_0
                        try clear hcz143_1
                        try clear hcz143_2
                        try clear hcz149_0
                        try clear hcz149_1
                        try clear hcz149_2
                        try clear hcz153_0
                        try clear hcz153_1
                        try clear hcz153_2
                        try clear hcz15_0
                        try clear hcz15_1
                        try clear hcz15_2
                        try clear hcz22_0
                        try clear hcz22_1
                        try clear hcz22_2
                        try clear hcz25_0
                        try clear hcz25_1
                        try clear hcz25_2
                        try clear hcz30_0
                        try clear hcz30_1
                        try clear hcz30_2
                        try clear hcz34_0
                        try clear hcz34_1
                        try clear hcz34_2
                        try clear hcz40_0
                        try clear hcz40_1
                        try clear hcz40_2
                        try clear hcz48_0
                        try clear hcz48_1
                        try clear hcz48_2
                        try clear hcz51_0
                        try clear hcz51_1
                        try clear hcz51_2
                        try clear hcz56_0
                        try clear hcz56_1
                        try clear hcz56_2
                        try clear hcz59_0
                        try clear hcz59_1
                        try clear hcz59_2
                        try clear hcz5_0
                        try clear hcz5_1
                        try clear hcz5_2
                        try clear hcz75_0
                        try clear hcz75_1
                        try clear hcz75_2
                        try clear hcz83_0
                        try clear hcz83_1
                        try clear hcz83_2
                        try clear hcz86_0
                        try clear hcz86_1
                        try clear hcz86_2
                        try clear hcz91_0
                        try clear hcz91_1
                        try clear hcz91_2
                        try clear hcz94_0
                        try clear hcz94_1
                        try clear hcz94_2
                        try clear hfz103_0
                        try clear hfz103_1
                        try clear hfz103_2
                        try clear hfz105_0
                        try clear hfz105_1
                        try clear hfz105_2
                        try clear hfz114_0
                        try clear hfz114_1
                        try clear hfz114_2
                        try clear hfz116_0
                        try clear hfz116_1
                        try clear hfz116_2
                        try clear hfz120_0
                        try clear hfz120_1
                        try clear hfz120_2
                        try clear hfz130_0
                        try clear hfz130_1
                        try clear hfz130_2
                        try clear hfz139_0
                        try clear hfz139_1
                        try clear hfz139_2
                        try clear hfz13_0
                        try clear hfz13_1
                        try clear hfz13_2
                        try clear hfz143_0
                        try clear hfz143_1
                        try clear hfz143_2
                        try clear hfz149_0
                        try clear hfz149_1
                        try clear hfz149_2
                        try clear hfz153_0
                        try clear hfz153_1
                        try clear hfz153_2
                        try clear hfz15_0
                        try clear hfz15_1
                        try clear hfz15_2
                        try clear hfz22_0
                        try clear hfz22_1
                        try clear hfz22_2
                        try clear hfz25_0
                        try clear hfz25_1
                        try clear hfz25_2
                        try clear hfz30_0
                        try clear hfz30_1
                        try clear hfz30_2
                        try clear hfz34_0
                        try clear hfz34_1
                        try clear hfz34_2
                        try clear hfz40_0
                        try clear hfz40_1
                        try clear hfz40_2
                        try clear hfz48_0
                        try clear hfz48_1
                        try clear hfz48_2
                        try clear hfz51_0
                        try clear hfz51_1
                        try clear hfz51_2
                        try clear hfz56_0
                        try clear hfz56_1
                        try clear hfz56_2
                        try clear hfz59_0
                        try clear hfz59_1
                        try clear hfz59_2
                        try clear hfz5_0
                        try clear hfz5_1
                        try clear hfz5_2
                        try clear hfz75_0
                        try clear hfz75_1
                        try clear hfz75_2
                        try clear hfz83_0
                        try clear hfz83_1
                        try clear hfz83_2
                        try clear hfz86_0
                        try clear hfz86_1
                        try clear hfz86_2
                        try clear hfz91_0
                        try clear hfz91_1
                        try clear hfz91_2
                        try clear hfz94_0
                        try clear hfz94_1
                        try clear hfz94_2
                        try clear p2
                        obtain ⟨kq, x87_109, rfl, HA, HJ109, HO_679001, HO_679002, HO_687001, HO_687002, HO_696001, HO_696002, HO_729001, HO_729002, BK661, BK678, BK686, BK695, BK728, HB⟩ := hcut
                        have hl696001_109 := (Kd.R_reads' HO_696001.out).1
                        rw [hl696001_109] at HO_696001
                        (try simp only [hl696001_109])
                        (try simp only [hl696001_109] at BK661)
                        (try simp only [hl696001_109] at BK678)
                        (try simp only [hl696001_109] at BK686)
                        (try simp only [hl696001_109] at BK695)
                        (try simp only [hl696001_109] at BK728)
                        (try simp only [hl696001_109] at HO_679001)
                        (try simp only [hl696001_109] at HO_679002)
                        (try simp only [hl696001_109] at HO_687001)
                        (try simp only [hl696001_109] at HO_687002)
                        (try simp only [hl696001_109] at HO_696002)
                        (try simp only [hl696001_109] at HO_729001)
                        (try simp only [hl696001_109] at HO_729002)
                        have hl696002_109 := (Kd.R_reads' HO_696002.out).1
                        rw [hl696002_109] at HO_696002
                        (try simp only [hl696002_109])
                        (try simp only [hl696002_109] at BK661)
                        (try simp only [hl696002_109] at BK678)
                        (try simp only [hl696002_109] at BK686)
                        (try simp only [hl696002_109] at BK695)
                        (try simp only [hl696002_109] at BK728)
                        (try simp only [hl696002_109] at HO_679001)
                        (try simp only [hl696002_109] at HO_679002)
                        (try simp only [hl696002_109] at HO_687001)
                        (try simp only [hl696002_109] at HO_687002)
                        (try simp only [hl696002_109] at HO_696001)
                        (try simp only [hl696002_109] at HO_729001)
                        (try simp only [hl696002_109] at HO_729002)
                        cases kq with
                        | zero => exact absurd HA.out (by simp [laws_FnExactNegRat.j2])
                        | succ kj109 =>
                          have H := HA.out
                          clear HA
                          simp only [laws_FnExactNegRat.j2] at H
                          by_cases c155 : x87_109 = true
                          · subst c155
                            have H1 : (some false) = some r := by rw [if_pos rfl] at H; exact H
                            clear H
                            have H := H1
                            clear H1
                            obtain rfl := Option.some.inj H
                            exact absurd hr_ (by decide)
                          · replace c155 := Bool.eq_false_iff.mpr c155
                            subst c155
                            have H1 : ((laws_heldRat.f kj109 t687 t710 t711 1).bind fun t730 => (if t730 < 0 then (some false) else (if t730 = t709 then (some true) else (some false)))) = some r := by rw [if_neg (show ¬ (false = true) by decide)] at H; exact H
                            clear H
                            have H := H1
                            clear H1
                            replace H := Option.bind_eq_some_iff.mp H
                            obtain ⟨t730, A1560, H⟩ := H
                            replace H : (if t730 < 0 then (some false) else (if t730 = t709 then (some true) else (some false))) = some r := H
                            have A156 := Aside0.mk A1560
                            clear A1560
                            by_cases c157 : t730 < 0
                            · rw [if_pos c157] at H
                              have c157b0 : decide (t730 < 0) = true := decide_eq_true c157
                              clear c157
                              obtain rfl := Option.some.inj H
                              exact absurd hr_ (by decide)
                            · rw [if_neg c157] at H
                              have c157b0 : decide (t730 < 0) = false := decide_eq_false c157
                              clear c157
                              by_cases c164 : t730 = t709
                              · rw [if_pos c164] at H
                                have c164b0 : (t730 == t709) = true := beq_iff_eq.mpr c164
                                have c164b1 : (t730 != t709) = false := bne_eq_false_iff_eq.mpr c164
                                clear c164
                                obtain rfl := Option.some.inj H
                                have hnb165 := NB695_661.out
                                have hnc165 := NB661_695.out
                                have hnb166 := NB695_678.out
                                have hnc166 := NB678_695.out
                                have hnb167 := NB695_686.out
                                have hnc167 := NB686_695.out
                                have hnb168 := NB695_728.out
                                have hnc168 := NB728_695.out
                                have hcz169_0 : wc.cell? ⟨gb695, 0, none⟩ = some (.bool t687) := (blk_cell BK695.out 0).trans rfl
                                have hcz169_1 : wc.cell? ⟨gb695, 1, none⟩ = some (.slice Ao41 t710.length co41) := (blk_cell BK695.out 1).trans rfl
                                have hcz169_2 : wc.cell? ⟨gb695, 2, none⟩ = some (.slice Ao42 t711.length co42) := (blk_cell BK695.out 2).trans rfl
                                have hfz169_0 := blk_frozen BK695.out 0
                                have hfz169_1 := blk_frozen BK695.out 1
                                have hfz169_2 := blk_frozen BK695.out 2
                                go_wp2_with (first | ((with_reducible refine gate_callee (f := 19) rfl ?_); refine goesL_ (some 90) rfl rfl Try.func19 (by kernel_rfl) rfl #[.agg #[.bool t687, .slice Ao41 t710.length co41, .slice Ao42 t711.length co42], .int .i64 1] rfl (by (try simp only [List.map_toArray, List.map_cons, List.map_nil]); first | done | rfl | (simp only [List.length_drop, List.length_take]; rfl)) ?_; (with_reducible refine (laws_heldRat.calls kj109 t687 _ _ t710 _ _ t711 1 t730 _ ?side1 ?side2 ?side3 ?side4 A156.out).mono ?_); (case side1 => repeat (first | exact (Kd.R_reads' HO_696001.out).2.2 | (with_reducible refine Kd.C_alloc ?_ _) | (with_reducible refine Kd.C_drewN ?_ _) | (with_reducible refine Kd.C_drew ?_))); (case side2 => exact (Kd.R_reads' HO_696001.out).2.1); (case side3 => repeat (first | exact (Kd.R_reads' HO_696002.out).2.2 | (with_reducible refine Kd.C_alloc ?_ _) | (with_reducible refine Kd.C_drewN ?_ _) | (with_reducible refine Kd.C_drew ?_))); (case side4 => exact (Kd.R_reads' HO_696002.out).2.1); rintro e w170 ⟨rfl, hb⟩; refine ⟨_, rfl, ?_⟩; have n0_ := Aside0.mk (Kd.R_below (by (with_reducible repeat (first | apply Kd.R_alloc | apply Kd.R_drewN | apply Kd.R_drew)); exact HO_679001.out) hb); have n1_ := Aside0.mk (Kd.R_below (by (with_reducible repeat (first | apply Kd.R_alloc | apply Kd.R_drewN | apply Kd.R_drew)); exact HO_679002.out) hb); have n2_ := Aside0.mk (Kd.R_below (by (with_reducible repeat (first | apply Kd.R_alloc | apply Kd.R_drewN | apply Kd.R_drew)); exact HO_687001.out) hb); have n3_ := Aside0.mk (Kd.R_below (by (with_reducible repeat (first | apply Kd.R_alloc | apply Kd.R_drewN | apply Kd.R_drew)); exact HO_687002.out) hb); have n4_ := Aside0.mk (Kd.R_below (by (with_reducible repeat (first | apply Kd.R_alloc | apply Kd.R_drewN | apply Kd.R_drew)); exact HO_696001.out) hb); have n5_ := Aside0.mk (Kd.R_below (by (with_reducible repeat (first | apply Kd.R_alloc | apply Kd.R_drewN | apply Kd.R_drew)); exact HO_696002.out) hb); have n6_ := Aside0.mk (Kd.R_below (by (with_reducible repeat (first | apply Kd.R_alloc | apply Kd.R_drewN | apply Kd.R_drew)); exact HO_729001.out) hb); have n7_ := Aside0.mk (Kd.R_below (by (with_reducible repeat (first | apply Kd.R_alloc | apply Kd.R_drewN | apply Kd.R_drew)); exact HO_729002.out) hb); have n8_ := Aside0.mk (blk_below (g := gb661) (o := .cells #[.bool a0_0, .slice A0_1 l0_1.length c0_1, .slice A0_2 l0_2.length c0_2] 30 (0, 0)) (by (with_reducible repeat (first | refine blk_drewN ?_ _ | refine blk_drew ?_ | refine blk_alloc ?_ _)); exact BK661.out) hb); have n9_ := Aside0.mk (blk_below (g := gb678) (o := .cells #[.bool t670, .slice Ao23 t671.length co23, .slice Ao24 t674.length co24] 24 (0, 0)) (by (with_reducible repeat (first | refine blk_drewN ?_ _ | refine blk_drew ?_ | refine blk_alloc ?_ _)); exact BK678.out) hb); have n10_ := Aside0.mk (blk_below (g := gb686) (o := .cells #[.bool t679, .slice Ao31 t706.length co31, .slice Ao32 t707.length co32] 24 (0, 0)) (by (with_reducible repeat (first | refine blk_drewN ?_ _ | refine blk_drew ?_ | refine blk_alloc ?_ _)); exact BK686.out) hb); have n11_ := Aside0.mk (blk_below (g := gb695) (o := .cells #[.bool t687, .slice Ao41 t710.length co41, .slice Ao42 t711.length co42] 24 (0, 0)) (by (with_reducible repeat (first | refine blk_drewN ?_ _ | refine blk_drew ?_ | refine blk_alloc ?_ _)); exact BK695.out) hb); have n12_ := Aside0.mk (blk_below (g := gb728) (o := .cells #[.bool t720, .slice Ao131 t721.length co131, .slice Ao132 t724.length co132] 24 (0, 0)) (by (with_reducible repeat (first | refine blk_drewN ?_ _ | refine blk_drew ?_ | refine blk_alloc ?_ _)); exact BK728.out) hb); have n13_ := Aside0.mk (below_step (by repeat (first | (with_reducible first | exact HB.out | apply below_alloc | apply pw_below_drewN | apply below_drew1 | refine below_set ?_ GE661.out | refine below_set ?_ GE678.out | refine below_set ?_ GE686.out | refine below_set ?_ GE695.out | refine below_set ?_ GE728.out) | exact HB.out)) hb); clear HO_679001; clear HO_679002; clear HO_687001; clear HO_687002; clear HO_696001; clear HO_696002; clear HO_729001; clear HO_729002; clear BK661; clear BK678; clear BK686; clear BK695; clear BK728; clear HB; have HO_679001 := n0_; have HO_679002 := n1_; have HO_687001 := n2_; have HO_687002 := n3_; have HO_696001 := n4_; have HO_696002 := n5_; have HO_729001 := n6_; have HO_729002 := n7_; have BK661 := n8_; have BK678 := n9_; have BK686 := n10_; have BK695 := n11_; have BK728 := n12_; have HB := n13_; clear n0_ n1_ n2_ n3_ n4_ n5_ n6_ n7_ n8_ n9_ n10_ n11_ n12_ n13_; (try clear hb); (try clear hb2); (try clear hk); (try clear hi)))
                                go_ret
                                exact ⟨by first | rfl | (simp [errW_none, errW_some] <;> rfl) | (simp [*, errW_none, errW_some] <;> rfl), by repeat (first | (with_reducible first | exact HB.out | apply below_alloc | apply pw_below_drewN | apply below_drew1 | refine below_set ?_ GE661.out | refine below_set ?_ GE678.out | refine below_set ?_ GE686.out | refine below_set ?_ GE695.out | refine below_set ?_ GE728.out) | exact HB.out)⟩
                              · rw [if_neg c164] at H
                                have c164b0 : (t730 == t709) = false := beq_eq_false_iff_ne.mpr c164
                                have c164b1 : (t730 != t709) = true := bne_iff_ne.mpr c164
                                obtain rfl := Option.some.inj H
                                exact absurd hr_ (by decide)
                    · rw [if_neg c107] at H
                      have c107b0 : (t712 == t709) = false := beq_eq_false_iff_ne.mpr c107
                      have c107b1 : (t712 != t709) = true := bne_iff_ne.mpr c107
                      obtain rfl := Option.some.inj H
                      exact absurd hr_ (by decide)
          · replace c64 := Bool.eq_false_iff.mpr c64
            subst c64
            have H1 : (some false) = some r := by rw [if_neg (show ¬ (false = true) by decide)] at H; exact H
            clear H
            have H := H1
            clear H1
            obtain rfl := Option.some.inj H
            exact absurd hr_ (by decide)

/-- THE ONE PURE STATEMENT of laws_FnExactNegRat: yours. -/
def laws_FnExactNegRat.Pure : Prop := ∀ (a0_0 : Bool) (l0_1 : List Int) (l0_2 : List Int), (True ∧ (l0_1.length ≤ maxLen ∧ ∀ y0_ ∈ l0_1, (Lit.int .i64 y0_).wf = true) ∧ (l0_2.length ≤ maxLen ∧ ∀ y0_ ∈ l0_2, (Lit.int .i64 y0_).wf = true)) → ∃ k, laws_FnExactNegRat.f k a0_0 l0_1 l0_2 = some true

end Go.Proofs.Ytacdaijalkkogaa.Q
