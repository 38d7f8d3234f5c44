-- written by a program of this claim's session (myprint.py) out of the translation; Lean checks it.
import Derived.Test.YtacdaijalkkogaaQx0
import Derived.Test.YtacdaijalkkogaaSq
import Derived.Test.YtacdaijalkkogaaQxrlaw
import Derived.Test.YtacdaijalkkogaaQxFloorRat
namespace Go.Proofs.Ytacdaijalkkogaa.Q
open Go.RowKit Go.Proofs.YtacdaijalkkogaaW.PrintWords Go.Proofs.YtacdaijalkkogaaW.PrintLast Go.Proofs.YtacdaijalkkogaaW.PrintMore
attribute [local go_sem] max2_int min2_int max_two min_two max_three min_three max_four min_four   -- for this text's walks alone
set_option linter.unusedVariables false
set_option linter.unusedSimpArgs false

mutual
def laws_FnExactFloorRat.j0 : Nat → Int → Int → Bool → Bool → List Int → List Int → Bool → List Int → List Int → Bool → List Int → List Int → Bool → List Int → List Int → Option (Bool)
 | 0, _, _, _, _, _, _, _, _, _, _, _, _, _, _, _ => none
 | k + 1, x5, x8, x40, x447000, x447001, x447002, x464000, x464001, x464002, x472000, x472001, x472002, x481000, x481001, x481002 => if x40 = true then (some false) else ((laws_toRat.f k x447000 x447001 x447002).bind fun bt482 => ((laws_eqRat.f k x472000 x472001 x472002 bt482.1 bt482.2.1 bt482.2.2).bind fun t489 => (if t489 = true then ((laws_markRat.f k x472000 x472001 x472002 1).bind fun bt490 => (if bt490.1 < 0 then (laws_FnExactFloorRat.j1 k x5 true x447000 x447001 x447002 x464000 x464001 x464002 x481000 x481001 x481002) else ((laws_eqRat.f k x481000 x481001 x481002 x464000 x464001 x464002).bind fun t493 => (if t493 = true then (laws_FnExactFloorRat.j1 k x5 (x8 != x5) x447000 x447001 x447002 x464000 x464001 x464002 x481000 x481001 x481002) else (laws_FnExactFloorRat.j1 k x5 true x447000 x447001 x447002 x464000 x464001 x464002 x481000 x481001 x481002))))) else (some false))))
def laws_FnExactFloorRat.j1 : Nat → Int → Bool → Bool → List Int → List Int → Bool → List Int → List Int → Bool → List Int → List Int → Option (Bool)
 | 0, _, _, _, _, _, _, _, _, _, _, _ => none
 | k + 1, x5, x61, x447000, x447001, x447002, x464000, x464001, x464002, x481000, x481001, x481002 => if x61 = true then (some false) else ((laws_markRat.f k x481000 x481001 x481002 1).bind fun bt494 => ((laws_heldRat.f k x481000 bt494.2.1 bt494.2.2 1).bind fun t497 => (if t497 < 0 then (some false) else (if t497 = bt494.1 then ((laws_toRat.f k x447000 x447001 x447002).bind fun bt498 => ((impl_FloorRat.f k bt498.1 bt498.2.1 bt498.2.2).bind fun bt505 => ((laws_eqRat.f k bt505.1 bt505.2.1 bt505.2.2.1 x464000 x464001 x464002).bind fun t514 => (if t514 = true then (laws_FnExactFloorRat.j2 k bt494.1 (bt505.2.2.2 != x5) x481000 bt494.2.1 bt494.2.2) else (laws_FnExactFloorRat.j2 k bt494.1 true x481000 bt494.2.1 bt494.2.2))))) else (some false)))))
def laws_FnExactFloorRat.j2 : Nat → Int → Bool → Bool → List Int → List Int → Option (Bool)
 | 0, _, _, _, _, _ => none
 | k + 1, x10, x87, x481000, x481001, x481002 => if x87 = true then (some false) else ((laws_heldRat.f k x481000 x481001 x481002 1).bind fun t515 => (if t515 < 0 then (some false) else (if t515 = x10 then (some true) else (some false))))
end
def laws_FnExactFloorRat.f (k : Nat) (a0_0 : Bool) (l0_1 : List Int) (l0_2 : List Int) : Option (Bool) := (laws_szRat.f a0_0 l0_1 l0_2 1048576).bind fun t447 => (if t447 < 0 then (some true) else ((laws_toRat.f k a0_0 l0_1 l0_2).bind fun bt448 => ((spec_FloorRat.f k bt448.1 bt448.2.1 bt448.2.2).bind fun bt455 => ((laws_toRat.f k a0_0 l0_1 l0_2).bind fun bt464 => ((impl_FloorRat.f k bt464.1 bt464.2.1 bt464.2.2).bind fun bt472 => ((laws_eqRat.f k bt472.1 bt472.2.1 bt472.2.2.1 bt455.1 bt455.2.1 bt455.2.2.1).bind fun t481 => (if t481 = true then (laws_FnExactFloorRat.j0 k bt455.2.2.2 bt472.2.2.2 (bt472.2.2.2 != bt455.2.2.2) a0_0 l0_1 l0_2 bt455.1 bt455.2.1 bt455.2.2.1 bt464.1 bt464.2.1 bt464.2.2 bt472.1 bt472.2.1 bt472.2.2.1) else (laws_FnExactFloorRat.j0 k bt455.2.2.2 bt472.2.2.2 true a0_0 l0_1 l0_2 bt455.1 bt455.2.1 bt455.2.2.1 bt464.1 bt464.2.1 bt464.2.2 bt472.1 bt472.2.1 bt472.2.2.1))))))))
theorem laws_FnExactFloorRat.mono_l : ∀ k, (∀ y0 y1 y2 y3 y4 y5 y6 y7 y8 y9 y10 y11 y12 y13 y14, LeO (laws_FnExactFloorRat.j0 k y0 y1 y2 y3 y4 y5 y6 y7 y8 y9 y10 y11 y12 y13 y14) (laws_FnExactFloorRat.j0 (k + 1) y0 y1 y2 y3 y4 y5 y6 y7 y8 y9 y10 y11 y12 y13 y14)) ∧ (∀ y0 y1 y2 y3 y4 y5 y6 y7 y8 y9 y10, LeO (laws_FnExactFloorRat.j1 k y0 y1 y2 y3 y4 y5 y6 y7 y8 y9 y10) (laws_FnExactFloorRat.j1 (k + 1) y0 y1 y2 y3 y4 y5 y6 y7 y8 y9 y10)) ∧ (∀ y0 y1 y2 y3 y4, LeO (laws_FnExactFloorRat.j2 k y0 y1 y2 y3 y4) (laws_FnExactFloorRat.j2 (k + 1) y0 y1 y2 y3 y4))
 | 0 => ⟨fun _ _ _ _ _ _ _ _ _ _ _ _ _ _ _ r h => by simp [laws_FnExactFloorRat.j0] at h, fun _ _ _ _ _ _ _ _ _ _ _ r h => by simp [laws_FnExactFloorRat.j1] at h, fun _ _ _ _ _ r h => by simp [laws_FnExactFloorRat.j2] at h⟩
 | k + 1 => by
  obtain ⟨ih0, ih1, ih2⟩ := laws_FnExactFloorRat.mono_l k
  refine ⟨?_, ?_, ?_⟩
  ·
   intro y0 y1 y2 y3 y4 y5 y6 y7 y8 y9 y10 y11 y12 y13 y14
   unfold laws_FnExactFloorRat.j0
   repeat' first
   | (with_reducible exact ih0 _ _ _ _ _ _ _ _ _ _ _ _ _ _ _)
   | (with_reducible exact ih1 _ _ _ _ _ _ _ _ _ _ _)
   | (with_reducible exact ih2 _ _ _ _ _)
   | (with_reducible exact impl_FloorRat.mono _ _ _ _)
   | (with_reducible exact laws_eqRat.mono _ _ _ _ _ _ _)
   | (with_reducible exact laws_heldRat.mono _ _ _ _ _)
   | (with_reducible exact laws_markRat.mono _ _ _ _ _)
   | (with_reducible exact laws_toRat.mono _ _ _ _)
   | (with_reducible exact spec_FloorRat.mono _ _ _ _)
   | (with_reducible exact LeO.refl _)
   | (with_reducible exact LeO.none _)
   | (with_reducible refine LeO.ite ?_ ?_)
   | (with_reducible refine LeO.bind ?_ (fun _ => ?_))
   | exact ih0 _ _ _ _ _ _ _ _ _ _ _ _ _ _ _
   | exact ih1 _ _ _ _ _ _ _ _ _ _ _
   | exact ih2 _ _ _ _ _
   | exact impl_FloorRat.mono _ _ _ _
   | exact laws_eqRat.mono _ _ _ _ _ _ _
   | exact laws_heldRat.mono _ _ _ _ _
   | exact laws_markRat.mono _ _ _ _ _
   | exact laws_toRat.mono _ _ _ _
   | exact spec_FloorRat.mono _ _ _ _
   | exact LeO.none _
   | refine LeO.ite ?_ ?_
   | refine LeO.bind ?_ (fun _ => ?_)
  ·
   intro y0 y1 y2 y3 y4 y5 y6 y7 y8 y9 y10
   unfold laws_FnExactFloorRat.j1
   repeat' first
   | (with_reducible exact ih0 _ _ _ _ _ _ _ _ _ _ _ _ _ _ _)
   | (with_reducible exact ih1 _ _ _ _ _ _ _ _ _ _ _)
   | (with_reducible exact ih2 _ _ _ _ _)
   | (with_reducible exact impl_FloorRat.mono _ _ _ _)
   | (with_reducible exact laws_eqRat.mono _ _ _ _ _ _ _)
   | (with_reducible exact laws_heldRat.mono _ _ _ _ _)
   | (with_reducible exact laws_markRat.mono _ _ _ _ _)
   | (with_reducible exact laws_toRat.mono _ _ _ _)
   | (with_reducible exact spec_FloorRat.mono _ _ _ _)
   | (with_reducible exact LeO.refl _)
   | (with_reducible exact LeO.none _)
   | (with_reducible refine LeO.ite ?_ ?_)
   | (with_reducible refine LeO.bind ?_ (fun _ => ?_))
   | exact ih0 _ _ _ _ _ _ _ _ _ _ _ _ _ _ _
   | exact ih1 _ _ _ _ _ _ _ _ _ _ _
   | exact ih2 _ _ _ _ _
   | exact impl_FloorRat.mono _ _ _ _
   | exact laws_eqRat.mono _ _ _ _ _ _ _
   | exact laws_heldRat.mono _ _ _ _ _
   | exact laws_markRat.mono _ _ _ _ _
   | exact laws_toRat.mono _ _ _ _
   | exact spec_FloorRat.mono _ _ _ _
   | exact LeO.none _
   | refine LeO.ite ?_ ?_
   | refine LeO.bind ?_ (fun _ => ?_)
  ·
   intro y0 y1 y2 y3 y4
   unfold laws_FnExactFloorRat.j2
   repeat' first
   | (with_reducible exact ih0 _ _ _ _ _ _ _ _ _ _ _ _ _ _ _)
   | (with_reducible exact ih1 _ _ _ _ _ _ _ _ _ _ _)
   | (with_reducible exact ih2 _ _ _ _ _)
   | (with_reducible exact impl_FloorRat.mono _ _ _ _)
   | (with_reducible exact laws_eqRat.mono _ _ _ _ _ _ _)
   | (with_reducible exact laws_heldRat.mono _ _ _ _ _)
   | (with_reducible exact laws_markRat.mono _ _ _ _ _)
   | (with_reducible exact laws_toRat.mono _ _ _ _)
   | (with_reducible exact spec_FloorRat.mono _ _ _ _)
   | (with_reducible exact LeO.refl _)
   | (with_reducible exact LeO.none _)
   | (with_reducible refine LeO.ite ?_ ?_)
   | (with_reducible refine LeO.bind ?_ (fun _ => ?_))
   | exact ih0 _ _ _ _ _ _ _ _ _ _ _ _ _ _ _
   | exact ih1 _ _ _ _ _ _ _ _ _ _ _
   | exact ih2 _ _ _ _ _
   | exact impl_FloorRat.mono _ _ _ _
   | exact laws_eqRat.mono _ _ _ _ _ _ _
   | exact laws_heldRat.mono _ _ _ _ _
   | exact laws_markRat.mono _ _ _ _ _
   | exact laws_toRat.mono _ _ _ _
   | exact spec_FloorRat.mono _ _ _ _
   | exact LeO.none _
   | refine LeO.ite ?_ ?_
   | refine LeO.bind ?_ (fun _ => ?_)
theorem laws_FnExactFloorRat.mono : ∀ a0 a1 a2 k, LeO (laws_FnExactFloorRat.f k a0 a1 a2) (laws_FnExactFloorRat.f (k + 1) a0 a1 a2) := by
 intro a0 a1 a2 k
 obtain ⟨ih0, ih1, ih2⟩ := laws_FnExactFloorRat.mono_l k
 unfold laws_FnExactFloorRat.f
 repeat' first
   | (with_reducible exact ih0 _ _ _ _ _ _ _ _ _ _ _ _ _ _ _)
   | (with_reducible exact ih1 _ _ _ _ _ _ _ _ _ _ _)
   | (with_reducible exact ih2 _ _ _ _ _)
   | (with_reducible exact impl_FloorRat.mono _ _ _ _)
   | (with_reducible exact laws_eqRat.mono _ _ _ _ _ _ _)
   | (with_reducible exact laws_heldRat.mono _ _ _ _ _)
   | (with_reducible exact laws_markRat.mono _ _ _ _ _)
   | (with_reducible exact laws_toRat.mono _ _ _ _)
   | (with_reducible exact spec_FloorRat.mono _ _ _ _)
   | (with_reducible exact LeO.refl _)
   | (with_reducible exact LeO.none _)
   | (with_reducible refine LeO.ite ?_ ?_)
   | (with_reducible refine LeO.bind ?_ (fun _ => ?_))
   | exact ih0 _ _ _ _ _ _ _ _ _ _ _ _ _ _ _
   | exact ih1 _ _ _ _ _ _ _ _ _ _ _
   | exact ih2 _ _ _ _ _
   | exact impl_FloorRat.mono _ _ _ _
   | exact laws_eqRat.mono _ _ _ _ _ _ _
   | exact laws_heldRat.mono _ _ _ _ _
   | exact laws_markRat.mono _ _ _ _ _
   | exact laws_toRat.mono _ _ _ _
   | exact spec_FloorRat.mono _ _ _ _
   | exact LeO.none _
   | refine LeO.ite ?_ ?_
   | refine LeO.bind ?_ (fun _ => ?_)
set_option maxHeartbeats 8000000 in
set_option maxRecDepth 100000 in
theorem laws_FnExactFloorRat.calls (k : Nat) (a0_0 : Bool) (A0_1 : Option Addr) (c0_1 : Nat) (l0_1 : List Int) (A0_2 : Option Addr) (c0_2 : Nat) (l0_2 : List Int) (r : Bool) (w : World) (hr0_1 : Kd.C (Kd.int .i64) w A0_1 l0_1.length l0_1) (hc0_1 : l0_1.length ≤ c0_1) (hr0_2 : Kd.C (Kd.int .i64) w A0_2 l0_2.length l0_2) (hc0_2 : l0_2.length ≤ c0_2) (h : laws_FnExactFloorRat.f k a0_0 l0_1 l0_2 = some r) (hr_ : r = true) :
  Calls Try.prog 8 #[.agg #[.bool a0_0, .slice A0_1 l0_1.length c0_1, .slice A0_2 l0_2.length c0_2]] w fun e w' => e = .returned (.bool r) ∧ Below w.heap.size w w' := by
 have hu30 := Try.underlying30
 have hu24 := Try.underlying24
 have HR0_1 := Aside0.mk hr0_1
 have HC0_1 := Aside0.mk hc0_1
 clear hr0_1 hc0_1
 have HR0_2 := Aside0.mk hr0_2
 have HC0_2 := Aside0.mk hc0_2
 clear hr0_2 hc0_2
 have HB := Aside0.mk (Below.refl w.heap.size w)
 have H : ((laws_szRat.f a0_0 l0_1 l0_2 1048576).bind fun t447 => (if t447 < 0 then (some true) else ((laws_toRat.f k a0_0 l0_1 l0_2).bind fun bt448 => ((spec_FloorRat.f k bt448.1 bt448.2.1 bt448.2.2).bind fun bt455 => ((laws_toRat.f k a0_0 l0_1 l0_2).bind fun bt464 => ((impl_FloorRat.f k bt464.1 bt464.2.1 bt464.2.2).bind fun bt472 => ((laws_eqRat.f k bt472.1 bt472.2.1 bt472.2.2.1 bt455.1 bt455.2.1 bt455.2.2.1).bind fun t481 => (if t481 = true then (laws_FnExactFloorRat.j0 k bt455.2.2.2 bt472.2.2.2 (bt472.2.2.2 != bt455.2.2.2) a0_0 l0_1 l0_2 bt455.1 bt455.2.1 bt455.2.2.1 bt464.1 bt464.2.1 bt464.2.2 bt472.1 bt472.2.1 bt472.2.2.1) else (laws_FnExactFloorRat.j0 k bt455.2.2.2 bt472.2.2.2 true a0_0 l0_1 l0_2 bt455.1 bt455.2.1 bt455.2.2.1 bt464.1 bt464.2.1 bt464.2.2 bt472.1 bt472.2.1 bt472.2.2.1))))))))) = some r := h
 clear h
 replace H := Option.bind_eq_some_iff.mp H
 obtain ⟨t447, A20, H⟩ := H
 replace H : (if t447 < 0 then (some true) else ((laws_toRat.f k a0_0 l0_1 l0_2).bind fun bt448 => ((spec_FloorRat.f k bt448.1 bt448.2.1 bt448.2.2).bind fun bt455 => ((laws_toRat.f k a0_0 l0_1 l0_2).bind fun bt464 => ((impl_FloorRat.f k bt464.1 bt464.2.1 bt464.2.2).bind fun bt472 => ((laws_eqRat.f k bt472.1 bt472.2.1 bt472.2.2.1 bt455.1 bt455.2.1 bt455.2.2.1).bind fun t481 => (if t481 = true then (laws_FnExactFloorRat.j0 k bt455.2.2.2 bt472.2.2.2 (bt472.2.2.2 != bt455.2.2.2) a0_0 l0_1 l0_2 bt455.1 bt455.2.1 bt455.2.2.1 bt464.1 bt464.2.1 bt464.2.2 bt472.1 bt472.2.1 bt472.2.2.1) else (laws_FnExactFloorRat.j0 k bt455.2.2.2 bt472.2.2.2 true a0_0 l0_1 l0_2 bt455.1 bt455.2.1 bt455.2.2.1 bt464.1 bt464.2.1 bt464.2.2 bt472.1 bt472.2.1 bt472.2.2.1)))))))) = some r := H
 have A2 := Aside0.mk A20
 clear A20
 by_cases c3 : t447 < 0
 ·
  rw [if_pos c3] at H
  have c3b0 : decide (t447 < 0) = true := decide_eq_true c3
  clear c3
  obtain rfl := Option.some.inj H
  go_enter Try.func8, Try.ntmps8
  go_wp2_with (first | ((with_reducible refine gate_dst (N := 1) rfl ?_); refine box_event ?hg (N := 1) ?hd (cs := #[.bool a0_0, .slice A0_1 l0_1.length c0_1, .slice A0_2 l0_2.length c0_2]) (t := 30) ?hr ?_; (case hd => rfl); (case hg => rfl); (case hr => first | (go_simp; done) | (go_simp; rfl)); intro gb446 hg w4 hbox hb; have BK446 := Aside0.mk (hbox); have GW446 := geh hg HB; have GE446 := geh hg HB; replace HB := bst HB hb; clear hb hbox hg; have hcz5_0 := bce BK446 0 (.bool a0_0); have hcz5_1 := bce BK446 1 (.slice A0_1 l0_1.length c0_1); have hcz5_2 := bce BK446 2 (.slice A0_2 l0_2.length c0_2); have hfz5_0 := blk_frozen BK446.out 0; have hfz5_1 := blk_frozen BK446.out 1; have hfz5_2 := blk_frozen BK446.out 2) | ((with_reducible refine gate_callee (f := 20) rfl ?_); refine goesL_ (some 16) rfl rfl Try.func20 (by kernel_rfl) rfl #[.agg #[.bool a0_0, .slice A0_1 l0_1.length c0_1, .slice A0_2 l0_2.length c0_2], .int .i64 1048576] rfl (by (try simp only [List.map_toArray, List.map_cons, List.map_nil]); first | done | rfl | (simp only [List.length_drop, List.length_take]; rfl)) ?_; (with_reducible refine (laws_szRat.calls a0_0 _ _ l0_1 _ _ l0_2 1048576 t447 _ ?side1 ?side2 ?side3 ?side4 A2.out).mono ?_); (case side1 => exact crC (Kd.C_below HR0_1.out HB.out)); (case side2 => exact HC0_1.out); (case side3 => exact crC (Kd.C_below HR0_2.out HB.out)); (case side4 => exact HC0_2.out); rintro e w6 ⟨rfl, hb⟩; refine ⟨_, rfl, ?_⟩; replace BK446 := bkb BK446 hb; replace HB := bst HB hb; (try clear hb); (try clear hb2); (try clear hk); (try clear hi)))
  go_ret
  exact ⟨by first | rfl | (simp [errW_none, errW_some] <;> rfl) | (simp [*, errW_none, errW_some] <;> rfl), blw HB⟩
 ·
  rw [if_neg c3] at H
  have c3b0 : decide (t447 < 0) = false := decide_eq_false c3
  clear c3
  replace H := Option.bind_eq_some_iff.mp H
  obtain ⟨⟨t448, t449, t452⟩, A70, H⟩ := H
  replace H : ((spec_FloorRat.f k t448 t449 t452).bind fun bt455 => ((laws_toRat.f k a0_0 l0_1 l0_2).bind fun bt464 => ((impl_FloorRat.f k bt464.1 bt464.2.1 bt464.2.2).bind fun bt472 => ((laws_eqRat.f k bt472.1 bt472.2.1 bt472.2.2.1 bt455.1 bt455.2.1 bt455.2.2.1).bind fun t481 => (if t481 = true then (laws_FnExactFloorRat.j0 k bt455.2.2.2 bt472.2.2.2 (bt472.2.2.2 != bt455.2.2.2) a0_0 l0_1 l0_2 bt455.1 bt455.2.1 bt455.2.2.1 bt464.1 bt464.2.1 bt464.2.2 bt472.1 bt472.2.1 bt472.2.2.1) else (laws_FnExactFloorRat.j0 k bt455.2.2.2 bt472.2.2.2 true a0_0 l0_1 l0_2 bt455.1 bt455.2.1 bt455.2.2.1 bt464.1 bt464.2.1 bt464.2.2 bt472.1 bt472.2.1 bt472.2.2.1)))))) = some r := H
  have A7 := Aside0.mk A70
  clear A70
  replace H := Option.bind_eq_some_iff.mp H
  obtain ⟨⟨t455, t456, t459, t462⟩, A80, H⟩ := H
  replace H : ((laws_toRat.f k a0_0 l0_1 l0_2).bind fun bt464 => ((impl_FloorRat.f k bt464.1 bt464.2.1 bt464.2.2).bind fun bt472 => ((laws_eqRat.f k bt472.1 bt472.2.1 bt472.2.2.1 t455 t456 t459).bind fun t481 => (if t481 = true then (laws_FnExactFloorRat.j0 k t462 bt472.2.2.2 (bt472.2.2.2 != t462) a0_0 l0_1 l0_2 t455 t456 t459 bt464.1 bt464.2.1 bt464.2.2 bt472.1 bt472.2.1 bt472.2.2.1) else (laws_FnExactFloorRat.j0 k t462 bt472.2.2.2 true a0_0 l0_1 l0_2 t455 t456 t459 bt464.1 bt464.2.1 bt464.2.2 bt472.1 bt472.2.1 bt472.2.2.1))))) = some r := H
  have A8 := Aside0.mk A80
  clear A80
  replace H := Option.bind_eq_some_iff.mp H
  obtain ⟨⟨t464, t465, t468⟩, A90, H⟩ := H
  replace H : ((impl_FloorRat.f k t464 t465 t468).bind fun bt472 => ((laws_eqRat.f k bt472.1 bt472.2.1 bt472.2.2.1 t455 t456 t459).bind fun t481 => (if t481 = true then (laws_FnExactFloorRat.j0 k t462 bt472.2.2.2 (bt472.2.2.2 != t462) a0_0 l0_1 l0_2 t455 t456 t459 t464 t465 t468 bt472.1 bt472.2.1 bt472.2.2.1) else (laws_FnExactFloorRat.j0 k t462 bt472.2.2.2 true a0_0 l0_1 l0_2 t455 t456 t459 t464 t465 t468 bt472.1 bt472.2.1 bt472.2.2.1)))) = some r := H
  have A9 := Aside0.mk A90
  clear A90
  replace H := Option.bind_eq_some_iff.mp H
  obtain ⟨⟨t472, t473, t476, t479⟩, A100, H⟩ := H
  replace H : ((laws_eqRat.f k t472 t473 t476 t455 t456 t459).bind fun t481 => (if t481 = true then (laws_FnExactFloorRat.j0 k t462 t479 (t479 != t462) a0_0 l0_1 l0_2 t455 t456 t459 t464 t465 t468 t472 t473 t476) else (laws_FnExactFloorRat.j0 k t462 t479 true a0_0 l0_1 l0_2 t455 t456 t459 t464 t465 t468 t472 t473 t476))) = some r := H
  have A10 := Aside0.mk A100
  clear A100
  have HC11 := Aside0.mk H
  clear H
  go_enter Try.func8, Try.ntmps8
  go_upto_region 8 with (first | ((with_reducible refine gate_dst (N := 1) rfl ?_); refine box_event ?hg (N := 1) ?hd (cs := #[.bool a0_0, .slice A0_1 l0_1.length c0_1, .slice A0_2 l0_2.length c0_2]) (t := 30) ?hr ?_; (case hd => rfl); (case hg => rfl); (case hr => first | (go_simp; done) | (go_simp; rfl)); intro gb446 hg w12 hbox hb; have BK446 := Aside0.mk (hbox); have GW446 := geh hg HB; have GE446 := geh hg HB; replace HB := bst HB hb; clear hb hbox hg; have hcz13_0 := bce BK446 0 (.bool a0_0); have hcz13_1 := bce BK446 1 (.slice A0_1 l0_1.length c0_1); have hcz13_2 := bce BK446 2 (.slice A0_2 l0_2.length c0_2); have hfz13_0 := blk_frozen BK446.out 0; have hfz13_1 := blk_frozen BK446.out 1; have hfz13_2 := blk_frozen BK446.out 2) | ((with_reducible refine gate_callee (f := 20) rfl ?_); refine goesL_ (some 16) rfl rfl Try.func20 (by kernel_rfl) rfl #[.agg #[.bool a0_0, .slice A0_1 l0_1.length c0_1, .slice A0_2 l0_2.length c0_2], .int .i64 1048576] rfl (by (try simp only [List.map_toArray, List.map_cons, List.map_nil]); first | done | rfl | (simp only [List.length_drop, List.length_take]; rfl)) ?_; (with_reducible refine (laws_szRat.calls a0_0 _ _ l0_1 _ _ l0_2 1048576 t447 _ ?side1 ?side2 ?side3 ?side4 A2.out).mono ?_); (case side1 => exact crC (Kd.C_below HR0_1.out HB.out)); (case side2 => exact HC0_1.out); (case side3 => exact crC (Kd.C_below HR0_2.out HB.out)); (case side4 => exact HC0_2.out); rintro e w14 ⟨rfl, hb⟩; refine ⟨_, rfl, ?_⟩; replace BK446 := bkb BK446 hb; replace HB := bst HB hb; (try clear hb); (try clear hb2); (try clear hk); (try clear hi); have hcz15_0 := bce BK446 0 (.bool a0_0); have hcz15_1 := bce BK446 1 (.slice A0_1 l0_1.length c0_1); have hcz15_2 := bce BK446 2 (.slice A0_2 l0_2.length c0_2); have hfz15_0 := blk_frozen BK446.out 0; have hfz15_1 := blk_frozen BK446.out 1; have hfz15_2 := blk_frozen BK446.out 2) | ((with_reducible refine gate_callee (f := 22) rfl ?_); refine goesL_ (some 21) rfl rfl Try.func22 (by kernel_rfl) rfl #[.agg #[.bool a0_0, .slice A0_1 l0_1.length c0_1, .slice A0_2 l0_2.length c0_2]] rfl (by (try simp only [List.map_toArray, List.map_cons, List.map_nil]); first | done | rfl | (simp only [List.length_drop, List.length_take]; rfl)) ?_; (with_reducible refine (laws_toRat.calls k a0_0 _ _ l0_1 _ _ l0_2 t448 t449 t452 _ ?side1 ?side2 ?side3 ?side4 A7.out).mono ?_); (case side1 => exact crC (Kd.C_below HR0_1.out HB.out)); (case side2 => exact HC0_1.out); (case side3 => exact crC (Kd.C_below HR0_2.out HB.out)); (case side4 => exact HC0_2.out); rintro e w16 ⟨v450, v453, rfl, ho0, ho1, hb⟩; refine ⟨_, rfl, ?_⟩; have HO451 := lwR ho0 HB; have HO454 := lwR ho1 HB; replace BK446 := bkb BK446 hb; replace HB := bst HB hb; (try clear hb); (try clear hb2); (try clear hk); (try clear hi); (try clear ho0); (try clear ho1); obtain ⟨Ao17, co17, eo17⟩ := Kd.R_slice HO451.out; subst eo17; obtain ⟨Ao18, co18, eo18⟩ := Kd.R_slice HO454.out; subst eo18) | ((with_reducible refine gate_callee (f := 30) rfl ?_); refine goesL_ (some 22) rfl rfl Try.func30 (by kernel_rfl) rfl #[.agg #[.bool t448, .slice Ao17 t449.length co17, .slice Ao18 t452.length co18]] rfl (by (try simp only [List.map_toArray, List.map_cons, List.map_nil]); first | done | rfl | (simp only [List.length_drop, List.length_take]; rfl)) ?_; (with_reducible refine (spec_FloorRat.calls k t448 _ _ t449 _ _ t452 t455 t456 t459 t462 _ ?side1 ?side2 ?side3 ?side4 A8.out).mono ?_); (case side1 => exact crC (Kd.R_reads' HO451.out).2.2); (case side2 => exact (Kd.R_reads' HO451.out).2.1); (case side3 => exact crC (Kd.R_reads' HO454.out).2.2); (case side4 => exact (Kd.R_reads' HO454.out).2.1); rintro e w19 ⟨v457, v460, rfl, ho0, ho1, hb⟩; refine ⟨_, rfl, ?_⟩; have HO458 := lwR (nwR (nwR ho0 HO451) HO454) HB; have HO461 := lwR (nwR (nwR ho1 HO451) HO454) HB; replace HO451 := tldR HO451 hb (Kd.R_base ho0) (Kd.R_base ho1); replace HO454 := tldR HO454 hb (Kd.R_base ho0) (Kd.R_base ho1); replace BK446 := bkb BK446 hb; replace HB := bst HB hb; (try clear hb); (try clear hb2); (try clear hk); (try clear hi); (try clear ho0); (try clear ho1)) | ((with_reducible refine gate_dst (N := 4) rfl ?_); refine box_event ?hg (N := 4) ?hd (cs := #[.bool false, .slice none 0 0, .slice none 0 0]) (t := 24) ?hr ?_; (case hd => rfl); (case hg => rfl); (case hr => first | (go_simp; done) | (go_simp; rfl)); intro gb463 hg w20 hbox hb; replace HO451 := rblR HO451 hb; replace HO454 := rblR HO454 hb; replace HO458 := rblR HO458 hb; replace HO461 := rblR HO461 hb; have BK463 := Aside0.mk (hbox); have GW463 := geh hg HB; have GE463 := geh hg HB; replace HB := bst HB hb; have NB446_463 := nlt hg BK446; have NB463_446 := ngt hg BK446; replace BK446 := bkb BK446 hb; clear hb hbox hg; have hnb21 := NB463_446.out; have hnc21 := NB446_463.out; have hcz22_0 := bce BK463 0 (.bool false); have hcz22_1 := bce BK463 1 (.slice none 0 0); have hcz22_2 := bce BK463 2 (.slice none 0 0); have hfz22_0 := blk_frozen BK463.out 0; have hfz22_1 := blk_frozen BK463.out 1; have hfz22_2 := blk_frozen BK463.out 2; obtain ⟨Ao23, co23, eo23⟩ := Kd.R_slice HO458.out; subst eo23; obtain ⟨Ao24, co24, eo24⟩ := Kd.R_slice HO461.out; subst eo24; have hcz25_0 := bce BK446 0 (.bool a0_0); have hcz25_1 := bce BK446 1 (.slice A0_1 l0_1.length c0_1); have hcz25_2 := bce BK446 2 (.slice A0_2 l0_2.length c0_2); have hfz25_0 := blk_frozen BK446.out 0; have hfz25_1 := blk_frozen BK446.out 1; have hfz25_2 := blk_frozen BK446.out 2) | ((with_reducible refine gate_callee (f := 22) rfl ?_); refine goesL_ (some 26) rfl rfl Try.func22 (by kernel_rfl) rfl #[.agg #[.bool a0_0, .slice A0_1 l0_1.length c0_1, .slice A0_2 l0_2.length c0_2]] rfl (by (try simp only [List.map_toArray, List.map_cons, List.map_nil]); first | done | rfl | (simp only [List.length_drop, List.length_take]; rfl)) ?_; (with_reducible refine (laws_toRat.calls k a0_0 _ _ l0_1 _ _ l0_2 t464 t465 t468 _ ?side1 ?side2 ?side3 ?side4 A9.out).mono ?_); (case side1 => exact Kd.C_below HR0_1.out (blw HB)); (case side2 => exact HC0_1.out); (case side3 => exact Kd.C_below HR0_2.out (blw HB)); (case side4 => exact HC0_2.out); rintro e w26 ⟨v466, v469, rfl, ho0, ho1, hb⟩; refine ⟨_, rfl, ?_⟩; have HO467 := lwR (nwF (nwF (nwF (nwF ho0 HO451 BK463) HO454 BK463) HO458 BK463) HO461 BK463) HB; have HO470 := lwR (nwF (nwF (nwF (nwF ho1 HO451 BK463) HO454 BK463) HO458 BK463) HO461 BK463) HB; replace HO451 := tldF HO451 BK463 hb (Kd.R_base ho0) (Kd.R_base ho1); replace HO454 := tldF HO454 BK463 hb (Kd.R_base ho0) (Kd.R_base ho1); replace HO458 := tldF HO458 BK463 hb (Kd.R_base ho0) (Kd.R_base ho1); replace HO461 := tldF HO461 BK463 hb (Kd.R_base ho0) (Kd.R_base ho1); replace BK446 := bkf BK446 hb; replace BK463 := bkp BK463 (.bool t455) (.slice Ao23 t456.length co23) (.slice Ao24 t459.length co24) hb; replace HB := bst HB hb; (try clear hb); (try clear hb2); (try clear hk); (try clear hi); (try clear ho0); (try clear ho1)) | ((with_reducible refine gate_dst (N := 6) rfl ?_); refine box_event ?hg (N := 6) ?hd (cs := #[.bool false, .slice none 0 0, .slice none 0 0]) (t := 24) ?hr ?_; (case hd => rfl); (case hg => rfl); (case hr => first | (go_simp; done) | (go_simp; rfl)); intro gb471 hg w27 hbox hb; replace HO451 := rblR HO451 hb; replace HO454 := rblR HO454 hb; replace HO458 := rblR HO458 hb; replace HO461 := rblR HO461 hb; replace HO467 := rblR HO467 hb; replace HO470 := rblR HO470 hb; have BK471 := Aside0.mk (hbox); have GW471 := geh hg HB; have GE471 := geh hg HB; replace HB := bst HB hb; have NB446_471 := nlt hg BK446; have NB471_446 := ngt hg BK446; replace BK446 := bkb BK446 hb; have NB463_471 := nlt hg BK463; have NB471_463 := ngt hg BK463; replace BK463 := bkb BK463 hb; clear hb hbox hg; have hnb28 := NB471_446.out; have hnc28 := NB446_471.out; have hnb29 := NB471_463.out; have hnc29 := NB463_471.out; have hcz30_0 := bce BK471 0 (.bool false); have hcz30_1 := bce BK471 1 (.slice none 0 0); have hcz30_2 := bce BK471 2 (.slice none 0 0); have hfz30_0 := blk_frozen BK471.out 0; have hfz30_1 := blk_frozen BK471.out 1; have hfz30_2 := blk_frozen BK471.out 2; obtain ⟨Ao31, co31, eo31⟩ := Kd.R_slice HO467.out; subst eo31; obtain ⟨Ao32, co32, eo32⟩ := Kd.R_slice HO470.out; subst eo32) | ((with_reducible refine gate_store (t := 24) (p := 6) rfl ?_); refine store_event (t := 24) (p := 6) (v := ?vo_w33) (w1 := (((w27.setCell ⟨gb471, 0, none⟩ (.bool t464)).setCell ⟨gb471, 1, none⟩ (.slice Ao31 t465.length co31)).setCell ⟨gb471, 2, none⟩ (.slice Ao32 t468.length co32))) ?hg ?ho ?hn ?hr ?_; (case ho => rfl); (case hg => rfl); (case hn => rfl); (case hr => first | (go_simp; done) | (go_simp; rfl)); intro w33 hw; replace HO451 : Aside0 (Kd.R (Kd.int .i64) 3 w33 w.heap.size (fun k_ => nO k_ (.slice Ao18 t452.length co18) ∧ nO k_ (.slice Ao23 t456.length co23) ∧ nO k_ (.slice Ao24 t459.length co24) ∧ nO k_ (.slice Ao31 t465.length co31) ∧ nO k_ (.slice Ao32 t468.length co32)) (.slice Ao17 t449.length co17) t449) := ⟨(by rw [hw]; exact (by (with_reducible repeat (first | apply Kd.R_alloc | apply Kd.R_drewN | apply Kd.R_drew)); exact Kd.R_mono (Kd.R_far (p := ⟨gb471, 2, none⟩) (Kd.R_far (p := ⟨gb471, 1, none⟩) (Kd.R_far (p := ⟨gb471, 0, none⟩) (Kd.R_types HO451.out BK471.out (by decide)) (fun _ hk => hk.2) (.bool t464)) (fun _ hk => hk.2) (.slice Ao31 t465.length co31)) (fun _ hk => hk.2) (.slice Ao32 t468.length co32)) (fun _ hk => ⟨hk.1.1.1.1.1, ⟨hk.1.1.1.1.2, ⟨hk.1.1.1.2, ⟨hk.1.1.2, hk.1.2⟩⟩⟩⟩)))⟩; replace HO454 : Aside0 (Kd.R (Kd.int .i64) 3 w33 w.heap.size (fun k_ => nO k_ (.slice Ao17 t449.length co17) ∧ nO k_ (.slice Ao23 t456.length co23) ∧ nO k_ (.slice Ao24 t459.length co24) ∧ nO k_ (.slice Ao31 t465.length co31) ∧ nO k_ (.slice Ao32 t468.length co32)) (.slice Ao18 t452.length co18) t452) := ⟨(by rw [hw]; exact (by (with_reducible repeat (first | apply Kd.R_alloc | apply Kd.R_drewN | apply Kd.R_drew)); exact Kd.R_mono (Kd.R_far (p := ⟨gb471, 2, none⟩) (Kd.R_far (p := ⟨gb471, 1, none⟩) (Kd.R_far (p := ⟨gb471, 0, none⟩) (Kd.R_types HO454.out BK471.out (by decide)) (fun _ hk => hk.2) (.bool t464)) (fun _ hk => hk.2) (.slice Ao31 t465.length co31)) (fun _ hk => hk.2) (.slice Ao32 t468.length co32)) (fun _ hk => ⟨hk.1.1.1.1.1, ⟨hk.1.1.1.1.2, ⟨hk.1.1.1.2, ⟨hk.1.1.2, hk.1.2⟩⟩⟩⟩)))⟩; replace HO458 : Aside0 (Kd.R (Kd.int .i64) 3 w33 w.heap.size (fun k_ => nO k_ (.slice Ao17 t449.length co17) ∧ nO k_ (.slice Ao18 t452.length co18) ∧ nO k_ (.slice Ao24 t459.length co24) ∧ nO k_ (.slice Ao31 t465.length co31) ∧ nO k_ (.slice Ao32 t468.length co32)) (.slice Ao23 t456.length co23) t456) := ⟨(by rw [hw]; exact (by (with_reducible repeat (first | apply Kd.R_alloc | apply Kd.R_drewN | apply Kd.R_drew)); exact Kd.R_mono (Kd.R_far (p := ⟨gb471, 2, none⟩) (Kd.R_far (p := ⟨gb471, 1, none⟩) (Kd.R_far (p := ⟨gb471, 0, none⟩) (Kd.R_types HO458.out BK471.out (by decide)) (fun _ hk => hk.2) (.bool t464)) (fun _ hk => hk.2) (.slice Ao31 t465.length co31)) (fun _ hk => hk.2) (.slice Ao32 t468.length co32)) (fun _ hk => ⟨hk.1.1.1.1.2, ⟨hk.1.1.1.2, ⟨hk.1.1.1.1.1, ⟨hk.1.1.2, hk.1.2⟩⟩⟩⟩)))⟩; replace HO461 : Aside0 (Kd.R (Kd.int .i64) 3 w33 w.heap.size (fun k_ => nO k_ (.slice Ao17 t449.length co17) ∧ nO k_ (.slice Ao18 t452.length co18) ∧ nO k_ (.slice Ao23 t456.length co23) ∧ nO k_ (.slice Ao31 t465.length co31) ∧ nO k_ (.slice Ao32 t468.length co32)) (.slice Ao24 t459.length co24) t459) := ⟨(by rw [hw]; exact (by (with_reducible repeat (first | apply Kd.R_alloc | apply Kd.R_drewN | apply Kd.R_drew)); exact Kd.R_mono (Kd.R_far (p := ⟨gb471, 2, none⟩) (Kd.R_far (p := ⟨gb471, 1, none⟩) (Kd.R_far (p := ⟨gb471, 0, none⟩) (Kd.R_types HO461.out BK471.out (by decide)) (fun _ hk => hk.2) (.bool t464)) (fun _ hk => hk.2) (.slice Ao31 t465.length co31)) (fun _ hk => hk.2) (.slice Ao32 t468.length co32)) (fun _ hk => ⟨hk.1.1.1.1.2, ⟨hk.1.1.1.2, ⟨hk.1.1.1.1.1, ⟨hk.1.1.2, hk.1.2⟩⟩⟩⟩)))⟩; replace HO467 : Aside0 (Kd.R (Kd.int .i64) 3 w33 w.heap.size (fun k_ => nO k_ (.slice Ao17 t449.length co17) ∧ nO k_ (.slice Ao18 t452.length co18) ∧ nO k_ (.slice Ao23 t456.length co23) ∧ nO k_ (.slice Ao24 t459.length co24) ∧ nO k_ (.slice Ao32 t468.length co32)) (.slice Ao31 t465.length co31) t465) := ⟨(by rw [hw]; exact (by (with_reducible repeat (first | apply Kd.R_alloc | apply Kd.R_drewN | apply Kd.R_drew)); exact Kd.R_mono (Kd.R_far (p := ⟨gb471, 2, none⟩) (Kd.R_far (p := ⟨gb471, 1, none⟩) (Kd.R_far (p := ⟨gb471, 0, none⟩) (Kd.R_types HO467.out BK471.out (by decide)) (fun _ hk => hk.2) (.bool t464)) (fun _ hk => hk.2) (.slice Ao31 t465.length co31)) (fun _ hk => hk.2) (.slice Ao32 t468.length co32)) (fun _ hk => ⟨hk.1.1.1.1.2, ⟨hk.1.1.1.2, ⟨hk.1.1.2, ⟨hk.1.2, hk.1.1.1.1.1⟩⟩⟩⟩)))⟩; replace HO470 : Aside0 (Kd.R (Kd.int .i64) 3 w33 w.heap.size (fun k_ => nO k_ (.slice Ao17 t449.length co17) ∧ nO k_ (.slice Ao18 t452.length co18) ∧ nO k_ (.slice Ao23 t456.length co23) ∧ nO k_ (.slice Ao24 t459.length co24) ∧ nO k_ (.slice Ao31 t465.length co31)) (.slice Ao32 t468.length co32) t468) := ⟨(by rw [hw]; exact (by (with_reducible repeat (first | apply Kd.R_alloc | apply Kd.R_drewN | apply Kd.R_drew)); exact Kd.R_mono (Kd.R_far (p := ⟨gb471, 2, none⟩) (Kd.R_far (p := ⟨gb471, 1, none⟩) (Kd.R_far (p := ⟨gb471, 0, none⟩) (Kd.R_types HO470.out BK471.out (by decide)) (fun _ hk => hk.2) (.bool t464)) (fun _ hk => hk.2) (.slice Ao31 t465.length co31)) (fun _ hk => hk.2) (.slice Ao32 t468.length co32)) (fun _ hk => ⟨hk.1.1.1.1.2, ⟨hk.1.1.1.2, ⟨hk.1.1.2, ⟨hk.1.2, hk.1.1.1.1.1⟩⟩⟩⟩)))⟩; replace BK446 : Aside0 (w33.heap[gb446]? = some (.cells #[.bool a0_0, .slice A0_1 l0_1.length c0_1, .slice A0_2 l0_2.length c0_2] 30 (0, 0))) := ⟨(by rw [hw]; exact (crbF BK446))⟩; replace BK463 : Aside0 (w33.heap[gb463]? = some (.cells #[.bool t455, .slice Ao23 t456.length co23, .slice Ao24 t459.length co24] 24 (0, 0))) := ⟨(by rw [hw]; exact (crbF BK463))⟩; replace BK471 : Aside0 (w33.heap[gb471]? = some (.cells #[.bool t464, .slice Ao31 t465.length co31, .slice Ao32 t468.length co32] 24 (0, 0))) := ⟨(by rw [hw]; exact (by (with_reducible repeat (first | refine blk_drewN ?_ _ | refine blk_drew ?_ | refine blk_alloc ?_ _)); refine blk_put (cs := #[.bool t464, .slice Ao31 t465.length co31, .slice none 0 0]) ?_ 2 _ rfl; (with_reducible repeat (first | refine blk_drewN ?_ _ | refine blk_drew ?_ | refine blk_alloc ?_ _)); refine blk_put (cs := #[.bool t464, .slice none 0 0, .slice none 0 0]) ?_ 1 _ rfl; (with_reducible repeat (first | refine blk_drewN ?_ _ | refine blk_drew ?_ | refine blk_alloc ?_ _)); refine blk_put (cs := #[.bool false, .slice none 0 0, .slice none 0 0]) ?_ 0 _ rfl; (with_reducible repeat (first | refine blk_drewN ?_ _ | refine blk_drew ?_ | refine blk_alloc ?_ _)); exact BK471.out))⟩; replace HB : Aside0 (Below w.heap.size w w33) := ⟨(by rw [hw]; exact (blw HB))⟩; clear hw; have hcz34_0 := bce BK471 0 (.bool t464); have hcz34_1 := bce BK471 1 (.slice Ao31 t465.length co31); have hcz34_2 := bce BK471 2 (.slice Ao32 t468.length co32); have hfz34_0 := blk_frozen BK471.out 0; have hfz34_1 := blk_frozen BK471.out 1; have hfz34_2 := blk_frozen BK471.out 2) | ((with_reducible refine gate_callee (f := 31) rfl ?_); refine goesL_ (some 29) rfl rfl Try.func31 (by kernel_rfl) rfl #[.agg #[.bool t464, .slice Ao31 t465.length co31, .slice Ao32 t468.length co32]] rfl (by (try simp only [List.map_toArray, List.map_cons, List.map_nil]); first | done | rfl | (simp only [List.length_drop, List.length_take]; rfl)) ?_; (with_reducible refine (impl_FloorRat.calls k t464 (fun k_ => some k_ = (.slice Ao31 t465.length co31 : Value).ownBlock) _ _ t465 (fun k_ => some k_ = (.slice Ao32 t468.length co32 : Value).ownBlock) _ _ t468 t472 t473 t476 t479 _ ?side1 ?side2 A10.out).mono ?_); (case side1 => exact Kd.R_V (Kd.R_tight rfl (Kd.R_types (Kd.R_types (Kd.R_types (HO467.out) BK446.out (by decide)) BK463.out (by decide)) BK471.out (by decide)))); (case side2 => exact Kd.R_V (Kd.R_tight rfl (Kd.R_types (Kd.R_types (Kd.R_types (HO470.out) BK446.out (by decide)) BK463.out (by decide)) BK471.out (by decide)))); rintro e w35 ⟨v474, v477, rfl, ho0, ho1, hb⟩; refine ⟨_, rfl, ?_⟩; have HO475 := lwR (nwR (nwR (nwR (nwR (nwR (nwR (Kd.R_mono (ok' := fun k_ => nO k_ v477) ho0 (fun _ hk_ => hk_.2)) HO451) HO454) HO458) HO461) HO467) HO470) HB; have HO478 := lwR (nwR (nwR (nwR (nwR (nwR (nwR (Kd.R_mono (ok' := fun k_ => nO k_ v474) ho1 (fun _ hk_ => hk_.2)) HO451) HO454) HO458) HO461) HO467) HO470) HB; replace HO451 := tldR HO451 hb (Kd.R_base ho0) (Kd.R_base ho1); replace HO454 := tldR HO454 hb (Kd.R_base ho0) (Kd.R_base ho1); replace HO458 := tldR HO458 hb (Kd.R_base ho0) (Kd.R_base ho1); replace HO461 := tldR HO461 hb (Kd.R_base ho0) (Kd.R_base ho1); replace HO467 := tldR HO467 hb (Kd.R_base ho0) (Kd.R_base ho1); replace HO470 := tldR HO470 hb (Kd.R_base ho0) (Kd.R_base ho1); replace BK446 := bkb BK446 hb; replace BK463 := bkb BK463 hb; replace BK471 := bkb BK471 hb; replace HB := bst HB hb; (try clear hb); (try clear hb2); (try clear hk); (try clear hi); (try clear ho0); (try clear ho1)) | ((with_reducible refine gate_dst (N := 7) rfl ?_); refine box_event ?hg (N := 7) ?hd (cs := #[.bool false, .slice none 0 0, .slice none 0 0]) (t := 24) ?hr ?_; (case hd => rfl); (case hg => rfl); (case hr => first | (go_simp; done) | (go_simp; rfl)); intro gb480 hg w36 hbox hb; replace HO451 := rblR HO451 hb; replace HO454 := rblR HO454 hb; replace HO458 := rblR HO458 hb; replace HO461 := rblR HO461 hb; replace HO467 := rblR HO467 hb; replace HO470 := rblR HO470 hb; replace HO475 := rblR HO475 hb; replace HO478 := rblR HO478 hb; have BK480 := Aside0.mk (hbox); have GW480 := geh hg HB; have GE480 := geh hg HB; replace HB := bst HB hb; have NB446_480 := nlt hg BK446; have NB480_446 := ngt hg BK446; replace BK446 := bkb BK446 hb; have NB463_480 := nlt hg BK463; have NB480_463 := ngt hg BK463; replace BK463 := bkb BK463 hb; have NB471_480 := nlt hg BK471; have NB480_471 := ngt hg BK471; replace BK471 := bkb BK471 hb; clear hb hbox hg; have hnb37 := NB480_446.out; have hnc37 := NB446_480.out; have hnb38 := NB480_463.out; have hnc38 := NB463_480.out; have hnb39 := NB480_471.out; have hnc39 := NB471_480.out; have hcz40_0 := bce BK480 0 (.bool false); have hcz40_1 := bce BK480 1 (.slice none 0 0); have hcz40_2 := bce BK480 2 (.slice none 0 0); have hfz40_0 := blk_frozen BK480.out 0; have hfz40_1 := blk_frozen BK480.out 1; have hfz40_2 := blk_frozen BK480.out 2; obtain ⟨Ao41, co41, eo41⟩ := Kd.R_slice HO475.out; subst eo41; obtain ⟨Ao42, co42, eo42⟩ := Kd.R_slice HO478.out; subst eo42))
  (try simp only [Act.put, List.setIfInBounds_toArray, List.set_cons_zero, List.set_cons_succ])
  go_cut [40] (fun v40 wc => ∃ (kq : Nat) (x40_10 : Bool), v40 = .bool x40_10 ∧ Aside0 (laws_FnExactFloorRat.j0 kq t462 t479 x40_10 a0_0 l0_1 l0_2 t455 t456 t459 t464 t465 t468 t472 t473 t476 = some r) ∧ Aside0 (kq ≤ k) ∧ Aside0 (Kd.R (Kd.int .i64) 3 wc w.heap.size (fun k_ => nO k_ (.slice Ao24 t459.length co24) ∧ nO k_ (.slice Ao31 t465.length co31) ∧ nO k_ (.slice Ao32 t468.length co32) ∧ nO k_ (.slice Ao41 t473.length co41) ∧ nO k_ (.slice Ao42 t476.length co42)) (.slice Ao23 t456.length co23) t456) ∧ Aside0 (Kd.R (Kd.int .i64) 3 wc w.heap.size (fun k_ => nO k_ (.slice Ao23 t456.length co23) ∧ nO k_ (.slice Ao31 t465.length co31) ∧ nO k_ (.slice Ao32 t468.length co32) ∧ nO k_ (.slice Ao41 t473.length co41) ∧ nO k_ (.slice Ao42 t476.length co42)) (.slice Ao24 t459.length co24) t459) ∧ Aside0 (Kd.R (Kd.int .i64) 3 wc w.heap.size (fun k_ => nO k_ (.slice Ao23 t456.length co23) ∧ nO k_ (.slice Ao24 t459.length co24) ∧ nO k_ (.slice Ao32 t468.length co32) ∧ nO k_ (.slice Ao41 t473.length co41) ∧ nO k_ (.slice Ao42 t476.length co42)) (.slice Ao31 t465.length co31) t465) ∧ Aside0 (Kd.R (Kd.int .i64) 3 wc w.heap.size (fun k_ => nO k_ (.slice Ao23 t456.length co23) ∧ nO k_ (.slice Ao24 t459.length co24) ∧ nO k_ (.slice Ao31 t465.length co31) ∧ nO k_ (.slice Ao41 t473.length co41) ∧ nO k_ (.slice Ao42 t476.length co42)) (.slice Ao32 t468.length co32) t468) ∧ Aside0 (Kd.R (Kd.int .i64) 3 wc w.heap.size (fun k_ => nO k_ (.slice Ao23 t456.length co23) ∧ nO k_ (.slice Ao24 t459.length co24) ∧ nO k_ (.slice Ao31 t465.length co31) ∧ nO k_ (.slice Ao32 t468.length co32) ∧ nO k_ (.slice Ao42 t476.length co42)) (.slice Ao41 t473.length co41) t473) ∧ Aside0 (Kd.R (Kd.int .i64) 3 wc w.heap.size (fun k_ => nO k_ (.slice Ao23 t456.length co23) ∧ nO k_ (.slice Ao24 t459.length co24) ∧ nO k_ (.slice Ao31 t465.length co31) ∧ nO k_ (.slice Ao32 t468.length co32) ∧ nO k_ (.slice Ao41 t473.length co41)) (.slice Ao42 t476.length co42) t476) ∧ Aside0 (wc.heap[gb446]? = some (.cells #[.bool a0_0, (.slice A0_1 l0_1.length c0_1), (.slice A0_2 l0_2.length c0_2)] 30 (0, 0))) ∧ Aside0 (wc.heap[gb463]? = some (.cells #[.bool t455, (.slice Ao23 t456.length co23), (.slice Ao24 t459.length co24)] 24 (0, 0))) ∧ Aside0 (wc.heap[gb471]? = some (.cells #[.bool t464, (.slice Ao31 t465.length co31), (.slice Ao32 t468.length co32)] 24 (0, 0))) ∧ Aside0 (wc.heap[gb480]? = some (.cells #[.bool t472, (.slice Ao41 t473.length co41), (.slice Ao42 t476.length co42)] 24 (0, 0))) ∧ Aside0 (Below w.heap.size w wc))
  case first =>
   have H := HC11.out
   clear HC11
   replace H := Option.bind_eq_some_iff.mp H
   obtain ⟨t481, A430, H⟩ := H
   replace H : (if t481 = true then (laws_FnExactFloorRat.j0 k t462 t479 (t479 != t462) a0_0 l0_1 l0_2 t455 t456 t459 t464 t465 t468 t472 t473 t476) else (laws_FnExactFloorRat.j0 k t462 t479 true a0_0 l0_1 l0_2 t455 t456 t459 t464 t465 t468 t472 t473 t476)) = some r := H
   have A43 := Aside0.mk A430
   clear A430
   by_cases c44 : t481 = true
   ·
    subst c44
    have H1 : (laws_FnExactFloorRat.j0 k t462 t479 (t479 != t462) a0_0 l0_1 l0_2 t455 t456 t459 t464 t465 t468 t472 t473 t476) = some r := by rw [if_pos rfl] at H; exact H
    clear H
    have H := H1
    clear H1
    have H' := Aside0.mk H
    clear H
    have hnb45 := NB480_446.out
    have hnc45 := NB446_480.out
    have hnb46 := NB480_463.out
    have hnc46 := NB463_480.out
    have hnb47 := NB480_471.out
    have hnc47 := NB471_480.out
    have hcz48_0 := bce BK480 0 (.bool false)
    have hcz48_1 := bce BK480 1 (.slice none 0 0)
    have hcz48_2 := bce BK480 2 (.slice none 0 0)
    have hfz48_0 := blk_frozen BK480.out 0
    have hfz48_1 := blk_frozen BK480.out 1
    have hfz48_2 := blk_frozen BK480.out 2
    have hnb49 := NB463_446.out
    have hnc49 := NB446_463.out
    have hnb50 := NB463_471.out
    have hnc50 := NB471_463.out
    have hcz51_0 := bce BK463 0 (.bool t455)
    have hcz51_1 := bce BK463 1 (.slice Ao23 t456.length co23)
    have hcz51_2 := bce BK463 2 (.slice Ao24 t459.length co24)
    have hfz51_0 := blk_frozen BK463.out 0
    have hfz51_1 := blk_frozen BK463.out 1
    have hfz51_2 := blk_frozen BK463.out 2
    go_wp2_with (first | ((with_reducible refine gate_callee (f := 17) rfl ?_); refine goesL_ (some 34) rfl rfl Try.func17 (by kernel_rfl) rfl #[.agg #[.bool t472, .slice Ao41 t473.length co41, .slice Ao42 t476.length co42], .agg #[.bool t455, .slice Ao23 t456.length co23, .slice Ao24 t459.length co24]] rfl (by (try simp only [List.map_toArray, List.map_cons, List.map_nil]); first | done | rfl | (simp only [List.length_drop, List.length_take]; rfl)) ?_; (with_reducible refine (laws_eqRat.calls k t472 _ _ t473 _ _ t476 t455 _ _ t456 _ _ t459 true _ ?side1 ?side2 ?side3 ?side4 ?side5 ?side6 ?side7 ?side8 A43.out).mono ?_); (case side1 => refine (Kd.R_reads' (e := 3) (base := w.heap.size) (ok := fun k_ => ((((((nO k_ (.slice Ao42 t476.length co42) ∧ nO k_ (.slice Ao17 t449.length co17)) ∧ nO k_ (.slice Ao18 t452.length co18)) ∧ nO k_ (.slice Ao23 t456.length co23)) ∧ nO k_ (.slice Ao24 t459.length co24)) ∧ nO k_ (.slice Ao31 t465.length co31)) ∧ nO k_ (.slice Ao32 t468.length co32))) (n := t473.length) (c := co41) ?_).2.2; exact (crF HO475 BK480)); (case side2 => exact (Kd.R_reads' HO475.out).2.1); (case side3 => refine (Kd.R_reads' (e := 3) (base := w.heap.size) (ok := fun k_ => ((((((nO k_ (.slice Ao41 t473.length co41) ∧ nO k_ (.slice Ao17 t449.length co17)) ∧ nO k_ (.slice Ao18 t452.length co18)) ∧ nO k_ (.slice Ao23 t456.length co23)) ∧ nO k_ (.slice Ao24 t459.length co24)) ∧ nO k_ (.slice Ao31 t465.length co31)) ∧ nO k_ (.slice Ao32 t468.length co32))) (n := t476.length) (c := co42) ?_).2.2; exact (crF HO478 BK480)); (case side4 => exact (Kd.R_reads' HO478.out).2.1); (case side5 => refine (Kd.R_reads' (e := 3) (base := w.heap.size) (ok := fun k_ => (((nO k_ (.slice Ao17 t449.length co17) ∧ (nO k_ (.slice Ao18 t452.length co18) ∧ (nO k_ (.slice Ao24 t459.length co24) ∧ (nO k_ (.slice Ao31 t465.length co31) ∧ nO k_ (.slice Ao32 t468.length co32))))) ∧ nO k_ (.slice Ao41 t473.length co41)) ∧ nO k_ (.slice Ao42 t476.length co42))) (n := t456.length) (c := co23) ?_).2.2; exact (crF HO458 BK480)); (case side6 => exact (Kd.R_reads' HO458.out).2.1); (case side7 => refine (Kd.R_reads' (e := 3) (base := w.heap.size) (ok := fun k_ => (((nO k_ (.slice Ao17 t449.length co17) ∧ (nO k_ (.slice Ao18 t452.length co18) ∧ (nO k_ (.slice Ao23 t456.length co23) ∧ (nO k_ (.slice Ao31 t465.length co31) ∧ nO k_ (.slice Ao32 t468.length co32))))) ∧ nO k_ (.slice Ao41 t473.length co41)) ∧ nO k_ (.slice Ao42 t476.length co42))) (n := t459.length) (c := co24) ?_).2.2; exact (crF HO461 BK480)); (case side8 => exact (Kd.R_reads' HO461.out).2.1); rintro e w52 ⟨rfl, hb⟩; refine ⟨_, rfl, ?_⟩; replace HO451 := rblF HO451 BK480 hb; replace HO454 := rblF HO454 BK480 hb; replace HO458 := rblF HO458 BK480 hb; replace HO461 := rblF HO461 BK480 hb; replace HO467 := rblF HO467 BK480 hb; replace HO470 := rblF HO470 BK480 hb; replace HO475 := rblF HO475 BK480 hb; replace HO478 := rblF HO478 BK480 hb; replace BK446 := bkf BK446 hb; replace BK463 := bkf BK463 hb; replace BK471 := bkf BK471 hb; replace BK480 := bkp BK480 (.bool t472) (.slice Ao41 t473.length co41) (.slice Ao42 t476.length co42) hb; replace HB := bst HB hb; (try clear hb); (try clear hb2); (try clear hk); (try clear hi)))
    go_meet
    case rel => exact ⟨_, ((t479 != t462)), (by first | rfl | (simp; done) | (simp [*]; done)), H', ⟨by first | omega | exact Nat.le_refl _⟩, ⟨crM HO458 fun _ hk => ⟨hk.1.1.2.2.1, hk.1.1.2.2.2.1, hk.1.1.2.2.2.2, hk.1.2, hk.2⟩⟩, ⟨crM HO461 fun _ hk => ⟨hk.1.1.2.2.1, hk.1.1.2.2.2.1, hk.1.1.2.2.2.2, hk.1.2, hk.2⟩⟩, ⟨crM HO467 fun _ hk => ⟨hk.1.1.2.2.1, hk.1.1.2.2.2.1, hk.1.1.2.2.2.2, hk.1.2, hk.2⟩⟩, ⟨crM HO470 fun _ hk => ⟨hk.1.1.2.2.1, hk.1.1.2.2.2.1, hk.1.1.2.2.2.2, hk.1.2, hk.2⟩⟩, ⟨crM HO475 fun _ hk => ⟨hk.1.1.1.2, hk.1.1.2, hk.1.2, hk.2, hk.1.1.1.1.1.1⟩⟩, ⟨crM HO478 fun _ hk => ⟨hk.1.1.1.2, hk.1.1.2, hk.1.2, hk.2, hk.1.1.1.1.1.1⟩⟩, ⟨crb BK446⟩, ⟨crb BK463⟩, ⟨crb BK471⟩, ⟨crb BK480⟩, ⟨blw HB⟩⟩
   ·
    replace c44 := Bool.eq_false_iff.mpr c44
    subst c44
    have H1 : (laws_FnExactFloorRat.j0 k t462 t479 true a0_0 l0_1 l0_2 t455 t456 t459 t464 t465 t468 t472 t473 t476) = some r := by rw [if_neg (show ¬ (false = true) by decide)] at H; exact H
    clear H
    have H := H1
    clear H1
    have H' := Aside0.mk H
    clear H
    have hnb53 := NB480_446.out
    have hnc53 := NB446_480.out
    have hnb54 := NB480_463.out
    have hnc54 := NB463_480.out
    have hnb55 := NB480_471.out
    have hnc55 := NB471_480.out
    have hcz56_0 := bce BK480 0 (.bool false)
    have hcz56_1 := bce BK480 1 (.slice none 0 0)
    have hcz56_2 := bce BK480 2 (.slice none 0 0)
    have hfz56_0 := blk_frozen BK480.out 0
    have hfz56_1 := blk_frozen BK480.out 1
    have hfz56_2 := blk_frozen BK480.out 2
    have hnb57 := NB463_446.out
    have hnc57 := NB446_463.out
    have hnb58 := NB463_471.out
    have hnc58 := NB471_463.out
    have hcz59_0 := bce BK463 0 (.bool t455)
    have hcz59_1 := bce BK463 1 (.slice Ao23 t456.length co23)
    have hcz59_2 := bce BK463 2 (.slice Ao24 t459.length co24)
    have hfz59_0 := blk_frozen BK463.out 0
    have hfz59_1 := blk_frozen BK463.out 1
    have hfz59_2 := blk_frozen BK463.out 2
    go_wp2_with (first | ((with_reducible refine gate_callee (f := 17) rfl ?_); refine goesL_ (some 34) rfl rfl Try.func17 (by kernel_rfl) rfl #[.agg #[.bool t472, .slice Ao41 t473.length co41, .slice Ao42 t476.length co42], .agg #[.bool t455, .slice Ao23 t456.length co23, .slice Ao24 t459.length co24]] rfl (by (try simp only [List.map_toArray, List.map_cons, List.map_nil]); first | done | rfl | (simp only [List.length_drop, List.length_take]; rfl)) ?_; (with_reducible refine (laws_eqRat.calls k t472 _ _ t473 _ _ t476 t455 _ _ t456 _ _ t459 false _ ?side1 ?side2 ?side3 ?side4 ?side5 ?side6 ?side7 ?side8 A43.out).mono ?_); (case side1 => refine (Kd.R_reads' (e := 3) (base := w.heap.size) (ok := fun k_ => ((((((nO k_ (.slice Ao42 t476.length co42) ∧ nO k_ (.slice Ao17 t449.length co17)) ∧ nO k_ (.slice Ao18 t452.length co18)) ∧ nO k_ (.slice Ao23 t456.length co23)) ∧ nO k_ (.slice Ao24 t459.length co24)) ∧ nO k_ (.slice Ao31 t465.length co31)) ∧ nO k_ (.slice Ao32 t468.length co32))) (n := t473.length) (c := co41) ?_).2.2; exact (crF HO475 BK480)); (case side2 => exact (Kd.R_reads' HO475.out).2.1); (case side3 => refine (Kd.R_reads' (e := 3) (base := w.heap.size) (ok := fun k_ => ((((((nO k_ (.slice Ao41 t473.length co41) ∧ nO k_ (.slice Ao17 t449.length co17)) ∧ nO k_ (.slice Ao18 t452.length co18)) ∧ nO k_ (.slice Ao23 t456.length co23)) ∧ nO k_ (.slice Ao24 t459.length co24)) ∧ nO k_ (.slice Ao31 t465.length co31)) ∧ nO k_ (.slice Ao32 t468.length co32))) (n := t476.length) (c := co42) ?_).2.2; exact (crF HO478 BK480)); (case side4 => exact (Kd.R_reads' HO478.out).2.1); (case side5 => refine (Kd.R_reads' (e := 3) (base := w.heap.size) (ok := fun k_ => (((nO k_ (.slice Ao17 t449.length co17) ∧ (nO k_ (.slice Ao18 t452.length co18) ∧ (nO k_ (.slice Ao24 t459.length co24) ∧ (nO k_ (.slice Ao31 t465.length co31) ∧ nO k_ (.slice Ao32 t468.length co32))))) ∧ nO k_ (.slice Ao41 t473.length co41)) ∧ nO k_ (.slice Ao42 t476.length co42))) (n := t456.length) (c := co23) ?_).2.2; exact (crF HO458 BK480)); (case side6 => exact (Kd.R_reads' HO458.out).2.1); (case side7 => refine (Kd.R_reads' (e := 3) (base := w.heap.size) (ok := fun k_ => (((nO k_ (.slice Ao17 t449.length co17) ∧ (nO k_ (.slice Ao18 t452.length co18) ∧ (nO k_ (.slice Ao23 t456.length co23) ∧ (nO k_ (.slice Ao31 t465.length co31) ∧ nO k_ (.slice Ao32 t468.length co32))))) ∧ nO k_ (.slice Ao41 t473.length co41)) ∧ nO k_ (.slice Ao42 t476.length co42))) (n := t459.length) (c := co24) ?_).2.2; exact (crF HO461 BK480)); (case side8 => exact (Kd.R_reads' HO461.out).2.1); rintro e w60 ⟨rfl, hb⟩; refine ⟨_, rfl, ?_⟩; replace HO451 := rblF HO451 BK480 hb; replace HO454 := rblF HO454 BK480 hb; replace HO458 := rblF HO458 BK480 hb; replace HO461 := rblF HO461 BK480 hb; replace HO467 := rblF HO467 BK480 hb; replace HO470 := rblF HO470 BK480 hb; replace HO475 := rblF HO475 BK480 hb; replace HO478 := rblF HO478 BK480 hb; replace BK446 := bkf BK446 hb; replace BK463 := bkf BK463 hb; replace BK471 := bkf BK471 hb; replace BK480 := bkp BK480 (.bool t472) (.slice Ao41 t473.length co41) (.slice Ao42 t476.length co42) hb; replace HB := bst HB hb; (try clear hb); (try clear hb2); (try clear hk); (try clear hi)))
    go_meet
    case rel => exact ⟨_, (true), (by first | rfl | (simp; done) | (simp [*]; done)), H', ⟨by first | omega | exact Nat.le_refl _⟩, ⟨crM HO458 fun _ hk => ⟨hk.1.1.2.2.1, hk.1.1.2.2.2.1, hk.1.1.2.2.2.2, hk.1.2, hk.2⟩⟩, ⟨crM HO461 fun _ hk => ⟨hk.1.1.2.2.1, hk.1.1.2.2.2.1, hk.1.1.2.2.2.2, hk.1.2, hk.2⟩⟩, ⟨crM HO467 fun _ hk => ⟨hk.1.1.2.2.1, hk.1.1.2.2.2.1, hk.1.1.2.2.2.2, hk.1.2, hk.2⟩⟩, ⟨crM HO470 fun _ hk => ⟨hk.1.1.2.2.1, hk.1.1.2.2.2.1, hk.1.1.2.2.2.2, hk.1.2, hk.2⟩⟩, ⟨crM HO475 fun _ hk => ⟨hk.1.1.1.2, hk.1.1.2, hk.1.2, hk.2, hk.1.1.1.1.1.1⟩⟩, ⟨crM HO478 fun _ hk => ⟨hk.1.1.1.2, hk.1.1.2, hk.1.2, hk.2, hk.1.1.1.1.1.1⟩⟩, ⟨crb BK446⟩, ⟨crb BK463⟩, ⟨crb BK471⟩, ⟨crb BK480⟩, ⟨blw HB⟩⟩
  case rest =>
   clear HC11
   try clear c1
   try clear c2
   try clear p2
   try clear c3
   try clear c3b0
   try clear c4
   try clear c5
   try clear c8
   try clear c17
   try clear c20
   try clear c21
   try clear c22
   try clear c28
   try clear c29
   try clear c30
   try clear c31
   try clear c37
   try clear c38
   try clear c39
   try clear c44
   try clear c45
   try clear c46
   try clear c47
   try clear c49
   try clear c50
   try clear c53
   try clear c54
   try clear c55
   try clear c57
   try clear c58
   try clear hcz13_0
   try clear hcz13_1
   try clear hcz13_2
   try clear hcz15_0
   try clear hcz15_1
   try clear hcz15_2
   try clear hcz22_0
   try clear hcz22_1
   try clear hcz22_2
   try clear hcz25_0
   try clear hcz25_1
   try clear hcz25_2
   try clear hcz30_0
   try clear hcz30_1
   try clear hcz30_2
   try clear hcz34_0
   try clear hcz34_1
   try clear hcz34_2
   try clear hcz40_0
   try clear hcz40_1
   try clear hcz40_2
   try clear hcz48_0
   try clear hcz48_1
   try clear hcz48_2
   try clear hcz51_0
   try clear hcz51_1
   try clear hcz51_2
   try clear hcz56_0
   try clear hcz56_1
   try clear hcz56_2
   try clear hcz59_0
   try clear hcz59_1
   try clear hcz59_2
   try clear hcz5_0
   try clear hcz5_1
   try clear hcz5_2
   try clear hfz13_0
   try clear hfz13_1
   try clear hfz13_2
   try clear hfz15_0
   try clear hfz15_1
   try clear hfz15_2
   try clear hfz22_0
   try clear hfz22_1
   try clear hfz22_2
   try clear hfz25_0
   try clear hfz25_1
   try clear hfz25_2
   try clear hfz30_0
   try clear hfz30_1
   try clear hfz30_2
   try clear hfz34_0
   try clear hfz34_1
   try clear hfz34_2
   try clear hfz40_0
   try clear hfz40_1
   try clear hfz40_2
   try clear hfz48_0
   try clear hfz48_1
   try clear hfz48_2
   try clear hfz51_0
   try clear hfz51_1
   try clear hfz51_2
   try clear hfz56_0
   try clear hfz56_1
   try clear hfz56_2
   try clear hfz59_0
   try clear hfz59_1
   try clear hfz59_2
   try clear hfz5_0
   try clear hfz5_1
   try clear hfz5_2
   obtain ⟨kq, x40_10, rfl, HA, HJ10, HO_464001, HO_464002, HO_472001, HO_472002, HO_481001, HO_481002, BK446, BK463, BK471, BK480, HB⟩ := hcut
   cases kq with
   | zero => exact absurd HA.out (by simp [laws_FnExactFloorRat.j0])
   | succ kj10 =>
    have H := HA.out
    clear HA
    simp only [laws_FnExactFloorRat.j0] at H
    by_cases c61 : x40_10 = true
    ·
     subst c61
     have H1 : (some false) = some r := by rw [if_pos rfl] at H; exact H
     clear H
     have H := H1
     clear H1
     obtain rfl := Option.some.inj H
     exact absurd hr_ (by decide)
    ·
     replace c61 := Bool.eq_false_iff.mpr c61
     subst c61
     have H1 : ((laws_toRat.f kj10 a0_0 l0_1 l0_2).bind fun bt482 => ((laws_eqRat.f kj10 t464 t465 t468 bt482.1 bt482.2.1 bt482.2.2).bind fun t489 => (if t489 = true then ((laws_markRat.f kj10 t464 t465 t468 1).bind fun bt490 => (if bt490.1 < 0 then (laws_FnExactFloorRat.j1 kj10 t462 true a0_0 l0_1 l0_2 t455 t456 t459 t472 t473 t476) else ((laws_eqRat.f kj10 t472 t473 t476 t455 t456 t459).bind fun t493 => (if t493 = true then (laws_FnExactFloorRat.j1 kj10 t462 (t479 != t462) a0_0 l0_1 l0_2 t455 t456 t459 t472 t473 t476) else (laws_FnExactFloorRat.j1 kj10 t462 true a0_0 l0_1 l0_2 t455 t456 t459 t472 t473 t476))))) else (some false)))) = some r := by rw [if_neg (show ¬ (false = true) by decide)] at H; exact H
     clear H
     have H := H1
     clear H1
     replace H := Option.bind_eq_some_iff.mp H
     obtain ⟨⟨t482, t483, t486⟩, A620, H⟩ := H
     replace H : ((laws_eqRat.f kj10 t464 t465 t468 t482 t483 t486).bind fun t489 => (if t489 = true then ((laws_markRat.f kj10 t464 t465 t468 1).bind fun bt490 => (if bt490.1 < 0 then (laws_FnExactFloorRat.j1 kj10 t462 true a0_0 l0_1 l0_2 t455 t456 t459 t472 t473 t476) else ((laws_eqRat.f kj10 t472 t473 t476 t455 t456 t459).bind fun t493 => (if t493 = true then (laws_FnExactFloorRat.j1 kj10 t462 (t479 != t462) a0_0 l0_1 l0_2 t455 t456 t459 t472 t473 t476) else (laws_FnExactFloorRat.j1 kj10 t462 true a0_0 l0_1 l0_2 t455 t456 t459 t472 t473 t476))))) else (some false))) = some r := H
     have A62 := Aside0.mk A620
     clear A620
     replace H := Option.bind_eq_some_iff.mp H
     obtain ⟨t489, A630, H⟩ := H
     replace H : (if t489 = true then ((laws_markRat.f kj10 t464 t465 t468 1).bind fun bt490 => (if bt490.1 < 0 then (laws_FnExactFloorRat.j1 kj10 t462 true a0_0 l0_1 l0_2 t455 t456 t459 t472 t473 t476) else ((laws_eqRat.f kj10 t472 t473 t476 t455 t456 t459).bind fun t493 => (if t493 = true then (laws_FnExactFloorRat.j1 kj10 t462 (t479 != t462) a0_0 l0_1 l0_2 t455 t456 t459 t472 t473 t476) else (laws_FnExactFloorRat.j1 kj10 t462 true a0_0 l0_1 l0_2 t455 t456 t459 t472 t473 t476))))) else (some false)) = some r := H
     have A63 := Aside0.mk A630
     clear A630
     by_cases c64 : t489 = true
     ·
      subst c64
      have H1 : ((laws_markRat.f kj10 t464 t465 t468 1).bind fun bt490 => (if bt490.1 < 0 then (laws_FnExactFloorRat.j1 kj10 t462 true a0_0 l0_1 l0_2 t455 t456 t459 t472 t473 t476) else ((laws_eqRat.f kj10 t472 t473 t476 t455 t456 t459).bind fun t493 => (if t493 = true then (laws_FnExactFloorRat.j1 kj10 t462 (t479 != t462) a0_0 l0_1 l0_2 t455 t456 t459 t472 t473 t476) else (laws_FnExactFloorRat.j1 kj10 t462 true a0_0 l0_1 l0_2 t455 t456 t459 t472 t473 t476))))) = some r := by rw [if_pos rfl] at H; exact H
      clear H
      have H := H1
      clear H1
      replace H := Option.bind_eq_some_iff.mp H
      obtain ⟨⟨t490, t491, t492⟩, A650, H⟩ := H
      replace H : (if t490 < 0 then (laws_FnExactFloorRat.j1 kj10 t462 true a0_0 l0_1 l0_2 t455 t456 t459 t472 t473 t476) else ((laws_eqRat.f kj10 t472 t473 t476 t455 t456 t459).bind fun t493 => (if t493 = true then (laws_FnExactFloorRat.j1 kj10 t462 (t479 != t462) a0_0 l0_1 l0_2 t455 t456 t459 t472 t473 t476) else (laws_FnExactFloorRat.j1 kj10 t462 true a0_0 l0_1 l0_2 t455 t456 t459 t472 t473 t476)))) = some r := H
      have A65 := Aside0.mk A650
      clear A650
      have HC66 := Aside0.mk H
      clear H
      try go_wp2
      replace HO_464001 := Aside0.mk (Kd.R_drew HO_464001.out)
      replace HO_464002 := Aside0.mk (Kd.R_drew HO_464002.out)
      replace HO_472001 := Aside0.mk (Kd.R_drew HO_472001.out)
      replace HO_472002 := Aside0.mk (Kd.R_drew HO_472002.out)
      replace HO_481001 := Aside0.mk (Kd.R_drew HO_481001.out)
      replace HO_481002 := Aside0.mk (Kd.R_drew HO_481002.out)
      replace BK446 := Aside0.mk (blk_drew BK446.out)
      replace BK463 := Aside0.mk (blk_drew BK463.out)
      replace BK471 := Aside0.mk (blk_drew BK471.out)
      replace BK480 := Aside0.mk (blk_drew BK480.out)
      replace HB := Aside0.mk (below_drew1 HB.out)
      refine start_ (n := 5) (S := fun w' => w'.cell? ⟨gb471, 0, none⟩ = some (.bool t464) ∧ w'.cell? ⟨gb471, 1, none⟩ = some (.slice Ao31 t465.length co31) ∧ w'.cell? ⟨gb471, 2, none⟩ = some (.slice Ao32 t468.length co32) ∧ w'.cell? ⟨gb446, 0, none⟩ = some (.bool a0_0) ∧ w'.cell? ⟨gb446, 1, none⟩ = some (.slice A0_1 l0_1.length c0_1) ∧ w'.cell? ⟨gb446, 2, none⟩ = some (.slice A0_2 l0_2.length c0_2)) (ds := []) #[false, false, false, false, false] (by kernel_rfl) rfl rfl ⟨bce BK471 0 _, bce BK471 1 _, bce BK471 2 _, bce BK446 0 _, bce BK446 1 _, bce BK446 2 _⟩ (fun hHeld => ?_)
      generalize wc.drew = w67 at HO_464001 HO_464002 HO_472001 HO_472002 HO_481001 HO_481002 BK446 BK463 BK471 BK480 HB hHeld ⊢
      refine take_ (i := 0) (N := some 41) (v := ?_) (a' := ?_) #[true, false, false, false, false] rfl rfl (by kernel_rfl) (fun _ _ _ h => h) (Or.inl ⟨by rfl, ?_⟩) hHeld ?_ ?_
      rotate_left
      ·
       rintro w' ⟨s0, s1, s2, s3, s4, s5⟩
       go_simp
       with_reducible rfl
      rotate_left
      ·
       simp only [Act.put, List.setIfInBounds_toArray, List.set_cons_zero, List.set_cons_succ, i64_w, i32_w]
       rfl
      refine take_ (i := 1) (N := some 42) (v := ?_) (a' := ?_) #[true, true, false, false, false] rfl rfl (by kernel_rfl) (fun _ _ _ h => h) (Or.inl ⟨by rfl, ?_⟩) hHeld ?_ ?_
      rotate_left
      ·
       rintro w' ⟨s0, s1, s2, s3, s4, s5⟩
       go_simp
       with_reducible rfl
      rotate_left
      ·
       simp only [Act.put, List.setIfInBounds_toArray, List.set_cons_zero, List.set_cons_succ, i64_w, i32_w]
       rfl
      refine one_ (i := 2) (N := some 43) #[true, true, true, false, false] rfl rfl (by kernel_rfl) (by decide) (fun K hK => ?_)
      refine goes_ Try.func22 (by kernel_rfl) rfl #[.agg #[.bool a0_0, .slice A0_1 l0_1.length c0_1, .slice A0_2 l0_2.length c0_2]] (by rfl) rfl rfl (by (try simp only [List.map_toArray, List.map_cons, List.map_nil]); first | done | rfl | (simp only [List.length_drop, List.length_take]; rfl)) ?_
      with_reducible refine (laws_toRat.calls kj10 a0_0 _ _ l0_1 _ _ l0_2 t482 t483 t486 _ ?side1 ?side2 ?side3 ?side4 A62.out).mono ?_
      (case side1 => exact crC (Kd.C_below HR0_1.out HB.out))
      (case side2 => exact HC0_1.out)
      (case side3 => exact crC (Kd.C_below HR0_2.out HB.out))
      (case side4 => exact HC0_2.out)
      rintro e w68 ⟨v484, v487, rfl, ho0, ho1, hb⟩
      refine ⟨_, rfl, ?_⟩
      have HO485 := lwR (nwR (nwR (nwR (nwR (nwR (nwR ho0 HO_464001) HO_464002) HO_472001) HO_472002) HO_481001) HO_481002) HB
      have HO488 := lwR (nwR (nwR (nwR (nwR (nwR (nwR ho1 HO_464001) HO_464002) HO_472001) HO_472002) HO_481001) HO_481002) HB
      replace HO_464001 := tldR HO_464001 hb (Kd.R_base ho0) (Kd.R_base ho1)
      replace HO_464002 := tldR HO_464002 hb (Kd.R_base ho0) (Kd.R_base ho1)
      replace HO_472001 := tldR HO_472001 hb (Kd.R_base ho0) (Kd.R_base ho1)
      replace HO_472002 := tldR HO_472002 hb (Kd.R_base ho0) (Kd.R_base ho1)
      replace HO_481001 := tldR HO_481001 hb (Kd.R_base ho0) (Kd.R_base ho1)
      replace HO_481002 := tldR HO_481002 hb (Kd.R_base ho0) (Kd.R_base ho1)
      replace BK446 := bkb BK446 hb
      replace BK463 := bkb BK463 hb
      replace BK471 := bkb BK471 hb
      replace BK480 := bkb BK480 hb
      replace HB := bst HB hb
      (try clear hb)
      (try clear hb2)
      (try clear hk)
      (try clear hi)
      (try clear ho0)
      (try clear ho1)
      obtain ⟨Ao69, co69, eo69⟩ := Kd.R_slice HO485.out
      (first | subst eo69 | (injection eo69 with f1_ f2_ f3_; have f4_ := f1_.symm; have f5_ := f3_.symm; clear f1_ f2_ f3_; subst f4_; subst f5_))
      obtain ⟨Ao70, co70, eo70⟩ := Kd.R_slice HO488.out
      (first | subst eo70 | (injection eo70 with f1_ f2_ f3_; have f4_ := f1_.symm; have f5_ := f3_.symm; clear f1_ f2_ f3_; subst f4_; subst f5_))
      refine hK.out _ _ ⟨bce BK471 0 _, bce BK471 1 _, bce BK471 2 _, bce BK446 0 _, bce BK446 1 _, bce BK446 2 _⟩ (fun hHeld => ?_)
      clear hK K
      refine norm_ (a' := ?_) ?_ ?_
      rotate_left
      ·
       show Act.put _ (some 43) _ = _
       simp only [Act.put, List.setIfInBounds_toArray, List.set_cons_zero, List.set_cons_succ, i64_w, i32_w]
       rfl
      refine one_ (i := 3) (N := some 44) #[true, true, true, true, false] rfl rfl (by kernel_rfl) (by decide) (fun K hK => ?_)
      refine goes_ Try.func17 (by kernel_rfl) rfl #[.agg #[.bool t464, .slice Ao31 t465.length co31, .slice Ao32 t468.length co32], .agg #[.bool t482, .slice Ao69 t483.length co69, .slice Ao70 t486.length co70]] (by rfl) rfl rfl (by (try simp only [List.map_toArray, List.map_cons, List.map_nil]); first | done | rfl | (simp only [List.length_drop, List.length_take]; rfl)) ?_
      with_reducible refine (laws_eqRat.calls kj10 t464 _ _ t465 _ _ t468 t482 _ _ t483 _ _ t486 true _ ?side1 ?side2 ?side3 ?side4 ?side5 ?side6 ?side7 ?side8 A63.out).mono ?_
      (case side1 => exact crC (Kd.R_reads' HO_472001.out).2.2)
      (case side2 => exact (Kd.R_reads' HO_472001.out).2.1)
      (case side3 => exact crC (Kd.R_reads' HO_472002.out).2.2)
      (case side4 => exact (Kd.R_reads' HO_472002.out).2.1)
      (case side5 => exact crC (Kd.R_reads' HO485.out).2.2)
      (case side6 => exact (Kd.R_reads' HO485.out).2.1)
      (case side7 => exact crC (Kd.R_reads' HO488.out).2.2)
      (case side8 => exact (Kd.R_reads' HO488.out).2.1)
      rintro e w71 ⟨rfl, hb⟩
      refine ⟨_, rfl, ?_⟩
      replace HO_464001 := rblR HO_464001 hb
      replace HO_464002 := rblR HO_464002 hb
      replace HO_472001 := rblR HO_472001 hb
      replace HO_472002 := rblR HO_472002 hb
      replace HO_481001 := rblR HO_481001 hb
      replace HO_481002 := rblR HO_481002 hb
      replace HO485 := rblR HO485 hb
      replace HO488 := rblR HO488 hb
      replace BK446 := bkb BK446 hb
      replace BK463 := bkb BK463 hb
      replace BK471 := bkb BK471 hb
      replace BK480 := bkb BK480 hb
      replace HB := bst HB hb
      (try clear hb)
      (try clear hb2)
      (try clear hk)
      (try clear hi)
      refine hK.out _ _ ⟨bce BK471 0 _, bce BK471 1 _, bce BK471 2 _, bce BK446 0 _, bce BK446 1 _, bce BK446 2 _⟩ (fun hHeld => ?_)
      clear hK K
      refine norm_ (a' := ?_) ?_ ?_
      rotate_left
      ·
       show Act.put _ (some 44) _ = _
       simp only [Act.put, List.setIfInBounds_toArray, List.set_cons_zero, List.set_cons_succ, i64_w, i32_w]
       rfl
      refine pure_ (i := 4) (N := some 45) (v := ?_) (a' := ?_) #[true, true, true, true, true] rfl rfl (by kernel_rfl) (fun _ _ _ h => h) (Or.inl ⟨by rfl, ?_⟩) ?_ ?_
      rotate_left
      ·
       intro w'
       go_simp
       with_reducible rfl
      rotate_left
      ·
       simp only [Act.put, List.setIfInBounds_toArray, List.set_cons_zero, List.set_cons_succ, i64_w, i32_w]
       rfl
      refine done_ (by kernel_rfl) ?_
      have hnb72 := NB471_446.out
      have hnc72 := NB446_471.out
      have hnb73 := NB471_463.out
      have hnc73 := NB463_471.out
      have hnb74 := NB471_480.out
      have hnc74 := NB480_471.out
      have hcz75_0 := bce BK471 0 (.bool t464)
      have hcz75_1 := bce BK471 1 (.slice Ao31 t465.length co31)
      have hcz75_2 := bce BK471 2 (.slice Ao32 t468.length co32)
      have hfz75_0 := blk_frozen BK471.out 0
      have hfz75_1 := blk_frozen BK471.out 1
      have hfz75_2 := blk_frozen BK471.out 2
      go_upto_region 14 with (first | ((with_reducible refine gate_callee (f := 18) rfl ?_); refine goesL_ (some 48) rfl rfl Try.func18 (by kernel_rfl) rfl #[.agg #[.bool t464, .slice Ao31 t465.length co31, .slice Ao32 t468.length co32], .int .i64 1] rfl (by (try simp only [List.map_toArray, List.map_cons, List.map_nil]); first | done | rfl | (simp only [List.length_drop, List.length_take]; rfl)) ?_; (with_reducible refine (laws_markRat.calls kj10 t464 (fun k_ => some k_ = (.slice Ao31 t465.length co31 : Value).ownBlock) (.slice Ao31 t465.length co31) t465 (fun k_ => some k_ = (.slice Ao32 t468.length co32 : Value).ownBlock) (.slice Ao32 t468.length co32) t468 1 t490 t491 t492 w _ ?side1 ?side2 ?side3 ?side4 ?side5 A65.out).mono ?_); (case side1 => repeat (first | (with_reducible first | exact HB.out | apply below_alloc | apply pw_below_drewN | apply below_drew1 | refine below_set ?_ GE446.out | refine below_set ?_ GE463.out | refine below_set ?_ GE471.out | refine below_set ?_ GE480.out) | exact HB.out)); (case side2 => exact Kd.R_tight rfl HO_472001.out); (case side3 => exact fun k_ e_ => (HO_472001.out.1 k_ e_.symm).1.1.2.2.1); (case side4 => exact Kd.R_tight rfl HO_472002.out); (case side5 => exact fun k_ e_ => (HO_472002.out.1 k_ e_.symm).1.1.2.2.1); rintro e w76 ⟨rfl, hy0, hy1, hb, hkp⟩; refine ⟨_, rfl, ?_⟩; replace HO_464001 := Aside0.mk (Kd.R_mono (ok' := fun k_ => nO k_ (.slice Ao24 t459.length co24) ∧ nO k_ (.slice Ao31 t465.length co31) ∧ nO k_ (.slice Ao32 t468.length co32) ∧ nO k_ (.slice Ao41 t473.length co41) ∧ nO k_ (.slice Ao42 t476.length co42) ∧ nO k_ (.slice Ao69 t483.length co69) ∧ nO k_ (.slice Ao70 t486.length co70)) (Kd.R_keptB (HO_464001.out) hkp (fun k_ hk_ hs_ => Or.elim hs_ (fun e_ => (hk_.1.1.2.1) e_) (fun e_ => (hk_.1.1.2.2.1) e_))) (fun k_ hk_ => ⟨hk_.1.1.1.1, hk_.1.1.1.2.1, hk_.1.1.1.2.2.1, hk_.1.1.1.2.2.2.1, hk_.1.1.1.2.2.2.2, hk_.1.1.2, hk_.1.2⟩)); replace HO_464002 := Aside0.mk (Kd.R_mono (ok' := fun k_ => nO k_ (.slice Ao23 t456.length co23) ∧ nO k_ (.slice Ao31 t465.length co31) ∧ nO k_ (.slice Ao32 t468.length co32) ∧ nO k_ (.slice Ao41 t473.length co41) ∧ nO k_ (.slice Ao42 t476.length co42) ∧ nO k_ (.slice Ao69 t483.length co69) ∧ nO k_ (.slice Ao70 t486.length co70)) (Kd.R_keptB (HO_464002.out) hkp (fun k_ hk_ hs_ => Or.elim hs_ (fun e_ => (hk_.1.1.2.1) e_) (fun e_ => (hk_.1.1.2.2.1) e_))) (fun k_ hk_ => ⟨hk_.1.1.1.1, hk_.1.1.1.2.1, hk_.1.1.1.2.2.1, hk_.1.1.1.2.2.2.1, hk_.1.1.1.2.2.2.2, hk_.1.1.2, hk_.1.2⟩)); replace HO_481001 := Aside0.mk (Kd.R_mono (ok' := fun k_ => nO k_ (.slice Ao23 t456.length co23) ∧ nO k_ (.slice Ao24 t459.length co24) ∧ nO k_ (.slice Ao31 t465.length co31) ∧ nO k_ (.slice Ao32 t468.length co32) ∧ nO k_ (.slice Ao42 t476.length co42) ∧ nO k_ (.slice Ao69 t483.length co69) ∧ nO k_ (.slice Ao70 t486.length co70)) (Kd.R_keptB (HO_481001.out) hkp (fun k_ hk_ hs_ => Or.elim hs_ (fun e_ => (hk_.1.1.2.2.1) e_) (fun e_ => (hk_.1.1.2.2.2.1) e_))) (fun k_ hk_ => ⟨hk_.1.1.1.1, hk_.1.1.1.2.1, hk_.1.1.1.2.2.1, hk_.1.1.1.2.2.2.1, hk_.1.1.1.2.2.2.2, hk_.1.1.2, hk_.1.2⟩)); replace HO_481002 := Aside0.mk (Kd.R_mono (ok' := fun k_ => nO k_ (.slice Ao23 t456.length co23) ∧ nO k_ (.slice Ao24 t459.length co24) ∧ nO k_ (.slice Ao31 t465.length co31) ∧ nO k_ (.slice Ao32 t468.length co32) ∧ nO k_ (.slice Ao41 t473.length co41) ∧ nO k_ (.slice Ao69 t483.length co69) ∧ nO k_ (.slice Ao70 t486.length co70)) (Kd.R_keptB (HO_481002.out) hkp (fun k_ hk_ hs_ => Or.elim hs_ (fun e_ => (hk_.1.1.2.2.1) e_) (fun e_ => (hk_.1.1.2.2.2.1) e_))) (fun k_ hk_ => ⟨hk_.1.1.1.1, hk_.1.1.1.2.1, hk_.1.1.1.2.2.1, hk_.1.1.1.2.2.2.1, hk_.1.1.1.2.2.2.2, hk_.1.1.2, hk_.1.2⟩)); replace BK446 := Aside0.mk (blk_kept (crb BK446) hkp (fun hs_ => Or.elim hs_ (fun e_ => (fun e_ => (Kd.R_ne HO_472001.out BK446.out (by decide)) e_) e_) (fun e_ => (fun e_ => (Kd.R_ne HO_472002.out BK446.out (by decide)) e_) e_))); replace BK463 := Aside0.mk (blk_kept (crb BK463) hkp (fun hs_ => Or.elim hs_ (fun e_ => (fun e_ => (Kd.R_ne HO_472001.out BK463.out (by decide)) e_) e_) (fun e_ => (fun e_ => (Kd.R_ne HO_472002.out BK463.out (by decide)) e_) e_))); replace BK471 := Aside0.mk (blk_kept (crb BK471) hkp (fun hs_ => Or.elim hs_ (fun e_ => (fun e_ => (Kd.R_ne HO_472001.out BK471.out (by decide)) e_) e_) (fun e_ => (fun e_ => (Kd.R_ne HO_472002.out BK471.out (by decide)) e_) e_))); replace BK480 := Aside0.mk (blk_kept (crb BK480) hkp (fun hs_ => Or.elim hs_ (fun e_ => (fun e_ => (Kd.R_ne HO_472001.out BK480.out (by decide)) e_) e_) (fun e_ => (fun e_ => (Kd.R_ne HO_472002.out BK480.out (by decide)) e_) e_))); replace HO_472001 := Aside0.mk (Kd.R_reok rfl hy0 (fun k_ e_ => HO_472001.out.1 k_ e_)); replace HO_472002 := Aside0.mk (Kd.R_reok rfl hy1 (fun k_ e_ => HO_472002.out.1 k_ e_)); replace HO485 := Aside0.mk (Kd.R_mono (ok' := fun k_ => nO k_ (.slice Ao23 t456.length co23) ∧ nO k_ (.slice Ao24 t459.length co24) ∧ nO k_ (.slice Ao31 t465.length co31) ∧ nO k_ (.slice Ao32 t468.length co32) ∧ nO k_ (.slice Ao41 t473.length co41) ∧ nO k_ (.slice Ao42 t476.length co42) ∧ nO k_ (.slice Ao70 t486.length co70)) (Kd.R_keptB (HO485.out) hkp (fun k_ hk_ hs_ => Or.elim hs_ (fun e_ => (hk_.1.1.1.2) e_) (fun e_ => (hk_.1.1.2) e_))) (fun k_ hk_ => ⟨hk_.1.1.1.1.1.1.2, hk_.1.1.1.1.1.2, hk_.1.1.1.1.2, hk_.1.1.1.2, hk_.1.1.2, hk_.1.2, hk_.1.1.1.1.1.1.1⟩)); replace HO488 := Aside0.mk (Kd.R_mono (ok' := fun k_ => nO k_ (.slice Ao23 t456.length co23) ∧ nO k_ (.slice Ao24 t459.length co24) ∧ nO k_ (.slice Ao31 t465.length co31) ∧ nO k_ (.slice Ao32 t468.length co32) ∧ nO k_ (.slice Ao41 t473.length co41) ∧ nO k_ (.slice Ao42 t476.length co42) ∧ nO k_ (.slice Ao69 t483.length co69)) (Kd.R_keptB (HO488.out) hkp (fun k_ hk_ hs_ => Or.elim hs_ (fun e_ => (hk_.1.1.1.2) e_) (fun e_ => (hk_.1.1.2) e_))) (fun k_ hk_ => ⟨hk_.1.1.1.1.1.1.2, hk_.1.1.1.1.1.2, hk_.1.1.1.1.2, hk_.1.1.1.2, hk_.1.1.2, hk_.1.2, hk_.1.1.1.1.1.1.1⟩)); replace HB := Aside0.mk (hb); (try clear hb); (try clear hkp); (try clear hy0); (try clear hy1)))
      (try simp only [Act.put, List.setIfInBounds_toArray, List.set_cons_zero, List.set_cons_succ])
      go_cut [61] (fun v61 wc => ∃ (kq : Nat) (x61_65 : Bool), v61 = .bool x61_65 ∧ Aside0 (laws_FnExactFloorRat.j1 kq t462 x61_65 a0_0 l0_1 l0_2 t455 t456 t459 t472 t473 t476 = some r) ∧ Aside0 (kq ≤ kj10) ∧ Aside0 (Kd.R (Kd.int .i64) 3 wc w.heap.size (fun k_ => nO k_ (.slice Ao24 t459.length co24) ∧ nO k_ (.slice Ao41 t473.length co41) ∧ nO k_ (.slice Ao42 t476.length co42)) (.slice Ao23 t456.length co23) t456) ∧ Aside0 (Kd.R (Kd.int .i64) 3 wc w.heap.size (fun k_ => nO k_ (.slice Ao23 t456.length co23) ∧ nO k_ (.slice Ao41 t473.length co41) ∧ nO k_ (.slice Ao42 t476.length co42)) (.slice Ao24 t459.length co24) t459) ∧ Aside0 (Kd.R (Kd.int .i64) 3 wc w.heap.size (fun k_ => nO k_ (.slice Ao23 t456.length co23) ∧ nO k_ (.slice Ao24 t459.length co24) ∧ nO k_ (.slice Ao42 t476.length co42)) (.slice Ao41 t473.length co41) t473) ∧ Aside0 (Kd.R (Kd.int .i64) 3 wc w.heap.size (fun k_ => nO k_ (.slice Ao23 t456.length co23) ∧ nO k_ (.slice Ao24 t459.length co24) ∧ nO k_ (.slice Ao41 t473.length co41)) (.slice Ao42 t476.length co42) t476) ∧ Aside0 (wc.heap[gb446]? = some (.cells #[.bool a0_0, (.slice A0_1 l0_1.length c0_1), (.slice A0_2 l0_2.length c0_2)] 30 (0, 0))) ∧ Aside0 (wc.heap[gb463]? = some (.cells #[.bool t455, (.slice Ao23 t456.length co23), (.slice Ao24 t459.length co24)] 24 (0, 0))) ∧ Aside0 (wc.heap[gb480]? = some (.cells #[.bool t472, (.slice Ao41 t473.length co41), (.slice Ao42 t476.length co42)] 24 (0, 0))) ∧ Aside0 (Below w.heap.size w wc))
      case first =>
       have H := HC66.out
       clear HC66
       by_cases c77 : t490 < 0
       ·
        rw [if_pos c77] at H
        have c77b0 : decide (t490 < 0) = true := decide_eq_true c77
        clear c77
        (first | rw [c77b0] | (simp only [i64_w, i32_w]; rw [c77b0]) | skip)
        have H' := Aside0.mk H
        clear H
        go_wp2
        go_meet
        case rel => exact ⟨_, (true), (by first | rfl | (simp; done) | (simp [*]; done)), H', ⟨by have := HJ10.out; first | omega | exact Nat.le_refl _⟩, ⟨crM HO_464001 fun _ hk => ⟨hk.1, hk.2.2.2.1, hk.2.2.2.2.1⟩⟩, ⟨crM HO_464002 fun _ hk => ⟨hk.1, hk.2.2.2.1, hk.2.2.2.2.1⟩⟩, ⟨crM HO_481001 fun _ hk => ⟨hk.1, hk.2.1, hk.2.2.2.2.1⟩⟩, ⟨crM HO_481002 fun _ hk => ⟨hk.1, hk.2.1, hk.2.2.2.2.1⟩⟩, ⟨crb BK446⟩, ⟨crb BK463⟩, ⟨crb BK480⟩, ⟨blw HB⟩⟩
       ·
        rw [if_neg c77] at H
        have c77b0 : decide (t490 < 0) = false := decide_eq_false c77
        clear c77
        (first | rw [c77b0] | (simp only [i64_w, i32_w]; rw [c77b0]) | skip)
        replace H := Option.bind_eq_some_iff.mp H
        obtain ⟨t493, A780, H⟩ := H
        replace H : (if t493 = true then (laws_FnExactFloorRat.j1 kj10 t462 (t479 != t462) a0_0 l0_1 l0_2 t455 t456 t459 t472 t473 t476) else (laws_FnExactFloorRat.j1 kj10 t462 true a0_0 l0_1 l0_2 t455 t456 t459 t472 t473 t476)) = some r := H
        have A78 := Aside0.mk A780
        clear A780
        by_cases c79 : t493 = true
        ·
         subst c79
         have H1 : (laws_FnExactFloorRat.j1 kj10 t462 (t479 != t462) a0_0 l0_1 l0_2 t455 t456 t459 t472 t473 t476) = some r := by rw [if_pos rfl] at H; exact H
         clear H
         have H := H1
         clear H1
         have H' := Aside0.mk H
         clear H
         have hnb80 := NB480_446.out
         have hnc80 := NB446_480.out
         have hnb81 := NB480_463.out
         have hnc81 := NB463_480.out
         have hnb82 := NB480_471.out
         have hnc82 := NB471_480.out
         have hcz83_0 := bce BK480 0 (.bool t472)
         have hcz83_1 := bce BK480 1 (.slice Ao41 t473.length co41)
         have hcz83_2 := bce BK480 2 (.slice Ao42 t476.length co42)
         have hfz83_0 := blk_frozen BK480.out 0
         have hfz83_1 := blk_frozen BK480.out 1
         have hfz83_2 := blk_frozen BK480.out 2
         have hnb84 := NB463_446.out
         have hnc84 := NB446_463.out
         have hnb85 := NB463_471.out
         have hnc85 := NB471_463.out
         have hcz86_0 := bce BK463 0 (.bool t455)
         have hcz86_1 := bce BK463 1 (.slice Ao23 t456.length co23)
         have hcz86_2 := bce BK463 2 (.slice Ao24 t459.length co24)
         have hfz86_0 := blk_frozen BK463.out 0
         have hfz86_1 := blk_frozen BK463.out 1
         have hfz86_2 := blk_frozen BK463.out 2
         go_wp2_with (first | (go_at_call 17; (with_reducible refine (laws_eqRat.calls kj10 t472 _ _ t473 _ _ t476 t455 _ _ t456 _ _ t459 true _ ?side1 ?side2 ?side3 ?side4 ?side5 ?side6 ?side7 ?side8 A78.out).mono ?_); (case side1 => exact crC (Kd.R_reads' HO_481001.out).2.2); (case side2 => exact (Kd.R_reads' HO_481001.out).2.1); (case side3 => exact crC (Kd.R_reads' HO_481002.out).2.2); (case side4 => exact (Kd.R_reads' HO_481002.out).2.1); (case side5 => exact crC (Kd.R_reads' HO_464001.out).2.2); (case side6 => exact (Kd.R_reads' HO_464001.out).2.1); (case side7 => exact crC (Kd.R_reads' HO_464002.out).2.2); (case side8 => exact (Kd.R_reads' HO_464002.out).2.1); rintro e w87 ⟨rfl, hb⟩; replace HO_464001 := rblR HO_464001 hb; replace HO_464002 := rblR HO_464002 hb; replace HO_472001 := rblR HO_472001 hb; replace HO_472002 := rblR HO_472002 hb; replace HO_481001 := rblR HO_481001 hb; replace HO_481002 := rblR HO_481002 hb; replace HO485 := rblR HO485 hb; replace HO488 := rblR HO488 hb; replace BK446 := bkb BK446 hb; replace BK463 := bkb BK463 hb; replace BK471 := bkb BK471 hb; replace BK480 := bkb BK480 hb; replace HB := bst HB hb; (try clear hb); (try clear hb2); (try clear hk); (try clear hi)))
         go_meet
         case rel => exact ⟨_, ((t479 != t462)), (by first | rfl | (simp; done) | (simp [*]; done)), H', ⟨by have := HJ10.out; first | omega | exact Nat.le_refl _⟩, ⟨crM HO_464001 fun _ hk => ⟨hk.1, hk.2.2.2.1, hk.2.2.2.2.1⟩⟩, ⟨crM HO_464002 fun _ hk => ⟨hk.1, hk.2.2.2.1, hk.2.2.2.2.1⟩⟩, ⟨crM HO_481001 fun _ hk => ⟨hk.1, hk.2.1, hk.2.2.2.2.1⟩⟩, ⟨crM HO_481002 fun _ hk => ⟨hk.1, hk.2.1, hk.2.2.2.2.1⟩⟩, ⟨crb BK446⟩, ⟨crb BK463⟩, ⟨crb BK480⟩, ⟨blw HB⟩⟩
        ·
         replace c79 := Bool.eq_false_iff.mpr c79
         subst c79
         have H1 : (laws_FnExactFloorRat.j1 kj10 t462 true a0_0 l0_1 l0_2 t455 t456 t459 t472 t473 t476) = some r := by rw [if_neg (show ¬ (false = true) by decide)] at H; exact H
         clear H
         have H := H1
         clear H1
         have H' := Aside0.mk H
         clear H
         have hnb88 := NB480_446.out
         have hnc88 := NB446_480.out
         have hnb89 := NB480_463.out
         have hnc89 := NB463_480.out
         have hnb90 := NB480_471.out
         have hnc90 := NB471_480.out
         have hcz91_0 := bce BK480 0 (.bool t472)
         have hcz91_1 := bce BK480 1 (.slice Ao41 t473.length co41)
         have hcz91_2 := bce BK480 2 (.slice Ao42 t476.length co42)
         have hfz91_0 := blk_frozen BK480.out 0
         have hfz91_1 := blk_frozen BK480.out 1
         have hfz91_2 := blk_frozen BK480.out 2
         have hnb92 := NB463_446.out
         have hnc92 := NB446_463.out
         have hnb93 := NB463_471.out
         have hnc93 := NB471_463.out
         have hcz94_0 := bce BK463 0 (.bool t455)
         have hcz94_1 := bce BK463 1 (.slice Ao23 t456.length co23)
         have hcz94_2 := bce BK463 2 (.slice Ao24 t459.length co24)
         have hfz94_0 := blk_frozen BK463.out 0
         have hfz94_1 := blk_frozen BK463.out 1
         have hfz94_2 := blk_frozen BK463.out 2
         go_wp2_with (first | (go_at_call 17; (with_reducible refine (laws_eqRat.calls kj10 t472 _ _ t473 _ _ t476 t455 _ _ t456 _ _ t459 false _ ?side1 ?side2 ?side3 ?side4 ?side5 ?side6 ?side7 ?side8 A78.out).mono ?_); (case side1 => exact crC (Kd.R_reads' HO_481001.out).2.2); (case side2 => exact (Kd.R_reads' HO_481001.out).2.1); (case side3 => exact crC (Kd.R_reads' HO_481002.out).2.2); (case side4 => exact (Kd.R_reads' HO_481002.out).2.1); (case side5 => exact crC (Kd.R_reads' HO_464001.out).2.2); (case side6 => exact (Kd.R_reads' HO_464001.out).2.1); (case side7 => exact crC (Kd.R_reads' HO_464002.out).2.2); (case side8 => exact (Kd.R_reads' HO_464002.out).2.1); rintro e w95 ⟨rfl, hb⟩; replace HO_464001 := rblR HO_464001 hb; replace HO_464002 := rblR HO_464002 hb; replace HO_472001 := rblR HO_472001 hb; replace HO_472002 := rblR HO_472002 hb; replace HO_481001 := rblR HO_481001 hb; replace HO_481002 := rblR HO_481002 hb; replace HO485 := rblR HO485 hb; replace HO488 := rblR HO488 hb; replace BK446 := bkb BK446 hb; replace BK463 := bkb BK463 hb; replace BK471 := bkb BK471 hb; replace BK480 := bkb BK480 hb; replace HB := bst HB hb; (try clear hb); (try clear hb2); (try clear hk); (try clear hi)))
         go_meet
         case rel => exact ⟨_, (true), (by first | rfl | (simp; done) | (simp [*]; done)), H', ⟨by have := HJ10.out; first | omega | exact Nat.le_refl _⟩, ⟨crM HO_464001 fun _ hk => ⟨hk.1, hk.2.2.2.1, hk.2.2.2.2.1⟩⟩, ⟨crM HO_464002 fun _ hk => ⟨hk.1, hk.2.2.2.1, hk.2.2.2.2.1⟩⟩, ⟨crM HO_481001 fun _ hk => ⟨hk.1, hk.2.1, hk.2.2.2.2.1⟩⟩, ⟨crM HO_481002 fun _ hk => ⟨hk.1, hk.2.1, hk.2.2.2.2.1⟩⟩, ⟨crb BK446⟩, ⟨crb BK463⟩, ⟨crb BK480⟩, ⟨blw HB⟩⟩
      case rest =>
       clear HC66
       try clear c1
       try clear c2
       try clear p2
       try clear c3
       try clear c3b0
       try clear c4
       try clear c5
       try clear c6
       try clear c7
       try clear c8
       try clear c9
       try clear c17
       try clear c18
       try clear c20
       try clear c21
       try clear c22
       try clear c28
       try clear c29
       try clear c30
       try clear c31
       try clear c37
       try clear c38
       try clear c39
       try clear c44
       try clear c45
       try clear c46
       try clear c47
       try clear c49
       try clear c50
       try clear c53
       try clear c54
       try clear c55
       try clear c57
       try clear c58
       try clear c61
       try clear c64
       try clear c72
       try clear c73
       try clear c74
       try clear c77
       try clear c77b0
       try clear c79
       try clear c80
       try clear c81
       try clear c82
       try clear c84
       try clear c85
       try clear c88
       try clear c89
       try clear c90
       try clear c92
       try clear c93
       try clear hcz13_0
       try clear hcz13_1
       try clear hcz13_2
       try clear hcz15_0
       try clear hcz15_1
       try clear hcz15_2
       try clear hcz22_0
       try clear hcz22_1
       try clear hcz22_2
       try clear hcz25_0
       try clear hcz25_1
       try clear hcz25_2
       try clear hcz30_0
       try clear hcz30_1
       try clear hcz30_2
       try clear hcz34_0
       try clear hcz34_1
       try clear hcz34_2
       try clear hcz40_0
       try clear hcz40_1
       try clear hcz40_2
       try clear hcz48_0
       try clear hcz48_1
       try clear hcz48_2
       try clear hcz51_0
       try clear hcz51_1
       try clear hcz51_2
       try clear hcz56_0
       try clear hcz56_1
       try clear hcz56_2
       try clear hcz59_0
       try clear hcz59_1
       try clear hcz59_2
       try clear hcz5_0
       try clear hcz5_1
       try clear hcz5_2
       try clear hcz75_0
       try clear hcz75_1
       try clear hcz75_2
       try clear hcz83_0
       try clear hcz83_1
       try clear hcz83_2
       try clear hcz86_0
       try clear hcz86_1
       try clear hcz86_2
       try clear hcz91_0
       try clear hcz91_1
       try clear hcz91_2
       try clear hcz94_0
       try clear hcz94_1
       try clear hcz94_2
       try clear hfz13_0
       try clear hfz13_1
       try clear hfz13_2
       try clear hfz15_0
       try clear hfz15_1
       try clear hfz15_2
       try clear hfz22_0
       try clear hfz22_1
       try clear hfz22_2
       try clear hfz25_0
       try clear hfz25_1
       try clear hfz25_2
       try clear hfz30_0
       try clear hfz30_1
       try clear hfz30_2
       try clear hfz34_0
       try clear hfz34_1
       try clear hfz34_2
       try clear hfz40_0
       try clear hfz40_1
       try clear hfz40_2
       try clear hfz48_0
       try clear hfz48_1
       try clear hfz48_2
       try clear hfz51_0
       try clear hfz51_1
       try clear hfz51_2
       try clear hfz56_0
       try clear hfz56_1
       try clear hfz56_2
       try clear hfz59_0
       try clear hfz59_1
       try clear hfz59_2
       try clear hfz5_0
       try clear hfz5_1
       try clear hfz5_2
       try clear hfz75_0
       try clear hfz75_1
       try clear hfz75_2
       try clear hfz83_0
       try clear hfz83_1
       try clear hfz83_2
       try clear hfz86_0
       try clear hfz86_1
       try clear hfz86_2
       try clear hfz91_0
       try clear hfz91_1
       try clear hfz91_2
       try clear hfz94_0
       try clear hfz94_1
       try clear hfz94_2
       try clear p2
       obtain ⟨kq, x61_65, rfl, HA, HJ65, HO_464001, HO_464002, HO_481001, HO_481002, BK446, BK463, BK480, HB⟩ := hcut
       cases kq with
       | zero => exact absurd HA.out (by simp [laws_FnExactFloorRat.j1])
       | succ kj65 =>
        have H := HA.out
        clear HA
        simp only [laws_FnExactFloorRat.j1] at H
        by_cases c96 : x61_65 = true
        ·
         subst c96
         have H1 : (some false) = some r := by rw [if_pos rfl] at H; exact H
         clear H
         have H := H1
         clear H1
         obtain rfl := Option.some.inj H
         exact absurd hr_ (by decide)
        ·
         replace c96 := Bool.eq_false_iff.mpr c96
         subst c96
         have H1 : ((laws_markRat.f kj65 t472 t473 t476 1).bind fun bt494 => ((laws_heldRat.f kj65 t472 bt494.2.1 bt494.2.2 1).bind fun t497 => (if t497 < 0 then (some false) else (if t497 = bt494.1 then ((laws_toRat.f kj65 a0_0 l0_1 l0_2).bind fun bt498 => ((impl_FloorRat.f kj65 bt498.1 bt498.2.1 bt498.2.2).bind fun bt505 => ((laws_eqRat.f kj65 bt505.1 bt505.2.1 bt505.2.2.1 t455 t456 t459).bind fun t514 => (if t514 = true then (laws_FnExactFloorRat.j2 kj65 bt494.1 (bt505.2.2.2 != t462) t472 bt494.2.1 bt494.2.2) else (laws_FnExactFloorRat.j2 kj65 bt494.1 true t472 bt494.2.1 bt494.2.2))))) else (some false))))) = some r := by rw [if_neg (show ¬ (false = true) by decide)] at H; exact H
         clear H
         have H := H1
         clear H1
         replace H := Option.bind_eq_some_iff.mp H
         obtain ⟨⟨t494, t495, t496⟩, A970, H⟩ := H
         replace H : ((laws_heldRat.f kj65 t472 t495 t496 1).bind fun t497 => (if t497 < 0 then (some false) else (if t497 = t494 then ((laws_toRat.f kj65 a0_0 l0_1 l0_2).bind fun bt498 => ((impl_FloorRat.f kj65 bt498.1 bt498.2.1 bt498.2.2).bind fun bt505 => ((laws_eqRat.f kj65 bt505.1 bt505.2.1 bt505.2.2.1 t455 t456 t459).bind fun t514 => (if t514 = true then (laws_FnExactFloorRat.j2 kj65 t494 (bt505.2.2.2 != t462) t472 t495 t496) else (laws_FnExactFloorRat.j2 kj65 t494 true t472 t495 t496))))) else (some false)))) = some r := H
         have A97 := Aside0.mk A970
         clear A970
         replace H := Option.bind_eq_some_iff.mp H
         obtain ⟨t497, A980, H⟩ := H
         replace H : (if t497 < 0 then (some false) else (if t497 = t494 then ((laws_toRat.f kj65 a0_0 l0_1 l0_2).bind fun bt498 => ((impl_FloorRat.f kj65 bt498.1 bt498.2.1 bt498.2.2).bind fun bt505 => ((laws_eqRat.f kj65 bt505.1 bt505.2.1 bt505.2.2.1 t455 t456 t459).bind fun t514 => (if t514 = true then (laws_FnExactFloorRat.j2 kj65 t494 (bt505.2.2.2 != t462) t472 t495 t496) else (laws_FnExactFloorRat.j2 kj65 t494 true t472 t495 t496))))) else (some false))) = some r := H
         have A98 := Aside0.mk A980
         clear A980
         by_cases c99 : t497 < 0
         ·
          rw [if_pos c99] at H
          have c99b0 : decide (t497 < 0) = true := decide_eq_true c99
          clear c99
          obtain rfl := Option.some.inj H
          exact absurd hr_ (by decide)
         ·
          rw [if_neg c99] at H
          have c99b0 : decide (t497 < 0) = false := decide_eq_false c99
          clear c99
          by_cases c106 : t497 = t494
          ·
           rw [if_pos c106] at H
           have c106b0 : (t497 == t494) = true := beq_iff_eq.mpr c106
           have c106b1 : (t497 != t494) = false := bne_eq_false_iff_eq.mpr c106
           clear c106
           replace H := Option.bind_eq_some_iff.mp H
           obtain ⟨⟨t498, t499, t502⟩, A1070, H⟩ := H
           replace H : ((impl_FloorRat.f kj65 t498 t499 t502).bind fun bt505 => ((laws_eqRat.f kj65 bt505.1 bt505.2.1 bt505.2.2.1 t455 t456 t459).bind fun t514 => (if t514 = true then (laws_FnExactFloorRat.j2 kj65 t494 (bt505.2.2.2 != t462) t472 t495 t496) else (laws_FnExactFloorRat.j2 kj65 t494 true t472 t495 t496)))) = some r := H
           have A107 := Aside0.mk A1070
           clear A1070
           replace H := Option.bind_eq_some_iff.mp H
           obtain ⟨⟨t505, t506, t509, t512⟩, A1080, H⟩ := H
           replace H : ((laws_eqRat.f kj65 t505 t506 t509 t455 t456 t459).bind fun t514 => (if t514 = true then (laws_FnExactFloorRat.j2 kj65 t494 (t512 != t462) t472 t495 t496) else (laws_FnExactFloorRat.j2 kj65 t494 true t472 t495 t496))) = some r := H
           have A108 := Aside0.mk A1080
           clear A1080
           have HC109 := Aside0.mk H
           clear H
           have hnb110 := NB480_446.out
           have hnc110 := NB446_480.out
           have hnb111 := NB480_463.out
           have hnc111 := NB463_480.out
           have hcz112_0 := bce BK480 0 (.bool t472)
           have hcz112_1 := bce BK480 1 (.slice Ao41 t473.length co41)
           have hcz112_2 := bce BK480 2 (.slice Ao42 t476.length co42)
           have hfz112_0 := blk_frozen BK480.out 0
           have hfz112_1 := blk_frozen BK480.out 1
           have hfz112_2 := blk_frozen BK480.out 2
           go_upto_region 25 with (first | ((with_reducible refine gate_callee (f := 18) rfl ?_); refine goesL_ (some 64) rfl rfl Try.func18 (by kernel_rfl) rfl #[.agg #[.bool t472, .slice Ao41 t473.length co41, .slice Ao42 t476.length co42], .int .i64 1] rfl (by (try simp only [List.map_toArray, List.map_cons, List.map_nil]); first | done | rfl | (simp only [List.length_drop, List.length_take]; rfl)) ?_; (with_reducible refine (laws_markRat.calls kj65 t472 (fun k_ => some k_ = (.slice Ao41 t473.length co41 : Value).ownBlock) (.slice Ao41 t473.length co41) t473 (fun k_ => some k_ = (.slice Ao42 t476.length co42 : Value).ownBlock) (.slice Ao42 t476.length co42) t476 1 t494 t495 t496 w _ ?side1 ?side2 ?side3 ?side4 ?side5 A97.out).mono ?_); (case side1 => repeat (first | (with_reducible first | exact HB.out | apply below_alloc | apply pw_below_drewN | apply below_drew1 | refine below_set ?_ GE446.out | refine below_set ?_ GE463.out | refine below_set ?_ GE480.out) | exact HB.out)); (case side2 => exact Kd.R_tight rfl HO_481001.out); (case side3 => exact fun k_ e_ => (HO_481001.out.1 k_ e_.symm).2.2); (case side4 => exact Kd.R_tight rfl HO_481002.out); (case side5 => exact fun k_ e_ => (HO_481002.out.1 k_ e_.symm).2.2); rintro e w113 ⟨rfl, hy0, hy1, hb, hkp⟩; refine ⟨_, rfl, ?_⟩; replace HO_464001 := Aside0.mk (Kd.R_mono (ok' := fun k_ => nO k_ (.slice Ao24 t459.length co24) ∧ nO k_ (.slice Ao41 t473.length co41) ∧ nO k_ (.slice Ao42 t476.length co42)) (Kd.R_keptB (HO_464001.out) hkp (fun k_ hk_ hs_ => Or.elim hs_ (fun e_ => (hk_.2.1) e_) (fun e_ => (hk_.2.2) e_))) (fun k_ hk_ => ⟨hk_.1.1, hk_.1.2.1, hk_.1.2.2⟩)); replace HO_464002 := Aside0.mk (Kd.R_mono (ok' := fun k_ => nO k_ (.slice Ao23 t456.length co23) ∧ nO k_ (.slice Ao41 t473.length co41) ∧ nO k_ (.slice Ao42 t476.length co42)) (Kd.R_keptB (HO_464002.out) hkp (fun k_ hk_ hs_ => Or.elim hs_ (fun e_ => (hk_.2.1) e_) (fun e_ => (hk_.2.2) e_))) (fun k_ hk_ => ⟨hk_.1.1, hk_.1.2.1, hk_.1.2.2⟩)); replace BK446 := Aside0.mk (blk_kept (crb BK446) hkp (fun hs_ => Or.elim hs_ (fun e_ => (fun e_ => (Kd.R_ne HO_481001.out BK446.out (by decide)) e_) e_) (fun e_ => (fun e_ => (Kd.R_ne HO_481002.out BK446.out (by decide)) e_) e_))); replace BK463 := Aside0.mk (blk_kept (crb BK463) hkp (fun hs_ => Or.elim hs_ (fun e_ => (fun e_ => (Kd.R_ne HO_481001.out BK463.out (by decide)) e_) e_) (fun e_ => (fun e_ => (Kd.R_ne HO_481002.out BK463.out (by decide)) e_) e_))); replace BK480 := Aside0.mk (blk_kept (crb BK480) hkp (fun hs_ => Or.elim hs_ (fun e_ => (fun e_ => (Kd.R_ne HO_481001.out BK480.out (by decide)) e_) e_) (fun e_ => (fun e_ => (Kd.R_ne HO_481002.out BK480.out (by decide)) e_) e_))); replace HO_481001 := Aside0.mk (Kd.R_reok rfl hy0 (fun k_ e_ => HO_481001.out.1 k_ e_)); replace HO_481002 := Aside0.mk (Kd.R_reok rfl hy1 (fun k_ e_ => HO_481002.out.1 k_ e_)); replace HB := Aside0.mk (hb); (try clear hb); (try clear hkp); (try clear hy0); (try clear hy1); have hcz114_0 := bce BK480 0 (.bool t472); have hcz114_1 := bce BK480 1 (.slice Ao41 t473.length co41); have hcz114_2 := bce BK480 2 (.slice Ao42 t476.length co42); have hfz114_0 := blk_frozen BK480.out 0; have hfz114_1 := blk_frozen BK480.out 1; have hfz114_2 := blk_frozen BK480.out 2) | ((with_reducible refine gate_callee (f := 19) rfl ?_); refine goesL_ (some 67) rfl rfl Try.func19 (by kernel_rfl) rfl #[.agg #[.bool t472, .slice Ao41 t495.length co41, .slice Ao42 t496.length co42], .int .i64 1] rfl (by (try simp only [List.map_toArray, List.map_cons, List.map_nil]); first | done | (rw [show t495.length = t473.length from (Kd.R_reads' HO_481001.out).1.symm, show t496.length = t476.length from (Kd.R_reads' HO_481002.out).1.symm] <;> rfl) | rfl | (simp only [List.length_drop, List.length_take]; rfl)) ?_; (with_reducible refine (laws_heldRat.calls kj65 t472 _ _ t495 _ _ t496 1 t497 _ ?side1 ?side2 ?side3 ?side4 A98.out).mono ?_); (case side1 => exact crC (Kd.R_reads' HO_481001.out).2.2); (case side2 => rw [show t495.length = t473.length from (Kd.R_reads' HO_481001.out).1.symm]; exact (Kd.R_reads' HO_481001.out).2.1); (case side3 => exact crC (Kd.R_reads' HO_481002.out).2.2); (case side4 => rw [show t496.length = t476.length from (Kd.R_reads' HO_481002.out).1.symm]; exact (Kd.R_reads' HO_481002.out).2.1); rintro e w115 ⟨rfl, hb⟩; refine ⟨_, rfl, ?_⟩; replace HO_464001 := rblR HO_464001 hb; replace HO_464002 := rblR HO_464002 hb; replace HO_481001 := rblR HO_481001 hb; replace HO_481002 := rblR HO_481002 hb; replace BK446 := bkb BK446 hb; replace BK463 := bkb BK463 hb; replace BK480 := bkb BK480 hb; replace HB := bst HB hb; (try clear hb); (try clear hb2); (try clear hk); (try clear hi); have hnb116 := NB446_463.out; have hnc116 := NB463_446.out; have hcz117_0 := bce BK446 0 (.bool a0_0); have hcz117_1 := bce BK446 1 (.slice A0_1 l0_1.length c0_1); have hcz117_2 := bce BK446 2 (.slice A0_2 l0_2.length c0_2); have hfz117_0 := blk_frozen BK446.out 0; have hfz117_1 := blk_frozen BK446.out 1; have hfz117_2 := blk_frozen BK446.out 2) | ((with_reducible refine gate_callee (f := 22) rfl ?_); refine goesL_ (some 75) rfl rfl Try.func22 (by kernel_rfl) rfl #[.agg #[.bool a0_0, .slice A0_1 l0_1.length c0_1, .slice A0_2 l0_2.length c0_2]] rfl (by (try simp only [List.map_toArray, List.map_cons, List.map_nil]); first | done | rfl | (simp only [List.length_drop, List.length_take]; rfl)) ?_; (with_reducible refine (laws_toRat.calls kj65 a0_0 _ _ l0_1 _ _ l0_2 t498 t499 t502 _ ?side1 ?side2 ?side3 ?side4 A107.out).mono ?_); (case side1 => exact crC (Kd.C_below HR0_1.out HB.out)); (case side2 => exact HC0_1.out); (case side3 => exact crC (Kd.C_below HR0_2.out HB.out)); (case side4 => exact HC0_2.out); rintro e w118 ⟨v500, v503, rfl, ho0, ho1, hb⟩; refine ⟨_, rfl, ?_⟩; have HO501 := lwR (nwR (nwR (nwR (nwR ho0 HO_464001) HO_464002) HO_481001) HO_481002) HB; have HO504 := lwR (nwR (nwR (nwR (nwR ho1 HO_464001) HO_464002) HO_481001) HO_481002) HB; replace HO_464001 := tldR HO_464001 hb (Kd.R_base ho0) (Kd.R_base ho1); replace HO_464002 := tldR HO_464002 hb (Kd.R_base ho0) (Kd.R_base ho1); replace HO_481001 := tldR HO_481001 hb (Kd.R_base ho0) (Kd.R_base ho1); replace HO_481002 := tldR HO_481002 hb (Kd.R_base ho0) (Kd.R_base ho1); replace BK446 := bkb BK446 hb; replace BK463 := bkb BK463 hb; replace BK480 := bkb BK480 hb; replace HB := bst HB hb; (try clear hb); (try clear hb2); (try clear hk); (try clear hi); (try clear ho0); (try clear ho1); obtain ⟨Ao119, co119, eo119⟩ := Kd.R_slice HO501.out; subst eo119; obtain ⟨Ao120, co120, eo120⟩ := Kd.R_slice HO504.out; subst eo120) | ((with_reducible refine gate_callee (f := 31) rfl ?_); refine goesL_ (some 76) rfl rfl Try.func31 (by kernel_rfl) rfl #[.agg #[.bool t498, .slice Ao119 t499.length co119, .slice Ao120 t502.length co120]] rfl (by (try simp only [List.map_toArray, List.map_cons, List.map_nil]); first | done | rfl | (simp only [List.length_drop, List.length_take]; rfl)) ?_; (with_reducible refine (impl_FloorRat.calls kj65 t498 (fun k_ => some k_ = (.slice Ao119 t499.length co119 : Value).ownBlock) _ _ t499 (fun k_ => some k_ = (.slice Ao120 t502.length co120 : Value).ownBlock) _ _ t502 t505 t506 t509 t512 _ ?side1 ?side2 A108.out).mono ?_); (case side1 => exact Kd.R_V (Kd.R_tight rfl (Kd.R_types (Kd.R_types (Kd.R_types (HO501.out) BK446.out (by decide)) BK463.out (by decide)) BK480.out (by decide)))); (case side2 => exact Kd.R_V (Kd.R_tight rfl (Kd.R_types (Kd.R_types (Kd.R_types (HO504.out) BK446.out (by decide)) BK463.out (by decide)) BK480.out (by decide)))); rintro e w121 ⟨v507, v510, rfl, ho0, ho1, hb⟩; refine ⟨_, rfl, ?_⟩; have HO508 := lwR (nwR (nwR (nwR (nwR (nwR (nwR (Kd.R_mono (ok' := fun k_ => nO k_ v510) ho0 (fun _ hk_ => hk_.2)) HO_464001) HO_464002) HO_481001) HO_481002) HO501) HO504) HB; have HO511 := lwR (nwR (nwR (nwR (nwR (nwR (nwR (Kd.R_mono (ok' := fun k_ => nO k_ v507) ho1 (fun _ hk_ => hk_.2)) HO_464001) HO_464002) HO_481001) HO_481002) HO501) HO504) HB; replace HO_464001 := tldR HO_464001 hb (Kd.R_base ho0) (Kd.R_base ho1); replace HO_464002 := tldR HO_464002 hb (Kd.R_base ho0) (Kd.R_base ho1); replace HO_481001 := tldR HO_481001 hb (Kd.R_base ho0) (Kd.R_base ho1); replace HO_481002 := tldR HO_481002 hb (Kd.R_base ho0) (Kd.R_base ho1); replace HO501 := tldR HO501 hb (Kd.R_base ho0) (Kd.R_base ho1); replace HO504 := tldR HO504 hb (Kd.R_base ho0) (Kd.R_base ho1); replace BK446 := bkb BK446 hb; replace BK463 := bkb BK463 hb; replace BK480 := bkb BK480 hb; replace HB := bst HB hb; (try clear hb); (try clear hb2); (try clear hk); (try clear hi); (try clear ho0); (try clear ho1)) | ((with_reducible refine gate_dst (N := 12) rfl ?_); refine box_event ?hg (N := 12) ?hd (cs := #[.bool false, .slice none 0 0, .slice none 0 0]) (t := 24) ?hr ?_; (case hd => rfl); (case hg => rfl); (case hr => first | (go_simp; done) | (go_simp; rfl)); intro gb513 hg w122 hbox hb; replace HO_464001 := rblR HO_464001 hb; replace HO_464002 := rblR HO_464002 hb; replace HO_481001 := rblR HO_481001 hb; replace HO_481002 := rblR HO_481002 hb; replace HO501 := rblR HO501 hb; replace HO504 := rblR HO504 hb; replace HO508 := rblR HO508 hb; replace HO511 := rblR HO511 hb; have BK513 := Aside0.mk (hbox); have GW513 := geh hg HB; have GE513 := geh hg HB; replace HB := bst HB hb; have NB446_513 := nlt hg BK446; have NB513_446 := ngt hg BK446; replace BK446 := bkb BK446 hb; have NB463_513 := nlt hg BK463; have NB513_463 := ngt hg BK463; replace BK463 := bkb BK463 hb; have NB480_513 := nlt hg BK480; have NB513_480 := ngt hg BK480; replace BK480 := bkb BK480 hb; clear hb hbox hg; have hnb123 := NB513_446.out; have hnc123 := NB446_513.out; have hnb124 := NB513_463.out; have hnc124 := NB463_513.out; have hnb125 := NB513_480.out; have hnc125 := NB480_513.out; have hcz126_0 := bce BK513 0 (.bool false); have hcz126_1 := bce BK513 1 (.slice none 0 0); have hcz126_2 := bce BK513 2 (.slice none 0 0); have hfz126_0 := blk_frozen BK513.out 0; have hfz126_1 := blk_frozen BK513.out 1; have hfz126_2 := blk_frozen BK513.out 2; obtain ⟨Ao127, co127, eo127⟩ := Kd.R_slice HO508.out; subst eo127; obtain ⟨Ao128, co128, eo128⟩ := Kd.R_slice HO511.out; subst eo128))
           (try simp only [Act.put, List.setIfInBounds_toArray, List.set_cons_zero, List.set_cons_succ])
           go_cut [87] (fun v87 wc => ∃ (kq : Nat) (x87_108 : Bool), v87 = .bool x87_108 ∧ Aside0 (laws_FnExactFloorRat.j2 kq t494 x87_108 t472 t495 t496 = some r) ∧ Aside0 (kq ≤ kj65) ∧ Aside0 (Kd.R (Kd.int .i64) 3 wc w.heap.size (fun k_ => nO k_ (.slice Ao42 t476.length co42)) (.slice Ao41 t473.length co41) t495) ∧ Aside0 (Kd.R (Kd.int .i64) 3 wc w.heap.size (fun k_ => nO k_ (.slice Ao41 t473.length co41)) (.slice Ao42 t476.length co42) t496) ∧ Aside0 (wc.heap[gb480]? = some (.cells #[.bool t472, (.slice Ao41 t473.length co41), (.slice Ao42 t476.length co42)] 24 (0, 0))) ∧ Aside0 (Below w.heap.size w wc))
           case first =>
            have H := HC109.out
            clear HC109
            replace H := Option.bind_eq_some_iff.mp H
            obtain ⟨t514, A1290, H⟩ := H
            replace H : (if t514 = true then (laws_FnExactFloorRat.j2 kj65 t494 (t512 != t462) t472 t495 t496) else (laws_FnExactFloorRat.j2 kj65 t494 true t472 t495 t496)) = some r := H
            have A129 := Aside0.mk A1290
            clear A1290
            by_cases c130 : t514 = true
            ·
             subst c130
             have H1 : (laws_FnExactFloorRat.j2 kj65 t494 (t512 != t462) t472 t495 t496) = some r := by rw [if_pos rfl] at H; exact H
             clear H
             have H := H1
             clear H1
             have H' := Aside0.mk H
             clear H
             have hnb131 := NB513_446.out
             have hnc131 := NB446_513.out
             have hnb132 := NB513_463.out
             have hnc132 := NB463_513.out
             have hnb133 := NB513_480.out
             have hnc133 := NB480_513.out
             have hcz134_0 := bce BK513 0 (.bool false)
             have hcz134_1 := bce BK513 1 (.slice none 0 0)
             have hcz134_2 := bce BK513 2 (.slice none 0 0)
             have hfz134_0 := blk_frozen BK513.out 0
             have hfz134_1 := blk_frozen BK513.out 1
             have hfz134_2 := blk_frozen BK513.out 2
             have hnb135 := NB463_446.out
             have hnc135 := NB446_463.out
             have hnb136 := NB463_480.out
             have hnc136 := NB480_463.out
             have hcz137_0 := bce BK463 0 (.bool t455)
             have hcz137_1 := bce BK463 1 (.slice Ao23 t456.length co23)
             have hcz137_2 := bce BK463 2 (.slice Ao24 t459.length co24)
             have hfz137_0 := blk_frozen BK463.out 0
             have hfz137_1 := blk_frozen BK463.out 1
             have hfz137_2 := blk_frozen BK463.out 2
             go_wp2_with (first | ((with_reducible refine gate_callee (f := 17) rfl ?_); refine goesL_ (some 81) rfl rfl Try.func17 (by kernel_rfl) rfl #[.agg #[.bool t505, .slice Ao127 t506.length co127, .slice Ao128 t509.length co128], .agg #[.bool t455, .slice Ao23 t456.length co23, .slice Ao24 t459.length co24]] rfl (by (try simp only [List.map_toArray, List.map_cons, List.map_nil]); first | done | rfl | (simp only [List.length_drop, List.length_take]; rfl)) ?_; (with_reducible refine (laws_eqRat.calls kj65 t505 _ _ t506 _ _ t509 t455 _ _ t456 _ _ t459 true _ ?side1 ?side2 ?side3 ?side4 ?side5 ?side6 ?side7 ?side8 A129.out).mono ?_); (case side1 => refine (Kd.R_reads' (e := 3) (base := w.heap.size) (ok := fun k_ => ((((((nO k_ (.slice Ao128 t509.length co128) ∧ nO k_ (.slice Ao23 t456.length co23)) ∧ nO k_ (.slice Ao24 t459.length co24)) ∧ nO k_ (.slice Ao41 t473.length co41)) ∧ nO k_ (.slice Ao42 t476.length co42)) ∧ nO k_ (.slice Ao119 t499.length co119)) ∧ nO k_ (.slice Ao120 t502.length co120))) (n := t506.length) (c := co127) ?_).2.2; exact (crF HO508 BK513)); (case side2 => exact (Kd.R_reads' HO508.out).2.1); (case side3 => refine (Kd.R_reads' (e := 3) (base := w.heap.size) (ok := fun k_ => ((((((nO k_ (.slice Ao127 t506.length co127) ∧ nO k_ (.slice Ao23 t456.length co23)) ∧ nO k_ (.slice Ao24 t459.length co24)) ∧ nO k_ (.slice Ao41 t473.length co41)) ∧ nO k_ (.slice Ao42 t476.length co42)) ∧ nO k_ (.slice Ao119 t499.length co119)) ∧ nO k_ (.slice Ao120 t502.length co120))) (n := t509.length) (c := co128) ?_).2.2; exact (crF HO511 BK513)); (case side4 => exact (Kd.R_reads' HO511.out).2.1); (case side5 => refine (Kd.R_reads' (e := 3) (base := w.heap.size) (ok := fun k_ => (((((nO k_ (.slice Ao24 t459.length co24) ∧ (nO k_ (.slice Ao41 t473.length co41) ∧ nO k_ (.slice Ao42 t476.length co42))) ∧ nO k_ (.slice Ao119 t499.length co119)) ∧ nO k_ (.slice Ao120 t502.length co120)) ∧ nO k_ (.slice Ao127 t506.length co127)) ∧ nO k_ (.slice Ao128 t509.length co128))) (n := t456.length) (c := co23) ?_).2.2; exact (crF HO_464001 BK513)); (case side6 => exact (Kd.R_reads' HO_464001.out).2.1); (case side7 => refine (Kd.R_reads' (e := 3) (base := w.heap.size) (ok := fun k_ => (((((nO k_ (.slice Ao23 t456.length co23) ∧ (nO k_ (.slice Ao41 t473.length co41) ∧ nO k_ (.slice Ao42 t476.length co42))) ∧ nO k_ (.slice Ao119 t499.length co119)) ∧ nO k_ (.slice Ao120 t502.length co120)) ∧ nO k_ (.slice Ao127 t506.length co127)) ∧ nO k_ (.slice Ao128 t509.length co128))) (n := t459.length) (c := co24) ?_).2.2; exact (crF HO_464002 BK513)); (case side8 => exact (Kd.R_reads' HO_464002.out).2.1); rintro e w138 ⟨rfl, hb⟩; refine ⟨_, rfl, ?_⟩; replace HO_464001 := rblF HO_464001 BK513 hb; replace HO_464002 := rblF HO_464002 BK513 hb; replace HO_481001 := rblF HO_481001 BK513 hb; replace HO_481002 := rblF HO_481002 BK513 hb; replace HO501 := rblF HO501 BK513 hb; replace HO504 := rblF HO504 BK513 hb; replace HO508 := rblF HO508 BK513 hb; replace HO511 := rblF HO511 BK513 hb; replace BK446 := bkf BK446 hb; replace BK463 := bkf BK463 hb; replace BK480 := bkf BK480 hb; replace BK513 := bkp BK513 (.bool t505) (.slice Ao127 t506.length co127) (.slice Ao128 t509.length co128) hb; replace HB := bst HB hb; (try clear hb); (try clear hb2); (try clear hk); (try clear hi)))
             go_meet
             case rel => exact ⟨_, ((t512 != t462)), (by first | rfl | (simp; done) | (simp [*]; done)), H', ⟨by have := HJ10.out; have := HJ65.out; first | omega | exact Nat.le_refl _⟩, ⟨crM HO_481001 fun _ hk => hk.1.1.1.1.2.2⟩, ⟨crM HO_481002 fun _ hk => hk.1.1.1.1.2.2⟩, ⟨crb BK480⟩, ⟨blw HB⟩⟩
            ·
             replace c130 := Bool.eq_false_iff.mpr c130
             subst c130
             have H1 : (laws_FnExactFloorRat.j2 kj65 t494 true t472 t495 t496) = some r := by rw [if_neg (show ¬ (false = true) by decide)] at H; exact H
             clear H
             have H := H1
             clear H1
             have H' := Aside0.mk H
             clear H
             have hnb139 := NB513_446.out
             have hnc139 := NB446_513.out
             have hnb140 := NB513_463.out
             have hnc140 := NB463_513.out
             have hnb141 := NB513_480.out
             have hnc141 := NB480_513.out
             have hcz142_0 := bce BK513 0 (.bool false)
             have hcz142_1 := bce BK513 1 (.slice none 0 0)
             have hcz142_2 := bce BK513 2 (.slice none 0 0)
             have hfz142_0 := blk_frozen BK513.out 0
             have hfz142_1 := blk_frozen BK513.out 1
             have hfz142_2 := blk_frozen BK513.out 2
             have hnb143 := NB463_446.out
             have hnc143 := NB446_463.out
             have hnb144 := NB463_480.out
             have hnc144 := NB480_463.out
             have hcz145_0 := bce BK463 0 (.bool t455)
             have hcz145_1 := bce BK463 1 (.slice Ao23 t456.length co23)
             have hcz145_2 := bce BK463 2 (.slice Ao24 t459.length co24)
             have hfz145_0 := blk_frozen BK463.out 0
             have hfz145_1 := blk_frozen BK463.out 1
             have hfz145_2 := blk_frozen BK463.out 2
             go_wp2_with (first | ((with_reducible refine gate_callee (f := 17) rfl ?_); refine goesL_ (some 81) rfl rfl Try.func17 (by kernel_rfl) rfl #[.agg #[.bool t505, .slice Ao127 t506.length co127, .slice Ao128 t509.length co128], .agg #[.bool t455, .slice Ao23 t456.length co23, .slice Ao24 t459.length co24]] rfl (by (try simp only [List.map_toArray, List.map_cons, List.map_nil]); first | done | rfl | (simp only [List.length_drop, List.length_take]; rfl)) ?_; (with_reducible refine (laws_eqRat.calls kj65 t505 _ _ t506 _ _ t509 t455 _ _ t456 _ _ t459 false _ ?side1 ?side2 ?side3 ?side4 ?side5 ?side6 ?side7 ?side8 A129.out).mono ?_); (case side1 => refine (Kd.R_reads' (e := 3) (base := w.heap.size) (ok := fun k_ => ((((((nO k_ (.slice Ao128 t509.length co128) ∧ nO k_ (.slice Ao23 t456.length co23)) ∧ nO k_ (.slice Ao24 t459.length co24)) ∧ nO k_ (.slice Ao41 t473.length co41)) ∧ nO k_ (.slice Ao42 t476.length co42)) ∧ nO k_ (.slice Ao119 t499.length co119)) ∧ nO k_ (.slice Ao120 t502.length co120))) (n := t506.length) (c := co127) ?_).2.2; exact (crF HO508 BK513)); (case side2 => exact (Kd.R_reads' HO508.out).2.1); (case side3 => refine (Kd.R_reads' (e := 3) (base := w.heap.size) (ok := fun k_ => ((((((nO k_ (.slice Ao127 t506.length co127) ∧ nO k_ (.slice Ao23 t456.length co23)) ∧ nO k_ (.slice Ao24 t459.length co24)) ∧ nO k_ (.slice Ao41 t473.length co41)) ∧ nO k_ (.slice Ao42 t476.length co42)) ∧ nO k_ (.slice Ao119 t499.length co119)) ∧ nO k_ (.slice Ao120 t502.length co120))) (n := t509.length) (c := co128) ?_).2.2; exact (crF HO511 BK513)); (case side4 => exact (Kd.R_reads' HO511.out).2.1); (case side5 => refine (Kd.R_reads' (e := 3) (base := w.heap.size) (ok := fun k_ => (((((nO k_ (.slice Ao24 t459.length co24) ∧ (nO k_ (.slice Ao41 t473.length co41) ∧ nO k_ (.slice Ao42 t476.length co42))) ∧ nO k_ (.slice Ao119 t499.length co119)) ∧ nO k_ (.slice Ao120 t502.length co120)) ∧ nO k_ (.slice Ao127 t506.length co127)) ∧ nO k_ (.slice Ao128 t509.length co128))) (n := t456.length) (c := co23) ?_).2.2; exact (crF HO_464001 BK513)); (case side6 => exact (Kd.R_reads' HO_464001.out).2.1); (case side7 => refine (Kd.R_reads' (e := 3) (base := w.heap.size) (ok := fun k_ => (((((nO k_ (.slice Ao23 t456.length co23) ∧ (nO k_ (.slice Ao41 t473.length co41) ∧ nO k_ (.slice Ao42 t476.length co42))) ∧ nO k_ (.slice Ao119 t499.length co119)) ∧ nO k_ (.slice Ao120 t502.length co120)) ∧ nO k_ (.slice Ao127 t506.length co127)) ∧ nO k_ (.slice Ao128 t509.length co128))) (n := t459.length) (c := co24) ?_).2.2; exact (crF HO_464002 BK513)); (case side8 => exact (Kd.R_reads' HO_464002.out).2.1); rintro e w146 ⟨rfl, hb⟩; refine ⟨_, rfl, ?_⟩; replace HO_464001 := rblF HO_464001 BK513 hb; replace HO_464002 := rblF HO_464002 BK513 hb; replace HO_481001 := rblF HO_481001 BK513 hb; replace HO_481002 := rblF HO_481002 BK513 hb; replace HO501 := rblF HO501 BK513 hb; replace HO504 := rblF HO504 BK513 hb; replace HO508 := rblF HO508 BK513 hb; replace HO511 := rblF HO511 BK513 hb; replace BK446 := bkf BK446 hb; replace BK463 := bkf BK463 hb; replace BK480 := bkf BK480 hb; replace BK513 := bkp BK513 (.bool t505) (.slice Ao127 t506.length co127) (.slice Ao128 t509.length co128) hb; replace HB := bst HB hb; (try clear hb); (try clear hb2); (try clear hk); (try clear hi)))
             go_meet
             case rel => exact ⟨_, (true), (by first | rfl | (simp; done) | (simp [*]; done)), H', ⟨by have := HJ10.out; have := HJ65.out; first | omega | exact Nat.le_refl _⟩, ⟨crM HO_481001 fun _ hk => hk.1.1.1.1.2.2⟩, ⟨crM HO_481002 fun _ hk => hk.1.1.1.1.2.2⟩, ⟨crb BK480⟩, ⟨blw HB⟩⟩
           case rest =>
            clear HC109
            try clear c1
            try clear c2
            try clear p2
            try clear c3
            try clear c3b0
            try clear c4
            try clear c5
            try clear c6
            try clear c7
            try clear c8
            try clear c9
            try clear c10
            try clear c11
            try clear c12
            try clear c13
            try clear c14
            try clear c17
            try clear c18
            try clear c19
            try clear c20
            try clear c21
            try clear c22
            try clear c28
            try clear c29
            try clear c30
            try clear c31
            try clear c37
            try clear c38
            try clear c39
            try clear c44
            try clear c45
            try clear c46
            try clear c47
            try clear c49
            try clear c50
            try clear c53
            try clear c54
            try clear c55
            try clear c57
            try clear c58
            try clear c61
            try clear c64
            try clear c72
            try clear c73
            try clear c74
            try clear c77
            try clear c77b0
            try clear c79
            try clear c80
            try clear c81
            try clear c82
            try clear c84
            try clear c85
            try clear c88
            try clear c89
            try clear c90
            try clear c92
            try clear c93
            try clear c96
            try clear c99
            try clear c99b0
            try clear c100
            try clear c101
            try clear c106
            try clear c106b0
            try clear c106b1
            try clear c110
            try clear c111
            try clear c116
            try clear c123
            try clear c124
            try clear c125
            try clear c130
            try clear c131
            try clear c132
            try clear c133
            try clear c135
            try clear c136
            try clear c139
            try clear c140
            try clear c141
            try clear c143
            try clear c144
            try clear hcz102_0
            try clear hcz102_1
            try clear hcz102_2
            try clear hcz104_0
            try clear hcz104_1
            try clear hcz104_2
            try clear hcz112_0
            try clear hcz112_1
            try clear hcz112_2
            try clear hcz114_0
            try clear hcz114_1
            try clear hcz114_2
            try clear hcz117_0
            try clear hcz117_1
            try clear hcz117_2
            try clear hcz126_0
            try clear hcz126_1
            try clear hcz126_2
            try clear hcz134_0
            try clear hcz134_1
            try clear hcz134_2
            try clear hcz137_0
            try clear hcz137_1
            try clear hcz137_2
            try clear hcz13_0
            try clear hcz13_1
            try clear hcz13_2
            try clear hcz142_0
            try clear hcz142_1
            try clear hcz142_2
            try clear hcz145_0
            try clear hcz145_1
            try clear hcz145_2
            try clear hcz15_0
            try clear hcz15_1
            try clear hcz15_2
            try clear hcz22_0
            try clear hcz22_1
            try clear hcz22_2
            try clear hcz25_0
            try clear hcz25_1
            try clear hcz25_2
            try clear hcz30_0
            try clear hcz30_1
            try clear hcz30_2
            try clear hcz34_0
            try clear hcz34_1
            try clear hcz34_2
            try clear hcz40_0
            try clear hcz40_1
            try clear hcz40_2
            try clear hcz48_0
            try clear hcz48_1
            try clear hcz48_2
            try clear hcz51_0
            try clear hcz51_1
            try clear hcz51_2
            try clear hcz56_0
            try clear hcz56_1
            try clear hcz56_2
            try clear hcz59_0
            try clear hcz59_1
            try clear hcz59_2
            try clear hcz5_0
            try clear hcz5_1
            try clear hcz5_2
            try clear hcz75_0
            try clear hcz75_1
            try clear hcz75_2
            try clear hcz83_0
            try clear hcz83_1
            try clear hcz83_2
            try clear hcz86_0
            try clear hcz86_1
            try clear hcz86_2
            try clear hcz91_0
            try clear hcz91_1
            try clear hcz91_2
            try clear hcz94_0
            try clear hcz94_1
            try clear hcz94_2
            try clear hfz102_0
            try clear hfz102_1
            try clear hfz102_2
            try clear hfz104_0
            try clear hfz104_1
            try clear hfz104_2
            try clear hfz112_0
            try clear hfz112_1
            try clear hfz112_2
            try clear hfz114_0
            try clear hfz114_1
            try clear hfz114_2
            try clear hfz117_0
            try clear hfz117_1
            try clear hfz117_2
            try clear hfz126_0
            try clear hfz126_1
            try clear hfz126_2
            try clear hfz134_0
            try clear hfz134_1
            try clear hfz134_2
            try clear hfz137_0
            try clear hfz137_1
            try clear hfz137_2
            try clear hfz13_0
            try clear hfz13_1
            try clear hfz13_2
            try clear hfz142_0
            try clear hfz142_1
            try clear hfz142_2
            try clear hfz145_0
            try clear hfz145_1
            try clear hfz145_2
            try clear hfz15_0
            try clear hfz15_1
            try clear hfz15_2
            try clear hfz22_0
            try clear hfz22_1
            try clear hfz22_2
            try clear hfz25_0
            try clear hfz25_1
            try clear hfz25_2
            try clear hfz30_0
            try clear hfz30_1
            try clear hfz30_2
            try clear hfz34_0
            try clear hfz34_1
            try clear hfz34_2
            try clear hfz40_0
            try clear hfz40_1
            try clear hfz40_2
            try clear hfz48_0
            try clear hfz48_1
            try clear hfz48_2
            try clear hfz51_0
            try clear hfz51_1
            try clear hfz51_2
            try clear hfz56_0
            try clear hfz56_1
            try clear hfz56_2
            try clear hfz59_0
            try clear hfz59_1
            try clear hfz59_2
            try clear hfz5_0
            try clear hfz5_1
            try clear hfz5_2
            try clear hfz75_0
            try clear hfz75_1
            try clear hfz75_2
            try clear hfz83_0
            try clear hfz83_1
            try clear hfz83_2
            try clear hfz86_0
            try clear hfz86_1
            try clear hfz86_2
            try clear hfz91_0
            try clear hfz91_1
            try clear hfz91_2
            try clear hfz94_0
            try clear hfz94_1
            try clear hfz94_2
            try clear p2
            obtain ⟨kq, x87_108, rfl, HA, HJ108, HO_481001, HO_481002, BK480, HB⟩ := hcut
            have hl481001_108 := (Kd.R_reads' HO_481001.out).1
            rw [hl481001_108] at HO_481001
            (try simp only [hl481001_108])
            (try simp only [hl481001_108] at BK480)
            (try simp only [hl481001_108] at HO_481002)
            have hl481002_108 := (Kd.R_reads' HO_481002.out).1
            rw [hl481002_108] at HO_481002
            (try simp only [hl481002_108])
            (try simp only [hl481002_108] at BK480)
            (try simp only [hl481002_108] at HO_481001)
            cases kq with
            | zero => exact absurd HA.out (by simp [laws_FnExactFloorRat.j2])
            | succ kj108 =>
             have H := HA.out
             clear HA
             simp only [laws_FnExactFloorRat.j2] at H
             by_cases c147 : x87_108 = true
             ·
              subst c147
              have H1 : (some false) = some r := by rw [if_pos rfl] at H; exact H
              clear H
              have H := H1
              clear H1
              obtain rfl := Option.some.inj H
              exact absurd hr_ (by decide)
             ·
              replace c147 := Bool.eq_false_iff.mpr c147
              subst c147
              have H1 : ((laws_heldRat.f kj108 t472 t495 t496 1).bind fun t515 => (if t515 < 0 then (some false) else (if t515 = t494 then (some true) else (some false)))) = some r := by rw [if_neg (show ¬ (false = true) by decide)] at H; exact H
              clear H
              have H := H1
              clear H1
              replace H := Option.bind_eq_some_iff.mp H
              obtain ⟨t515, A1480, H⟩ := H
              replace H : (if t515 < 0 then (some false) else (if t515 = t494 then (some true) else (some false))) = some r := H
              have A148 := Aside0.mk A1480
              clear A1480
              by_cases c149 : t515 < 0
              ·
               rw [if_pos c149] at H
               have c149b0 : decide (t515 < 0) = true := decide_eq_true c149
               clear c149
               obtain rfl := Option.some.inj H
               exact absurd hr_ (by decide)
              ·
               rw [if_neg c149] at H
               have c149b0 : decide (t515 < 0) = false := decide_eq_false c149
               clear c149
               by_cases c152 : t515 = t494
               ·
                rw [if_pos c152] at H
                have c152b0 : (t515 == t494) = true := beq_iff_eq.mpr c152
                have c152b1 : (t515 != t494) = false := bne_eq_false_iff_eq.mpr c152
                clear c152
                obtain rfl := Option.some.inj H
                have hcz153_0 := bce BK480 0 (.bool t472)
                have hcz153_1 := bce BK480 1 (.slice Ao41 t495.length co41)
                have hcz153_2 := bce BK480 2 (.slice Ao42 t496.length co42)
                have hfz153_0 := blk_frozen BK480.out 0
                have hfz153_1 := blk_frozen BK480.out 1
                have hfz153_2 := blk_frozen BK480.out 2
                go_wp2_with (first | ((with_reducible refine gate_callee (f := 19) rfl ?_); refine goesL_ (some 90) rfl rfl Try.func19 (by kernel_rfl) rfl #[.agg #[.bool t472, .slice Ao41 t495.length co41, .slice Ao42 t496.length co42], .int .i64 1] rfl (by (try simp only [List.map_toArray, List.map_cons, List.map_nil]); first | done | rfl | (simp only [List.length_drop, List.length_take]; rfl)) ?_; (with_reducible refine (laws_heldRat.calls kj108 t472 _ _ t495 _ _ t496 1 t515 _ ?side1 ?side2 ?side3 ?side4 A148.out).mono ?_); (case side1 => exact crC (Kd.R_reads' HO_481001.out).2.2); (case side2 => exact (Kd.R_reads' HO_481001.out).2.1); (case side3 => exact crC (Kd.R_reads' HO_481002.out).2.2); (case side4 => exact (Kd.R_reads' HO_481002.out).2.1); rintro e w154 ⟨rfl, hb⟩; refine ⟨_, rfl, ?_⟩; replace HO_481001 := rblR HO_481001 hb; replace HO_481002 := rblR HO_481002 hb; replace BK480 := bkb BK480 hb; replace HB := bst HB hb; (try clear hb); (try clear hb2); (try clear hk); (try clear hi)))
                go_ret
                exact ⟨by first | rfl | (simp [errW_none, errW_some] <;> rfl) | (simp [*, errW_none, errW_some] <;> rfl), blw HB⟩
               ·
                rw [if_neg c152] at H
                have c152b0 : (t515 == t494) = false := beq_eq_false_iff_ne.mpr c152
                have c152b1 : (t515 != t494) = true := bne_iff_ne.mpr c152
                obtain rfl := Option.some.inj H
                exact absurd hr_ (by decide)
          ·
           rw [if_neg c106] at H
           have c106b0 : (t497 == t494) = false := beq_eq_false_iff_ne.mpr c106
           have c106b1 : (t497 != t494) = true := bne_iff_ne.mpr c106
           obtain rfl := Option.some.inj H
           exact absurd hr_ (by decide)
     ·
      replace c64 := Bool.eq_false_iff.mpr c64
      subst c64
      have H1 : (some false) = some r := by rw [if_neg (show ¬ (false = true) by decide)] at H; exact H
      clear H
      have H := H1
      clear H1
      obtain rfl := Option.some.inj H
      exact absurd hr_ (by decide)

/-- THE ONE PURE STATEMENT of laws_FnExactFloorRat: yours. -/
def laws_FnExactFloorRat.Pure : Prop := ∀ (a0_0 : Bool) (l0_1 : List Int) (l0_2 : List Int), (True ∧ (l0_1.length ≤ maxLen ∧ ∀ y0_ ∈ l0_1, (Lit.int .i64 y0_).wf = true) ∧ (l0_2.length ≤ maxLen ∧ ∀ y0_ ∈ l0_2, (Lit.int .i64 y0_).wf = true)) → ∃ k, laws_FnExactFloorRat.f k a0_0 l0_1 l0_2 = some true

end Go.Proofs.Ytacdaijalkkogaa.Q
