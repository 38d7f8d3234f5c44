-- written by a program of this claim's session (myprint.py) out of the translation; Lean checks it.
import Derived.Test.YtacdaijalkkogaaQx0
import Derived.Test.YtacdaijalkkogaaSq
import Derived.Test.YtacdaijalkkogaaQxrlaw
import Derived.Test.YtacdaijalkkogaaQxPowRat
namespace Go.Proofs.Ytacdaijalkkogaa.Q
open Go.RowKit Go.Proofs.YtacdaijalkkogaaW.PrintWords Go.Proofs.YtacdaijalkkogaaW.PrintLast Go.Proofs.YtacdaijalkkogaaW.PrintMore
attribute [local go_sem] max2_int min2_int max_two min_two max_three min_three max_four min_four   -- for this text's walks alone
set_option linter.unusedVariables false
set_option linter.unusedSimpArgs false

mutual
def laws_FnExactPowRat.j0 : Nat → Int → Int → Int → Bool → Bool → List Int → List Int → Bool → List Int → List Int → Bool → List Int → List Int → Bool → List Int → List Int → Option (Bool)
 | 0, _, _, _, _, _, _, _, _, _, _, _, _, _, _, _, _ => none
 | k + 1, x1, x7, x10, x44, x661000, x661001, x661002, x678000, x678001, x678002, x686000, x686001, x686002, x695000, x695001, x695002 => if x44 = true then (some false) else ((laws_toRat.f k x661000 x661001 x661002).bind fun bt696 => ((laws_eqRat.f k x686000 x686001 x686002 bt696.1 bt696.2.1 bt696.2.2).bind fun t703 => (if t703 = true then ((laws_markRat.f k x686000 x686001 x686002 1).bind fun bt704 => (if bt704.1 < 0 then (laws_FnExactPowRat.j1 k x1 x7 true x661000 x661001 x661002 x678000 x678001 x678002 x695000 x695001 x695002) else ((laws_eqRat.f k x695000 x695001 x695002 x678000 x678001 x678002).bind fun t707 => (if t707 = true then (laws_FnExactPowRat.j1 k x1 x7 (x10 != x7) x661000 x661001 x661002 x678000 x678001 x678002 x695000 x695001 x695002) else (laws_FnExactPowRat.j1 k x1 x7 true x661000 x661001 x661002 x678000 x678001 x678002 x695000 x695001 x695002))))) else (some false))))
def laws_FnExactPowRat.j1 : Nat → Int → Int → Bool → Bool → List Int → List Int → Bool → List Int → List Int → Bool → List Int → List Int → Option (Bool)
 | 0, _, _, _, _, _, _, _, _, _, _, _, _ => none
 | k + 1, x1, x7, x65, x661000, x661001, x661002, x678000, x678001, x678002, x695000, x695001, x695002 => if x65 = true then (some false) else ((laws_markRat.f k x695000 x695001 x695002 1).bind fun bt708 => ((laws_heldRat.f k x695000 bt708.2.1 bt708.2.2 1).bind fun t711 => (if t711 < 0 then (some false) else (if t711 = bt708.1 then ((laws_toRat.f k x661000 x661001 x661002).bind fun bt712 => ((impl_PowRat.f k bt712.1 bt712.2.1 bt712.2.2 x1).bind fun bt719 => ((laws_eqRat.f k bt719.1 bt719.2.1 bt719.2.2.1 x678000 x678001 x678002).bind fun t728 => (if t728 = true then (laws_FnExactPowRat.j2 k bt708.1 (bt719.2.2.2 != x7) x695000 bt708.2.1 bt708.2.2) else (laws_FnExactPowRat.j2 k bt708.1 true x695000 bt708.2.1 bt708.2.2))))) else (some false)))))
def laws_FnExactPowRat.j2 : Nat → Int → Bool → Bool → List Int → List Int → Option (Bool)
 | 0, _, _, _, _, _ => none
 | k + 1, x12, x92, x695000, x695001, x695002 => if x92 = true then (some false) else ((laws_heldRat.f k x695000 x695001 x695002 1).bind fun t729 => (if t729 < 0 then (some false) else (if t729 = x12 then (some true) else (some false))))
end
def laws_FnExactPowRat.f (k : Nat) (a0_0 : Bool) (l0_1 : List Int) (l0_2 : List Int) (a1 : Int) : Option (Bool) := (laws_szRat.f a0_0 l0_1 l0_2 1048576).bind fun t661 => (if t661 < 0 then (some true) else ((laws_toRat.f k a0_0 l0_1 l0_2).bind fun bt662 => ((spec_PowRat.f k bt662.1 bt662.2.1 bt662.2.2 a1).bind fun bt669 => ((laws_toRat.f k a0_0 l0_1 l0_2).bind fun bt678 => ((impl_PowRat.f k bt678.1 bt678.2.1 bt678.2.2 a1).bind fun bt686 => ((laws_eqRat.f k bt686.1 bt686.2.1 bt686.2.2.1 bt669.1 bt669.2.1 bt669.2.2.1).bind fun t695 => (if t695 = true then (laws_FnExactPowRat.j0 k a1 bt669.2.2.2 bt686.2.2.2 (bt686.2.2.2 != bt669.2.2.2) a0_0 l0_1 l0_2 bt669.1 bt669.2.1 bt669.2.2.1 bt678.1 bt678.2.1 bt678.2.2 bt686.1 bt686.2.1 bt686.2.2.1) else (laws_FnExactPowRat.j0 k a1 bt669.2.2.2 bt686.2.2.2 true a0_0 l0_1 l0_2 bt669.1 bt669.2.1 bt669.2.2.1 bt678.1 bt678.2.1 bt678.2.2 bt686.1 bt686.2.1 bt686.2.2.1))))))))
theorem laws_FnExactPowRat.mono_l : ∀ k, (∀ y0 y1 y2 y3 y4 y5 y6 y7 y8 y9 y10 y11 y12 y13 y14 y15, LeO (laws_FnExactPowRat.j0 k y0 y1 y2 y3 y4 y5 y6 y7 y8 y9 y10 y11 y12 y13 y14 y15) (laws_FnExactPowRat.j0 (k + 1) y0 y1 y2 y3 y4 y5 y6 y7 y8 y9 y10 y11 y12 y13 y14 y15)) ∧ (∀ y0 y1 y2 y3 y4 y5 y6 y7 y8 y9 y10 y11, LeO (laws_FnExactPowRat.j1 k y0 y1 y2 y3 y4 y5 y6 y7 y8 y9 y10 y11) (laws_FnExactPowRat.j1 (k + 1) y0 y1 y2 y3 y4 y5 y6 y7 y8 y9 y10 y11)) ∧ (∀ y0 y1 y2 y3 y4, LeO (laws_FnExactPowRat.j2 k y0 y1 y2 y3 y4) (laws_FnExactPowRat.j2 (k + 1) y0 y1 y2 y3 y4))
 | 0 => ⟨fun _ _ _ _ _ _ _ _ _ _ _ _ _ _ _ _ r h => by simp [laws_FnExactPowRat.j0] at h, fun _ _ _ _ _ _ _ _ _ _ _ _ r h => by simp [laws_FnExactPowRat.j1] at h, fun _ _ _ _ _ r h => by simp [laws_FnExactPowRat.j2] at h⟩
 | k + 1 => by
  obtain ⟨ih0, ih1, ih2⟩ := laws_FnExactPowRat.mono_l k
  refine ⟨?_, ?_, ?_⟩
  ·
   intro y0 y1 y2 y3 y4 y5 y6 y7 y8 y9 y10 y11 y12 y13 y14 y15
   unfold laws_FnExactPowRat.j0
   repeat' first
   | (with_reducible exact ih0 _ _ _ _ _ _ _ _ _ _ _ _ _ _ _ _)
   | (with_reducible exact ih1 _ _ _ _ _ _ _ _ _ _ _ _)
   | (with_reducible exact ih2 _ _ _ _ _)
   | (with_reducible exact impl_PowRat.mono _ _ _ _ _)
   | (with_reducible exact laws_eqRat.mono _ _ _ _ _ _ _)
   | (with_reducible exact laws_heldRat.mono _ _ _ _ _)
   | (with_reducible exact laws_markRat.mono _ _ _ _ _)
   | (with_reducible exact laws_toRat.mono _ _ _ _)
   | (with_reducible exact spec_PowRat.mono _ _ _ _ _)
   | (with_reducible exact LeO.refl _)
   | (with_reducible exact LeO.none _)
   | (with_reducible refine LeO.ite ?_ ?_)
   | (with_reducible refine LeO.bind ?_ (fun _ => ?_))
   | exact ih0 _ _ _ _ _ _ _ _ _ _ _ _ _ _ _ _
   | exact ih1 _ _ _ _ _ _ _ _ _ _ _ _
   | exact ih2 _ _ _ _ _
   | exact impl_PowRat.mono _ _ _ _ _
   | exact laws_eqRat.mono _ _ _ _ _ _ _
   | exact laws_heldRat.mono _ _ _ _ _
   | exact laws_markRat.mono _ _ _ _ _
   | exact laws_toRat.mono _ _ _ _
   | exact spec_PowRat.mono _ _ _ _ _
   | exact LeO.none _
   | refine LeO.ite ?_ ?_
   | refine LeO.bind ?_ (fun _ => ?_)
  ·
   intro y0 y1 y2 y3 y4 y5 y6 y7 y8 y9 y10 y11
   unfold laws_FnExactPowRat.j1
   repeat' first
   | (with_reducible exact ih0 _ _ _ _ _ _ _ _ _ _ _ _ _ _ _ _)
   | (with_reducible exact ih1 _ _ _ _ _ _ _ _ _ _ _ _)
   | (with_reducible exact ih2 _ _ _ _ _)
   | (with_reducible exact impl_PowRat.mono _ _ _ _ _)
   | (with_reducible exact laws_eqRat.mono _ _ _ _ _ _ _)
   | (with_reducible exact laws_heldRat.mono _ _ _ _ _)
   | (with_reducible exact laws_markRat.mono _ _ _ _ _)
   | (with_reducible exact laws_toRat.mono _ _ _ _)
   | (with_reducible exact spec_PowRat.mono _ _ _ _ _)
   | (with_reducible exact LeO.refl _)
   | (with_reducible exact LeO.none _)
   | (with_reducible refine LeO.ite ?_ ?_)
   | (with_reducible refine LeO.bind ?_ (fun _ => ?_))
   | exact ih0 _ _ _ _ _ _ _ _ _ _ _ _ _ _ _ _
   | exact ih1 _ _ _ _ _ _ _ _ _ _ _ _
   | exact ih2 _ _ _ _ _
   | exact impl_PowRat.mono _ _ _ _ _
   | exact laws_eqRat.mono _ _ _ _ _ _ _
   | exact laws_heldRat.mono _ _ _ _ _
   | exact laws_markRat.mono _ _ _ _ _
   | exact laws_toRat.mono _ _ _ _
   | exact spec_PowRat.mono _ _ _ _ _
   | exact LeO.none _
   | refine LeO.ite ?_ ?_
   | refine LeO.bind ?_ (fun _ => ?_)
  ·
   intro y0 y1 y2 y3 y4
   unfold laws_FnExactPowRat.j2
   repeat' first
   | (with_reducible exact ih0 _ _ _ _ _ _ _ _ _ _ _ _ _ _ _ _)
   | (with_reducible exact ih1 _ _ _ _ _ _ _ _ _ _ _ _)
   | (with_reducible exact ih2 _ _ _ _ _)
   | (with_reducible exact impl_PowRat.mono _ _ _ _ _)
   | (with_reducible exact laws_eqRat.mono _ _ _ _ _ _ _)
   | (with_reducible exact laws_heldRat.mono _ _ _ _ _)
   | (with_reducible exact laws_markRat.mono _ _ _ _ _)
   | (with_reducible exact laws_toRat.mono _ _ _ _)
   | (with_reducible exact spec_PowRat.mono _ _ _ _ _)
   | (with_reducible exact LeO.refl _)
   | (with_reducible exact LeO.none _)
   | (with_reducible refine LeO.ite ?_ ?_)
   | (with_reducible refine LeO.bind ?_ (fun _ => ?_))
   | exact ih0 _ _ _ _ _ _ _ _ _ _ _ _ _ _ _ _
   | exact ih1 _ _ _ _ _ _ _ _ _ _ _ _
   | exact ih2 _ _ _ _ _
   | exact impl_PowRat.mono _ _ _ _ _
   | exact laws_eqRat.mono _ _ _ _ _ _ _
   | exact laws_heldRat.mono _ _ _ _ _
   | exact laws_markRat.mono _ _ _ _ _
   | exact laws_toRat.mono _ _ _ _
   | exact spec_PowRat.mono _ _ _ _ _
   | exact LeO.none _
   | refine LeO.ite ?_ ?_
   | refine LeO.bind ?_ (fun _ => ?_)
theorem laws_FnExactPowRat.mono : ∀ a0 a1 a2 a3 k, LeO (laws_FnExactPowRat.f k a0 a1 a2 a3) (laws_FnExactPowRat.f (k + 1) a0 a1 a2 a3) := by
 intro a0 a1 a2 a3 k
 obtain ⟨ih0, ih1, ih2⟩ := laws_FnExactPowRat.mono_l k
 unfold laws_FnExactPowRat.f
 repeat' first
   | (with_reducible exact ih0 _ _ _ _ _ _ _ _ _ _ _ _ _ _ _ _)
   | (with_reducible exact ih1 _ _ _ _ _ _ _ _ _ _ _ _)
   | (with_reducible exact ih2 _ _ _ _ _)
   | (with_reducible exact impl_PowRat.mono _ _ _ _ _)
   | (with_reducible exact laws_eqRat.mono _ _ _ _ _ _ _)
   | (with_reducible exact laws_heldRat.mono _ _ _ _ _)
   | (with_reducible exact laws_markRat.mono _ _ _ _ _)
   | (with_reducible exact laws_toRat.mono _ _ _ _)
   | (with_reducible exact spec_PowRat.mono _ _ _ _ _)
   | (with_reducible exact LeO.refl _)
   | (with_reducible exact LeO.none _)
   | (with_reducible refine LeO.ite ?_ ?_)
   | (with_reducible refine LeO.bind ?_ (fun _ => ?_))
   | exact ih0 _ _ _ _ _ _ _ _ _ _ _ _ _ _ _ _
   | exact ih1 _ _ _ _ _ _ _ _ _ _ _ _
   | exact ih2 _ _ _ _ _
   | exact impl_PowRat.mono _ _ _ _ _
   | exact laws_eqRat.mono _ _ _ _ _ _ _
   | exact laws_heldRat.mono _ _ _ _ _
   | exact laws_markRat.mono _ _ _ _ _
   | exact laws_toRat.mono _ _ _ _
   | exact spec_PowRat.mono _ _ _ _ _
   | exact LeO.none _
   | refine LeO.ite ?_ ?_
   | refine LeO.bind ?_ (fun _ => ?_)
set_option maxHeartbeats 8000000 in
set_option maxRecDepth 100000 in
theorem laws_FnExactPowRat.calls (k : Nat) (a0_0 : Bool) (A0_1 : Option Addr) (c0_1 : Nat) (l0_1 : List Int) (A0_2 : Option Addr) (c0_2 : Nat) (l0_2 : List Int) (a1 : Int) (r : Bool) (w : World) (hr0_1 : Kd.C (Kd.int .i64) w A0_1 l0_1.length l0_1) (hc0_1 : l0_1.length ≤ c0_1) (hr0_2 : Kd.C (Kd.int .i64) w A0_2 l0_2.length l0_2) (hc0_2 : l0_2.length ≤ c0_2) (h : laws_FnExactPowRat.f k a0_0 l0_1 l0_2 a1 = some r) (hr_ : r = true) :
  Calls Try.prog 10 #[.agg #[.bool a0_0, .slice A0_1 l0_1.length c0_1, .slice A0_2 l0_2.length c0_2], .int .i64 a1] w fun e w' => e = .returned (.bool r) ∧ Below w.heap.size w w' := by
 have hu30 := Try.underlying30
 have hu24 := Try.underlying24
 have HR0_1 := Aside0.mk hr0_1
 have HC0_1 := Aside0.mk hc0_1
 clear hr0_1 hc0_1
 have HR0_2 := Aside0.mk hr0_2
 have HC0_2 := Aside0.mk hc0_2
 clear hr0_2 hc0_2
 have HB := Aside0.mk (Below.refl w.heap.size w)
 have H : ((laws_szRat.f a0_0 l0_1 l0_2 1048576).bind fun t661 => (if t661 < 0 then (some true) else ((laws_toRat.f k a0_0 l0_1 l0_2).bind fun bt662 => ((spec_PowRat.f k bt662.1 bt662.2.1 bt662.2.2 a1).bind fun bt669 => ((laws_toRat.f k a0_0 l0_1 l0_2).bind fun bt678 => ((impl_PowRat.f k bt678.1 bt678.2.1 bt678.2.2 a1).bind fun bt686 => ((laws_eqRat.f k bt686.1 bt686.2.1 bt686.2.2.1 bt669.1 bt669.2.1 bt669.2.2.1).bind fun t695 => (if t695 = true then (laws_FnExactPowRat.j0 k a1 bt669.2.2.2 bt686.2.2.2 (bt686.2.2.2 != bt669.2.2.2) a0_0 l0_1 l0_2 bt669.1 bt669.2.1 bt669.2.2.1 bt678.1 bt678.2.1 bt678.2.2 bt686.1 bt686.2.1 bt686.2.2.1) else (laws_FnExactPowRat.j0 k a1 bt669.2.2.2 bt686.2.2.2 true a0_0 l0_1 l0_2 bt669.1 bt669.2.1 bt669.2.2.1 bt678.1 bt678.2.1 bt678.2.2 bt686.1 bt686.2.1 bt686.2.2.1))))))))) = some r := h
 clear h
 replace H := Option.bind_eq_some_iff.mp H
 obtain ⟨t661, A30, H⟩ := H
 replace H : (if t661 < 0 then (some true) else ((laws_toRat.f k a0_0 l0_1 l0_2).bind fun bt662 => ((spec_PowRat.f k bt662.1 bt662.2.1 bt662.2.2 a1).bind fun bt669 => ((laws_toRat.f k a0_0 l0_1 l0_2).bind fun bt678 => ((impl_PowRat.f k bt678.1 bt678.2.1 bt678.2.2 a1).bind fun bt686 => ((laws_eqRat.f k bt686.1 bt686.2.1 bt686.2.2.1 bt669.1 bt669.2.1 bt669.2.2.1).bind fun t695 => (if t695 = true then (laws_FnExactPowRat.j0 k a1 bt669.2.2.2 bt686.2.2.2 (bt686.2.2.2 != bt669.2.2.2) a0_0 l0_1 l0_2 bt669.1 bt669.2.1 bt669.2.2.1 bt678.1 bt678.2.1 bt678.2.2 bt686.1 bt686.2.1 bt686.2.2.1) else (laws_FnExactPowRat.j0 k a1 bt669.2.2.2 bt686.2.2.2 true a0_0 l0_1 l0_2 bt669.1 bt669.2.1 bt669.2.2.1 bt678.1 bt678.2.1 bt678.2.2 bt686.1 bt686.2.1 bt686.2.2.1)))))))) = some r := H
 have A3 := Aside0.mk A30
 clear A30
 by_cases c4 : t661 < 0
 ·
  rw [if_pos c4] at H
  have c4b0 : decide (t661 < 0) = true := decide_eq_true c4
  clear c4
  obtain rfl := Option.some.inj H
  go_enter Try.func10, Try.ntmps10
  go_wp2_with (first | ((with_reducible refine gate_dst (N := 2) rfl ?_); refine box_event ?hg (N := 2) ?hd (cs := #[.bool a0_0, .slice A0_1 l0_1.length c0_1, .slice A0_2 l0_2.length c0_2]) (t := 30) ?hr ?_; (case hd => rfl); (case hg => rfl); (case hr => first | (go_simp; done) | (go_simp; rfl)); intro gb660 hg w5 hbox hb; have BK660 := Aside0.mk (hbox); have GW660 := geh hg HB; have GE660 := geh hg HB; replace HB := bst HB hb; clear hb hbox hg; have hcz6_0 := bce BK660 0 (.bool a0_0); have hcz6_1 := bce BK660 1 (.slice A0_1 l0_1.length c0_1); have hcz6_2 := bce BK660 2 (.slice A0_2 l0_2.length c0_2); have hfz6_0 := blk_frozen BK660.out 0; have hfz6_1 := blk_frozen BK660.out 1; have hfz6_2 := blk_frozen BK660.out 2) | ((with_reducible refine gate_callee (f := 20) rfl ?_); refine goesL_ (some 18) rfl rfl Try.func20 (by kernel_rfl) rfl #[.agg #[.bool a0_0, .slice A0_1 l0_1.length c0_1, .slice A0_2 l0_2.length c0_2], .int .i64 1048576] rfl (by (try simp only [List.map_toArray, List.map_cons, List.map_nil]); first | done | rfl | (simp only [List.length_drop, List.length_take]; rfl)) ?_; (with_reducible refine (laws_szRat.calls a0_0 _ _ l0_1 _ _ l0_2 1048576 t661 _ ?side1 ?side2 ?side3 ?side4 A3.out).mono ?_); (case side1 => exact crC (Kd.C_below HR0_1.out HB.out)); (case side2 => exact HC0_1.out); (case side3 => exact crC (Kd.C_below HR0_2.out HB.out)); (case side4 => exact HC0_2.out); rintro e w7 ⟨rfl, hb⟩; refine ⟨_, rfl, ?_⟩; replace BK660 := bkb BK660 hb; replace HB := bst HB hb; (try clear hb); (try clear hb2); (try clear hk); (try clear hi)))
  go_ret
  exact ⟨by first | rfl | (simp [errW_none, errW_some] <;> rfl) | (simp [*, errW_none, errW_some] <;> rfl), blw HB⟩
 ·
  rw [if_neg c4] at H
  have c4b0 : decide (t661 < 0) = false := decide_eq_false c4
  clear c4
  replace H := Option.bind_eq_some_iff.mp H
  obtain ⟨⟨t662, t663, t666⟩, A80, H⟩ := H
  replace H : ((spec_PowRat.f k t662 t663 t666 a1).bind fun bt669 => ((laws_toRat.f k a0_0 l0_1 l0_2).bind fun bt678 => ((impl_PowRat.f k bt678.1 bt678.2.1 bt678.2.2 a1).bind fun bt686 => ((laws_eqRat.f k bt686.1 bt686.2.1 bt686.2.2.1 bt669.1 bt669.2.1 bt669.2.2.1).bind fun t695 => (if t695 = true then (laws_FnExactPowRat.j0 k a1 bt669.2.2.2 bt686.2.2.2 (bt686.2.2.2 != bt669.2.2.2) a0_0 l0_1 l0_2 bt669.1 bt669.2.1 bt669.2.2.1 bt678.1 bt678.2.1 bt678.2.2 bt686.1 bt686.2.1 bt686.2.2.1) else (laws_FnExactPowRat.j0 k a1 bt669.2.2.2 bt686.2.2.2 true a0_0 l0_1 l0_2 bt669.1 bt669.2.1 bt669.2.2.1 bt678.1 bt678.2.1 bt678.2.2 bt686.1 bt686.2.1 bt686.2.2.1)))))) = some r := H
  have A8 := Aside0.mk A80
  clear A80
  replace H := Option.bind_eq_some_iff.mp H
  obtain ⟨⟨t669, t670, t673, t676⟩, A90, H⟩ := H
  replace H : ((laws_toRat.f k a0_0 l0_1 l0_2).bind fun bt678 => ((impl_PowRat.f k bt678.1 bt678.2.1 bt678.2.2 a1).bind fun bt686 => ((laws_eqRat.f k bt686.1 bt686.2.1 bt686.2.2.1 t669 t670 t673).bind fun t695 => (if t695 = true then (laws_FnExactPowRat.j0 k a1 t676 bt686.2.2.2 (bt686.2.2.2 != t676) a0_0 l0_1 l0_2 t669 t670 t673 bt678.1 bt678.2.1 bt678.2.2 bt686.1 bt686.2.1 bt686.2.2.1) else (laws_FnExactPowRat.j0 k a1 t676 bt686.2.2.2 true a0_0 l0_1 l0_2 t669 t670 t673 bt678.1 bt678.2.1 bt678.2.2 bt686.1 bt686.2.1 bt686.2.2.1))))) = some r := H
  have A9 := Aside0.mk A90
  clear A90
  replace H := Option.bind_eq_some_iff.mp H
  obtain ⟨⟨t678, t679, t682⟩, A100, H⟩ := H
  replace H : ((impl_PowRat.f k t678 t679 t682 a1).bind fun bt686 => ((laws_eqRat.f k bt686.1 bt686.2.1 bt686.2.2.1 t669 t670 t673).bind fun t695 => (if t695 = true then (laws_FnExactPowRat.j0 k a1 t676 bt686.2.2.2 (bt686.2.2.2 != t676) a0_0 l0_1 l0_2 t669 t670 t673 t678 t679 t682 bt686.1 bt686.2.1 bt686.2.2.1) else (laws_FnExactPowRat.j0 k a1 t676 bt686.2.2.2 true a0_0 l0_1 l0_2 t669 t670 t673 t678 t679 t682 bt686.1 bt686.2.1 bt686.2.2.1)))) = some r := H
  have A10 := Aside0.mk A100
  clear A100
  replace H := Option.bind_eq_some_iff.mp H
  obtain ⟨⟨t686, t687, t690, t693⟩, A110, H⟩ := H
  replace H : ((laws_eqRat.f k t686 t687 t690 t669 t670 t673).bind fun t695 => (if t695 = true then (laws_FnExactPowRat.j0 k a1 t676 t693 (t693 != t676) a0_0 l0_1 l0_2 t669 t670 t673 t678 t679 t682 t686 t687 t690) else (laws_FnExactPowRat.j0 k a1 t676 t693 true a0_0 l0_1 l0_2 t669 t670 t673 t678 t679 t682 t686 t687 t690))) = some r := H
  have A11 := Aside0.mk A110
  clear A110
  have HC12 := Aside0.mk H
  clear H
  go_enter Try.func10, Try.ntmps10
  go_upto_region 8 with (first | ((with_reducible refine gate_dst (N := 2) rfl ?_); refine box_event ?hg (N := 2) ?hd (cs := #[.bool a0_0, .slice A0_1 l0_1.length c0_1, .slice A0_2 l0_2.length c0_2]) (t := 30) ?hr ?_; (case hd => rfl); (case hg => rfl); (case hr => first | (go_simp; done) | (go_simp; rfl)); intro gb660 hg w13 hbox hb; have BK660 := Aside0.mk (hbox); have GW660 := geh hg HB; have GE660 := geh hg HB; replace HB := bst HB hb; clear hb hbox hg; have hcz14_0 := bce BK660 0 (.bool a0_0); have hcz14_1 := bce BK660 1 (.slice A0_1 l0_1.length c0_1); have hcz14_2 := bce BK660 2 (.slice A0_2 l0_2.length c0_2); have hfz14_0 := blk_frozen BK660.out 0; have hfz14_1 := blk_frozen BK660.out 1; have hfz14_2 := blk_frozen BK660.out 2) | ((with_reducible refine gate_callee (f := 20) rfl ?_); refine goesL_ (some 18) rfl rfl Try.func20 (by kernel_rfl) rfl #[.agg #[.bool a0_0, .slice A0_1 l0_1.length c0_1, .slice A0_2 l0_2.length c0_2], .int .i64 1048576] rfl (by (try simp only [List.map_toArray, List.map_cons, List.map_nil]); first | done | rfl | (simp only [List.length_drop, List.length_take]; rfl)) ?_; (with_reducible refine (laws_szRat.calls a0_0 _ _ l0_1 _ _ l0_2 1048576 t661 _ ?side1 ?side2 ?side3 ?side4 A3.out).mono ?_); (case side1 => exact crC (Kd.C_below HR0_1.out HB.out)); (case side2 => exact HC0_1.out); (case side3 => exact crC (Kd.C_below HR0_2.out HB.out)); (case side4 => exact HC0_2.out); rintro e w15 ⟨rfl, hb⟩; refine ⟨_, rfl, ?_⟩; replace BK660 := bkb BK660 hb; replace HB := bst HB hb; (try clear hb); (try clear hb2); (try clear hk); (try clear hi); have hcz16_0 := bce BK660 0 (.bool a0_0); have hcz16_1 := bce BK660 1 (.slice A0_1 l0_1.length c0_1); have hcz16_2 := bce BK660 2 (.slice A0_2 l0_2.length c0_2); have hfz16_0 := blk_frozen BK660.out 0; have hfz16_1 := blk_frozen BK660.out 1; have hfz16_2 := blk_frozen BK660.out 2) | ((with_reducible refine gate_callee (f := 22) rfl ?_); refine goesL_ (some 23) rfl rfl Try.func22 (by kernel_rfl) rfl #[.agg #[.bool a0_0, .slice A0_1 l0_1.length c0_1, .slice A0_2 l0_2.length c0_2]] rfl (by (try simp only [List.map_toArray, List.map_cons, List.map_nil]); first | done | rfl | (simp only [List.length_drop, List.length_take]; rfl)) ?_; (with_reducible refine (laws_toRat.calls k a0_0 _ _ l0_1 _ _ l0_2 t662 t663 t666 _ ?side1 ?side2 ?side3 ?side4 A8.out).mono ?_); (case side1 => exact crC (Kd.C_below HR0_1.out HB.out)); (case side2 => exact HC0_1.out); (case side3 => exact crC (Kd.C_below HR0_2.out HB.out)); (case side4 => exact HC0_2.out); rintro e w17 ⟨v664, v667, rfl, ho0, ho1, hb⟩; refine ⟨_, rfl, ?_⟩; have HO665 := lwR ho0 HB; have HO668 := lwR ho1 HB; replace BK660 := bkb BK660 hb; replace HB := bst HB hb; (try clear hb); (try clear hb2); (try clear hk); (try clear hi); (try clear ho0); (try clear ho1); obtain ⟨Ao18, co18, eo18⟩ := Kd.R_slice HO665.out; subst eo18; obtain ⟨Ao19, co19, eo19⟩ := Kd.R_slice HO668.out; subst eo19) | ((with_reducible refine gate_callee (f := 34) rfl ?_); refine goesL_ (some 25) rfl rfl Try.func34 (by kernel_rfl) rfl #[.agg #[.bool t662, .slice Ao18 t663.length co18, .slice Ao19 t666.length co19], .int .i64 a1] rfl (by (try simp only [List.map_toArray, List.map_cons, List.map_nil]); first | done | rfl | (simp only [List.length_drop, List.length_take]; rfl)) ?_; (with_reducible refine (spec_PowRat.calls k t662 _ _ t663 _ _ t666 a1 t669 t670 t673 t676 _ ?side1 ?side2 ?side3 ?side4 A9.out).mono ?_); (case side1 => exact crC (Kd.R_reads' HO665.out).2.2); (case side2 => exact (Kd.R_reads' HO665.out).2.1); (case side3 => exact crC (Kd.R_reads' HO668.out).2.2); (case side4 => exact (Kd.R_reads' HO668.out).2.1); rintro e w20 ⟨v671, v674, rfl, ho0, ho1, hb⟩; refine ⟨_, rfl, ?_⟩; have HO672 := lwR (nwR (nwR ho0 HO665) HO668) HB; have HO675 := lwR (nwR (nwR ho1 HO665) HO668) HB; replace HO665 := tldR HO665 hb (Kd.R_base ho0) (Kd.R_base ho1); replace HO668 := tldR HO668 hb (Kd.R_base ho0) (Kd.R_base ho1); replace BK660 := bkb BK660 hb; replace HB := bst HB hb; (try clear hb); (try clear hb2); (try clear hk); (try clear hi); (try clear ho0); (try clear ho1)) | ((with_reducible refine gate_dst (N := 6) rfl ?_); refine box_event ?hg (N := 6) ?hd (cs := #[.bool false, .slice none 0 0, .slice none 0 0]) (t := 24) ?hr ?_; (case hd => rfl); (case hg => rfl); (case hr => first | (go_simp; done) | (go_simp; rfl)); intro gb677 hg w21 hbox hb; replace HO665 := rblR HO665 hb; replace HO668 := rblR HO668 hb; replace HO672 := rblR HO672 hb; replace HO675 := rblR HO675 hb; have BK677 := Aside0.mk (hbox); have GW677 := geh hg HB; have GE677 := geh hg HB; replace HB := bst HB hb; have NB660_677 := nlt hg BK660; have NB677_660 := ngt hg BK660; replace BK660 := bkb BK660 hb; clear hb hbox hg; have hnb22 := NB677_660.out; have hnc22 := NB660_677.out; have hcz23_0 := bce BK677 0 (.bool false); have hcz23_1 := bce BK677 1 (.slice none 0 0); have hcz23_2 := bce BK677 2 (.slice none 0 0); have hfz23_0 := blk_frozen BK677.out 0; have hfz23_1 := blk_frozen BK677.out 1; have hfz23_2 := blk_frozen BK677.out 2; obtain ⟨Ao24, co24, eo24⟩ := Kd.R_slice HO672.out; subst eo24; obtain ⟨Ao25, co25, eo25⟩ := Kd.R_slice HO675.out; subst eo25; have hcz26_0 := bce BK660 0 (.bool a0_0); have hcz26_1 := bce BK660 1 (.slice A0_1 l0_1.length c0_1); have hcz26_2 := bce BK660 2 (.slice A0_2 l0_2.length c0_2); have hfz26_0 := blk_frozen BK660.out 0; have hfz26_1 := blk_frozen BK660.out 1; have hfz26_2 := blk_frozen BK660.out 2) | ((with_reducible refine gate_callee (f := 22) rfl ?_); refine goesL_ (some 29) rfl rfl Try.func22 (by kernel_rfl) rfl #[.agg #[.bool a0_0, .slice A0_1 l0_1.length c0_1, .slice A0_2 l0_2.length c0_2]] rfl (by (try simp only [List.map_toArray, List.map_cons, List.map_nil]); first | done | rfl | (simp only [List.length_drop, List.length_take]; rfl)) ?_; (with_reducible refine (laws_toRat.calls k a0_0 _ _ l0_1 _ _ l0_2 t678 t679 t682 _ ?side1 ?side2 ?side3 ?side4 A10.out).mono ?_); (case side1 => exact Kd.C_below HR0_1.out (blw HB)); (case side2 => exact HC0_1.out); (case side3 => exact Kd.C_below HR0_2.out (blw HB)); (case side4 => exact HC0_2.out); rintro e w27 ⟨v680, v683, rfl, ho0, ho1, hb⟩; refine ⟨_, rfl, ?_⟩; have HO681 := lwR (nwF (nwF (nwF (nwF ho0 HO665 BK677) HO668 BK677) HO672 BK677) HO675 BK677) HB; have HO684 := lwR (nwF (nwF (nwF (nwF ho1 HO665 BK677) HO668 BK677) HO672 BK677) HO675 BK677) HB; replace HO665 := tldF HO665 BK677 hb (Kd.R_base ho0) (Kd.R_base ho1); replace HO668 := tldF HO668 BK677 hb (Kd.R_base ho0) (Kd.R_base ho1); replace HO672 := tldF HO672 BK677 hb (Kd.R_base ho0) (Kd.R_base ho1); replace HO675 := tldF HO675 BK677 hb (Kd.R_base ho0) (Kd.R_base ho1); replace BK660 := bkf BK660 hb; replace BK677 := bkp BK677 (.bool t669) (.slice Ao24 t670.length co24) (.slice Ao25 t673.length co25) hb; replace HB := bst HB hb; (try clear hb); (try clear hb2); (try clear hk); (try clear hi); (try clear ho0); (try clear ho1)) | ((with_reducible refine gate_dst (N := 8) rfl ?_); refine box_event ?hg (N := 8) ?hd (cs := #[.bool false, .slice none 0 0, .slice none 0 0]) (t := 24) ?hr ?_; (case hd => rfl); (case hg => rfl); (case hr => first | (go_simp; done) | (go_simp; rfl)); intro gb685 hg w28 hbox hb; replace HO665 := rblR HO665 hb; replace HO668 := rblR HO668 hb; replace HO672 := rblR HO672 hb; replace HO675 := rblR HO675 hb; replace HO681 := rblR HO681 hb; replace HO684 := rblR HO684 hb; have BK685 := Aside0.mk (hbox); have GW685 := geh hg HB; have GE685 := geh hg HB; replace HB := bst HB hb; have NB660_685 := nlt hg BK660; have NB685_660 := ngt hg BK660; replace BK660 := bkb BK660 hb; have NB677_685 := nlt hg BK677; have NB685_677 := ngt hg BK677; replace BK677 := bkb BK677 hb; clear hb hbox hg; have hnb29 := NB685_660.out; have hnc29 := NB660_685.out; have hnb30 := NB685_677.out; have hnc30 := NB677_685.out; have hcz31_0 := bce BK685 0 (.bool false); have hcz31_1 := bce BK685 1 (.slice none 0 0); have hcz31_2 := bce BK685 2 (.slice none 0 0); have hfz31_0 := blk_frozen BK685.out 0; have hfz31_1 := blk_frozen BK685.out 1; have hfz31_2 := blk_frozen BK685.out 2; obtain ⟨Ao32, co32, eo32⟩ := Kd.R_slice HO681.out; subst eo32; obtain ⟨Ao33, co33, eo33⟩ := Kd.R_slice HO684.out; subst eo33) | ((with_reducible refine gate_store (t := 24) (p := 8) rfl ?_); refine store_event (t := 24) (p := 8) (v := ?vo_w34) (w1 := (((w28.setCell ⟨gb685, 0, none⟩ (.bool t678)).setCell ⟨gb685, 1, none⟩ (.slice Ao32 t679.length co32)).setCell ⟨gb685, 2, none⟩ (.slice Ao33 t682.length co33))) ?hg ?ho ?hn ?hr ?_; (case ho => rfl); (case hg => rfl); (case hn => rfl); (case hr => first | (go_simp; done) | (go_simp; rfl)); intro w34 hw; replace HO665 : Aside0 (Kd.R (Kd.int .i64) 3 w34 w.heap.size (fun k_ => nO k_ (.slice Ao19 t666.length co19) ∧ nO k_ (.slice Ao24 t670.length co24) ∧ nO k_ (.slice Ao25 t673.length co25) ∧ nO k_ (.slice Ao32 t679.length co32) ∧ nO k_ (.slice Ao33 t682.length co33)) (.slice Ao18 t663.length co18) t663) := ⟨(by rw [hw]; exact (by (with_reducible repeat (first | apply Kd.R_alloc | apply Kd.R_drewN | apply Kd.R_drew)); exact Kd.R_mono (Kd.R_far (p := ⟨gb685, 2, none⟩) (Kd.R_far (p := ⟨gb685, 1, none⟩) (Kd.R_far (p := ⟨gb685, 0, none⟩) (Kd.R_types HO665.out BK685.out (by decide)) (fun _ hk => hk.2) (.bool t678)) (fun _ hk => hk.2) (.slice Ao32 t679.length co32)) (fun _ hk => hk.2) (.slice Ao33 t682.length co33)) (fun _ hk => ⟨hk.1.1.1.1.1, ⟨hk.1.1.1.1.2, ⟨hk.1.1.1.2, ⟨hk.1.1.2, hk.1.2⟩⟩⟩⟩)))⟩; replace HO668 : Aside0 (Kd.R (Kd.int .i64) 3 w34 w.heap.size (fun k_ => nO k_ (.slice Ao18 t663.length co18) ∧ nO k_ (.slice Ao24 t670.length co24) ∧ nO k_ (.slice Ao25 t673.length co25) ∧ nO k_ (.slice Ao32 t679.length co32) ∧ nO k_ (.slice Ao33 t682.length co33)) (.slice Ao19 t666.length co19) t666) := ⟨(by rw [hw]; exact (by (with_reducible repeat (first | apply Kd.R_alloc | apply Kd.R_drewN | apply Kd.R_drew)); exact Kd.R_mono (Kd.R_far (p := ⟨gb685, 2, none⟩) (Kd.R_far (p := ⟨gb685, 1, none⟩) (Kd.R_far (p := ⟨gb685, 0, none⟩) (Kd.R_types HO668.out BK685.out (by decide)) (fun _ hk => hk.2) (.bool t678)) (fun _ hk => hk.2) (.slice Ao32 t679.length co32)) (fun _ hk => hk.2) (.slice Ao33 t682.length co33)) (fun _ hk => ⟨hk.1.1.1.1.1, ⟨hk.1.1.1.1.2, ⟨hk.1.1.1.2, ⟨hk.1.1.2, hk.1.2⟩⟩⟩⟩)))⟩; replace HO672 : Aside0 (Kd.R (Kd.int .i64) 3 w34 w.heap.size (fun k_ => nO k_ (.slice Ao18 t663.length co18) ∧ nO k_ (.slice Ao19 t666.length co19) ∧ nO k_ (.slice Ao25 t673.length co25) ∧ nO k_ (.slice Ao32 t679.length co32) ∧ nO k_ (.slice Ao33 t682.length co33)) (.slice Ao24 t670.length co24) t670) := ⟨(by rw [hw]; exact (by (with_reducible repeat (first | apply Kd.R_alloc | apply Kd.R_drewN | apply Kd.R_drew)); exact Kd.R_mono (Kd.R_far (p := ⟨gb685, 2, none⟩) (Kd.R_far (p := ⟨gb685, 1, none⟩) (Kd.R_far (p := ⟨gb685, 0, none⟩) (Kd.R_types HO672.out BK685.out (by decide)) (fun _ hk => hk.2) (.bool t678)) (fun _ hk => hk.2) (.slice Ao32 t679.length co32)) (fun _ hk => hk.2) (.slice Ao33 t682.length co33)) (fun _ hk => ⟨hk.1.1.1.1.2, ⟨hk.1.1.1.2, ⟨hk.1.1.1.1.1, ⟨hk.1.1.2, hk.1.2⟩⟩⟩⟩)))⟩; replace HO675 : Aside0 (Kd.R (Kd.int .i64) 3 w34 w.heap.size (fun k_ => nO k_ (.slice Ao18 t663.length co18) ∧ nO k_ (.slice Ao19 t666.length co19) ∧ nO k_ (.slice Ao24 t670.length co24) ∧ nO k_ (.slice Ao32 t679.length co32) ∧ nO k_ (.slice Ao33 t682.length co33)) (.slice Ao25 t673.length co25) t673) := ⟨(by rw [hw]; exact (by (with_reducible repeat (first | apply Kd.R_alloc | apply Kd.R_drewN | apply Kd.R_drew)); exact Kd.R_mono (Kd.R_far (p := ⟨gb685, 2, none⟩) (Kd.R_far (p := ⟨gb685, 1, none⟩) (Kd.R_far (p := ⟨gb685, 0, none⟩) (Kd.R_types HO675.out BK685.out (by decide)) (fun _ hk => hk.2) (.bool t678)) (fun _ hk => hk.2) (.slice Ao32 t679.length co32)) (fun _ hk => hk.2) (.slice Ao33 t682.length co33)) (fun _ hk => ⟨hk.1.1.1.1.2, ⟨hk.1.1.1.2, ⟨hk.1.1.1.1.1, ⟨hk.1.1.2, hk.1.2⟩⟩⟩⟩)))⟩; replace HO681 : Aside0 (Kd.R (Kd.int .i64) 3 w34 w.heap.size (fun k_ => nO k_ (.slice Ao18 t663.length co18) ∧ nO k_ (.slice Ao19 t666.length co19) ∧ nO k_ (.slice Ao24 t670.length co24) ∧ nO k_ (.slice Ao25 t673.length co25) ∧ nO k_ (.slice Ao33 t682.length co33)) (.slice Ao32 t679.length co32) t679) := ⟨(by rw [hw]; exact (by (with_reducible repeat (first | apply Kd.R_alloc | apply Kd.R_drewN | apply Kd.R_drew)); exact Kd.R_mono (Kd.R_far (p := ⟨gb685, 2, none⟩) (Kd.R_far (p := ⟨gb685, 1, none⟩) (Kd.R_far (p := ⟨gb685, 0, none⟩) (Kd.R_types HO681.out BK685.out (by decide)) (fun _ hk => hk.2) (.bool t678)) (fun _ hk => hk.2) (.slice Ao32 t679.length co32)) (fun _ hk => hk.2) (.slice Ao33 t682.length co33)) (fun _ hk => ⟨hk.1.1.1.1.2, ⟨hk.1.1.1.2, ⟨hk.1.1.2, ⟨hk.1.2, hk.1.1.1.1.1⟩⟩⟩⟩)))⟩; replace HO684 : Aside0 (Kd.R (Kd.int .i64) 3 w34 w.heap.size (fun k_ => nO k_ (.slice Ao18 t663.length co18) ∧ nO k_ (.slice Ao19 t666.length co19) ∧ nO k_ (.slice Ao24 t670.length co24) ∧ nO k_ (.slice Ao25 t673.length co25) ∧ nO k_ (.slice Ao32 t679.length co32)) (.slice Ao33 t682.length co33) t682) := ⟨(by rw [hw]; exact (by (with_reducible repeat (first | apply Kd.R_alloc | apply Kd.R_drewN | apply Kd.R_drew)); exact Kd.R_mono (Kd.R_far (p := ⟨gb685, 2, none⟩) (Kd.R_far (p := ⟨gb685, 1, none⟩) (Kd.R_far (p := ⟨gb685, 0, none⟩) (Kd.R_types HO684.out BK685.out (by decide)) (fun _ hk => hk.2) (.bool t678)) (fun _ hk => hk.2) (.slice Ao32 t679.length co32)) (fun _ hk => hk.2) (.slice Ao33 t682.length co33)) (fun _ hk => ⟨hk.1.1.1.1.2, ⟨hk.1.1.1.2, ⟨hk.1.1.2, ⟨hk.1.2, hk.1.1.1.1.1⟩⟩⟩⟩)))⟩; replace BK660 : Aside0 (w34.heap[gb660]? = some (.cells #[.bool a0_0, .slice A0_1 l0_1.length c0_1, .slice A0_2 l0_2.length c0_2] 30 (0, 0))) := ⟨(by rw [hw]; exact (crbF BK660))⟩; replace BK677 : Aside0 (w34.heap[gb677]? = some (.cells #[.bool t669, .slice Ao24 t670.length co24, .slice Ao25 t673.length co25] 24 (0, 0))) := ⟨(by rw [hw]; exact (crbF BK677))⟩; replace BK685 : Aside0 (w34.heap[gb685]? = some (.cells #[.bool t678, .slice Ao32 t679.length co32, .slice Ao33 t682.length co33] 24 (0, 0))) := ⟨(by rw [hw]; exact (by (with_reducible repeat (first | refine blk_drewN ?_ _ | refine blk_drew ?_ | refine blk_alloc ?_ _)); refine blk_put (cs := #[.bool t678, .slice Ao32 t679.length co32, .slice none 0 0]) ?_ 2 _ rfl; (with_reducible repeat (first | refine blk_drewN ?_ _ | refine blk_drew ?_ | refine blk_alloc ?_ _)); refine blk_put (cs := #[.bool t678, .slice none 0 0, .slice none 0 0]) ?_ 1 _ rfl; (with_reducible repeat (first | refine blk_drewN ?_ _ | refine blk_drew ?_ | refine blk_alloc ?_ _)); refine blk_put (cs := #[.bool false, .slice none 0 0, .slice none 0 0]) ?_ 0 _ rfl; (with_reducible repeat (first | refine blk_drewN ?_ _ | refine blk_drew ?_ | refine blk_alloc ?_ _)); exact BK685.out))⟩; replace HB : Aside0 (Below w.heap.size w w34) := ⟨(by rw [hw]; exact (blw HB))⟩; clear hw; have hcz35_0 := bce BK685 0 (.bool t678); have hcz35_1 := bce BK685 1 (.slice Ao32 t679.length co32); have hcz35_2 := bce BK685 2 (.slice Ao33 t682.length co33); have hfz35_0 := blk_frozen BK685.out 0; have hfz35_1 := blk_frozen BK685.out 1; have hfz35_2 := blk_frozen BK685.out 2) | ((with_reducible refine gate_callee (f := 35) rfl ?_); refine goesL_ (some 33) rfl rfl Try.func35 (by kernel_rfl) rfl #[.agg #[.bool t678, .slice Ao32 t679.length co32, .slice Ao33 t682.length co33], .int .i64 a1] rfl (by (try simp only [List.map_toArray, List.map_cons, List.map_nil]); first | done | rfl | (simp only [List.length_drop, List.length_take]; rfl)) ?_; (with_reducible refine (impl_PowRat.calls k t678 (fun k_ => some k_ = (.slice Ao32 t679.length co32 : Value).ownBlock) _ _ t679 (fun k_ => some k_ = (.slice Ao33 t682.length co33 : Value).ownBlock) _ _ t682 a1 t686 t687 t690 t693 _ ?side1 ?side2 A11.out).mono ?_); (case side1 => exact Kd.R_V (Kd.R_tight rfl (Kd.R_types (Kd.R_types (Kd.R_types (HO681.out) BK660.out (by decide)) BK677.out (by decide)) BK685.out (by decide)))); (case side2 => exact Kd.R_V (Kd.R_tight rfl (Kd.R_types (Kd.R_types (Kd.R_types (HO684.out) BK660.out (by decide)) BK677.out (by decide)) BK685.out (by decide)))); rintro e w36 ⟨v688, v691, rfl, ho0, ho1, hb⟩; refine ⟨_, rfl, ?_⟩; have HO689 := lwR (nwR (nwR (nwR (nwR (nwR (nwR (Kd.R_mono (ok' := fun k_ => nO k_ v691) ho0 (fun _ hk_ => hk_.2)) HO665) HO668) HO672) HO675) HO681) HO684) HB; have HO692 := lwR (nwR (nwR (nwR (nwR (nwR (nwR (Kd.R_mono (ok' := fun k_ => nO k_ v688) ho1 (fun _ hk_ => hk_.2)) HO665) HO668) HO672) HO675) HO681) HO684) HB; replace HO665 := tldR HO665 hb (Kd.R_base ho0) (Kd.R_base ho1); replace HO668 := tldR HO668 hb (Kd.R_base ho0) (Kd.R_base ho1); replace HO672 := tldR HO672 hb (Kd.R_base ho0) (Kd.R_base ho1); replace HO675 := tldR HO675 hb (Kd.R_base ho0) (Kd.R_base ho1); replace HO681 := tldR HO681 hb (Kd.R_base ho0) (Kd.R_base ho1); replace HO684 := tldR HO684 hb (Kd.R_base ho0) (Kd.R_base ho1); replace BK660 := bkb BK660 hb; replace BK677 := bkb BK677 hb; replace BK685 := bkb BK685 hb; replace HB := bst HB hb; (try clear hb); (try clear hb2); (try clear hk); (try clear hi); (try clear ho0); (try clear ho1)) | ((with_reducible refine gate_dst (N := 9) rfl ?_); refine box_event ?hg (N := 9) ?hd (cs := #[.bool false, .slice none 0 0, .slice none 0 0]) (t := 24) ?hr ?_; (case hd => rfl); (case hg => rfl); (case hr => first | (go_simp; done) | (go_simp; rfl)); intro gb694 hg w37 hbox hb; replace HO665 := rblR HO665 hb; replace HO668 := rblR HO668 hb; replace HO672 := rblR HO672 hb; replace HO675 := rblR HO675 hb; replace HO681 := rblR HO681 hb; replace HO684 := rblR HO684 hb; replace HO689 := rblR HO689 hb; replace HO692 := rblR HO692 hb; have BK694 := Aside0.mk (hbox); have GW694 := geh hg HB; have GE694 := geh hg HB; replace HB := bst HB hb; have NB660_694 := nlt hg BK660; have NB694_660 := ngt hg BK660; replace BK660 := bkb BK660 hb; have NB677_694 := nlt hg BK677; have NB694_677 := ngt hg BK677; replace BK677 := bkb BK677 hb; have NB685_694 := nlt hg BK685; have NB694_685 := ngt hg BK685; replace BK685 := bkb BK685 hb; clear hb hbox hg; have hnb38 := NB694_660.out; have hnc38 := NB660_694.out; have hnb39 := NB694_677.out; have hnc39 := NB677_694.out; have hnb40 := NB694_685.out; have hnc40 := NB685_694.out; have hcz41_0 := bce BK694 0 (.bool false); have hcz41_1 := bce BK694 1 (.slice none 0 0); have hcz41_2 := bce BK694 2 (.slice none 0 0); have hfz41_0 := blk_frozen BK694.out 0; have hfz41_1 := blk_frozen BK694.out 1; have hfz41_2 := blk_frozen BK694.out 2; obtain ⟨Ao42, co42, eo42⟩ := Kd.R_slice HO689.out; subst eo42; obtain ⟨Ao43, co43, eo43⟩ := Kd.R_slice HO692.out; subst eo43))
  (try simp only [Act.put, List.setIfInBounds_toArray, List.set_cons_zero, List.set_cons_succ])
  go_cut [44] (fun v44 wc => ∃ (kq : Nat) (x44_11 : Bool), v44 = .bool x44_11 ∧ Aside0 (laws_FnExactPowRat.j0 kq a1 t676 t693 x44_11 a0_0 l0_1 l0_2 t669 t670 t673 t678 t679 t682 t686 t687 t690 = some r) ∧ Aside0 (kq ≤ k) ∧ Aside0 (Kd.R (Kd.int .i64) 3 wc w.heap.size (fun k_ => nO k_ (.slice Ao25 t673.length co25) ∧ nO k_ (.slice Ao32 t679.length co32) ∧ nO k_ (.slice Ao33 t682.length co33) ∧ nO k_ (.slice Ao42 t687.length co42) ∧ nO k_ (.slice Ao43 t690.length co43)) (.slice Ao24 t670.length co24) t670) ∧ Aside0 (Kd.R (Kd.int .i64) 3 wc w.heap.size (fun k_ => nO k_ (.slice Ao24 t670.length co24) ∧ nO k_ (.slice Ao32 t679.length co32) ∧ nO k_ (.slice Ao33 t682.length co33) ∧ nO k_ (.slice Ao42 t687.length co42) ∧ nO k_ (.slice Ao43 t690.length co43)) (.slice Ao25 t673.length co25) t673) ∧ Aside0 (Kd.R (Kd.int .i64) 3 wc w.heap.size (fun k_ => nO k_ (.slice Ao24 t670.length co24) ∧ nO k_ (.slice Ao25 t673.length co25) ∧ nO k_ (.slice Ao33 t682.length co33) ∧ nO k_ (.slice Ao42 t687.length co42) ∧ nO k_ (.slice Ao43 t690.length co43)) (.slice Ao32 t679.length co32) t679) ∧ Aside0 (Kd.R (Kd.int .i64) 3 wc w.heap.size (fun k_ => nO k_ (.slice Ao24 t670.length co24) ∧ nO k_ (.slice Ao25 t673.length co25) ∧ nO k_ (.slice Ao32 t679.length co32) ∧ nO k_ (.slice Ao42 t687.length co42) ∧ nO k_ (.slice Ao43 t690.length co43)) (.slice Ao33 t682.length co33) t682) ∧ Aside0 (Kd.R (Kd.int .i64) 3 wc w.heap.size (fun k_ => nO k_ (.slice Ao24 t670.length co24) ∧ nO k_ (.slice Ao25 t673.length co25) ∧ nO k_ (.slice Ao32 t679.length co32) ∧ nO k_ (.slice Ao33 t682.length co33) ∧ nO k_ (.slice Ao43 t690.length co43)) (.slice Ao42 t687.length co42) t687) ∧ Aside0 (Kd.R (Kd.int .i64) 3 wc w.heap.size (fun k_ => nO k_ (.slice Ao24 t670.length co24) ∧ nO k_ (.slice Ao25 t673.length co25) ∧ nO k_ (.slice Ao32 t679.length co32) ∧ nO k_ (.slice Ao33 t682.length co33) ∧ nO k_ (.slice Ao42 t687.length co42)) (.slice Ao43 t690.length co43) t690) ∧ Aside0 (wc.heap[gb660]? = some (.cells #[.bool a0_0, (.slice A0_1 l0_1.length c0_1), (.slice A0_2 l0_2.length c0_2)] 30 (0, 0))) ∧ Aside0 (wc.heap[gb677]? = some (.cells #[.bool t669, (.slice Ao24 t670.length co24), (.slice Ao25 t673.length co25)] 24 (0, 0))) ∧ Aside0 (wc.heap[gb685]? = some (.cells #[.bool t678, (.slice Ao32 t679.length co32), (.slice Ao33 t682.length co33)] 24 (0, 0))) ∧ Aside0 (wc.heap[gb694]? = some (.cells #[.bool t686, (.slice Ao42 t687.length co42), (.slice Ao43 t690.length co43)] 24 (0, 0))) ∧ Aside0 (Below w.heap.size w wc))
  case first =>
   have H := HC12.out
   clear HC12
   replace H := Option.bind_eq_some_iff.mp H
   obtain ⟨t695, A440, H⟩ := H
   replace H : (if t695 = true then (laws_FnExactPowRat.j0 k a1 t676 t693 (t693 != t676) a0_0 l0_1 l0_2 t669 t670 t673 t678 t679 t682 t686 t687 t690) else (laws_FnExactPowRat.j0 k a1 t676 t693 true a0_0 l0_1 l0_2 t669 t670 t673 t678 t679 t682 t686 t687 t690)) = some r := H
   have A44 := Aside0.mk A440
   clear A440
   by_cases c45 : t695 = true
   ·
    subst c45
    have H1 : (laws_FnExactPowRat.j0 k a1 t676 t693 (t693 != t676) a0_0 l0_1 l0_2 t669 t670 t673 t678 t679 t682 t686 t687 t690) = some r := by rw [if_pos rfl] at H; exact H
    clear H
    have H := H1
    clear H1
    have H' := Aside0.mk H
    clear H
    have hnb46 := NB694_660.out
    have hnc46 := NB660_694.out
    have hnb47 := NB694_677.out
    have hnc47 := NB677_694.out
    have hnb48 := NB694_685.out
    have hnc48 := NB685_694.out
    have hcz49_0 := bce BK694 0 (.bool false)
    have hcz49_1 := bce BK694 1 (.slice none 0 0)
    have hcz49_2 := bce BK694 2 (.slice none 0 0)
    have hfz49_0 := blk_frozen BK694.out 0
    have hfz49_1 := blk_frozen BK694.out 1
    have hfz49_2 := blk_frozen BK694.out 2
    have hnb50 := NB677_660.out
    have hnc50 := NB660_677.out
    have hnb51 := NB677_685.out
    have hnc51 := NB685_677.out
    have hcz52_0 := bce BK677 0 (.bool t669)
    have hcz52_1 := bce BK677 1 (.slice Ao24 t670.length co24)
    have hcz52_2 := bce BK677 2 (.slice Ao25 t673.length co25)
    have hfz52_0 := blk_frozen BK677.out 0
    have hfz52_1 := blk_frozen BK677.out 1
    have hfz52_2 := blk_frozen BK677.out 2
    go_wp2_with (first | ((with_reducible refine gate_callee (f := 17) rfl ?_); refine goesL_ (some 38) rfl rfl Try.func17 (by kernel_rfl) rfl #[.agg #[.bool t686, .slice Ao42 t687.length co42, .slice Ao43 t690.length co43], .agg #[.bool t669, .slice Ao24 t670.length co24, .slice Ao25 t673.length co25]] rfl (by (try simp only [List.map_toArray, List.map_cons, List.map_nil]); first | done | rfl | (simp only [List.length_drop, List.length_take]; rfl)) ?_; (with_reducible refine (laws_eqRat.calls k t686 _ _ t687 _ _ t690 t669 _ _ t670 _ _ t673 true _ ?side1 ?side2 ?side3 ?side4 ?side5 ?side6 ?side7 ?side8 A44.out).mono ?_); (case side1 => refine (Kd.R_reads' (e := 3) (base := w.heap.size) (ok := fun k_ => ((((((nO k_ (.slice Ao43 t690.length co43) ∧ nO k_ (.slice Ao18 t663.length co18)) ∧ nO k_ (.slice Ao19 t666.length co19)) ∧ nO k_ (.slice Ao24 t670.length co24)) ∧ nO k_ (.slice Ao25 t673.length co25)) ∧ nO k_ (.slice Ao32 t679.length co32)) ∧ nO k_ (.slice Ao33 t682.length co33))) (n := t687.length) (c := co42) ?_).2.2; exact (crF HO689 BK694)); (case side2 => exact (Kd.R_reads' HO689.out).2.1); (case side3 => refine (Kd.R_reads' (e := 3) (base := w.heap.size) (ok := fun k_ => ((((((nO k_ (.slice Ao42 t687.length co42) ∧ nO k_ (.slice Ao18 t663.length co18)) ∧ nO k_ (.slice Ao19 t666.length co19)) ∧ nO k_ (.slice Ao24 t670.length co24)) ∧ nO k_ (.slice Ao25 t673.length co25)) ∧ nO k_ (.slice Ao32 t679.length co32)) ∧ nO k_ (.slice Ao33 t682.length co33))) (n := t690.length) (c := co43) ?_).2.2; exact (crF HO692 BK694)); (case side4 => exact (Kd.R_reads' HO692.out).2.1); (case side5 => refine (Kd.R_reads' (e := 3) (base := w.heap.size) (ok := fun k_ => (((nO k_ (.slice Ao18 t663.length co18) ∧ (nO k_ (.slice Ao19 t666.length co19) ∧ (nO k_ (.slice Ao25 t673.length co25) ∧ (nO k_ (.slice Ao32 t679.length co32) ∧ nO k_ (.slice Ao33 t682.length co33))))) ∧ nO k_ (.slice Ao42 t687.length co42)) ∧ nO k_ (.slice Ao43 t690.length co43))) (n := t670.length) (c := co24) ?_).2.2; exact (crF HO672 BK694)); (case side6 => exact (Kd.R_reads' HO672.out).2.1); (case side7 => refine (Kd.R_reads' (e := 3) (base := w.heap.size) (ok := fun k_ => (((nO k_ (.slice Ao18 t663.length co18) ∧ (nO k_ (.slice Ao19 t666.length co19) ∧ (nO k_ (.slice Ao24 t670.length co24) ∧ (nO k_ (.slice Ao32 t679.length co32) ∧ nO k_ (.slice Ao33 t682.length co33))))) ∧ nO k_ (.slice Ao42 t687.length co42)) ∧ nO k_ (.slice Ao43 t690.length co43))) (n := t673.length) (c := co25) ?_).2.2; exact (crF HO675 BK694)); (case side8 => exact (Kd.R_reads' HO675.out).2.1); rintro e w53 ⟨rfl, hb⟩; refine ⟨_, rfl, ?_⟩; replace HO665 := rblF HO665 BK694 hb; replace HO668 := rblF HO668 BK694 hb; replace HO672 := rblF HO672 BK694 hb; replace HO675 := rblF HO675 BK694 hb; replace HO681 := rblF HO681 BK694 hb; replace HO684 := rblF HO684 BK694 hb; replace HO689 := rblF HO689 BK694 hb; replace HO692 := rblF HO692 BK694 hb; replace BK660 := bkf BK660 hb; replace BK677 := bkf BK677 hb; replace BK685 := bkf BK685 hb; replace BK694 := bkp BK694 (.bool t686) (.slice Ao42 t687.length co42) (.slice Ao43 t690.length co43) hb; replace HB := bst HB hb; (try clear hb); (try clear hb2); (try clear hk); (try clear hi)))
    go_meet
    case rel => exact ⟨_, ((t693 != t676)), (by first | rfl | (simp; done) | (simp [*]; done)), H', ⟨by first | omega | exact Nat.le_refl _⟩, ⟨crM HO672 fun _ hk => ⟨hk.1.1.2.2.1, hk.1.1.2.2.2.1, hk.1.1.2.2.2.2, hk.1.2, hk.2⟩⟩, ⟨crM HO675 fun _ hk => ⟨hk.1.1.2.2.1, hk.1.1.2.2.2.1, hk.1.1.2.2.2.2, hk.1.2, hk.2⟩⟩, ⟨crM HO681 fun _ hk => ⟨hk.1.1.2.2.1, hk.1.1.2.2.2.1, hk.1.1.2.2.2.2, hk.1.2, hk.2⟩⟩, ⟨crM HO684 fun _ hk => ⟨hk.1.1.2.2.1, hk.1.1.2.2.2.1, hk.1.1.2.2.2.2, hk.1.2, hk.2⟩⟩, ⟨crM HO689 fun _ hk => ⟨hk.1.1.1.2, hk.1.1.2, hk.1.2, hk.2, hk.1.1.1.1.1.1⟩⟩, ⟨crM HO692 fun _ hk => ⟨hk.1.1.1.2, hk.1.1.2, hk.1.2, hk.2, hk.1.1.1.1.1.1⟩⟩, ⟨crb BK660⟩, ⟨crb BK677⟩, ⟨crb BK685⟩, ⟨crb BK694⟩, ⟨blw HB⟩⟩
   ·
    replace c45 := Bool.eq_false_iff.mpr c45
    subst c45
    have H1 : (laws_FnExactPowRat.j0 k a1 t676 t693 true a0_0 l0_1 l0_2 t669 t670 t673 t678 t679 t682 t686 t687 t690) = some r := by rw [if_neg (show ¬ (false = true) by decide)] at H; exact H
    clear H
    have H := H1
    clear H1
    have H' := Aside0.mk H
    clear H
    have hnb54 := NB694_660.out
    have hnc54 := NB660_694.out
    have hnb55 := NB694_677.out
    have hnc55 := NB677_694.out
    have hnb56 := NB694_685.out
    have hnc56 := NB685_694.out
    have hcz57_0 := bce BK694 0 (.bool false)
    have hcz57_1 := bce BK694 1 (.slice none 0 0)
    have hcz57_2 := bce BK694 2 (.slice none 0 0)
    have hfz57_0 := blk_frozen BK694.out 0
    have hfz57_1 := blk_frozen BK694.out 1
    have hfz57_2 := blk_frozen BK694.out 2
    have hnb58 := NB677_660.out
    have hnc58 := NB660_677.out
    have hnb59 := NB677_685.out
    have hnc59 := NB685_677.out
    have hcz60_0 := bce BK677 0 (.bool t669)
    have hcz60_1 := bce BK677 1 (.slice Ao24 t670.length co24)
    have hcz60_2 := bce BK677 2 (.slice Ao25 t673.length co25)
    have hfz60_0 := blk_frozen BK677.out 0
    have hfz60_1 := blk_frozen BK677.out 1
    have hfz60_2 := blk_frozen BK677.out 2
    go_wp2_with (first | ((with_reducible refine gate_callee (f := 17) rfl ?_); refine goesL_ (some 38) rfl rfl Try.func17 (by kernel_rfl) rfl #[.agg #[.bool t686, .slice Ao42 t687.length co42, .slice Ao43 t690.length co43], .agg #[.bool t669, .slice Ao24 t670.length co24, .slice Ao25 t673.length co25]] rfl (by (try simp only [List.map_toArray, List.map_cons, List.map_nil]); first | done | rfl | (simp only [List.length_drop, List.length_take]; rfl)) ?_; (with_reducible refine (laws_eqRat.calls k t686 _ _ t687 _ _ t690 t669 _ _ t670 _ _ t673 false _ ?side1 ?side2 ?side3 ?side4 ?side5 ?side6 ?side7 ?side8 A44.out).mono ?_); (case side1 => refine (Kd.R_reads' (e := 3) (base := w.heap.size) (ok := fun k_ => ((((((nO k_ (.slice Ao43 t690.length co43) ∧ nO k_ (.slice Ao18 t663.length co18)) ∧ nO k_ (.slice Ao19 t666.length co19)) ∧ nO k_ (.slice Ao24 t670.length co24)) ∧ nO k_ (.slice Ao25 t673.length co25)) ∧ nO k_ (.slice Ao32 t679.length co32)) ∧ nO k_ (.slice Ao33 t682.length co33))) (n := t687.length) (c := co42) ?_).2.2; exact (crF HO689 BK694)); (case side2 => exact (Kd.R_reads' HO689.out).2.1); (case side3 => refine (Kd.R_reads' (e := 3) (base := w.heap.size) (ok := fun k_ => ((((((nO k_ (.slice Ao42 t687.length co42) ∧ nO k_ (.slice Ao18 t663.length co18)) ∧ nO k_ (.slice Ao19 t666.length co19)) ∧ nO k_ (.slice Ao24 t670.length co24)) ∧ nO k_ (.slice Ao25 t673.length co25)) ∧ nO k_ (.slice Ao32 t679.length co32)) ∧ nO k_ (.slice Ao33 t682.length co33))) (n := t690.length) (c := co43) ?_).2.2; exact (crF HO692 BK694)); (case side4 => exact (Kd.R_reads' HO692.out).2.1); (case side5 => refine (Kd.R_reads' (e := 3) (base := w.heap.size) (ok := fun k_ => (((nO k_ (.slice Ao18 t663.length co18) ∧ (nO k_ (.slice Ao19 t666.length co19) ∧ (nO k_ (.slice Ao25 t673.length co25) ∧ (nO k_ (.slice Ao32 t679.length co32) ∧ nO k_ (.slice Ao33 t682.length co33))))) ∧ nO k_ (.slice Ao42 t687.length co42)) ∧ nO k_ (.slice Ao43 t690.length co43))) (n := t670.length) (c := co24) ?_).2.2; exact (crF HO672 BK694)); (case side6 => exact (Kd.R_reads' HO672.out).2.1); (case side7 => refine (Kd.R_reads' (e := 3) (base := w.heap.size) (ok := fun k_ => (((nO k_ (.slice Ao18 t663.length co18) ∧ (nO k_ (.slice Ao19 t666.length co19) ∧ (nO k_ (.slice Ao24 t670.length co24) ∧ (nO k_ (.slice Ao32 t679.length co32) ∧ nO k_ (.slice Ao33 t682.length co33))))) ∧ nO k_ (.slice Ao42 t687.length co42)) ∧ nO k_ (.slice Ao43 t690.length co43))) (n := t673.length) (c := co25) ?_).2.2; exact (crF HO675 BK694)); (case side8 => exact (Kd.R_reads' HO675.out).2.1); rintro e w61 ⟨rfl, hb⟩; refine ⟨_, rfl, ?_⟩; replace HO665 := rblF HO665 BK694 hb; replace HO668 := rblF HO668 BK694 hb; replace HO672 := rblF HO672 BK694 hb; replace HO675 := rblF HO675 BK694 hb; replace HO681 := rblF HO681 BK694 hb; replace HO684 := rblF HO684 BK694 hb; replace HO689 := rblF HO689 BK694 hb; replace HO692 := rblF HO692 BK694 hb; replace BK660 := bkf BK660 hb; replace BK677 := bkf BK677 hb; replace BK685 := bkf BK685 hb; replace BK694 := bkp BK694 (.bool t686) (.slice Ao42 t687.length co42) (.slice Ao43 t690.length co43) hb; replace HB := bst HB hb; (try clear hb); (try clear hb2); (try clear hk); (try clear hi)))
    go_meet
    case rel => exact ⟨_, (true), (by first | rfl | (simp; done) | (simp [*]; done)), H', ⟨by first | omega | exact Nat.le_refl _⟩, ⟨crM HO672 fun _ hk => ⟨hk.1.1.2.2.1, hk.1.1.2.2.2.1, hk.1.1.2.2.2.2, hk.1.2, hk.2⟩⟩, ⟨crM HO675 fun _ hk => ⟨hk.1.1.2.2.1, hk.1.1.2.2.2.1, hk.1.1.2.2.2.2, hk.1.2, hk.2⟩⟩, ⟨crM HO681 fun _ hk => ⟨hk.1.1.2.2.1, hk.1.1.2.2.2.1, hk.1.1.2.2.2.2, hk.1.2, hk.2⟩⟩, ⟨crM HO684 fun _ hk => ⟨hk.1.1.2.2.1, hk.1.1.2.2.2.1, hk.1.1.2.2.2.2, hk.1.2, hk.2⟩⟩, ⟨crM HO689 fun _ hk => ⟨hk.1.1.1.2, hk.1.1.2, hk.1.2, hk.2, hk.1.1.1.1.1.1⟩⟩, ⟨crM HO692 fun _ hk => ⟨hk.1.1.1.2, hk.1.1.2, hk.1.2, hk.2, hk.1.1.1.1.1.1⟩⟩, ⟨crb BK660⟩, ⟨crb BK677⟩, ⟨crb BK685⟩, ⟨crb BK694⟩, ⟨blw HB⟩⟩
  case rest =>
   clear HC12
   try clear c1
   try clear c2
   try clear p2
   try clear c3
   try clear c4
   try clear c4b0
   try clear c5
   try clear c10
   try clear c17
   try clear c20
   try clear c22
   try clear c29
   try clear c30
   try clear c34
   try clear c35
   try clear c38
   try clear c39
   try clear c40
   try clear c45
   try clear c46
   try clear c47
   try clear c48
   try clear c50
   try clear c51
   try clear c54
   try clear c55
   try clear c56
   try clear c58
   try clear c59
   try clear hcz14_0
   try clear hcz14_1
   try clear hcz14_2
   try clear hcz16_0
   try clear hcz16_1
   try clear hcz16_2
   try clear hcz23_0
   try clear hcz23_1
   try clear hcz23_2
   try clear hcz26_0
   try clear hcz26_1
   try clear hcz26_2
   try clear hcz31_0
   try clear hcz31_1
   try clear hcz31_2
   try clear hcz35_0
   try clear hcz35_1
   try clear hcz35_2
   try clear hcz41_0
   try clear hcz41_1
   try clear hcz41_2
   try clear hcz49_0
   try clear hcz49_1
   try clear hcz49_2
   try clear hcz52_0
   try clear hcz52_1
   try clear hcz52_2
   try clear hcz57_0
   try clear hcz57_1
   try clear hcz57_2
   try clear hcz60_0
   try clear hcz60_1
   try clear hcz60_2
   try clear hcz6_0
   try clear hcz6_1
   try clear hcz6_2
   try clear hfz14_0
   try clear hfz14_1
   try clear hfz14_2
   try clear hfz16_0
   try clear hfz16_1
   try clear hfz16_2
   try clear hfz23_0
   try clear hfz23_1
   try clear hfz23_2
   try clear hfz26_0
   try clear hfz26_1
   try clear hfz26_2
   try clear hfz31_0
   try clear hfz31_1
   try clear hfz31_2
   try clear hfz35_0
   try clear hfz35_1
   try clear hfz35_2
   try clear hfz41_0
   try clear hfz41_1
   try clear hfz41_2
   try clear hfz49_0
   try clear hfz49_1
   try clear hfz49_2
   try clear hfz52_0
   try clear hfz52_1
   try clear hfz52_2
   try clear hfz57_0
   try clear hfz57_1
   try clear hfz57_2
   try clear hfz60_0
   try clear hfz60_1
   try clear hfz60_2
   try clear hfz6_0
   try clear hfz6_1
   try clear hfz6_2
   obtain ⟨kq, x44_11, rfl, HA, HJ11, HO_678001, HO_678002, HO_686001, HO_686002, HO_695001, HO_695002, BK660, BK677, BK685, BK694, HB⟩ := hcut
   cases kq with
   | zero => exact absurd HA.out (by simp [laws_FnExactPowRat.j0])
   | succ kj11 =>
    have H := HA.out
    clear HA
    simp only [laws_FnExactPowRat.j0] at H
    by_cases c62 : x44_11 = true
    ·
     subst c62
     have H1 : (some false) = some r := by rw [if_pos rfl] at H; exact H
     clear H
     have H := H1
     clear H1
     obtain rfl := Option.some.inj H
     exact absurd hr_ (by decide)
    ·
     replace c62 := Bool.eq_false_iff.mpr c62
     subst c62
     have H1 : ((laws_toRat.f kj11 a0_0 l0_1 l0_2).bind fun bt696 => ((laws_eqRat.f kj11 t678 t679 t682 bt696.1 bt696.2.1 bt696.2.2).bind fun t703 => (if t703 = true then ((laws_markRat.f kj11 t678 t679 t682 1).bind fun bt704 => (if bt704.1 < 0 then (laws_FnExactPowRat.j1 kj11 a1 t676 true a0_0 l0_1 l0_2 t669 t670 t673 t686 t687 t690) else ((laws_eqRat.f kj11 t686 t687 t690 t669 t670 t673).bind fun t707 => (if t707 = true then (laws_FnExactPowRat.j1 kj11 a1 t676 (t693 != t676) a0_0 l0_1 l0_2 t669 t670 t673 t686 t687 t690) else (laws_FnExactPowRat.j1 kj11 a1 t676 true a0_0 l0_1 l0_2 t669 t670 t673 t686 t687 t690))))) else (some false)))) = some r := by rw [if_neg (show ¬ (false = true) by decide)] at H; exact H
     clear H
     have H := H1
     clear H1
     replace H := Option.bind_eq_some_iff.mp H
     obtain ⟨⟨t696, t697, t700⟩, A630, H⟩ := H
     replace H : ((laws_eqRat.f kj11 t678 t679 t682 t696 t697 t700).bind fun t703 => (if t703 = true then ((laws_markRat.f kj11 t678 t679 t682 1).bind fun bt704 => (if bt704.1 < 0 then (laws_FnExactPowRat.j1 kj11 a1 t676 true a0_0 l0_1 l0_2 t669 t670 t673 t686 t687 t690) else ((laws_eqRat.f kj11 t686 t687 t690 t669 t670 t673).bind fun t707 => (if t707 = true then (laws_FnExactPowRat.j1 kj11 a1 t676 (t693 != t676) a0_0 l0_1 l0_2 t669 t670 t673 t686 t687 t690) else (laws_FnExactPowRat.j1 kj11 a1 t676 true a0_0 l0_1 l0_2 t669 t670 t673 t686 t687 t690))))) else (some false))) = some r := H
     have A63 := Aside0.mk A630
     clear A630
     replace H := Option.bind_eq_some_iff.mp H
     obtain ⟨t703, A640, H⟩ := H
     replace H : (if t703 = true then ((laws_markRat.f kj11 t678 t679 t682 1).bind fun bt704 => (if bt704.1 < 0 then (laws_FnExactPowRat.j1 kj11 a1 t676 true a0_0 l0_1 l0_2 t669 t670 t673 t686 t687 t690) else ((laws_eqRat.f kj11 t686 t687 t690 t669 t670 t673).bind fun t707 => (if t707 = true then (laws_FnExactPowRat.j1 kj11 a1 t676 (t693 != t676) a0_0 l0_1 l0_2 t669 t670 t673 t686 t687 t690) else (laws_FnExactPowRat.j1 kj11 a1 t676 true a0_0 l0_1 l0_2 t669 t670 t673 t686 t687 t690))))) else (some false)) = some r := H
     have A64 := Aside0.mk A640
     clear A640
     by_cases c65 : t703 = true
     ·
      subst c65
      have H1 : ((laws_markRat.f kj11 t678 t679 t682 1).bind fun bt704 => (if bt704.1 < 0 then (laws_FnExactPowRat.j1 kj11 a1 t676 true a0_0 l0_1 l0_2 t669 t670 t673 t686 t687 t690) else ((laws_eqRat.f kj11 t686 t687 t690 t669 t670 t673).bind fun t707 => (if t707 = true then (laws_FnExactPowRat.j1 kj11 a1 t676 (t693 != t676) a0_0 l0_1 l0_2 t669 t670 t673 t686 t687 t690) else (laws_FnExactPowRat.j1 kj11 a1 t676 true a0_0 l0_1 l0_2 t669 t670 t673 t686 t687 t690))))) = some r := by rw [if_pos rfl] at H; exact H
      clear H
      have H := H1
      clear H1
      replace H := Option.bind_eq_some_iff.mp H
      obtain ⟨⟨t704, t705, t706⟩, A660, H⟩ := H
      replace H : (if t704 < 0 then (laws_FnExactPowRat.j1 kj11 a1 t676 true a0_0 l0_1 l0_2 t669 t670 t673 t686 t687 t690) else ((laws_eqRat.f kj11 t686 t687 t690 t669 t670 t673).bind fun t707 => (if t707 = true then (laws_FnExactPowRat.j1 kj11 a1 t676 (t693 != t676) a0_0 l0_1 l0_2 t669 t670 t673 t686 t687 t690) else (laws_FnExactPowRat.j1 kj11 a1 t676 true a0_0 l0_1 l0_2 t669 t670 t673 t686 t687 t690)))) = some r := H
      have A66 := Aside0.mk A660
      clear A660
      have HC67 := Aside0.mk H
      clear H
      try go_wp2
      replace HO_678001 := Aside0.mk (Kd.R_drew HO_678001.out)
      replace HO_678002 := Aside0.mk (Kd.R_drew HO_678002.out)
      replace HO_686001 := Aside0.mk (Kd.R_drew HO_686001.out)
      replace HO_686002 := Aside0.mk (Kd.R_drew HO_686002.out)
      replace HO_695001 := Aside0.mk (Kd.R_drew HO_695001.out)
      replace HO_695002 := Aside0.mk (Kd.R_drew HO_695002.out)
      replace BK660 := Aside0.mk (blk_drew BK660.out)
      replace BK677 := Aside0.mk (blk_drew BK677.out)
      replace BK685 := Aside0.mk (blk_drew BK685.out)
      replace BK694 := Aside0.mk (blk_drew BK694.out)
      replace HB := Aside0.mk (below_drew1 HB.out)
      refine start_ (n := 5) (S := fun w' => w'.cell? ⟨gb685, 0, none⟩ = some (.bool t678) ∧ w'.cell? ⟨gb685, 1, none⟩ = some (.slice Ao32 t679.length co32) ∧ w'.cell? ⟨gb685, 2, none⟩ = some (.slice Ao33 t682.length co33) ∧ w'.cell? ⟨gb660, 0, none⟩ = some (.bool a0_0) ∧ w'.cell? ⟨gb660, 1, none⟩ = some (.slice A0_1 l0_1.length c0_1) ∧ w'.cell? ⟨gb660, 2, none⟩ = some (.slice A0_2 l0_2.length c0_2)) (ds := []) #[false, false, false, false, false] (by kernel_rfl) rfl rfl ⟨bce BK685 0 _, bce BK685 1 _, bce BK685 2 _, bce BK660 0 _, bce BK660 1 _, bce BK660 2 _⟩ (fun hHeld => ?_)
      generalize wc.drew = w68 at HO_678001 HO_678002 HO_686001 HO_686002 HO_695001 HO_695002 BK660 BK677 BK685 BK694 HB hHeld ⊢
      refine take_ (i := 0) (N := some 45) (v := ?_) (a' := ?_) #[true, false, false, false, false] rfl rfl (by kernel_rfl) (fun _ _ _ h => h) (Or.inl ⟨by rfl, ?_⟩) hHeld ?_ ?_
      rotate_left
      ·
       rintro w' ⟨s0, s1, s2, s3, s4, s5⟩
       go_simp
       with_reducible rfl
      rotate_left
      ·
       simp only [Act.put, List.setIfInBounds_toArray, List.set_cons_zero, List.set_cons_succ, i64_w, i32_w]
       rfl
      refine take_ (i := 1) (N := some 46) (v := ?_) (a' := ?_) #[true, true, false, false, false] rfl rfl (by kernel_rfl) (fun _ _ _ h => h) (Or.inl ⟨by rfl, ?_⟩) hHeld ?_ ?_
      rotate_left
      ·
       rintro w' ⟨s0, s1, s2, s3, s4, s5⟩
       go_simp
       with_reducible rfl
      rotate_left
      ·
       simp only [Act.put, List.setIfInBounds_toArray, List.set_cons_zero, List.set_cons_succ, i64_w, i32_w]
       rfl
      refine one_ (i := 2) (N := some 47) #[true, true, true, false, false] rfl rfl (by kernel_rfl) (by decide) (fun K hK => ?_)
      refine goes_ Try.func22 (by kernel_rfl) rfl #[.agg #[.bool a0_0, .slice A0_1 l0_1.length c0_1, .slice A0_2 l0_2.length c0_2]] (by rfl) rfl rfl (by (try simp only [List.map_toArray, List.map_cons, List.map_nil]); first | done | rfl | (simp only [List.length_drop, List.length_take]; rfl)) ?_
      with_reducible refine (laws_toRat.calls kj11 a0_0 _ _ l0_1 _ _ l0_2 t696 t697 t700 _ ?side1 ?side2 ?side3 ?side4 A63.out).mono ?_
      (case side1 => exact crC (Kd.C_below HR0_1.out HB.out))
      (case side2 => exact HC0_1.out)
      (case side3 => exact crC (Kd.C_below HR0_2.out HB.out))
      (case side4 => exact HC0_2.out)
      rintro e w69 ⟨v698, v701, rfl, ho0, ho1, hb⟩
      refine ⟨_, rfl, ?_⟩
      have HO699 := lwR (nwR (nwR (nwR (nwR (nwR (nwR ho0 HO_678001) HO_678002) HO_686001) HO_686002) HO_695001) HO_695002) HB
      have HO702 := lwR (nwR (nwR (nwR (nwR (nwR (nwR ho1 HO_678001) HO_678002) HO_686001) HO_686002) HO_695001) HO_695002) HB
      replace HO_678001 := tldR HO_678001 hb (Kd.R_base ho0) (Kd.R_base ho1)
      replace HO_678002 := tldR HO_678002 hb (Kd.R_base ho0) (Kd.R_base ho1)
      replace HO_686001 := tldR HO_686001 hb (Kd.R_base ho0) (Kd.R_base ho1)
      replace HO_686002 := tldR HO_686002 hb (Kd.R_base ho0) (Kd.R_base ho1)
      replace HO_695001 := tldR HO_695001 hb (Kd.R_base ho0) (Kd.R_base ho1)
      replace HO_695002 := tldR HO_695002 hb (Kd.R_base ho0) (Kd.R_base ho1)
      replace BK660 := bkb BK660 hb
      replace BK677 := bkb BK677 hb
      replace BK685 := bkb BK685 hb
      replace BK694 := bkb BK694 hb
      replace HB := bst HB hb
      (try clear hb)
      (try clear hb2)
      (try clear hk)
      (try clear hi)
      (try clear ho0)
      (try clear ho1)
      obtain ⟨Ao70, co70, eo70⟩ := Kd.R_slice HO699.out
      (first | subst eo70 | (injection eo70 with f1_ f2_ f3_; have f4_ := f1_.symm; have f5_ := f3_.symm; clear f1_ f2_ f3_; subst f4_; subst f5_))
      obtain ⟨Ao71, co71, eo71⟩ := Kd.R_slice HO702.out
      (first | subst eo71 | (injection eo71 with f1_ f2_ f3_; have f4_ := f1_.symm; have f5_ := f3_.symm; clear f1_ f2_ f3_; subst f4_; subst f5_))
      refine hK.out _ _ ⟨bce BK685 0 _, bce BK685 1 _, bce BK685 2 _, bce BK660 0 _, bce BK660 1 _, bce BK660 2 _⟩ (fun hHeld => ?_)
      clear hK K
      refine norm_ (a' := ?_) ?_ ?_
      rotate_left
      ·
       show Act.put _ (some 47) _ = _
       simp only [Act.put, List.setIfInBounds_toArray, List.set_cons_zero, List.set_cons_succ, i64_w, i32_w]
       rfl
      refine one_ (i := 3) (N := some 48) #[true, true, true, true, false] rfl rfl (by kernel_rfl) (by decide) (fun K hK => ?_)
      refine goes_ Try.func17 (by kernel_rfl) rfl #[.agg #[.bool t678, .slice Ao32 t679.length co32, .slice Ao33 t682.length co33], .agg #[.bool t696, .slice Ao70 t697.length co70, .slice Ao71 t700.length co71]] (by rfl) rfl rfl (by (try simp only [List.map_toArray, List.map_cons, List.map_nil]); first | done | rfl | (simp only [List.length_drop, List.length_take]; rfl)) ?_
      with_reducible refine (laws_eqRat.calls kj11 t678 _ _ t679 _ _ t682 t696 _ _ t697 _ _ t700 true _ ?side1 ?side2 ?side3 ?side4 ?side5 ?side6 ?side7 ?side8 A64.out).mono ?_
      (case side1 => exact crC (Kd.R_reads' HO_686001.out).2.2)
      (case side2 => exact (Kd.R_reads' HO_686001.out).2.1)
      (case side3 => exact crC (Kd.R_reads' HO_686002.out).2.2)
      (case side4 => exact (Kd.R_reads' HO_686002.out).2.1)
      (case side5 => exact crC (Kd.R_reads' HO699.out).2.2)
      (case side6 => exact (Kd.R_reads' HO699.out).2.1)
      (case side7 => exact crC (Kd.R_reads' HO702.out).2.2)
      (case side8 => exact (Kd.R_reads' HO702.out).2.1)
      rintro e w72 ⟨rfl, hb⟩
      refine ⟨_, rfl, ?_⟩
      replace HO_678001 := rblR HO_678001 hb
      replace HO_678002 := rblR HO_678002 hb
      replace HO_686001 := rblR HO_686001 hb
      replace HO_686002 := rblR HO_686002 hb
      replace HO_695001 := rblR HO_695001 hb
      replace HO_695002 := rblR HO_695002 hb
      replace HO699 := rblR HO699 hb
      replace HO702 := rblR HO702 hb
      replace BK660 := bkb BK660 hb
      replace BK677 := bkb BK677 hb
      replace BK685 := bkb BK685 hb
      replace BK694 := bkb BK694 hb
      replace HB := bst HB hb
      (try clear hb)
      (try clear hb2)
      (try clear hk)
      (try clear hi)
      refine hK.out _ _ ⟨bce BK685 0 _, bce BK685 1 _, bce BK685 2 _, bce BK660 0 _, bce BK660 1 _, bce BK660 2 _⟩ (fun hHeld => ?_)
      clear hK K
      refine norm_ (a' := ?_) ?_ ?_
      rotate_left
      ·
       show Act.put _ (some 48) _ = _
       simp only [Act.put, List.setIfInBounds_toArray, List.set_cons_zero, List.set_cons_succ, i64_w, i32_w]
       rfl
      refine pure_ (i := 4) (N := some 49) (v := ?_) (a' := ?_) #[true, true, true, true, true] rfl rfl (by kernel_rfl) (fun _ _ _ h => h) (Or.inl ⟨by rfl, ?_⟩) ?_ ?_
      rotate_left
      ·
       intro w'
       go_simp
       with_reducible rfl
      rotate_left
      ·
       simp only [Act.put, List.setIfInBounds_toArray, List.set_cons_zero, List.set_cons_succ, i64_w, i32_w]
       rfl
      refine done_ (by kernel_rfl) ?_
      have hnb73 := NB685_660.out
      have hnc73 := NB660_685.out
      have hnb74 := NB685_677.out
      have hnc74 := NB677_685.out
      have hnb75 := NB685_694.out
      have hnc75 := NB694_685.out
      have hcz76_0 := bce BK685 0 (.bool t678)
      have hcz76_1 := bce BK685 1 (.slice Ao32 t679.length co32)
      have hcz76_2 := bce BK685 2 (.slice Ao33 t682.length co33)
      have hfz76_0 := blk_frozen BK685.out 0
      have hfz76_1 := blk_frozen BK685.out 1
      have hfz76_2 := blk_frozen BK685.out 2
      go_upto_region 14 with (first | ((with_reducible refine gate_callee (f := 18) rfl ?_); refine goesL_ (some 52) rfl rfl Try.func18 (by kernel_rfl) rfl #[.agg #[.bool t678, .slice Ao32 t679.length co32, .slice Ao33 t682.length co33], .int .i64 1] rfl (by (try simp only [List.map_toArray, List.map_cons, List.map_nil]); first | done | rfl | (simp only [List.length_drop, List.length_take]; rfl)) ?_; (with_reducible refine (laws_markRat.calls kj11 t678 (fun k_ => some k_ = (.slice Ao32 t679.length co32 : Value).ownBlock) (.slice Ao32 t679.length co32) t679 (fun k_ => some k_ = (.slice Ao33 t682.length co33 : Value).ownBlock) (.slice Ao33 t682.length co33) t682 1 t704 t705 t706 w _ ?side1 ?side2 ?side3 ?side4 ?side5 A66.out).mono ?_); (case side1 => repeat (first | (with_reducible first | exact HB.out | apply below_alloc | apply pw_below_drewN | apply below_drew1 | refine below_set ?_ GE660.out | refine below_set ?_ GE677.out | refine below_set ?_ GE685.out | refine below_set ?_ GE694.out) | exact HB.out)); (case side2 => exact Kd.R_tight rfl HO_686001.out); (case side3 => exact fun k_ e_ => (HO_686001.out.1 k_ e_.symm).1.1.2.2.1); (case side4 => exact Kd.R_tight rfl HO_686002.out); (case side5 => exact fun k_ e_ => (HO_686002.out.1 k_ e_.symm).1.1.2.2.1); rintro e w77 ⟨rfl, hy0, hy1, hb, hkp⟩; refine ⟨_, rfl, ?_⟩; replace HO_678001 := Aside0.mk (Kd.R_mono (ok' := fun k_ => nO k_ (.slice Ao25 t673.length co25) ∧ nO k_ (.slice Ao32 t679.length co32) ∧ nO k_ (.slice Ao33 t682.length co33) ∧ nO k_ (.slice Ao42 t687.length co42) ∧ nO k_ (.slice Ao43 t690.length co43) ∧ nO k_ (.slice Ao70 t697.length co70) ∧ nO k_ (.slice Ao71 t700.length co71)) (Kd.R_keptB (HO_678001.out) hkp (fun k_ hk_ hs_ => Or.elim hs_ (fun e_ => (hk_.1.1.2.1) e_) (fun e_ => (hk_.1.1.2.2.1) e_))) (fun k_ hk_ => ⟨hk_.1.1.1.1, hk_.1.1.1.2.1, hk_.1.1.1.2.2.1, hk_.1.1.1.2.2.2.1, hk_.1.1.1.2.2.2.2, hk_.1.1.2, hk_.1.2⟩)); replace HO_678002 := Aside0.mk (Kd.R_mono (ok' := fun k_ => nO k_ (.slice Ao24 t670.length co24) ∧ nO k_ (.slice Ao32 t679.length co32) ∧ nO k_ (.slice Ao33 t682.length co33) ∧ nO k_ (.slice Ao42 t687.length co42) ∧ nO k_ (.slice Ao43 t690.length co43) ∧ nO k_ (.slice Ao70 t697.length co70) ∧ nO k_ (.slice Ao71 t700.length co71)) (Kd.R_keptB (HO_678002.out) hkp (fun k_ hk_ hs_ => Or.elim hs_ (fun e_ => (hk_.1.1.2.1) e_) (fun e_ => (hk_.1.1.2.2.1) e_))) (fun k_ hk_ => ⟨hk_.1.1.1.1, hk_.1.1.1.2.1, hk_.1.1.1.2.2.1, hk_.1.1.1.2.2.2.1, hk_.1.1.1.2.2.2.2, hk_.1.1.2, hk_.1.2⟩)); replace HO_695001 := Aside0.mk (Kd.R_mono (ok' := fun k_ => nO k_ (.slice Ao24 t670.length co24) ∧ nO k_ (.slice Ao25 t673.length co25) ∧ nO k_ (.slice Ao32 t679.length co32) ∧ nO k_ (.slice Ao33 t682.length co33) ∧ nO k_ (.slice Ao43 t690.length co43) ∧ nO k_ (.slice Ao70 t697.length co70) ∧ nO k_ (.slice Ao71 t700.length co71)) (Kd.R_keptB (HO_695001.out) hkp (fun k_ hk_ hs_ => Or.elim hs_ (fun e_ => (hk_.1.1.2.2.1) e_) (fun e_ => (hk_.1.1.2.2.2.1) e_))) (fun k_ hk_ => ⟨hk_.1.1.1.1, hk_.1.1.1.2.1, hk_.1.1.1.2.2.1, hk_.1.1.1.2.2.2.1, hk_.1.1.1.2.2.2.2, hk_.1.1.2, hk_.1.2⟩)); replace HO_695002 := Aside0.mk (Kd.R_mono (ok' := fun k_ => nO k_ (.slice Ao24 t670.length co24) ∧ nO k_ (.slice Ao25 t673.length co25) ∧ nO k_ (.slice Ao32 t679.length co32) ∧ nO k_ (.slice Ao33 t682.length co33) ∧ nO k_ (.slice Ao42 t687.length co42) ∧ nO k_ (.slice Ao70 t697.length co70) ∧ nO k_ (.slice Ao71 t700.length co71)) (Kd.R_keptB (HO_695002.out) hkp (fun k_ hk_ hs_ => Or.elim hs_ (fun e_ => (hk_.1.1.2.2.1) e_) (fun e_ => (hk_.1.1.2.2.2.1) e_))) (fun k_ hk_ => ⟨hk_.1.1.1.1, hk_.1.1.1.2.1, hk_.1.1.1.2.2.1, hk_.1.1.1.2.2.2.1, hk_.1.1.1.2.2.2.2, hk_.1.1.2, hk_.1.2⟩)); replace BK660 := Aside0.mk (blk_kept (crb BK660) hkp (fun hs_ => Or.elim hs_ (fun e_ => (fun e_ => (Kd.R_ne HO_686001.out BK660.out (by decide)) e_) e_) (fun e_ => (fun e_ => (Kd.R_ne HO_686002.out BK660.out (by decide)) e_) e_))); replace BK677 := Aside0.mk (blk_kept (crb BK677) hkp (fun hs_ => Or.elim hs_ (fun e_ => (fun e_ => (Kd.R_ne HO_686001.out BK677.out (by decide)) e_) e_) (fun e_ => (fun e_ => (Kd.R_ne HO_686002.out BK677.out (by decide)) e_) e_))); replace BK685 := Aside0.mk (blk_kept (crb BK685) hkp (fun hs_ => Or.elim hs_ (fun e_ => (fun e_ => (Kd.R_ne HO_686001.out BK685.out (by decide)) e_) e_) (fun e_ => (fun e_ => (Kd.R_ne HO_686002.out BK685.out (by decide)) e_) e_))); replace BK694 := Aside0.mk (blk_kept (crb BK694) hkp (fun hs_ => Or.elim hs_ (fun e_ => (fun e_ => (Kd.R_ne HO_686001.out BK694.out (by decide)) e_) e_) (fun e_ => (fun e_ => (Kd.R_ne HO_686002.out BK694.out (by decide)) e_) e_))); replace HO_686001 := Aside0.mk (Kd.R_reok rfl hy0 (fun k_ e_ => HO_686001.out.1 k_ e_)); replace HO_686002 := Aside0.mk (Kd.R_reok rfl hy1 (fun k_ e_ => HO_686002.out.1 k_ e_)); replace HO699 := Aside0.mk (Kd.R_mono (ok' := fun k_ => nO k_ (.slice Ao24 t670.length co24) ∧ nO k_ (.slice Ao25 t673.length co25) ∧ nO k_ (.slice Ao32 t679.length co32) ∧ nO k_ (.slice Ao33 t682.length co33) ∧ nO k_ (.slice Ao42 t687.length co42) ∧ nO k_ (.slice Ao43 t690.length co43) ∧ nO k_ (.slice Ao71 t700.length co71)) (Kd.R_keptB (HO699.out) hkp (fun k_ hk_ hs_ => Or.elim hs_ (fun e_ => (hk_.1.1.1.2) e_) (fun e_ => (hk_.1.1.2) e_))) (fun k_ hk_ => ⟨hk_.1.1.1.1.1.1.2, hk_.1.1.1.1.1.2, hk_.1.1.1.1.2, hk_.1.1.1.2, hk_.1.1.2, hk_.1.2, hk_.1.1.1.1.1.1.1⟩)); replace HO702 := Aside0.mk (Kd.R_mono (ok' := fun k_ => nO k_ (.slice Ao24 t670.length co24) ∧ nO k_ (.slice Ao25 t673.length co25) ∧ nO k_ (.slice Ao32 t679.length co32) ∧ nO k_ (.slice Ao33 t682.length co33) ∧ nO k_ (.slice Ao42 t687.length co42) ∧ nO k_ (.slice Ao43 t690.length co43) ∧ nO k_ (.slice Ao70 t697.length co70)) (Kd.R_keptB (HO702.out) hkp (fun k_ hk_ hs_ => Or.elim hs_ (fun e_ => (hk_.1.1.1.2) e_) (fun e_ => (hk_.1.1.2) e_))) (fun k_ hk_ => ⟨hk_.1.1.1.1.1.1.2, hk_.1.1.1.1.1.2, hk_.1.1.1.1.2, hk_.1.1.1.2, hk_.1.1.2, hk_.1.2, hk_.1.1.1.1.1.1.1⟩)); replace HB := Aside0.mk (hb); (try clear hb); (try clear hkp); (try clear hy0); (try clear hy1)))
      (try simp only [Act.put, List.setIfInBounds_toArray, List.set_cons_zero, List.set_cons_succ])
      go_cut [65] (fun v65 wc => ∃ (kq : Nat) (x65_66 : Bool), v65 = .bool x65_66 ∧ Aside0 (laws_FnExactPowRat.j1 kq a1 t676 x65_66 a0_0 l0_1 l0_2 t669 t670 t673 t686 t687 t690 = some r) ∧ Aside0 (kq ≤ kj11) ∧ Aside0 (Kd.R (Kd.int .i64) 3 wc w.heap.size (fun k_ => nO k_ (.slice Ao25 t673.length co25) ∧ nO k_ (.slice Ao42 t687.length co42) ∧ nO k_ (.slice Ao43 t690.length co43)) (.slice Ao24 t670.length co24) t670) ∧ Aside0 (Kd.R (Kd.int .i64) 3 wc w.heap.size (fun k_ => nO k_ (.slice Ao24 t670.length co24) ∧ nO k_ (.slice Ao42 t687.length co42) ∧ nO k_ (.slice Ao43 t690.length co43)) (.slice Ao25 t673.length co25) t673) ∧ Aside0 (Kd.R (Kd.int .i64) 3 wc w.heap.size (fun k_ => nO k_ (.slice Ao24 t670.length co24) ∧ nO k_ (.slice Ao25 t673.length co25) ∧ nO k_ (.slice Ao43 t690.length co43)) (.slice Ao42 t687.length co42) t687) ∧ Aside0 (Kd.R (Kd.int .i64) 3 wc w.heap.size (fun k_ => nO k_ (.slice Ao24 t670.length co24) ∧ nO k_ (.slice Ao25 t673.length co25) ∧ nO k_ (.slice Ao42 t687.length co42)) (.slice Ao43 t690.length co43) t690) ∧ Aside0 (wc.heap[gb660]? = some (.cells #[.bool a0_0, (.slice A0_1 l0_1.length c0_1), (.slice A0_2 l0_2.length c0_2)] 30 (0, 0))) ∧ Aside0 (wc.heap[gb677]? = some (.cells #[.bool t669, (.slice Ao24 t670.length co24), (.slice Ao25 t673.length co25)] 24 (0, 0))) ∧ Aside0 (wc.heap[gb694]? = some (.cells #[.bool t686, (.slice Ao42 t687.length co42), (.slice Ao43 t690.length co43)] 24 (0, 0))) ∧ Aside0 (Below w.heap.size w wc))
      case first =>
       have H := HC67.out
       clear HC67
       by_cases c78 : t704 < 0
       ·
        rw [if_pos c78] at H
        have c78b0 : decide (t704 < 0) = true := decide_eq_true c78
        clear c78
        (first | rw [c78b0] | (simp only [i64_w, i32_w]; rw [c78b0]) | skip)
        have H' := Aside0.mk H
        clear H
        go_wp2
        go_meet
        case rel => exact ⟨_, (true), (by first | rfl | (simp; done) | (simp [*]; done)), H', ⟨by have := HJ11.out; first | omega | exact Nat.le_refl _⟩, ⟨crM HO_678001 fun _ hk => ⟨hk.1, hk.2.2.2.1, hk.2.2.2.2.1⟩⟩, ⟨crM HO_678002 fun _ hk => ⟨hk.1, hk.2.2.2.1, hk.2.2.2.2.1⟩⟩, ⟨crM HO_695001 fun _ hk => ⟨hk.1, hk.2.1, hk.2.2.2.2.1⟩⟩, ⟨crM HO_695002 fun _ hk => ⟨hk.1, hk.2.1, hk.2.2.2.2.1⟩⟩, ⟨crb BK660⟩, ⟨crb BK677⟩, ⟨crb BK694⟩, ⟨blw HB⟩⟩
       ·
        rw [if_neg c78] at H
        have c78b0 : decide (t704 < 0) = false := decide_eq_false c78
        clear c78
        (first | rw [c78b0] | (simp only [i64_w, i32_w]; rw [c78b0]) | skip)
        replace H := Option.bind_eq_some_iff.mp H
        obtain ⟨t707, A790, H⟩ := H
        replace H : (if t707 = true then (laws_FnExactPowRat.j1 kj11 a1 t676 (t693 != t676) a0_0 l0_1 l0_2 t669 t670 t673 t686 t687 t690) else (laws_FnExactPowRat.j1 kj11 a1 t676 true a0_0 l0_1 l0_2 t669 t670 t673 t686 t687 t690)) = some r := H
        have A79 := Aside0.mk A790
        clear A790
        by_cases c80 : t707 = true
        ·
         subst c80
         have H1 : (laws_FnExactPowRat.j1 kj11 a1 t676 (t693 != t676) a0_0 l0_1 l0_2 t669 t670 t673 t686 t687 t690) = some r := by rw [if_pos rfl] at H; exact H
         clear H
         have H := H1
         clear H1
         have H' := Aside0.mk H
         clear H
         have hnb81 := NB694_660.out
         have hnc81 := NB660_694.out
         have hnb82 := NB694_677.out
         have hnc82 := NB677_694.out
         have hnb83 := NB694_685.out
         have hnc83 := NB685_694.out
         have hcz84_0 := bce BK694 0 (.bool t686)
         have hcz84_1 := bce BK694 1 (.slice Ao42 t687.length co42)
         have hcz84_2 := bce BK694 2 (.slice Ao43 t690.length co43)
         have hfz84_0 := blk_frozen BK694.out 0
         have hfz84_1 := blk_frozen BK694.out 1
         have hfz84_2 := blk_frozen BK694.out 2
         have hnb85 := NB677_660.out
         have hnc85 := NB660_677.out
         have hnb86 := NB677_685.out
         have hnc86 := NB685_677.out
         have hcz87_0 := bce BK677 0 (.bool t669)
         have hcz87_1 := bce BK677 1 (.slice Ao24 t670.length co24)
         have hcz87_2 := bce BK677 2 (.slice Ao25 t673.length co25)
         have hfz87_0 := blk_frozen BK677.out 0
         have hfz87_1 := blk_frozen BK677.out 1
         have hfz87_2 := blk_frozen BK677.out 2
         go_wp2_with (first | (go_at_call 17; (with_reducible refine (laws_eqRat.calls kj11 t686 _ _ t687 _ _ t690 t669 _ _ t670 _ _ t673 true _ ?side1 ?side2 ?side3 ?side4 ?side5 ?side6 ?side7 ?side8 A79.out).mono ?_); (case side1 => exact crC (Kd.R_reads' HO_695001.out).2.2); (case side2 => exact (Kd.R_reads' HO_695001.out).2.1); (case side3 => exact crC (Kd.R_reads' HO_695002.out).2.2); (case side4 => exact (Kd.R_reads' HO_695002.out).2.1); (case side5 => exact crC (Kd.R_reads' HO_678001.out).2.2); (case side6 => exact (Kd.R_reads' HO_678001.out).2.1); (case side7 => exact crC (Kd.R_reads' HO_678002.out).2.2); (case side8 => exact (Kd.R_reads' HO_678002.out).2.1); rintro e w88 ⟨rfl, hb⟩; replace HO_678001 := rblR HO_678001 hb; replace HO_678002 := rblR HO_678002 hb; replace HO_686001 := rblR HO_686001 hb; replace HO_686002 := rblR HO_686002 hb; replace HO_695001 := rblR HO_695001 hb; replace HO_695002 := rblR HO_695002 hb; replace HO699 := rblR HO699 hb; replace HO702 := rblR HO702 hb; replace BK660 := bkb BK660 hb; replace BK677 := bkb BK677 hb; replace BK685 := bkb BK685 hb; replace BK694 := bkb BK694 hb; replace HB := bst HB hb; (try clear hb); (try clear hb2); (try clear hk); (try clear hi)))
         go_meet
         case rel => exact ⟨_, ((t693 != t676)), (by first | rfl | (simp; done) | (simp [*]; done)), H', ⟨by have := HJ11.out; first | omega | exact Nat.le_refl _⟩, ⟨crM HO_678001 fun _ hk => ⟨hk.1, hk.2.2.2.1, hk.2.2.2.2.1⟩⟩, ⟨crM HO_678002 fun _ hk => ⟨hk.1, hk.2.2.2.1, hk.2.2.2.2.1⟩⟩, ⟨crM HO_695001 fun _ hk => ⟨hk.1, hk.2.1, hk.2.2.2.2.1⟩⟩, ⟨crM HO_695002 fun _ hk => ⟨hk.1, hk.2.1, hk.2.2.2.2.1⟩⟩, ⟨crb BK660⟩, ⟨crb BK677⟩, ⟨crb BK694⟩, ⟨blw HB⟩⟩
        ·
         replace c80 := Bool.eq_false_iff.mpr c80
         subst c80
         have H1 : (laws_FnExactPowRat.j1 kj11 a1 t676 true a0_0 l0_1 l0_2 t669 t670 t673 t686 t687 t690) = some r := by rw [if_neg (show ¬ (false = true) by decide)] at H; exact H
         clear H
         have H := H1
         clear H1
         have H' := Aside0.mk H
         clear H
         have hnb89 := NB694_660.out
         have hnc89 := NB660_694.out
         have hnb90 := NB694_677.out
         have hnc90 := NB677_694.out
         have hnb91 := NB694_685.out
         have hnc91 := NB685_694.out
         have hcz92_0 := bce BK694 0 (.bool t686)
         have hcz92_1 := bce BK694 1 (.slice Ao42 t687.length co42)
         have hcz92_2 := bce BK694 2 (.slice Ao43 t690.length co43)
         have hfz92_0 := blk_frozen BK694.out 0
         have hfz92_1 := blk_frozen BK694.out 1
         have hfz92_2 := blk_frozen BK694.out 2
         have hnb93 := NB677_660.out
         have hnc93 := NB660_677.out
         have hnb94 := NB677_685.out
         have hnc94 := NB685_677.out
         have hcz95_0 := bce BK677 0 (.bool t669)
         have hcz95_1 := bce BK677 1 (.slice Ao24 t670.length co24)
         have hcz95_2 := bce BK677 2 (.slice Ao25 t673.length co25)
         have hfz95_0 := blk_frozen BK677.out 0
         have hfz95_1 := blk_frozen BK677.out 1
         have hfz95_2 := blk_frozen BK677.out 2
         go_wp2_with (first | (go_at_call 17; (with_reducible refine (laws_eqRat.calls kj11 t686 _ _ t687 _ _ t690 t669 _ _ t670 _ _ t673 false _ ?side1 ?side2 ?side3 ?side4 ?side5 ?side6 ?side7 ?side8 A79.out).mono ?_); (case side1 => exact crC (Kd.R_reads' HO_695001.out).2.2); (case side2 => exact (Kd.R_reads' HO_695001.out).2.1); (case side3 => exact crC (Kd.R_reads' HO_695002.out).2.2); (case side4 => exact (Kd.R_reads' HO_695002.out).2.1); (case side5 => exact crC (Kd.R_reads' HO_678001.out).2.2); (case side6 => exact (Kd.R_reads' HO_678001.out).2.1); (case side7 => exact crC (Kd.R_reads' HO_678002.out).2.2); (case side8 => exact (Kd.R_reads' HO_678002.out).2.1); rintro e w96 ⟨rfl, hb⟩; replace HO_678001 := rblR HO_678001 hb; replace HO_678002 := rblR HO_678002 hb; replace HO_686001 := rblR HO_686001 hb; replace HO_686002 := rblR HO_686002 hb; replace HO_695001 := rblR HO_695001 hb; replace HO_695002 := rblR HO_695002 hb; replace HO699 := rblR HO699 hb; replace HO702 := rblR HO702 hb; replace BK660 := bkb BK660 hb; replace BK677 := bkb BK677 hb; replace BK685 := bkb BK685 hb; replace BK694 := bkb BK694 hb; replace HB := bst HB hb; (try clear hb); (try clear hb2); (try clear hk); (try clear hi)))
         go_meet
         case rel => exact ⟨_, (true), (by first | rfl | (simp; done) | (simp [*]; done)), H', ⟨by have := HJ11.out; first | omega | exact Nat.le_refl _⟩, ⟨crM HO_678001 fun _ hk => ⟨hk.1, hk.2.2.2.1, hk.2.2.2.2.1⟩⟩, ⟨crM HO_678002 fun _ hk => ⟨hk.1, hk.2.2.2.1, hk.2.2.2.2.1⟩⟩, ⟨crM HO_695001 fun _ hk => ⟨hk.1, hk.2.1, hk.2.2.2.2.1⟩⟩, ⟨crM HO_695002 fun _ hk => ⟨hk.1, hk.2.1, hk.2.2.2.2.1⟩⟩, ⟨crb BK660⟩, ⟨crb BK677⟩, ⟨crb BK694⟩, ⟨blw HB⟩⟩
      case rest =>
       clear HC67
       try clear c1
       try clear c2
       try clear p2
       try clear c3
       try clear c4
       try clear c4b0
       try clear c5
       try clear c6
       try clear c7
       try clear c8
       try clear c9
       try clear c10
       try clear c17
       try clear c18
       try clear c20
       try clear c22
       try clear c29
       try clear c30
       try clear c34
       try clear c35
       try clear c38
       try clear c39
       try clear c40
       try clear c45
       try clear c46
       try clear c47
       try clear c48
       try clear c50
       try clear c51
       try clear c54
       try clear c55
       try clear c56
       try clear c58
       try clear c59
       try clear c62
       try clear c65
       try clear c73
       try clear c74
       try clear c75
       try clear c78
       try clear c78b0
       try clear c80
       try clear c81
       try clear c82
       try clear c83
       try clear c85
       try clear c86
       try clear c89
       try clear c90
       try clear c91
       try clear c93
       try clear c94
       try clear hcz14_0
       try clear hcz14_1
       try clear hcz14_2
       try clear hcz16_0
       try clear hcz16_1
       try clear hcz16_2
       try clear hcz23_0
       try clear hcz23_1
       try clear hcz23_2
       try clear hcz26_0
       try clear hcz26_1
       try clear hcz26_2
       try clear hcz31_0
       try clear hcz31_1
       try clear hcz31_2
       try clear hcz35_0
       try clear hcz35_1
       try clear hcz35_2
       try clear hcz41_0
       try clear hcz41_1
       try clear hcz41_2
       try clear hcz49_0
       try clear hcz49_1
       try clear hcz49_2
       try clear hcz52_0
       try clear hcz52_1
       try clear hcz52_2
       try clear hcz57_0
       try clear hcz57_1
       try clear hcz57_2
       try clear hcz60_0
       try clear hcz60_1
       try clear hcz60_2
       try clear hcz6_0
       try clear hcz6_1
       try clear hcz6_2
       try clear hcz76_0
       try clear hcz76_1
       try clear hcz76_2
       try clear hcz84_0
       try clear hcz84_1
       try clear hcz84_2
       try clear hcz87_0
       try clear hcz87_1
       try clear hcz87_2
       try clear hcz92_0
       try clear hcz92_1
       try clear hcz92_2
       try clear hcz95_0
       try clear hcz95_1
       try clear hcz95_2
       try clear hfz14_0
       try clear hfz14_1
       try clear hfz14_2
       try clear hfz16_0
       try clear hfz16_1
       try clear hfz16_2
       try clear hfz23_0
       try clear hfz23_1
       try clear hfz23_2
       try clear hfz26_0
       try clear hfz26_1
       try clear hfz26_2
       try clear hfz31_0
       try clear hfz31_1
       try clear hfz31_2
       try clear hfz35_0
       try clear hfz35_1
       try clear hfz35_2
       try clear hfz41_0
       try clear hfz41_1
       try clear hfz41_2
       try clear hfz49_0
       try clear hfz49_1
       try clear hfz49_2
       try clear hfz52_0
       try clear hfz52_1
       try clear hfz52_2
       try clear hfz57_0
       try clear hfz57_1
       try clear hfz57_2
       try clear hfz60_0
       try clear hfz60_1
       try clear hfz60_2
       try clear hfz6_0
       try clear hfz6_1
       try clear hfz6_2
       try clear hfz76_0
       try clear hfz76_1
       try clear hfz76_2
       try clear hfz84_0
       try clear hfz84_1
       try clear hfz84_2
       try clear hfz87_0
       try clear hfz87_1
       try clear hfz87_2
       try clear hfz92_0
       try clear hfz92_1
       try clear hfz92_2
       try clear hfz95_0
       try clear hfz95_1
       try clear hfz95_2
       try clear p2
       obtain ⟨kq, x65_66, rfl, HA, HJ66, HO_678001, HO_678002, HO_695001, HO_695002, BK660, BK677, BK694, HB⟩ := hcut
       cases kq with
       | zero => exact absurd HA.out (by simp [laws_FnExactPowRat.j1])
       | succ kj66 =>
        have H := HA.out
        clear HA
        simp only [laws_FnExactPowRat.j1] at H
        by_cases c97 : x65_66 = true
        ·
         subst c97
         have H1 : (some false) = some r := by rw [if_pos rfl] at H; exact H
         clear H
         have H := H1
         clear H1
         obtain rfl := Option.some.inj H
         exact absurd hr_ (by decide)
        ·
         replace c97 := Bool.eq_false_iff.mpr c97
         subst c97
         have H1 : ((laws_markRat.f kj66 t686 t687 t690 1).bind fun bt708 => ((laws_heldRat.f kj66 t686 bt708.2.1 bt708.2.2 1).bind fun t711 => (if t711 < 0 then (some false) else (if t711 = bt708.1 then ((laws_toRat.f kj66 a0_0 l0_1 l0_2).bind fun bt712 => ((impl_PowRat.f kj66 bt712.1 bt712.2.1 bt712.2.2 a1).bind fun bt719 => ((laws_eqRat.f kj66 bt719.1 bt719.2.1 bt719.2.2.1 t669 t670 t673).bind fun t728 => (if t728 = true then (laws_FnExactPowRat.j2 kj66 bt708.1 (bt719.2.2.2 != t676) t686 bt708.2.1 bt708.2.2) else (laws_FnExactPowRat.j2 kj66 bt708.1 true t686 bt708.2.1 bt708.2.2))))) else (some false))))) = some r := by rw [if_neg (show ¬ (false = true) by decide)] at H; exact H
         clear H
         have H := H1
         clear H1
         replace H := Option.bind_eq_some_iff.mp H
         obtain ⟨⟨t708, t709, t710⟩, A980, H⟩ := H
         replace H : ((laws_heldRat.f kj66 t686 t709 t710 1).bind fun t711 => (if t711 < 0 then (some false) else (if t711 = t708 then ((laws_toRat.f kj66 a0_0 l0_1 l0_2).bind fun bt712 => ((impl_PowRat.f kj66 bt712.1 bt712.2.1 bt712.2.2 a1).bind fun bt719 => ((laws_eqRat.f kj66 bt719.1 bt719.2.1 bt719.2.2.1 t669 t670 t673).bind fun t728 => (if t728 = true then (laws_FnExactPowRat.j2 kj66 t708 (bt719.2.2.2 != t676) t686 t709 t710) else (laws_FnExactPowRat.j2 kj66 t708 true t686 t709 t710))))) else (some false)))) = some r := H
         have A98 := Aside0.mk A980
         clear A980
         replace H := Option.bind_eq_some_iff.mp H
         obtain ⟨t711, A990, H⟩ := H
         replace H : (if t711 < 0 then (some false) else (if t711 = t708 then ((laws_toRat.f kj66 a0_0 l0_1 l0_2).bind fun bt712 => ((impl_PowRat.f kj66 bt712.1 bt712.2.1 bt712.2.2 a1).bind fun bt719 => ((laws_eqRat.f kj66 bt719.1 bt719.2.1 bt719.2.2.1 t669 t670 t673).bind fun t728 => (if t728 = true then (laws_FnExactPowRat.j2 kj66 t708 (bt719.2.2.2 != t676) t686 t709 t710) else (laws_FnExactPowRat.j2 kj66 t708 true t686 t709 t710))))) else (some false))) = some r := H
         have A99 := Aside0.mk A990
         clear A990
         by_cases c100 : t711 < 0
         ·
          rw [if_pos c100] at H
          have c100b0 : decide (t711 < 0) = true := decide_eq_true c100
          clear c100
          obtain rfl := Option.some.inj H
          exact absurd hr_ (by decide)
         ·
          rw [if_neg c100] at H
          have c100b0 : decide (t711 < 0) = false := decide_eq_false c100
          clear c100
          by_cases c107 : t711 = t708
          ·
           rw [if_pos c107] at H
           have c107b0 : (t711 == t708) = true := beq_iff_eq.mpr c107
           have c107b1 : (t711 != t708) = false := bne_eq_false_iff_eq.mpr c107
           clear c107
           replace H := Option.bind_eq_some_iff.mp H
           obtain ⟨⟨t712, t713, t716⟩, A1080, H⟩ := H
           replace H : ((impl_PowRat.f kj66 t712 t713 t716 a1).bind fun bt719 => ((laws_eqRat.f kj66 bt719.1 bt719.2.1 bt719.2.2.1 t669 t670 t673).bind fun t728 => (if t728 = true then (laws_FnExactPowRat.j2 kj66 t708 (bt719.2.2.2 != t676) t686 t709 t710) else (laws_FnExactPowRat.j2 kj66 t708 true t686 t709 t710)))) = some r := H
           have A108 := Aside0.mk A1080
           clear A1080
           replace H := Option.bind_eq_some_iff.mp H
           obtain ⟨⟨t719, t720, t723, t726⟩, A1090, H⟩ := H
           replace H : ((laws_eqRat.f kj66 t719 t720 t723 t669 t670 t673).bind fun t728 => (if t728 = true then (laws_FnExactPowRat.j2 kj66 t708 (t726 != t676) t686 t709 t710) else (laws_FnExactPowRat.j2 kj66 t708 true t686 t709 t710))) = some r := H
           have A109 := Aside0.mk A1090
           clear A1090
           have HC110 := Aside0.mk H
           clear H
           have hnb111 := NB694_660.out
           have hnc111 := NB660_694.out
           have hnb112 := NB694_677.out
           have hnc112 := NB677_694.out
           have hcz113_0 := bce BK694 0 (.bool t686)
           have hcz113_1 := bce BK694 1 (.slice Ao42 t687.length co42)
           have hcz113_2 := bce BK694 2 (.slice Ao43 t690.length co43)
           have hfz113_0 := blk_frozen BK694.out 0
           have hfz113_1 := blk_frozen BK694.out 1
           have hfz113_2 := blk_frozen BK694.out 2
           go_upto_region 25 with (first | ((with_reducible refine gate_callee (f := 18) rfl ?_); refine goesL_ (some 68) rfl rfl Try.func18 (by kernel_rfl) rfl #[.agg #[.bool t686, .slice Ao42 t687.length co42, .slice Ao43 t690.length co43], .int .i64 1] rfl (by (try simp only [List.map_toArray, List.map_cons, List.map_nil]); first | done | rfl | (simp only [List.length_drop, List.length_take]; rfl)) ?_; (with_reducible refine (laws_markRat.calls kj66 t686 (fun k_ => some k_ = (.slice Ao42 t687.length co42 : Value).ownBlock) (.slice Ao42 t687.length co42) t687 (fun k_ => some k_ = (.slice Ao43 t690.length co43 : Value).ownBlock) (.slice Ao43 t690.length co43) t690 1 t708 t709 t710 w _ ?side1 ?side2 ?side3 ?side4 ?side5 A98.out).mono ?_); (case side1 => repeat (first | (with_reducible first | exact HB.out | apply below_alloc | apply pw_below_drewN | apply below_drew1 | refine below_set ?_ GE660.out | refine below_set ?_ GE677.out | refine below_set ?_ GE694.out) | exact HB.out)); (case side2 => exact Kd.R_tight rfl HO_695001.out); (case side3 => exact fun k_ e_ => (HO_695001.out.1 k_ e_.symm).2.2); (case side4 => exact Kd.R_tight rfl HO_695002.out); (case side5 => exact fun k_ e_ => (HO_695002.out.1 k_ e_.symm).2.2); rintro e w114 ⟨rfl, hy0, hy1, hb, hkp⟩; refine ⟨_, rfl, ?_⟩; replace HO_678001 := Aside0.mk (Kd.R_mono (ok' := fun k_ => nO k_ (.slice Ao25 t673.length co25) ∧ nO k_ (.slice Ao42 t687.length co42) ∧ nO k_ (.slice Ao43 t690.length co43)) (Kd.R_keptB (HO_678001.out) hkp (fun k_ hk_ hs_ => Or.elim hs_ (fun e_ => (hk_.2.1) e_) (fun e_ => (hk_.2.2) e_))) (fun k_ hk_ => ⟨hk_.1.1, hk_.1.2.1, hk_.1.2.2⟩)); replace HO_678002 := Aside0.mk (Kd.R_mono (ok' := fun k_ => nO k_ (.slice Ao24 t670.length co24) ∧ nO k_ (.slice Ao42 t687.length co42) ∧ nO k_ (.slice Ao43 t690.length co43)) (Kd.R_keptB (HO_678002.out) hkp (fun k_ hk_ hs_ => Or.elim hs_ (fun e_ => (hk_.2.1) e_) (fun e_ => (hk_.2.2) e_))) (fun k_ hk_ => ⟨hk_.1.1, hk_.1.2.1, hk_.1.2.2⟩)); replace BK660 := Aside0.mk (blk_kept (crb BK660) hkp (fun hs_ => Or.elim hs_ (fun e_ => (fun e_ => (Kd.R_ne HO_695001.out BK660.out (by decide)) e_) e_) (fun e_ => (fun e_ => (Kd.R_ne HO_695002.out BK660.out (by decide)) e_) e_))); replace BK677 := Aside0.mk (blk_kept (crb BK677) hkp (fun hs_ => Or.elim hs_ (fun e_ => (fun e_ => (Kd.R_ne HO_695001.out BK677.out (by decide)) e_) e_) (fun e_ => (fun e_ => (Kd.R_ne HO_695002.out BK677.out (by decide)) e_) e_))); replace BK694 := Aside0.mk (blk_kept (crb BK694) hkp (fun hs_ => Or.elim hs_ (fun e_ => (fun e_ => (Kd.R_ne HO_695001.out BK694.out (by decide)) e_) e_) (fun e_ => (fun e_ => (Kd.R_ne HO_695002.out BK694.out (by decide)) e_) e_))); replace HO_695001 := Aside0.mk (Kd.R_reok rfl hy0 (fun k_ e_ => HO_695001.out.1 k_ e_)); replace HO_695002 := Aside0.mk (Kd.R_reok rfl hy1 (fun k_ e_ => HO_695002.out.1 k_ e_)); replace HB := Aside0.mk (hb); (try clear hb); (try clear hkp); (try clear hy0); (try clear hy1); have hcz115_0 := bce BK694 0 (.bool t686); have hcz115_1 := bce BK694 1 (.slice Ao42 t687.length co42); have hcz115_2 := bce BK694 2 (.slice Ao43 t690.length co43); have hfz115_0 := blk_frozen BK694.out 0; have hfz115_1 := blk_frozen BK694.out 1; have hfz115_2 := blk_frozen BK694.out 2) | ((with_reducible refine gate_callee (f := 19) rfl ?_); refine goesL_ (some 71) rfl rfl Try.func19 (by kernel_rfl) rfl #[.agg #[.bool t686, .slice Ao42 t709.length co42, .slice Ao43 t710.length co43], .int .i64 1] rfl (by (try simp only [List.map_toArray, List.map_cons, List.map_nil]); first | done | (rw [show t709.length = t687.length from (Kd.R_reads' HO_695001.out).1.symm, show t710.length = t690.length from (Kd.R_reads' HO_695002.out).1.symm] <;> rfl) | rfl | (simp only [List.length_drop, List.length_take]; rfl)) ?_; (with_reducible refine (laws_heldRat.calls kj66 t686 _ _ t709 _ _ t710 1 t711 _ ?side1 ?side2 ?side3 ?side4 A99.out).mono ?_); (case side1 => exact crC (Kd.R_reads' HO_695001.out).2.2); (case side2 => rw [show t709.length = t687.length from (Kd.R_reads' HO_695001.out).1.symm]; exact (Kd.R_reads' HO_695001.out).2.1); (case side3 => exact crC (Kd.R_reads' HO_695002.out).2.2); (case side4 => rw [show t710.length = t690.length from (Kd.R_reads' HO_695002.out).1.symm]; exact (Kd.R_reads' HO_695002.out).2.1); rintro e w116 ⟨rfl, hb⟩; refine ⟨_, rfl, ?_⟩; replace HO_678001 := rblR HO_678001 hb; replace HO_678002 := rblR HO_678002 hb; replace HO_695001 := rblR HO_695001 hb; replace HO_695002 := rblR HO_695002 hb; replace BK660 := bkb BK660 hb; replace BK677 := bkb BK677 hb; replace BK694 := bkb BK694 hb; replace HB := bst HB hb; (try clear hb); (try clear hb2); (try clear hk); (try clear hi); have hnb117 := NB660_677.out; have hnc117 := NB677_660.out; have hcz118_0 := bce BK660 0 (.bool a0_0); have hcz118_1 := bce BK660 1 (.slice A0_1 l0_1.length c0_1); have hcz118_2 := bce BK660 2 (.slice A0_2 l0_2.length c0_2); have hfz118_0 := blk_frozen BK660.out 0; have hfz118_1 := blk_frozen BK660.out 1; have hfz118_2 := blk_frozen BK660.out 2) | ((with_reducible refine gate_callee (f := 22) rfl ?_); refine goesL_ (some 79) rfl rfl Try.func22 (by kernel_rfl) rfl #[.agg #[.bool a0_0, .slice A0_1 l0_1.length c0_1, .slice A0_2 l0_2.length c0_2]] rfl (by (try simp only [List.map_toArray, List.map_cons, List.map_nil]); first | done | rfl | (simp only [List.length_drop, List.length_take]; rfl)) ?_; (with_reducible refine (laws_toRat.calls kj66 a0_0 _ _ l0_1 _ _ l0_2 t712 t713 t716 _ ?side1 ?side2 ?side3 ?side4 A108.out).mono ?_); (case side1 => exact crC (Kd.C_below HR0_1.out HB.out)); (case side2 => exact HC0_1.out); (case side3 => exact crC (Kd.C_below HR0_2.out HB.out)); (case side4 => exact HC0_2.out); rintro e w119 ⟨v714, v717, rfl, ho0, ho1, hb⟩; refine ⟨_, rfl, ?_⟩; have HO715 := lwR (nwR (nwR (nwR (nwR ho0 HO_678001) HO_678002) HO_695001) HO_695002) HB; have HO718 := lwR (nwR (nwR (nwR (nwR ho1 HO_678001) HO_678002) HO_695001) HO_695002) HB; replace HO_678001 := tldR HO_678001 hb (Kd.R_base ho0) (Kd.R_base ho1); replace HO_678002 := tldR HO_678002 hb (Kd.R_base ho0) (Kd.R_base ho1); replace HO_695001 := tldR HO_695001 hb (Kd.R_base ho0) (Kd.R_base ho1); replace HO_695002 := tldR HO_695002 hb (Kd.R_base ho0) (Kd.R_base ho1); replace BK660 := bkb BK660 hb; replace BK677 := bkb BK677 hb; replace BK694 := bkb BK694 hb; replace HB := bst HB hb; (try clear hb); (try clear hb2); (try clear hk); (try clear hi); (try clear ho0); (try clear ho1); obtain ⟨Ao120, co120, eo120⟩ := Kd.R_slice HO715.out; subst eo120; obtain ⟨Ao121, co121, eo121⟩ := Kd.R_slice HO718.out; subst eo121) | ((with_reducible refine gate_callee (f := 35) rfl ?_); refine goesL_ (some 81) rfl rfl Try.func35 (by kernel_rfl) rfl #[.agg #[.bool t712, .slice Ao120 t713.length co120, .slice Ao121 t716.length co121], .int .i64 a1] rfl (by (try simp only [List.map_toArray, List.map_cons, List.map_nil]); first | done | rfl | (simp only [List.length_drop, List.length_take]; rfl)) ?_; (with_reducible refine (impl_PowRat.calls kj66 t712 (fun k_ => some k_ = (.slice Ao120 t713.length co120 : Value).ownBlock) _ _ t713 (fun k_ => some k_ = (.slice Ao121 t716.length co121 : Value).ownBlock) _ _ t716 a1 t719 t720 t723 t726 _ ?side1 ?side2 A109.out).mono ?_); (case side1 => exact Kd.R_V (Kd.R_tight rfl (Kd.R_types (Kd.R_types (Kd.R_types (HO715.out) BK660.out (by decide)) BK677.out (by decide)) BK694.out (by decide)))); (case side2 => exact Kd.R_V (Kd.R_tight rfl (Kd.R_types (Kd.R_types (Kd.R_types (HO718.out) BK660.out (by decide)) BK677.out (by decide)) BK694.out (by decide)))); rintro e w122 ⟨v721, v724, rfl, ho0, ho1, hb⟩; refine ⟨_, rfl, ?_⟩; have HO722 := lwR (nwR (nwR (nwR (nwR (nwR (nwR (Kd.R_mono (ok' := fun k_ => nO k_ v724) ho0 (fun _ hk_ => hk_.2)) HO_678001) HO_678002) HO_695001) HO_695002) HO715) HO718) HB; have HO725 := lwR (nwR (nwR (nwR (nwR (nwR (nwR (Kd.R_mono (ok' := fun k_ => nO k_ v721) ho1 (fun _ hk_ => hk_.2)) HO_678001) HO_678002) HO_695001) HO_695002) HO715) HO718) HB; replace HO_678001 := tldR HO_678001 hb (Kd.R_base ho0) (Kd.R_base ho1); replace HO_678002 := tldR HO_678002 hb (Kd.R_base ho0) (Kd.R_base ho1); replace HO_695001 := tldR HO_695001 hb (Kd.R_base ho0) (Kd.R_base ho1); replace HO_695002 := tldR HO_695002 hb (Kd.R_base ho0) (Kd.R_base ho1); replace HO715 := tldR HO715 hb (Kd.R_base ho0) (Kd.R_base ho1); replace HO718 := tldR HO718 hb (Kd.R_base ho0) (Kd.R_base ho1); replace BK660 := bkb BK660 hb; replace BK677 := bkb BK677 hb; replace BK694 := bkb BK694 hb; replace HB := bst HB hb; (try clear hb); (try clear hb2); (try clear hk); (try clear hi); (try clear ho0); (try clear ho1)) | ((with_reducible refine gate_dst (N := 14) rfl ?_); refine box_event ?hg (N := 14) ?hd (cs := #[.bool false, .slice none 0 0, .slice none 0 0]) (t := 24) ?hr ?_; (case hd => rfl); (case hg => rfl); (case hr => first | (go_simp; done) | (go_simp; rfl)); intro gb727 hg w123 hbox hb; replace HO_678001 := rblR HO_678001 hb; replace HO_678002 := rblR HO_678002 hb; replace HO_695001 := rblR HO_695001 hb; replace HO_695002 := rblR HO_695002 hb; replace HO715 := rblR HO715 hb; replace HO718 := rblR HO718 hb; replace HO722 := rblR HO722 hb; replace HO725 := rblR HO725 hb; have BK727 := Aside0.mk (hbox); have GW727 := geh hg HB; have GE727 := geh hg HB; replace HB := bst HB hb; have NB660_727 := nlt hg BK660; have NB727_660 := ngt hg BK660; replace BK660 := bkb BK660 hb; have NB677_727 := nlt hg BK677; have NB727_677 := ngt hg BK677; replace BK677 := bkb BK677 hb; have NB694_727 := nlt hg BK694; have NB727_694 := ngt hg BK694; replace BK694 := bkb BK694 hb; clear hb hbox hg; have hnb124 := NB727_660.out; have hnc124 := NB660_727.out; have hnb125 := NB727_677.out; have hnc125 := NB677_727.out; have hnb126 := NB727_694.out; have hnc126 := NB694_727.out; have hcz127_0 := bce BK727 0 (.bool false); have hcz127_1 := bce BK727 1 (.slice none 0 0); have hcz127_2 := bce BK727 2 (.slice none 0 0); have hfz127_0 := blk_frozen BK727.out 0; have hfz127_1 := blk_frozen BK727.out 1; have hfz127_2 := blk_frozen BK727.out 2; obtain ⟨Ao128, co128, eo128⟩ := Kd.R_slice HO722.out; subst eo128; obtain ⟨Ao129, co129, eo129⟩ := Kd.R_slice HO725.out; subst eo129))
           (try simp only [Act.put, List.setIfInBounds_toArray, List.set_cons_zero, List.set_cons_succ])
           go_cut [92] (fun v92 wc => ∃ (kq : Nat) (x92_109 : Bool), v92 = .bool x92_109 ∧ Aside0 (laws_FnExactPowRat.j2 kq t708 x92_109 t686 t709 t710 = some r) ∧ Aside0 (kq ≤ kj66) ∧ Aside0 (Kd.R (Kd.int .i64) 3 wc w.heap.size (fun k_ => nO k_ (.slice Ao43 t690.length co43)) (.slice Ao42 t687.length co42) t709) ∧ Aside0 (Kd.R (Kd.int .i64) 3 wc w.heap.size (fun k_ => nO k_ (.slice Ao42 t687.length co42)) (.slice Ao43 t690.length co43) t710) ∧ Aside0 (wc.heap[gb694]? = some (.cells #[.bool t686, (.slice Ao42 t687.length co42), (.slice Ao43 t690.length co43)] 24 (0, 0))) ∧ Aside0 (Below w.heap.size w wc))
           case first =>
            have H := HC110.out
            clear HC110
            replace H := Option.bind_eq_some_iff.mp H
            obtain ⟨t728, A1300, H⟩ := H
            replace H : (if t728 = true then (laws_FnExactPowRat.j2 kj66 t708 (t726 != t676) t686 t709 t710) else (laws_FnExactPowRat.j2 kj66 t708 true t686 t709 t710)) = some r := H
            have A130 := Aside0.mk A1300
            clear A1300
            by_cases c131 : t728 = true
            ·
             subst c131
             have H1 : (laws_FnExactPowRat.j2 kj66 t708 (t726 != t676) t686 t709 t710) = some r := by rw [if_pos rfl] at H; exact H
             clear H
             have H := H1
             clear H1
             have H' := Aside0.mk H
             clear H
             have hnb132 := NB727_660.out
             have hnc132 := NB660_727.out
             have hnb133 := NB727_677.out
             have hnc133 := NB677_727.out
             have hnb134 := NB727_694.out
             have hnc134 := NB694_727.out
             have hcz135_0 := bce BK727 0 (.bool false)
             have hcz135_1 := bce BK727 1 (.slice none 0 0)
             have hcz135_2 := bce BK727 2 (.slice none 0 0)
             have hfz135_0 := blk_frozen BK727.out 0
             have hfz135_1 := blk_frozen BK727.out 1
             have hfz135_2 := blk_frozen BK727.out 2
             have hnb136 := NB677_660.out
             have hnc136 := NB660_677.out
             have hnb137 := NB677_694.out
             have hnc137 := NB694_677.out
             have hcz138_0 := bce BK677 0 (.bool t669)
             have hcz138_1 := bce BK677 1 (.slice Ao24 t670.length co24)
             have hcz138_2 := bce BK677 2 (.slice Ao25 t673.length co25)
             have hfz138_0 := blk_frozen BK677.out 0
             have hfz138_1 := blk_frozen BK677.out 1
             have hfz138_2 := blk_frozen BK677.out 2
             go_wp2_with (first | ((with_reducible refine gate_callee (f := 17) rfl ?_); refine goesL_ (some 86) rfl rfl Try.func17 (by kernel_rfl) rfl #[.agg #[.bool t719, .slice Ao128 t720.length co128, .slice Ao129 t723.length co129], .agg #[.bool t669, .slice Ao24 t670.length co24, .slice Ao25 t673.length co25]] rfl (by (try simp only [List.map_toArray, List.map_cons, List.map_nil]); first | done | rfl | (simp only [List.length_drop, List.length_take]; rfl)) ?_; (with_reducible refine (laws_eqRat.calls kj66 t719 _ _ t720 _ _ t723 t669 _ _ t670 _ _ t673 true _ ?side1 ?side2 ?side3 ?side4 ?side5 ?side6 ?side7 ?side8 A130.out).mono ?_); (case side1 => refine (Kd.R_reads' (e := 3) (base := w.heap.size) (ok := fun k_ => ((((((nO k_ (.slice Ao129 t723.length co129) ∧ nO k_ (.slice Ao24 t670.length co24)) ∧ nO k_ (.slice Ao25 t673.length co25)) ∧ nO k_ (.slice Ao42 t687.length co42)) ∧ nO k_ (.slice Ao43 t690.length co43)) ∧ nO k_ (.slice Ao120 t713.length co120)) ∧ nO k_ (.slice Ao121 t716.length co121))) (n := t720.length) (c := co128) ?_).2.2; exact (crF HO722 BK727)); (case side2 => exact (Kd.R_reads' HO722.out).2.1); (case side3 => refine (Kd.R_reads' (e := 3) (base := w.heap.size) (ok := fun k_ => ((((((nO k_ (.slice Ao128 t720.length co128) ∧ nO k_ (.slice Ao24 t670.length co24)) ∧ nO k_ (.slice Ao25 t673.length co25)) ∧ nO k_ (.slice Ao42 t687.length co42)) ∧ nO k_ (.slice Ao43 t690.length co43)) ∧ nO k_ (.slice Ao120 t713.length co120)) ∧ nO k_ (.slice Ao121 t716.length co121))) (n := t723.length) (c := co129) ?_).2.2; exact (crF HO725 BK727)); (case side4 => exact (Kd.R_reads' HO725.out).2.1); (case side5 => refine (Kd.R_reads' (e := 3) (base := w.heap.size) (ok := fun k_ => (((((nO k_ (.slice Ao25 t673.length co25) ∧ (nO k_ (.slice Ao42 t687.length co42) ∧ nO k_ (.slice Ao43 t690.length co43))) ∧ nO k_ (.slice Ao120 t713.length co120)) ∧ nO k_ (.slice Ao121 t716.length co121)) ∧ nO k_ (.slice Ao128 t720.length co128)) ∧ nO k_ (.slice Ao129 t723.length co129))) (n := t670.length) (c := co24) ?_).2.2; exact (crF HO_678001 BK727)); (case side6 => exact (Kd.R_reads' HO_678001.out).2.1); (case side7 => refine (Kd.R_reads' (e := 3) (base := w.heap.size) (ok := fun k_ => (((((nO k_ (.slice Ao24 t670.length co24) ∧ (nO k_ (.slice Ao42 t687.length co42) ∧ nO k_ (.slice Ao43 t690.length co43))) ∧ nO k_ (.slice Ao120 t713.length co120)) ∧ nO k_ (.slice Ao121 t716.length co121)) ∧ nO k_ (.slice Ao128 t720.length co128)) ∧ nO k_ (.slice Ao129 t723.length co129))) (n := t673.length) (c := co25) ?_).2.2; exact (crF HO_678002 BK727)); (case side8 => exact (Kd.R_reads' HO_678002.out).2.1); rintro e w139 ⟨rfl, hb⟩; refine ⟨_, rfl, ?_⟩; replace HO_678001 := rblF HO_678001 BK727 hb; replace HO_678002 := rblF HO_678002 BK727 hb; replace HO_695001 := rblF HO_695001 BK727 hb; replace HO_695002 := rblF HO_695002 BK727 hb; replace HO715 := rblF HO715 BK727 hb; replace HO718 := rblF HO718 BK727 hb; replace HO722 := rblF HO722 BK727 hb; replace HO725 := rblF HO725 BK727 hb; replace BK660 := bkf BK660 hb; replace BK677 := bkf BK677 hb; replace BK694 := bkf BK694 hb; replace BK727 := bkp BK727 (.bool t719) (.slice Ao128 t720.length co128) (.slice Ao129 t723.length co129) hb; replace HB := bst HB hb; (try clear hb); (try clear hb2); (try clear hk); (try clear hi)))
             go_meet
             case rel => exact ⟨_, ((t726 != t676)), (by first | rfl | (simp; done) | (simp [*]; done)), H', ⟨by have := HJ11.out; have := HJ66.out; first | omega | exact Nat.le_refl _⟩, ⟨crM HO_695001 fun _ hk => hk.1.1.1.1.2.2⟩, ⟨crM HO_695002 fun _ hk => hk.1.1.1.1.2.2⟩, ⟨crb BK694⟩, ⟨blw HB⟩⟩
            ·
             replace c131 := Bool.eq_false_iff.mpr c131
             subst c131
             have H1 : (laws_FnExactPowRat.j2 kj66 t708 true t686 t709 t710) = some r := by rw [if_neg (show ¬ (false = true) by decide)] at H; exact H
             clear H
             have H := H1
             clear H1
             have H' := Aside0.mk H
             clear H
             have hnb140 := NB727_660.out
             have hnc140 := NB660_727.out
             have hnb141 := NB727_677.out
             have hnc141 := NB677_727.out
             have hnb142 := NB727_694.out
             have hnc142 := NB694_727.out
             have hcz143_0 := bce BK727 0 (.bool false)
             have hcz143_1 := bce BK727 1 (.slice none 0 0)
             have hcz143_2 := bce BK727 2 (.slice none 0 0)
             have hfz143_0 := blk_frozen BK727.out 0
             have hfz143_1 := blk_frozen BK727.out 1
             have hfz143_2 := blk_frozen BK727.out 2
             have hnb144 := NB677_660.out
             have hnc144 := NB660_677.out
             have hnb145 := NB677_694.out
             have hnc145 := NB694_677.out
             have hcz146_0 := bce BK677 0 (.bool t669)
             have hcz146_1 := bce BK677 1 (.slice Ao24 t670.length co24)
             have hcz146_2 := bce BK677 2 (.slice Ao25 t673.length co25)
             have hfz146_0 := blk_frozen BK677.out 0
             have hfz146_1 := blk_frozen BK677.out 1
             have hfz146_2 := blk_frozen BK677.out 2
             go_wp2_with (first | ((with_reducible refine gate_callee (f := 17) rfl ?_); refine goesL_ (some 86) rfl rfl Try.func17 (by kernel_rfl) rfl #[.agg #[.bool t719, .slice Ao128 t720.length co128, .slice Ao129 t723.length co129], .agg #[.bool t669, .slice Ao24 t670.length co24, .slice Ao25 t673.length co25]] rfl (by (try simp only [List.map_toArray, List.map_cons, List.map_nil]); first | done | rfl | (simp only [List.length_drop, List.length_take]; rfl)) ?_; (with_reducible refine (laws_eqRat.calls kj66 t719 _ _ t720 _ _ t723 t669 _ _ t670 _ _ t673 false _ ?side1 ?side2 ?side3 ?side4 ?side5 ?side6 ?side7 ?side8 A130.out).mono ?_); (case side1 => refine (Kd.R_reads' (e := 3) (base := w.heap.size) (ok := fun k_ => ((((((nO k_ (.slice Ao129 t723.length co129) ∧ nO k_ (.slice Ao24 t670.length co24)) ∧ nO k_ (.slice Ao25 t673.length co25)) ∧ nO k_ (.slice Ao42 t687.length co42)) ∧ nO k_ (.slice Ao43 t690.length co43)) ∧ nO k_ (.slice Ao120 t713.length co120)) ∧ nO k_ (.slice Ao121 t716.length co121))) (n := t720.length) (c := co128) ?_).2.2; exact (crF HO722 BK727)); (case side2 => exact (Kd.R_reads' HO722.out).2.1); (case side3 => refine (Kd.R_reads' (e := 3) (base := w.heap.size) (ok := fun k_ => ((((((nO k_ (.slice Ao128 t720.length co128) ∧ nO k_ (.slice Ao24 t670.length co24)) ∧ nO k_ (.slice Ao25 t673.length co25)) ∧ nO k_ (.slice Ao42 t687.length co42)) ∧ nO k_ (.slice Ao43 t690.length co43)) ∧ nO k_ (.slice Ao120 t713.length co120)) ∧ nO k_ (.slice Ao121 t716.length co121))) (n := t723.length) (c := co129) ?_).2.2; exact (crF HO725 BK727)); (case side4 => exact (Kd.R_reads' HO725.out).2.1); (case side5 => refine (Kd.R_reads' (e := 3) (base := w.heap.size) (ok := fun k_ => (((((nO k_ (.slice Ao25 t673.length co25) ∧ (nO k_ (.slice Ao42 t687.length co42) ∧ nO k_ (.slice Ao43 t690.length co43))) ∧ nO k_ (.slice Ao120 t713.length co120)) ∧ nO k_ (.slice Ao121 t716.length co121)) ∧ nO k_ (.slice Ao128 t720.length co128)) ∧ nO k_ (.slice Ao129 t723.length co129))) (n := t670.length) (c := co24) ?_).2.2; exact (crF HO_678001 BK727)); (case side6 => exact (Kd.R_reads' HO_678001.out).2.1); (case side7 => refine (Kd.R_reads' (e := 3) (base := w.heap.size) (ok := fun k_ => (((((nO k_ (.slice Ao24 t670.length co24) ∧ (nO k_ (.slice Ao42 t687.length co42) ∧ nO k_ (.slice Ao43 t690.length co43))) ∧ nO k_ (.slice Ao120 t713.length co120)) ∧ nO k_ (.slice Ao121 t716.length co121)) ∧ nO k_ (.slice Ao128 t720.length co128)) ∧ nO k_ (.slice Ao129 t723.length co129))) (n := t673.length) (c := co25) ?_).2.2; exact (crF HO_678002 BK727)); (case side8 => exact (Kd.R_reads' HO_678002.out).2.1); rintro e w147 ⟨rfl, hb⟩; refine ⟨_, rfl, ?_⟩; replace HO_678001 := rblF HO_678001 BK727 hb; replace HO_678002 := rblF HO_678002 BK727 hb; replace HO_695001 := rblF HO_695001 BK727 hb; replace HO_695002 := rblF HO_695002 BK727 hb; replace HO715 := rblF HO715 BK727 hb; replace HO718 := rblF HO718 BK727 hb; replace HO722 := rblF HO722 BK727 hb; replace HO725 := rblF HO725 BK727 hb; replace BK660 := bkf BK660 hb; replace BK677 := bkf BK677 hb; replace BK694 := bkf BK694 hb; replace BK727 := bkp BK727 (.bool t719) (.slice Ao128 t720.length co128) (.slice Ao129 t723.length co129) hb; replace HB := bst HB hb; (try clear hb); (try clear hb2); (try clear hk); (try clear hi)))
             go_meet
             case rel => exact ⟨_, (true), (by first | rfl | (simp; done) | (simp [*]; done)), H', ⟨by have := HJ11.out; have := HJ66.out; first | omega | exact Nat.le_refl _⟩, ⟨crM HO_695001 fun _ hk => hk.1.1.1.1.2.2⟩, ⟨crM HO_695002 fun _ hk => hk.1.1.1.1.2.2⟩, ⟨crb BK694⟩, ⟨blw HB⟩⟩
           case rest =>
            clear HC110
            try clear c1
            try clear c2
            try clear p2
            try clear c3
            try clear c4
            try clear c4b0
            try clear c5
            try clear c6
            try clear c7
            try clear c8
            try clear c9
            try clear c10
            try clear c11
            try clear c12
            try clear c13
            try clear c14
            try clear c17
            try clear c18
            try clear c19
            try clear c20
            try clear c22
            try clear c29
            try clear c30
            try clear c34
            try clear c35
            try clear c38
            try clear c39
            try clear c40
            try clear c45
            try clear c46
            try clear c47
            try clear c48
            try clear c50
            try clear c51
            try clear c54
            try clear c55
            try clear c56
            try clear c58
            try clear c59
            try clear c62
            try clear c65
            try clear c73
            try clear c74
            try clear c75
            try clear c78
            try clear c78b0
            try clear c80
            try clear c81
            try clear c82
            try clear c83
            try clear c85
            try clear c86
            try clear c89
            try clear c90
            try clear c91
            try clear c93
            try clear c94
            try clear c97
            try clear c100
            try clear c100b0
            try clear c101
            try clear c102
            try clear c107
            try clear c107b0
            try clear c107b1
            try clear c111
            try clear c112
            try clear c117
            try clear c124
            try clear c125
            try clear c126
            try clear c131
            try clear c132
            try clear c133
            try clear c134
            try clear c136
            try clear c137
            try clear c140
            try clear c141
            try clear c142
            try clear c144
            try clear c145
            try clear hcz103_0
            try clear hcz103_1
            try clear hcz103_2
            try clear hcz105_0
            try clear hcz105_1
            try clear hcz105_2
            try clear hcz113_0
            try clear hcz113_1
            try clear hcz113_2
            try clear hcz115_0
            try clear hcz115_1
            try clear hcz115_2
            try clear hcz118_0
            try clear hcz118_1
            try clear hcz118_2
            try clear hcz127_0
            try clear hcz127_1
            try clear hcz127_2
            try clear hcz135_0
            try clear hcz135_1
            try clear hcz135_2
            try clear hcz138_0
            try clear hcz138_1
            try clear hcz138_2
            try clear hcz143_0
            try clear hcz143_1
            try clear hcz143_2
            try clear hcz146_0
            try clear hcz146_1
            try clear hcz146_2
            try clear hcz14_0
            try clear hcz14_1
            try clear hcz14_2
            try clear hcz16_0
            try clear hcz16_1
            try clear hcz16_2
            try clear hcz23_0
            try clear hcz23_1
            try clear hcz23_2
            try clear hcz26_0
            try clear hcz26_1
            try clear hcz26_2
            try clear hcz31_0
            try clear hcz31_1
            try clear hcz31_2
            try clear hcz35_0
            try clear hcz35_1
            try clear hcz35_2
            try clear hcz41_0
            try clear hcz41_1
            try clear hcz41_2
            try clear hcz49_0
            try clear hcz49_1
            try clear hcz49_2
            try clear hcz52_0
            try clear hcz52_1
            try clear hcz52_2
            try clear hcz57_0
            try clear hcz57_1
            try clear hcz57_2
            try clear hcz60_0
            try clear hcz60_1
            try clear hcz60_2
            try clear hcz6_0
            try clear hcz6_1
            try clear hcz6_2
            try clear hcz76_0
            try clear hcz76_1
            try clear hcz76_2
            try clear hcz84_0
            try clear hcz84_1
            try clear hcz84_2
            try clear hcz87_0
            try clear hcz87_1
            try clear hcz87_2
            try clear hcz92_0
            try clear hcz92_1
            try clear hcz92_2
            try clear hcz95_0
            try clear hcz95_1
            try clear hcz95_2
            try clear hfz103_0
            try clear hfz103_1
            try clear hfz103_2
            try clear hfz105_0
            try clear hfz105_1
            try clear hfz105_2
            try clear hfz113_0
            try clear hfz113_1
            try clear hfz113_2
            try clear hfz115_0
            try clear hfz115_1
            try clear hfz115_2
            try clear hfz118_0
            try clear hfz118_1
            try clear hfz118_2
            try clear hfz127_0
            try clear hfz127_1
            try clear hfz127_2
            try clear hfz135_0
            try clear hfz135_1
            try clear hfz135_2
            try clear hfz138_0
            try clear hfz138_1
            try clear hfz138_2
            try clear hfz143_0
            try clear hfz143_1
            try clear hfz143_2
            try clear hfz146_0
            try clear hfz146_1
            try clear hfz146_2
            try clear hfz14_0
            try clear hfz14_1
            try clear hfz14_2
            try clear hfz16_0
            try clear hfz16_1
            try clear hfz16_2
            try clear hfz23_0
            try clear hfz23_1
            try clear hfz23_2
            try clear hfz26_0
            try clear hfz26_1
            try clear hfz26_2
            try clear hfz31_0
            try clear hfz31_1
            try clear hfz31_2
            try clear hfz35_0
            try clear hfz35_1
            try clear hfz35_2
            try clear hfz41_0
            try clear hfz41_1
            try clear hfz41_2
            try clear hfz49_0
            try clear hfz49_1
            try clear hfz49_2
            try clear hfz52_0
            try clear hfz52_1
            try clear hfz52_2
            try clear hfz57_0
            try clear hfz57_1
            try clear hfz57_2
            try clear hfz60_0
            try clear hfz60_1
            try clear hfz60_2
            try clear hfz6_0
            try clear hfz6_1
            try clear hfz6_2
            try clear hfz76_0
            try clear hfz76_1
            try clear hfz76_2
            try clear hfz84_0
            try clear hfz84_1
            try clear hfz84_2
            try clear hfz87_0
            try clear hfz87_1
            try clear hfz87_2
            try clear hfz92_0
            try clear hfz92_1
            try clear hfz92_2
            try clear hfz95_0
            try clear hfz95_1
            try clear hfz95_2
            try clear p2
            obtain ⟨kq, x92_109, rfl, HA, HJ109, HO_695001, HO_695002, BK694, HB⟩ := hcut
            have hl695001_109 := (Kd.R_reads' HO_695001.out).1
            rw [hl695001_109] at HO_695001
            (try simp only [hl695001_109])
            (try simp only [hl695001_109] at BK694)
            (try simp only [hl695001_109] at HO_695002)
            have hl695002_109 := (Kd.R_reads' HO_695002.out).1
            rw [hl695002_109] at HO_695002
            (try simp only [hl695002_109])
            (try simp only [hl695002_109] at BK694)
            (try simp only [hl695002_109] at HO_695001)
            cases kq with
            | zero => exact absurd HA.out (by simp [laws_FnExactPowRat.j2])
            | succ kj109 =>
             have H := HA.out
             clear HA
             simp only [laws_FnExactPowRat.j2] at H
             by_cases c148 : x92_109 = true
             ·
              subst c148
              have H1 : (some false) = some r := by rw [if_pos rfl] at H; exact H
              clear H
              have H := H1
              clear H1
              obtain rfl := Option.some.inj H
              exact absurd hr_ (by decide)
             ·
              replace c148 := Bool.eq_false_iff.mpr c148
              subst c148
              have H1 : ((laws_heldRat.f kj109 t686 t709 t710 1).bind fun t729 => (if t729 < 0 then (some false) else (if t729 = t708 then (some true) else (some false)))) = some r := by rw [if_neg (show ¬ (false = true) by decide)] at H; exact H
              clear H
              have H := H1
              clear H1
              replace H := Option.bind_eq_some_iff.mp H
              obtain ⟨t729, A1490, H⟩ := H
              replace H : (if t729 < 0 then (some false) else (if t729 = t708 then (some true) else (some false))) = some r := H
              have A149 := Aside0.mk A1490
              clear A1490
              by_cases c150 : t729 < 0
              ·
               rw [if_pos c150] at H
               have c150b0 : decide (t729 < 0) = true := decide_eq_true c150
               clear c150
               obtain rfl := Option.some.inj H
               exact absurd hr_ (by decide)
              ·
               rw [if_neg c150] at H
               have c150b0 : decide (t729 < 0) = false := decide_eq_false c150
               clear c150
               by_cases c153 : t729 = t708
               ·
                rw [if_pos c153] at H
                have c153b0 : (t729 == t708) = true := beq_iff_eq.mpr c153
                have c153b1 : (t729 != t708) = false := bne_eq_false_iff_eq.mpr c153
                clear c153
                obtain rfl := Option.some.inj H
                have hcz154_0 := bce BK694 0 (.bool t686)
                have hcz154_1 := bce BK694 1 (.slice Ao42 t709.length co42)
                have hcz154_2 := bce BK694 2 (.slice Ao43 t710.length co43)
                have hfz154_0 := blk_frozen BK694.out 0
                have hfz154_1 := blk_frozen BK694.out 1
                have hfz154_2 := blk_frozen BK694.out 2
                go_wp2_with (first | ((with_reducible refine gate_callee (f := 19) rfl ?_); refine goesL_ (some 95) rfl rfl Try.func19 (by kernel_rfl) rfl #[.agg #[.bool t686, .slice Ao42 t709.length co42, .slice Ao43 t710.length co43], .int .i64 1] rfl (by (try simp only [List.map_toArray, List.map_cons, List.map_nil]); first | done | rfl | (simp only [List.length_drop, List.length_take]; rfl)) ?_; (with_reducible refine (laws_heldRat.calls kj109 t686 _ _ t709 _ _ t710 1 t729 _ ?side1 ?side2 ?side3 ?side4 A149.out).mono ?_); (case side1 => exact crC (Kd.R_reads' HO_695001.out).2.2); (case side2 => exact (Kd.R_reads' HO_695001.out).2.1); (case side3 => exact crC (Kd.R_reads' HO_695002.out).2.2); (case side4 => exact (Kd.R_reads' HO_695002.out).2.1); rintro e w155 ⟨rfl, hb⟩; refine ⟨_, rfl, ?_⟩; replace HO_695001 := rblR HO_695001 hb; replace HO_695002 := rblR HO_695002 hb; replace BK694 := bkb BK694 hb; replace HB := bst HB hb; (try clear hb); (try clear hb2); (try clear hk); (try clear hi)))
                go_ret
                exact ⟨by first | rfl | (simp [errW_none, errW_some] <;> rfl) | (simp [*, errW_none, errW_some] <;> rfl), blw HB⟩
               ·
                rw [if_neg c153] at H
                have c153b0 : (t729 == t708) = false := beq_eq_false_iff_ne.mpr c153
                have c153b1 : (t729 != t708) = true := bne_iff_ne.mpr c153
                obtain rfl := Option.some.inj H
                exact absurd hr_ (by decide)
          ·
           rw [if_neg c107] at H
           have c107b0 : (t711 == t708) = false := beq_eq_false_iff_ne.mpr c107
           have c107b1 : (t711 != t708) = true := bne_iff_ne.mpr c107
           obtain rfl := Option.some.inj H
           exact absurd hr_ (by decide)
     ·
      replace c65 := Bool.eq_false_iff.mpr c65
      subst c65
      have H1 : (some false) = some r := by rw [if_neg (show ¬ (false = true) by decide)] at H; exact H
      clear H
      have H := H1
      clear H1
      obtain rfl := Option.some.inj H
      exact absurd hr_ (by decide)

/-- THE ONE PURE STATEMENT of laws_FnExactPowRat: yours. -/
def laws_FnExactPowRat.Pure : Prop := ∀ (a0_0 : Bool) (l0_1 : List Int) (l0_2 : List Int) (a1 : Int), (True ∧ (l0_1.length ≤ maxLen ∧ ∀ y0_ ∈ l0_1, (Lit.int .i64 y0_).wf = true) ∧ (l0_2.length ≤ maxLen ∧ ∀ y0_ ∈ l0_2, (Lit.int .i64 y0_).wf = true)) → (Lit.int .i64 a1).wf = true → ∃ k, laws_FnExactPowRat.f k a0_0 l0_1 l0_2 a1 = some true

end Go.Proofs.Ytacdaijalkkogaa.Q
