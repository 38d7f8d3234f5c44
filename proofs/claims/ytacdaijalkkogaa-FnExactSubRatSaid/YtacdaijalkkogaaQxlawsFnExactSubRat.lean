-- written by a program of this claim's session (myprint.py) out of the translation; Lean checks it.
import Derived.Test.YtacdaijalkkogaaQx0
import Derived.Test.YtacdaijalkkogaaSq
import Derived.Test.YtacdaijalkkogaaQxrlaw
import Derived.Test.YtacdaijalkkogaaQxSubRat
namespace Go.Proofs.Ytacdaijalkkogaa.Q
open Go.RowKit Go.Proofs.YtacdaijalkkogaaW.PrintWords Go.Proofs.YtacdaijalkkogaaW.PrintLast Go.Proofs.YtacdaijalkkogaaW.PrintMore
attribute [local go_sem] max2_int min2_int max_two min_two max_three min_three max_four min_four   -- for this text's walks alone
set_option linter.unusedVariables false
set_option linter.unusedSimpArgs false

mutual
def laws_FnExactSubRat.j0 : Nat → Int → Int → Bool → Bool → List Int → List Int → Bool → List Int → List Int → Bool → List Int → List Int → Bool → List Int → List Int → Bool → List Int → List Int → Bool → List Int → List Int → Option (Bool)
 | 0, _, _, _, _, _, _, _, _, _, _, _, _, _, _, _, _, _, _, _, _, _ => none
 | k + 1, x7, x11, x53, x1300000, x1300001, x1300002, x1301000, x1301001, x1301002, x1326000, x1326001, x1326002, x1334000, x1334001, x1334002, x1342000, x1342001, x1342002, x1351000, x1351001, x1351002 => if x53 = true then (some false) else ((laws_toRat.f k x1300000 x1300001 x1300002).bind fun btJ6 => ((laws_eqRat.f k x1334000 x1334001 x1334002 btJ6.1 btJ6.2.1 btJ6.2.2).bind fun tJ9 => (if tJ9 = true then ((laws_toRat.f k x1301000 x1301001 x1301002).bind fun btE0 => ((laws_eqRat.f k x1342000 x1342001 x1342002 btE0.1 btE0.2.1 btE0.2.2).bind fun tI7 => (if tI7 = true then ((laws_markRat.f k x1334000 x1334001 x1334002 1).bind fun btG5 => ((laws_markRat.f k x1342000 x1342001 x1342002 btG5.1).bind fun btE6 => (if btE6.1 < 0 then (laws_FnExactSubRat.j1 k x7 true x1300000 x1300001 x1300002 x1301000 x1301001 x1301002 x1326000 x1326001 x1326002 x1351000 x1351001 x1351002) else ((laws_eqRat.f k x1351000 x1351001 x1351002 x1326000 x1326001 x1326002).bind fun tE9 => (if tE9 = true then (laws_FnExactSubRat.j1 k x7 (x11 != x7) x1300000 x1300001 x1300002 x1301000 x1301001 x1301002 x1326000 x1326001 x1326002 x1351000 x1351001 x1351002) else (laws_FnExactSubRat.j1 k x7 true x1300000 x1300001 x1300002 x1301000 x1301001 x1301002 x1326000 x1326001 x1326002 x1351000 x1351001 x1351002)))))) else (some false)))) else (some false))))
def laws_FnExactSubRat.j1 : Nat → Int → Bool → Bool → List Int → List Int → Bool → List Int → List Int → Bool → List Int → List Int → Bool → List Int → List Int → Option (Bool)
 | 0, _, _, _, _, _, _, _, _, _, _, _, _, _, _ => none
 | k + 1, x7, x82, x1300000, x1300001, x1300002, x1301000, x1301001, x1301002, x1326000, x1326001, x1326002, x1351000, x1351001, x1351002 => if x82 = true then (some false) else ((laws_markRat.f k x1351000 x1351001 x1351002 1).bind fun btC4 => ((laws_heldRat.f k x1351000 btC4.2.1 btC4.2.2 1).bind fun tG6 => (if tG6 < 0 then (some false) else (if tG6 = btC4.1 then ((laws_toRat.f k x1300000 x1300001 x1300002).bind fun btD6 => ((laws_toRat.f k x1301000 x1301001 x1301002).bind fun btD0 => ((impl_SubRat.f k btD6.1 btD6.2.1 btD6.2.2 btD0.1 btD0.2.1 btD0.2.2).bind fun btC5 => ((laws_eqRat.f k btC5.1 btC5.2.1 btC5.2.2.1 x1326000 x1326001 x1326002).bind fun tI6 => (if tI6 = true then (laws_FnExactSubRat.j2 k btC4.1 (btC5.2.2.2 != x7) x1351000 btC4.2.1 btC4.2.2) else (laws_FnExactSubRat.j2 k btC4.1 true x1351000 btC4.2.1 btC4.2.2)))))) else (some false)))))
def laws_FnExactSubRat.j2 : Nat → Int → Bool → Bool → List Int → List Int → Option (Bool)
 | 0, _, _, _, _, _ => none
 | k + 1, x13, xL2, x1351000, x1351001, x1351002 => if xL2 = true then (some false) else ((laws_heldRat.f k x1351000 x1351001 x1351002 1).bind fun tI0 => (if tI0 < 0 then (some false) else (if tI0 = x13 then (some true) else (some false))))
end
def laws_FnExactSubRat.f (k : Nat) (a0_0 : Bool) (l0_1 : List Int) (l0_2 : List Int) (a1_0 : Bool) (l1_1 : List Int) (l1_2 : List Int) : Option (Bool) := (laws_szRat.f a0_0 l0_1 l0_2 1048576).bind fun tH1 => (if tH1 < 0 then (some true) else ((laws_szRat.f a1_0 l1_1 l1_2 tH1).bind fun tJ7 => (if tJ7 < 0 then (some true) else ((laws_toRat.f k a0_0 l0_1 l0_2).bind fun btD7 => ((laws_toRat.f k a1_0 l1_1 l1_2).bind fun btD1 => ((spec_SubRat.f k btD7.1 btD7.2.1 btD7.2.2 btD1.1 btD1.2.1 btD1.2.2).bind fun btA6 => ((laws_toRat.f k a0_0 l0_1 l0_2).bind fun btB4 => ((laws_toRat.f k a1_0 l1_1 l1_2).bind fun btB3 => ((impl_SubRat.f k btB4.1 btB4.2.1 btB4.2.2 btB3.1 btB3.2.1 btB3.2.2).bind fun btA5 => ((laws_eqRat.f k btA5.1 btA5.2.1 btA5.2.2.1 btA6.1 btA6.2.1 btA6.2.2.1).bind fun tF0 => (if tF0 = true then (laws_FnExactSubRat.j0 k btA6.2.2.2 btA5.2.2.2 (btA5.2.2.2 != btA6.2.2.2) a0_0 l0_1 l0_2 a1_0 l1_1 l1_2 btA6.1 btA6.2.1 btA6.2.2.1 btB4.1 btB4.2.1 btB4.2.2 btB3.1 btB3.2.1 btB3.2.2 btA5.1 btA5.2.1 btA5.2.2.1) else (laws_FnExactSubRat.j0 k btA6.2.2.2 btA5.2.2.2 true a0_0 l0_1 l0_2 a1_0 l1_1 l1_2 btA6.1 btA6.2.1 btA6.2.2.1 btB4.1 btB4.2.1 btB4.2.2 btB3.1 btB3.2.1 btB3.2.2 btA5.1 btA5.2.1 btA5.2.2.1))))))))))))
theorem laws_FnExactSubRat.mono_l : ∀ k, (∀ y0 y1 y2 y3 y4 y5 y6 y7 y8 y9 y10 y11 y12 y13 y14 y15 y16 y17 y18 y19 y20, LeO (laws_FnExactSubRat.j0 k y0 y1 y2 y3 y4 y5 y6 y7 y8 y9 y10 y11 y12 y13 y14 y15 y16 y17 y18 y19 y20) (laws_FnExactSubRat.j0 (k + 1) y0 y1 y2 y3 y4 y5 y6 y7 y8 y9 y10 y11 y12 y13 y14 y15 y16 y17 y18 y19 y20)) ∧ (∀ y0 y1 y2 y3 y4 y5 y6 y7 y8 y9 y10 y11 y12 y13, LeO (laws_FnExactSubRat.j1 k y0 y1 y2 y3 y4 y5 y6 y7 y8 y9 y10 y11 y12 y13) (laws_FnExactSubRat.j1 (k + 1) y0 y1 y2 y3 y4 y5 y6 y7 y8 y9 y10 y11 y12 y13)) ∧ (∀ y0 y1 y2 y3 y4, LeO (laws_FnExactSubRat.j2 k y0 y1 y2 y3 y4) (laws_FnExactSubRat.j2 (k + 1) y0 y1 y2 y3 y4))
 | 0 => ⟨fun _ _ _ _ _ _ _ _ _ _ _ _ _ _ _ _ _ _ _ _ _ r h => by simp [laws_FnExactSubRat.j0] at h, fun _ _ _ _ _ _ _ _ _ _ _ _ _ _ r h => by simp [laws_FnExactSubRat.j1] at h, fun _ _ _ _ _ r h => by simp [laws_FnExactSubRat.j2] at h⟩
 | k + 1 => by
  obtain ⟨ih0, ih1, ih2⟩ := laws_FnExactSubRat.mono_l k
  refine ⟨?_, ?_, ?_⟩
  ·
   intro y0 y1 y2 y3 y4 y5 y6 y7 y8 y9 y10 y11 y12 y13 y14 y15 y16 y17 y18 y19 y20
   unfold laws_FnExactSubRat.j0
   repeat' first
   | (with_reducible exact ih0 _ _ _ _ _ _ _ _ _ _ _ _ _ _ _ _ _ _ _ _ _)
   | (with_reducible exact ih1 _ _ _ _ _ _ _ _ _ _ _ _ _ _)
   | (with_reducible exact ih2 _ _ _ _ _)
   | (with_reducible exact impl_SubRat.mono _ _ _ _ _ _ _)
   | (with_reducible exact laws_eqRat.mono _ _ _ _ _ _ _)
   | (with_reducible exact laws_heldRat.mono _ _ _ _ _)
   | (with_reducible exact laws_markRat.mono _ _ _ _ _)
   | (with_reducible exact laws_toRat.mono _ _ _ _)
   | (with_reducible exact spec_SubRat.mono _ _ _ _ _ _ _)
   | (with_reducible exact LeO.refl _)
   | (with_reducible exact LeO.none _)
   | (with_reducible refine LeO.ite ?_ ?_)
   | (with_reducible refine LeO.bind ?_ (fun _ => ?_))
   | exact ih0 _ _ _ _ _ _ _ _ _ _ _ _ _ _ _ _ _ _ _ _ _
   | exact ih1 _ _ _ _ _ _ _ _ _ _ _ _ _ _
   | exact ih2 _ _ _ _ _
   | exact impl_SubRat.mono _ _ _ _ _ _ _
   | exact laws_eqRat.mono _ _ _ _ _ _ _
   | exact laws_heldRat.mono _ _ _ _ _
   | exact laws_markRat.mono _ _ _ _ _
   | exact laws_toRat.mono _ _ _ _
   | exact spec_SubRat.mono _ _ _ _ _ _ _
   | exact LeO.none _
   | refine LeO.ite ?_ ?_
   | refine LeO.bind ?_ (fun _ => ?_)
  ·
   intro y0 y1 y2 y3 y4 y5 y6 y7 y8 y9 y10 y11 y12 y13
   unfold laws_FnExactSubRat.j1
   repeat' first
   | (with_reducible exact ih0 _ _ _ _ _ _ _ _ _ _ _ _ _ _ _ _ _ _ _ _ _)
   | (with_reducible exact ih1 _ _ _ _ _ _ _ _ _ _ _ _ _ _)
   | (with_reducible exact ih2 _ _ _ _ _)
   | (with_reducible exact impl_SubRat.mono _ _ _ _ _ _ _)
   | (with_reducible exact laws_eqRat.mono _ _ _ _ _ _ _)
   | (with_reducible exact laws_heldRat.mono _ _ _ _ _)
   | (with_reducible exact laws_markRat.mono _ _ _ _ _)
   | (with_reducible exact laws_toRat.mono _ _ _ _)
   | (with_reducible exact spec_SubRat.mono _ _ _ _ _ _ _)
   | (with_reducible exact LeO.refl _)
   | (with_reducible exact LeO.none _)
   | (with_reducible refine LeO.ite ?_ ?_)
   | (with_reducible refine LeO.bind ?_ (fun _ => ?_))
   | exact ih0 _ _ _ _ _ _ _ _ _ _ _ _ _ _ _ _ _ _ _ _ _
   | exact ih1 _ _ _ _ _ _ _ _ _ _ _ _ _ _
   | exact ih2 _ _ _ _ _
   | exact impl_SubRat.mono _ _ _ _ _ _ _
   | exact laws_eqRat.mono _ _ _ _ _ _ _
   | exact laws_heldRat.mono _ _ _ _ _
   | exact laws_markRat.mono _ _ _ _ _
   | exact laws_toRat.mono _ _ _ _
   | exact spec_SubRat.mono _ _ _ _ _ _ _
   | exact LeO.none _
   | refine LeO.ite ?_ ?_
   | refine LeO.bind ?_ (fun _ => ?_)
  ·
   intro y0 y1 y2 y3 y4
   unfold laws_FnExactSubRat.j2
   repeat' first
   | (with_reducible exact ih0 _ _ _ _ _ _ _ _ _ _ _ _ _ _ _ _ _ _ _ _ _)
   | (with_reducible exact ih1 _ _ _ _ _ _ _ _ _ _ _ _ _ _)
   | (with_reducible exact ih2 _ _ _ _ _)
   | (with_reducible exact impl_SubRat.mono _ _ _ _ _ _ _)
   | (with_reducible exact laws_eqRat.mono _ _ _ _ _ _ _)
   | (with_reducible exact laws_heldRat.mono _ _ _ _ _)
   | (with_reducible exact laws_markRat.mono _ _ _ _ _)
   | (with_reducible exact laws_toRat.mono _ _ _ _)
   | (with_reducible exact spec_SubRat.mono _ _ _ _ _ _ _)
   | (with_reducible exact LeO.refl _)
   | (with_reducible exact LeO.none _)
   | (with_reducible refine LeO.ite ?_ ?_)
   | (with_reducible refine LeO.bind ?_ (fun _ => ?_))
   | exact ih0 _ _ _ _ _ _ _ _ _ _ _ _ _ _ _ _ _ _ _ _ _
   | exact ih1 _ _ _ _ _ _ _ _ _ _ _ _ _ _
   | exact ih2 _ _ _ _ _
   | exact impl_SubRat.mono _ _ _ _ _ _ _
   | exact laws_eqRat.mono _ _ _ _ _ _ _
   | exact laws_heldRat.mono _ _ _ _ _
   | exact laws_markRat.mono _ _ _ _ _
   | exact laws_toRat.mono _ _ _ _
   | exact spec_SubRat.mono _ _ _ _ _ _ _
   | exact LeO.none _
   | refine LeO.ite ?_ ?_
   | refine LeO.bind ?_ (fun _ => ?_)
theorem laws_FnExactSubRat.mono : ∀ a0 a1 a2 a3 a4 a5 k, LeO (laws_FnExactSubRat.f k a0 a1 a2 a3 a4 a5) (laws_FnExactSubRat.f (k + 1) a0 a1 a2 a3 a4 a5) := by
 intro a0 a1 a2 a3 a4 a5 k
 obtain ⟨ih0, ih1, ih2⟩ := laws_FnExactSubRat.mono_l k
 unfold laws_FnExactSubRat.f
 repeat' first
   | (with_reducible exact ih0 _ _ _ _ _ _ _ _ _ _ _ _ _ _ _ _ _ _ _ _ _)
   | (with_reducible exact ih1 _ _ _ _ _ _ _ _ _ _ _ _ _ _)
   | (with_reducible exact ih2 _ _ _ _ _)
   | (with_reducible exact impl_SubRat.mono _ _ _ _ _ _ _)
   | (with_reducible exact laws_eqRat.mono _ _ _ _ _ _ _)
   | (with_reducible exact laws_heldRat.mono _ _ _ _ _)
   | (with_reducible exact laws_markRat.mono _ _ _ _ _)
   | (with_reducible exact laws_toRat.mono _ _ _ _)
   | (with_reducible exact spec_SubRat.mono _ _ _ _ _ _ _)
   | (with_reducible exact LeO.refl _)
   | (with_reducible exact LeO.none _)
   | (with_reducible refine LeO.ite ?_ ?_)
   | (with_reducible refine LeO.bind ?_ (fun _ => ?_))
   | exact ih0 _ _ _ _ _ _ _ _ _ _ _ _ _ _ _ _ _ _ _ _ _
   | exact ih1 _ _ _ _ _ _ _ _ _ _ _ _ _ _
   | exact ih2 _ _ _ _ _
   | exact impl_SubRat.mono _ _ _ _ _ _ _
   | exact laws_eqRat.mono _ _ _ _ _ _ _
   | exact laws_heldRat.mono _ _ _ _ _
   | exact laws_markRat.mono _ _ _ _ _
   | exact laws_toRat.mono _ _ _ _
   | exact spec_SubRat.mono _ _ _ _ _ _ _
   | exact LeO.none _
   | refine LeO.ite ?_ ?_
   | refine LeO.bind ?_ (fun _ => ?_)
def laws_FnExactSubRat.T8 : Bool × List (List Nat × List Nat) := (true, [([], []), ([0], [0]), ([], []), ([2, 1], [2]), ([1, 3, 3], [1, 3]), ([4], [4]), ([5], [5]), ([5], [5]), ([], []), ([8, 6, 4, 0, 1, 2, 3, 4, 5, 6, 8], [6, 8]), ([7, 9, 0, 1, 2, 3, 4, 5, 6, 7, 8, 9], [7])])
def laws_FnExactSubRat.B8 : List Nat := [0, 1, 0, 7, 15, 31, 63, 63, 0, 383, 1023]
theorem laws_FnExactSubRat.tab8 : rtab .any (opsOf Try.f12 8) = laws_FnExactSubRat.T8 := by kernel_rfl
theorem laws_FnExactSubRat.bits8 : waitsOk laws_FnExactSubRat.T8.2 laws_FnExactSubRat.B8 = true := by kernel_rfl
def laws_FnExactSubRat.T31 : Bool × List (List Nat × List Nat) := (true, [([], []), ([0], [0]), ([], []), ([2, 1], [2]), ([1, 3, 3], [1, 3]), ([4], [4]), ([5], [5]), ([5], [5]), ([], []), ([8, 6, 4, 0, 1, 2, 3, 4, 5, 6, 8], [6, 8]), ([7, 9, 0, 1, 2, 3, 4, 5, 6, 7, 8, 9], [7])])
def laws_FnExactSubRat.B31 : List Nat := [0, 1, 0, 7, 15, 31, 63, 63, 0, 383, 1023]
theorem laws_FnExactSubRat.tab31 : rtab .any (opsOf Try.f12 31) = laws_FnExactSubRat.T31 := by kernel_rfl
theorem laws_FnExactSubRat.bits31 : waitsOk laws_FnExactSubRat.T31.2 laws_FnExactSubRat.B31 = true := by kernel_rfl
set_option maxHeartbeats 8000000 in
set_option maxRecDepth 100000 in
theorem laws_FnExactSubRat.calls (k : Nat) (a0_0 : Bool) (A0_1 : Option Addr) (c0_1 : Nat) (l0_1 : List Int) (A0_2 : Option Addr) (c0_2 : Nat) (l0_2 : List Int) (a1_0 : Bool) (A1_1 : Option Addr) (c1_1 : Nat) (l1_1 : List Int) (A1_2 : Option Addr) (c1_2 : Nat) (l1_2 : List Int) (r : Bool) (w : World) (hr0_1 : Kd.C (Kd.int .i64) w A0_1 l0_1.length l0_1) (hc0_1 : l0_1.length ≤ c0_1) (hr0_2 : Kd.C (Kd.int .i64) w A0_2 l0_2.length l0_2) (hc0_2 : l0_2.length ≤ c0_2) (hr1_1 : Kd.C (Kd.int .i64) w A1_1 l1_1.length l1_1) (hc1_1 : l1_1.length ≤ c1_1) (hr1_2 : Kd.C (Kd.int .i64) w A1_2 l1_2.length l1_2) (hc1_2 : l1_2.length ≤ c1_2) (h : laws_FnExactSubRat.f k a0_0 l0_1 l0_2 a1_0 l1_1 l1_2 = some r) (hr_ : r = true) :
  Calls Try.prog 12 #[.agg #[.bool a0_0, .slice A0_1 l0_1.length c0_1, .slice A0_2 l0_2.length c0_2], .agg #[.bool a1_0, .slice A1_1 l1_1.length c1_1, .slice A1_2 l1_2.length c1_2]] w fun e w' => e = .returned (.bool r) ∧ Below w.heap.size w w' := by
 have hu30 := Try.underlying30
 have hu24 := Try.underlying24
 have HR0_1 := Aside0.mk hr0_1
 have HC0_1 := Aside0.mk hc0_1
 clear hr0_1 hc0_1
 have HR0_2 := Aside0.mk hr0_2
 have HC0_2 := Aside0.mk hc0_2
 clear hr0_2 hc0_2
 have HR1_1 := Aside0.mk hr1_1
 have HC1_1 := Aside0.mk hc1_1
 clear hr1_1 hc1_1
 have HR1_2 := Aside0.mk hr1_2
 have HC1_2 := Aside0.mk hc1_2
 clear hr1_2 hc1_2
 have HB := Aside0.mk (Below.refl w.heap.size w)
 have H : ((laws_szRat.f a0_0 l0_1 l0_2 1048576).bind fun tH1 => (if tH1 < 0 then (some true) else ((laws_szRat.f a1_0 l1_1 l1_2 tH1).bind fun tJ7 => (if tJ7 < 0 then (some true) else ((laws_toRat.f k a0_0 l0_1 l0_2).bind fun btD7 => ((laws_toRat.f k a1_0 l1_1 l1_2).bind fun btD1 => ((spec_SubRat.f k btD7.1 btD7.2.1 btD7.2.2 btD1.1 btD1.2.1 btD1.2.2).bind fun btA6 => ((laws_toRat.f k a0_0 l0_1 l0_2).bind fun btB4 => ((laws_toRat.f k a1_0 l1_1 l1_2).bind fun btB3 => ((impl_SubRat.f k btB4.1 btB4.2.1 btB4.2.2 btB3.1 btB3.2.1 btB3.2.2).bind fun btA5 => ((laws_eqRat.f k btA5.1 btA5.2.1 btA5.2.2.1 btA6.1 btA6.2.1 btA6.2.2.1).bind fun tF0 => (if tF0 = true then (laws_FnExactSubRat.j0 k btA6.2.2.2 btA5.2.2.2 (btA5.2.2.2 != btA6.2.2.2) a0_0 l0_1 l0_2 a1_0 l1_1 l1_2 btA6.1 btA6.2.1 btA6.2.2.1 btB4.1 btB4.2.1 btB4.2.2 btB3.1 btB3.2.1 btB3.2.2 btA5.1 btA5.2.1 btA5.2.2.1) else (laws_FnExactSubRat.j0 k btA6.2.2.2 btA5.2.2.2 true a0_0 l0_1 l0_2 a1_0 l1_1 l1_2 btA6.1 btA6.2.1 btA6.2.2.1 btB4.1 btB4.2.1 btB4.2.2 btB3.1 btB3.2.1 btB3.2.2 btA5.1 btA5.2.1 btA5.2.2.1))))))))))))) = some r := h
 clear h
 replace H := Option.bind_eq_some_iff.mp H
 obtain ⟨tH1, A30, H⟩ := H
 replace H : (if tH1 < 0 then (some true) else ((laws_szRat.f a1_0 l1_1 l1_2 tH1).bind fun tJ7 => (if tJ7 < 0 then (some true) else ((laws_toRat.f k a0_0 l0_1 l0_2).bind fun btD7 => ((laws_toRat.f k a1_0 l1_1 l1_2).bind fun btD1 => ((spec_SubRat.f k btD7.1 btD7.2.1 btD7.2.2 btD1.1 btD1.2.1 btD1.2.2).bind fun btA6 => ((laws_toRat.f k a0_0 l0_1 l0_2).bind fun btB4 => ((laws_toRat.f k a1_0 l1_1 l1_2).bind fun btB3 => ((impl_SubRat.f k btB4.1 btB4.2.1 btB4.2.2 btB3.1 btB3.2.1 btB3.2.2).bind fun btA5 => ((laws_eqRat.f k btA5.1 btA5.2.1 btA5.2.2.1 btA6.1 btA6.2.1 btA6.2.2.1).bind fun tF0 => (if tF0 = true then (laws_FnExactSubRat.j0 k btA6.2.2.2 btA5.2.2.2 (btA5.2.2.2 != btA6.2.2.2) a0_0 l0_1 l0_2 a1_0 l1_1 l1_2 btA6.1 btA6.2.1 btA6.2.2.1 btB4.1 btB4.2.1 btB4.2.2 btB3.1 btB3.2.1 btB3.2.2 btA5.1 btA5.2.1 btA5.2.2.1) else (laws_FnExactSubRat.j0 k btA6.2.2.2 btA5.2.2.2 true a0_0 l0_1 l0_2 a1_0 l1_1 l1_2 btA6.1 btA6.2.1 btA6.2.2.1 btB4.1 btB4.2.1 btB4.2.2 btB3.1 btB3.2.1 btB3.2.2 btA5.1 btA5.2.1 btA5.2.2.1)))))))))))) = some r := H
 have A3 := Aside0.mk A30
 clear A30
 by_cases c4 : tH1 < 0
 ·
  rw [if_pos c4] at H
  have c4b0 : decide (tH1 < 0) = true := decide_eq_true c4
  clear c4
  obtain rfl := Option.some.inj H
  go_enter Try.func12, Try.ntmps12
  go_wp2_with (first | ((with_reducible refine gate_dst (N := 2) rfl ?_); refine bx_ (N := 2) (cs := #[.bool a0_0, .slice A0_1 l0_1.length c0_1, .slice A0_2 l0_2.length c0_2]) (t := 30) ?_; intro gbA0 hg w5 hbox hb; have BKA0 := Aside0.mk (hbox); have GWA0 := geh hg HB; have GEA0 := geh hg HB; replace HB := bst HB hb; clear hb hbox hg) | ((with_reducible refine gate_dst (N := 3) rfl ?_); refine bx_ (N := 3) (cs := #[.bool a1_0, .slice A1_1 l1_1.length c1_1, .slice A1_2 l1_2.length c1_2]) (t := 30) ?_; intro gbA1 hg w6 hbox hb; have BKA1 := Aside0.mk (hbox); have GWA1 := geh hg HB; have GEA1 := geh hg HB; replace HB := bst HB hb; have NBA0_A1 := nlt hg BKA0; have NBA1_A0 := ngt hg BKA0; replace BKA0 := bkb BKA0 hb; clear hb hbox hg; have hnb7 := NBA0_A1.out; have hnc7 := NBA1_A0.out; obtain ⟨hcz8_0, hcz8_1, hcz8_2, hfz8_0, hfz8_1, hfz8_2⟩ := bc3 BKA0) | ((with_reducible refine gate_callee (f := 20) rfl ?_); refine gL_ (some 19) Try.func20 #[.agg #[.bool a0_0, .slice A0_1 l0_1.length c0_1, .slice A0_2 l0_2.length c0_2], .int .i64 1048576] ?_; (with_reducible refine (laws_szRat.calls a0_0 _ _ l0_1 _ _ l0_2 1048576 tH1 _ ?side1 ?side2 ?side3 ?side4 A3.out).mono ?_); (case side1 => exact crC (Kd.C_below HR0_1.out HB.out)); (case side2 => exact HC0_1.out); (case side3 => exact crC (Kd.C_below HR0_2.out HB.out)); (case side4 => exact HC0_2.out); rintro e w9 ⟨rfl, hb⟩; refine ⟨_, rfl, ?_⟩; replace BKA0 := bkb BKA0 hb; replace BKA1 := bkb BKA1 hb; replace HB := bst HB hb; (try clear hb); (try clear hb2); (try clear hk); (try clear hi)))
  go_ret
  exact ⟨er_, blw HB⟩
 ·
  rw [if_neg c4] at H
  have c4b0 : decide (tH1 < 0) = false := decide_eq_false c4
  clear c4
  replace H := Option.bind_eq_some_iff.mp H
  obtain ⟨tJ7, AM4, H⟩ := H
  replace H : (if tJ7 < 0 then (some true) else ((laws_toRat.f k a0_0 l0_1 l0_2).bind fun btD7 => ((laws_toRat.f k a1_0 l1_1 l1_2).bind fun btD1 => ((spec_SubRat.f k btD7.1 btD7.2.1 btD7.2.2 btD1.1 btD1.2.1 btD1.2.2).bind fun btA6 => ((laws_toRat.f k a0_0 l0_1 l0_2).bind fun btB4 => ((laws_toRat.f k a1_0 l1_1 l1_2).bind fun btB3 => ((impl_SubRat.f k btB4.1 btB4.2.1 btB4.2.2 btB3.1 btB3.2.1 btB3.2.2).bind fun btA5 => ((laws_eqRat.f k btA5.1 btA5.2.1 btA5.2.2.1 btA6.1 btA6.2.1 btA6.2.2.1).bind fun tF0 => (if tF0 = true then (laws_FnExactSubRat.j0 k btA6.2.2.2 btA5.2.2.2 (btA5.2.2.2 != btA6.2.2.2) a0_0 l0_1 l0_2 a1_0 l1_1 l1_2 btA6.1 btA6.2.1 btA6.2.2.1 btB4.1 btB4.2.1 btB4.2.2 btB3.1 btB3.2.1 btB3.2.2 btA5.1 btA5.2.1 btA5.2.2.1) else (laws_FnExactSubRat.j0 k btA6.2.2.2 btA5.2.2.2 true a0_0 l0_1 l0_2 a1_0 l1_1 l1_2 btA6.1 btA6.2.1 btA6.2.2.1 btB4.1 btB4.2.1 btB4.2.2 btB3.1 btB3.2.1 btB3.2.2 btA5.1 btA5.2.1 btA5.2.2.1)))))))))) = some r := H
  have A10 := Aside0.mk AM4
  clear AM4
  by_cases c11 : tJ7 < 0
  ·
   rw [if_pos c11] at H
   have c11b0 : decide (tJ7 < 0) = true := decide_eq_true c11
   clear c11
   obtain rfl := Option.some.inj H
   go_enter Try.func12, Try.ntmps12
   go_wp2_with (first | ((with_reducible refine gate_dst (N := 2) rfl ?_); refine bx_ (N := 2) (cs := #[.bool a0_0, .slice A0_1 l0_1.length c0_1, .slice A0_2 l0_2.length c0_2]) (t := 30) ?_; intro gbA0 hg w12 hbox hb; have BKA0 := Aside0.mk (hbox); have GWA0 := geh hg HB; have GEA0 := geh hg HB; replace HB := bst HB hb; clear hb hbox hg) | ((with_reducible refine gate_dst (N := 3) rfl ?_); refine bx_ (N := 3) (cs := #[.bool a1_0, .slice A1_1 l1_1.length c1_1, .slice A1_2 l1_2.length c1_2]) (t := 30) ?_; intro gbA1 hg w13 hbox hb; have BKA1 := Aside0.mk (hbox); have GWA1 := geh hg HB; have GEA1 := geh hg HB; replace HB := bst HB hb; have NBA0_A1 := nlt hg BKA0; have NBA1_A0 := ngt hg BKA0; replace BKA0 := bkb BKA0 hb; clear hb hbox hg; have hnb14 := NBA0_A1.out; have hnc14 := NBA1_A0.out; obtain ⟨hcz15_0, hcz15_1, hcz15_2, hfz15_0, hfz15_1, hfz15_2⟩ := bc3 BKA0) | ((with_reducible refine gate_callee (f := 20) rfl ?_); refine gL_ (some 19) Try.func20 #[.agg #[.bool a0_0, .slice A0_1 l0_1.length c0_1, .slice A0_2 l0_2.length c0_2], .int .i64 1048576] ?_; (with_reducible refine (laws_szRat.calls a0_0 _ _ l0_1 _ _ l0_2 1048576 tH1 _ ?side1 ?side2 ?side3 ?side4 A3.out).mono ?_); (case side1 => exact crC (Kd.C_below HR0_1.out HB.out)); (case side2 => exact HC0_1.out); (case side3 => exact crC (Kd.C_below HR0_2.out HB.out)); (case side4 => exact HC0_2.out); rintro e w16 ⟨rfl, hb⟩; refine ⟨_, rfl, ?_⟩; replace BKA0 := bkb BKA0 hb; replace BKA1 := bkb BKA1 hb; replace HB := bst HB hb; (try clear hb); (try clear hb2); (try clear hk); (try clear hi); obtain ⟨hcz17_0, hcz17_1, hcz17_2, hfz17_0, hfz17_1, hfz17_2⟩ := bc3 BKA1) | ((with_reducible refine gate_callee (f := 20) rfl ?_); refine gL_ (some 24) Try.func20 #[.agg #[.bool a1_0, .slice A1_1 l1_1.length c1_1, .slice A1_2 l1_2.length c1_2], .int .i64 tH1] ?_; (with_reducible refine (laws_szRat.calls a1_0 _ _ l1_1 _ _ l1_2 tH1 tJ7 _ ?side1 ?side2 ?side3 ?side4 A10.out).mono ?_); (case side1 => exact crC (Kd.C_below HR1_1.out HB.out)); (case side2 => exact HC1_1.out); (case side3 => exact crC (Kd.C_below HR1_2.out HB.out)); (case side4 => exact HC1_2.out); rintro e w18 ⟨rfl, hb⟩; refine ⟨_, rfl, ?_⟩; replace BKA0 := bkb BKA0 hb; replace BKA1 := bkb BKA1 hb; replace HB := bst HB hb; (try clear hb); (try clear hb2); (try clear hk); (try clear hi)))
   go_ret
   exact ⟨er_, blw HB⟩
  ·
   rw [if_neg c11] at H
   have c11b0 : decide (tJ7 < 0) = false := decide_eq_false c11
   clear c11
   replace H := Option.bind_eq_some_iff.mp H
   obtain ⟨⟨tD7, tD4, tD5⟩, AO3, H⟩ := H
   replace H : ((laws_toRat.f k a1_0 l1_1 l1_2).bind fun btD1 => ((spec_SubRat.f k tD7 tD4 tD5 btD1.1 btD1.2.1 btD1.2.2).bind fun btA6 => ((laws_toRat.f k a0_0 l0_1 l0_2).bind fun btB4 => ((laws_toRat.f k a1_0 l1_1 l1_2).bind fun btB3 => ((impl_SubRat.f k btB4.1 btB4.2.1 btB4.2.2 btB3.1 btB3.2.1 btB3.2.2).bind fun btA5 => ((laws_eqRat.f k btA5.1 btA5.2.1 btA5.2.2.1 btA6.1 btA6.2.1 btA6.2.2.1).bind fun tF0 => (if tF0 = true then (laws_FnExactSubRat.j0 k btA6.2.2.2 btA5.2.2.2 (btA5.2.2.2 != btA6.2.2.2) a0_0 l0_1 l0_2 a1_0 l1_1 l1_2 btA6.1 btA6.2.1 btA6.2.2.1 btB4.1 btB4.2.1 btB4.2.2 btB3.1 btB3.2.1 btB3.2.2 btA5.1 btA5.2.1 btA5.2.2.1) else (laws_FnExactSubRat.j0 k btA6.2.2.2 btA5.2.2.2 true a0_0 l0_1 l0_2 a1_0 l1_1 l1_2 btA6.1 btA6.2.1 btA6.2.2.1 btB4.1 btB4.2.1 btB4.2.2 btB3.1 btB3.2.1 btB3.2.2 btA5.1 btA5.2.1 btA5.2.2.1)))))))) = some r := H
   have A19 := Aside0.mk AO3
   clear AO3
   replace H := Option.bind_eq_some_iff.mp H
   obtain ⟨⟨tD1, tE1, tE2⟩, AI8, H⟩ := H
   replace H : ((spec_SubRat.f k tD7 tD4 tD5 tD1 tE1 tE2).bind fun btA6 => ((laws_toRat.f k a0_0 l0_1 l0_2).bind fun btB4 => ((laws_toRat.f k a1_0 l1_1 l1_2).bind fun btB3 => ((impl_SubRat.f k btB4.1 btB4.2.1 btB4.2.2 btB3.1 btB3.2.1 btB3.2.2).bind fun btA5 => ((laws_eqRat.f k btA5.1 btA5.2.1 btA5.2.2.1 btA6.1 btA6.2.1 btA6.2.2.1).bind fun tF0 => (if tF0 = true then (laws_FnExactSubRat.j0 k btA6.2.2.2 btA5.2.2.2 (btA5.2.2.2 != btA6.2.2.2) a0_0 l0_1 l0_2 a1_0 l1_1 l1_2 btA6.1 btA6.2.1 btA6.2.2.1 btB4.1 btB4.2.1 btB4.2.2 btB3.1 btB3.2.1 btB3.2.2 btA5.1 btA5.2.1 btA5.2.2.1) else (laws_FnExactSubRat.j0 k btA6.2.2.2 btA5.2.2.2 true a0_0 l0_1 l0_2 a1_0 l1_1 l1_2 btA6.1 btA6.2.1 btA6.2.2.1 btB4.1 btB4.2.1 btB4.2.2 btB3.1 btB3.2.1 btB3.2.2 btA5.1 btA5.2.1 btA5.2.2.1))))))) = some r := H
   have A20 := Aside0.mk AI8
   clear AI8
   replace H := Option.bind_eq_some_iff.mp H
   obtain ⟨⟨tA6, tA7, tA8, tB7⟩, AK0, H⟩ := H
   replace H : ((laws_toRat.f k a0_0 l0_1 l0_2).bind fun btB4 => ((laws_toRat.f k a1_0 l1_1 l1_2).bind fun btB3 => ((impl_SubRat.f k btB4.1 btB4.2.1 btB4.2.2 btB3.1 btB3.2.1 btB3.2.2).bind fun btA5 => ((laws_eqRat.f k btA5.1 btA5.2.1 btA5.2.2.1 tA6 tA7 tA8).bind fun tF0 => (if tF0 = true then (laws_FnExactSubRat.j0 k tB7 btA5.2.2.2 (btA5.2.2.2 != tB7) a0_0 l0_1 l0_2 a1_0 l1_1 l1_2 tA6 tA7 tA8 btB4.1 btB4.2.1 btB4.2.2 btB3.1 btB3.2.1 btB3.2.2 btA5.1 btA5.2.1 btA5.2.2.1) else (laws_FnExactSubRat.j0 k tB7 btA5.2.2.2 true a0_0 l0_1 l0_2 a1_0 l1_1 l1_2 tA6 tA7 tA8 btB4.1 btB4.2.1 btB4.2.2 btB3.1 btB3.2.1 btB3.2.2 btA5.1 btA5.2.1 btA5.2.2.1)))))) = some r := H
   have A21 := Aside0.mk AK0
   clear AK0
   replace H := Option.bind_eq_some_iff.mp H
   obtain ⟨⟨tB4, tC0, tC1⟩, AK1, H⟩ := H
   replace H : ((laws_toRat.f k a1_0 l1_1 l1_2).bind fun btB3 => ((impl_SubRat.f k tB4 tC0 tC1 btB3.1 btB3.2.1 btB3.2.2).bind fun btA5 => ((laws_eqRat.f k btA5.1 btA5.2.1 btA5.2.2.1 tA6 tA7 tA8).bind fun tF0 => (if tF0 = true then (laws_FnExactSubRat.j0 k tB7 btA5.2.2.2 (btA5.2.2.2 != tB7) a0_0 l0_1 l0_2 a1_0 l1_1 l1_2 tA6 tA7 tA8 tB4 tC0 tC1 btB3.1 btB3.2.1 btB3.2.2 btA5.1 btA5.2.1 btA5.2.2.1) else (laws_FnExactSubRat.j0 k tB7 btA5.2.2.2 true a0_0 l0_1 l0_2 a1_0 l1_1 l1_2 tA6 tA7 tA8 tB4 tC0 tC1 btB3.1 btB3.2.1 btB3.2.2 btA5.1 btA5.2.1 btA5.2.2.1))))) = some r := H
   have A22 := Aside0.mk AK1
   clear AK1
   replace H := Option.bind_eq_some_iff.mp H
   obtain ⟨⟨tB3, tB8, tB9⟩, AP7, H⟩ := H
   replace H : ((impl_SubRat.f k tB4 tC0 tC1 tB3 tB8 tB9).bind fun btA5 => ((laws_eqRat.f k btA5.1 btA5.2.1 btA5.2.2.1 tA6 tA7 tA8).bind fun tF0 => (if tF0 = true then (laws_FnExactSubRat.j0 k tB7 btA5.2.2.2 (btA5.2.2.2 != tB7) a0_0 l0_1 l0_2 a1_0 l1_1 l1_2 tA6 tA7 tA8 tB4 tC0 tC1 tB3 tB8 tB9 btA5.1 btA5.2.1 btA5.2.2.1) else (laws_FnExactSubRat.j0 k tB7 btA5.2.2.2 true a0_0 l0_1 l0_2 a1_0 l1_1 l1_2 tA6 tA7 tA8 tB4 tC0 tC1 tB3 tB8 tB9 btA5.1 btA5.2.1 btA5.2.2.1)))) = some r := H
   have A23 := Aside0.mk AP7
   clear AP7
   replace H := Option.bind_eq_some_iff.mp H
   obtain ⟨⟨tA5, tA9, tB0, tE3⟩, AP8, H⟩ := H
   replace H : ((laws_eqRat.f k tA5 tA9 tB0 tA6 tA7 tA8).bind fun tF0 => (if tF0 = true then (laws_FnExactSubRat.j0 k tB7 tE3 (tE3 != tB7) a0_0 l0_1 l0_2 a1_0 l1_1 l1_2 tA6 tA7 tA8 tB4 tC0 tC1 tB3 tB8 tB9 tA5 tA9 tB0) else (laws_FnExactSubRat.j0 k tB7 tE3 true a0_0 l0_1 l0_2 a1_0 l1_1 l1_2 tA6 tA7 tA8 tB4 tC0 tC1 tB3 tB8 tB9 tA5 tA9 tB0))) = some r := H
   have A24 := Aside0.mk AP8
   clear AP8
   have HC25 := Aside0.mk H
   clear H
   go_enter Try.func12, Try.ntmps12
   try go_wp2_with (first | ((with_reducible refine gate_dst (N := 2) rfl ?_); refine bx_ (N := 2) (cs := #[.bool a0_0, .slice A0_1 l0_1.length c0_1, .slice A0_2 l0_2.length c0_2]) (t := 30) ?_; intro gbA0 hg w26 hbox hb; have BKA0 := Aside0.mk (hbox); have GWA0 := geh hg HB; have GEA0 := geh hg HB; replace HB := bst HB hb; clear hb hbox hg) | ((with_reducible refine gate_dst (N := 3) rfl ?_); refine bx_ (N := 3) (cs := #[.bool a1_0, .slice A1_1 l1_1.length c1_1, .slice A1_2 l1_2.length c1_2]) (t := 30) ?_; intro gbA1 hg w27 hbox hb; have BKA1 := Aside0.mk (hbox); have GWA1 := geh hg HB; have GEA1 := geh hg HB; replace HB := bst HB hb; have NBA0_A1 := nlt hg BKA0; have NBA1_A0 := ngt hg BKA0; replace BKA0 := bkb BKA0 hb; clear hb hbox hg; have hnb28 := NBA0_A1.out; have hnc28 := NBA1_A0.out; obtain ⟨hcz29_0, hcz29_1, hcz29_2, hfz29_0, hfz29_1, hfz29_2⟩ := bc3 BKA0) | ((with_reducible refine gate_callee (f := 20) rfl ?_); refine gL_ (some 19) Try.func20 #[.agg #[.bool a0_0, .slice A0_1 l0_1.length c0_1, .slice A0_2 l0_2.length c0_2], .int .i64 1048576] ?_; (with_reducible refine (laws_szRat.calls a0_0 _ _ l0_1 _ _ l0_2 1048576 tH1 _ ?side1 ?side2 ?side3 ?side4 A3.out).mono ?_); (case side1 => exact crC (Kd.C_below HR0_1.out HB.out)); (case side2 => exact HC0_1.out); (case side3 => exact crC (Kd.C_below HR0_2.out HB.out)); (case side4 => exact HC0_2.out); rintro e w30 ⟨rfl, hb⟩; refine ⟨_, rfl, ?_⟩; replace BKA0 := bkb BKA0 hb; replace BKA1 := bkb BKA1 hb; replace HB := bst HB hb; (try clear hb); (try clear hb2); (try clear hk); (try clear hi); obtain ⟨hcz31_0, hcz31_1, hcz31_2, hfz31_0, hfz31_1, hfz31_2⟩ := bc3 BKA1) | ((with_reducible refine gate_callee (f := 20) rfl ?_); refine gL_ (some 24) Try.func20 #[.agg #[.bool a1_0, .slice A1_1 l1_1.length c1_1, .slice A1_2 l1_2.length c1_2], .int .i64 tH1] ?_; (with_reducible refine (laws_szRat.calls a1_0 _ _ l1_1 _ _ l1_2 tH1 tJ7 _ ?side1 ?side2 ?side3 ?side4 A10.out).mono ?_); (case side1 => exact crC (Kd.C_below HR1_1.out HB.out)); (case side2 => exact HC1_1.out); (case side3 => exact crC (Kd.C_below HR1_2.out HB.out)); (case side4 => exact HC1_2.out); rintro e w32 ⟨rfl, hb⟩; refine ⟨_, rfl, ?_⟩; replace BKA0 := bkb BKA0 hb; replace BKA1 := bkb BKA1 hb; replace HB := bst HB hb; (try clear hb); (try clear hb2); (try clear hk); (try clear hi)))
   replace BKA0 := Aside0.mk (blk_drew BKA0.out)
   replace BKA1 := Aside0.mk (blk_drew BKA1.out)
   replace HB := Aside0.mk (below_drew1 HB.out)
   refine start_ (n := 11) (S := fun w' => w'.cell? ⟨gbA0, 0, none⟩ = some (.bool a0_0) ∧ w'.cell? ⟨gbA0, 1, none⟩ = some (.slice A0_1 l0_1.length c0_1) ∧ w'.cell? ⟨gbA0, 2, none⟩ = some (.slice A0_2 l0_2.length c0_2) ∧ w'.cell? ⟨gbA1, 0, none⟩ = some (.bool a1_0) ∧ w'.cell? ⟨gbA1, 1, none⟩ = some (.slice A1_1 l1_1.length c1_1) ∧ w'.cell? ⟨gbA1, 2, none⟩ = some (.slice A1_2 l1_2.length c1_2)) (ds := []) (bm 11 0) (by kernel_rfl) rfl rfl ⟨bce BKA0 0 _, bce BKA0 1 _, bce BKA0 2 _, bce BKA1 0 _, bce BKA1 1 _, bce BKA1 2 _⟩ (fun hHeld => ?_); refine with_tabW laws_FnExactSubRat.tab8 laws_FnExactSubRat.bits8 (fun HT_ HW_ => ?_)
   generalize w32.drew = w33 at BKA0 BKA1 HB hHeld ⊢
   refine tk_ 0 (some 28) (bm 11 1) HT_.out HW_.out hHeld ?_
   refine tk_ 2 (some 30) (bm 11 5) HT_.out HW_.out hHeld ?_
   refine join_ (σ := Value × Value × Value × Value × Value × Value × Nat) 2 (bm 11 511) (fun s_ => [(29, .agg #[.bool tD7, s_.1, s_.2.1]), (31, .agg #[.bool tD1, s_.2.2.1, s_.2.2.2.1]), (32, .tuple #[.agg #[.bool tA6, s_.2.2.2.2.1, s_.2.2.2.2.2.1], .int .i64 tB7]), (6, .pointer (some ⟨s_.2.2.2.2.2.2, 0, none⟩)), (27, .tuple #[.agg #[.bool tA6, s_.2.2.2.2.1, s_.2.2.2.2.2.1], .int .i64 tB7]), (33, .agg #[.bool tA6, s_.2.2.2.2.1, s_.2.2.2.2.2.1]), (34, .int .i64 tB7)]) (fun s_ w' => (w'.cell? ⟨gbA0, 0, none⟩ = some (.bool a0_0) ∧ w'.cell? ⟨gbA0, 1, none⟩ = some (.slice A0_1 l0_1.length c0_1) ∧ w'.cell? ⟨gbA0, 2, none⟩ = some (.slice A0_2 l0_2.length c0_2) ∧ w'.cell? ⟨gbA1, 0, none⟩ = some (.bool a1_0) ∧ w'.cell? ⟨gbA1, 1, none⟩ = some (.slice A1_1 l1_1.length c1_1) ∧ w'.cell? ⟨gbA1, 2, none⟩ = some (.slice A1_2 l1_2.length c1_2)) ∧ (Kd.R (Kd.int .i64) 3 w' w.heap.size (fun k_ => nO k_ s_.2.1 ∧ nO k_ s_.2.2.2.2.1 ∧ nO k_ s_.2.2.2.2.2.1) s_.1 tD4) ∧ (Kd.R (Kd.int .i64) 3 w' w.heap.size (fun k_ => nO k_ s_.1 ∧ nO k_ s_.2.2.2.2.1 ∧ nO k_ s_.2.2.2.2.2.1) s_.2.1 tD5) ∧ (Kd.R (Kd.int .i64) 3 w' w.heap.size (fun k_ => nO k_ s_.1 ∧ nO k_ s_.2.1 ∧ nO k_ s_.2.2.2.2.2.1) s_.2.2.2.2.1 tA7) ∧ (Kd.R (Kd.int .i64) 3 w' w.heap.size (fun k_ => nO k_ s_.1 ∧ nO k_ s_.2.1 ∧ nO k_ s_.2.2.2.2.1) s_.2.2.2.2.2.1 tA8) ∧ (w'.heap[gbA0]? = some (.cells #[.bool a0_0, .slice A0_1 l0_1.length c0_1, .slice A0_2 l0_2.length c0_2] 30 (0, 0))) ∧ (w'.heap[gbA1]? = some (.cells #[.bool a1_0, .slice A1_1 l1_1.length c1_1, .slice A1_2 l1_2.length c1_2] 30 (0, 0))) ∧ (w'.heap[s_.2.2.2.2.2.2]? = some (.cells #[.bool false, .slice none 0 0, .slice none 0 0] 24 (0, 0))) ∧ (w.heap.size ≤ s_.2.2.2.2.2.2) ∧ (w.heap.size ≤ s_.2.2.2.2.2.2) ∧ (gbA0 ≠ s_.2.2.2.2.2.2) ∧ (s_.2.2.2.2.2.2 ≠ gbA0) ∧ (gbA1 ≠ s_.2.2.2.2.2.2) ∧ (s_.2.2.2.2.2.2 ≠ gbA1) ∧ (Below w.heap.size w w')) ?_ ?_
   rotate_left
   ·
    intro hCont
    refine two_ (i := 1) (j := 8) (Ni := some 29) (Nj := some 6) (bm 11 7) (bm 11 261) rfl rfl rfl rfl (two_of HT_.out (by kernel_rfl)) (by decide) (by decide) (fun K hK => ?_) (fun K hK => ?_)
    ·
     skip
     refine g_ Try.func22 #[.agg #[.bool a0_0, .slice A0_1 l0_1.length c0_1, .slice A0_2 l0_2.length c0_2]] ?_
     with_reducible refine (laws_toRat.calls k a0_0 _ _ l0_1 _ _ l0_2 tD7 tD4 tD5 _ ?side1 ?side2 ?side3 ?side4 A19.out).mono ?_
     (case side1 => exact crC (Kd.C_below HR0_1.out HB.out))
     (case side2 => exact HC0_1.out)
     (case side3 => exact crC (Kd.C_below HR0_2.out HB.out))
     (case side4 => exact HC0_2.out)
     rintro e w34 ⟨vH2, vH3, rfl, ho0, ho1, hb⟩
     refine ⟨_, rfl, ?_⟩
     have HOB5 := lwR ho0 HB
     have HOB6 := lwR ho1 HB
     replace BKA0 := bkb BKA0 hb
     replace BKA1 := bkb BKA1 hb
     replace HB := bst HB hb
     (try clear hb)
     (try clear hb2)
     (try clear hk)
     (try clear hi)
     (try clear ho0)
     (try clear ho1)
     refine hK.out _ _ ⟨bce BKA0 0 _, bce BKA0 1 _, bce BKA0 2 _, bce BKA1 0 _, bce BKA1 1 _, bce BKA1 2 _⟩ (fun hHeld => ?_)
     clear hK K
     refine nm_ 29 ?_
     refine two_ (i := 3) (j := 8) (Ni := some 31) (Nj := some 6) (bm 11 15) (bm 11 263) rfl rfl rfl rfl (two_of HT_.out (by kernel_rfl)) (by decide) (by decide) (fun K hK => ?_) (fun K hK => ?_)
     ·
      skip
      refine g_ Try.func22 #[.agg #[.bool a1_0, .slice A1_1 l1_1.length c1_1, .slice A1_2 l1_2.length c1_2]] ?_
      with_reducible refine (laws_toRat.calls k a1_0 _ _ l1_1 _ _ l1_2 tD1 tE1 tE2 _ ?side1 ?side2 ?side3 ?side4 A20.out).mono ?_
      (case side1 => exact crC (Kd.C_below HR1_1.out HB.out))
      (case side2 => exact HC1_1.out)
      (case side3 => exact crC (Kd.C_below HR1_2.out HB.out))
      (case side4 => exact HC1_2.out)
      rintro e w35 ⟨vL7, vL8, rfl, ho0, ho1, hb⟩
      refine ⟨_, rfl, ?_⟩
      have HOD2 := lwR (nwR (nwR ho0 HOB5) HOB6) HB
      have HOD3 := lwR (nwR (nwR ho1 HOB5) HOB6) HB
      replace HOB5 := tldR HOB5 hb (Kd.R_base ho0) (Kd.R_base ho1)
      replace HOB6 := tldR HOB6 hb (Kd.R_base ho0) (Kd.R_base ho1)
      replace BKA0 := bkb BKA0 hb
      replace BKA1 := bkb BKA1 hb
      replace HB := bst HB hb
      (try clear hb)
      (try clear hb2)
      (try clear hk)
      (try clear hi)
      (try clear ho0)
      (try clear ho1)
      obtain ⟨Ao36, co36, eo36⟩ := Kd.R_slice HOB5.out
      (first | subst eo36 | (injection eo36 with f1_ f2_ f3_; have f4_ := f1_.symm; have f5_ := f3_.symm; clear f1_ f2_ f3_; subst f4_; subst f5_))
      obtain ⟨Ao37, co37, eo37⟩ := Kd.R_slice HOB6.out
      (first | subst eo37 | (injection eo37 with f1_ f2_ f3_; have f4_ := f1_.symm; have f5_ := f3_.symm; clear f1_ f2_ f3_; subst f4_; subst f5_))
      obtain ⟨Ao38, co38, eo38⟩ := Kd.R_slice HOD2.out
      (first | subst eo38 | (injection eo38 with f1_ f2_ f3_; have f4_ := f1_.symm; have f5_ := f3_.symm; clear f1_ f2_ f3_; subst f4_; subst f5_))
      obtain ⟨Ao39, co39, eo39⟩ := Kd.R_slice HOD3.out
      (first | subst eo39 | (injection eo39 with f1_ f2_ f3_; have f4_ := f1_.symm; have f5_ := f3_.symm; clear f1_ f2_ f3_; subst f4_; subst f5_))
      refine hK.out _ _ ⟨bce BKA0 0 _, bce BKA0 1 _, bce BKA0 2 _, bce BKA1 0 _, bce BKA1 1 _, bce BKA1 2 _⟩ (fun hHeld => ?_)
      clear hK K
      refine nm_ 31 ?_
      refine two_ (i := 4) (j := 8) (Ni := some 32) (Nj := some 6) (bm 11 31) (bm 11 271) rfl rfl rfl rfl (two_of HT_.out (by kernel_rfl)) (by decide) (by decide) (fun K hK => ?_) (fun K hK => ?_)
      ·
       skip
       refine g_ Try.func38 #[.agg #[.bool tD7, .slice Ao36 tD4.length co36, .slice Ao37 tD5.length co37], .agg #[.bool tD1, .slice Ao38 tE1.length co38, .slice Ao39 tE2.length co39]] ?_
       with_reducible refine (spec_SubRat.calls k tD7 _ _ tD4 _ _ tD5 tD1 (fun k_ => some k_ = (.slice Ao38 tE1.length co38 : Value).ownBlock) (.slice Ao38 tE1.length co38) tE1 (fun k_ => some k_ = (.slice Ao39 tE2.length co39 : Value).ownBlock) (.slice Ao39 tE2.length co39) tE2 tA6 tA7 tA8 tB7 w _ ?side1 ?side2 ?side3 ?side4 ?side5 ?side6 ?side7 ?side8 ?side9 A21.out).mono ?_
       (case side1 => repeat (first | (with_reducible first | exact HB.out | apply below_alloc | apply pw_below_drewN | apply below_drew1 | refine below_set ?_ GEA0.out | refine below_set ?_ GEA1.out) | exact HB.out))
       (case side2 => exact Kd.C_kept_own (HOB5.out) (fun k_ hk_ hs_ => Or.elim hs_ (fun e_ => (hk_.1.2) e_) (fun e_ => (hk_.2) e_)))
       (case side3 => exact (Kd.R_reads' HOB5.out).2.1)
       (case side4 => exact Kd.C_kept_own (HOB6.out) (fun k_ hk_ hs_ => Or.elim hs_ (fun e_ => (hk_.1.2) e_) (fun e_ => (hk_.2) e_)))
       (case side5 => exact (Kd.R_reads' HOB6.out).2.1)
       (case side6 => exact Kd.R_tight rfl HOD2.out)
       (case side7 => exact fun k_ e_ => (HOD2.out.1 k_ e_.symm).1.1)
       (case side8 => exact Kd.R_tight rfl HOD3.out)
       (case side9 => exact fun k_ e_ => (HOD3.out.1 k_ e_.symm).1.1)
       rintro e w40 ⟨vE4, vE5, rfl, ho0, ho1, hb, hkp⟩
       refine ⟨_, rfl, ?_⟩
       replace BKA0 := Aside0.mk (blk_kept (crb BKA0) hkp (fun hs_ => Or.elim hs_ (fun e_ => (fun e_ => (Kd.R_ne HOD2.out BKA0.out (by decide)) e_) e_) (fun e_ => (fun e_ => (Kd.R_ne HOD3.out BKA0.out (by decide)) e_) e_)))
       replace BKA1 := Aside0.mk (blk_kept (crb BKA1) hkp (fun hs_ => Or.elim hs_ (fun e_ => (fun e_ => (Kd.R_ne HOD2.out BKA1.out (by decide)) e_) e_) (fun e_ => (fun e_ => (Kd.R_ne HOD3.out BKA1.out (by decide)) e_) e_)))
       have HOC8 := Aside0.mk (Kd.R_mono (ok' := fun k_ => nO k_ vE5 ∧ nO k_ (.slice Ao36 tD4.length co36) ∧ nO k_ (.slice Ao37 tD5.length co37)) ho0 (fun k_ hk_ => ⟨hk_.2, Or.elim hk_.1 (fun hs_ => Or.elim hs_ (fun hs_ => fun e_ => (((HOB5.out).1 k_ e_.symm).1.2) hs_) (fun hs_ => fun e_ => (((HOB5.out).1 k_ e_.symm).2) hs_)) (fun hn_ => (Kd.fresh' (Kd.R_lt (crR HOB5)) k_ hn_)), Or.elim hk_.1 (fun hs_ => Or.elim hs_ (fun hs_ => fun e_ => (((HOB6.out).1 k_ e_.symm).1.2) hs_) (fun hs_ => fun e_ => (((HOB6.out).1 k_ e_.symm).2) hs_)) (fun hn_ => (Kd.fresh' (Kd.R_lt (crR HOB6)) k_ hn_))⟩))
       have HOC9 := Aside0.mk (Kd.R_mono (ok' := fun k_ => nO k_ vE4 ∧ nO k_ (.slice Ao36 tD4.length co36) ∧ nO k_ (.slice Ao37 tD5.length co37)) ho1 (fun k_ hk_ => ⟨hk_.2, Or.elim hk_.1 (fun hs_ => Or.elim hs_ (fun hs_ => fun e_ => (((HOB5.out).1 k_ e_.symm).1.2) hs_) (fun hs_ => fun e_ => (((HOB5.out).1 k_ e_.symm).2) hs_)) (fun hn_ => (Kd.fresh' (Kd.R_lt (crR HOB5)) k_ hn_)), Or.elim hk_.1 (fun hs_ => Or.elim hs_ (fun hs_ => fun e_ => (((HOB6.out).1 k_ e_.symm).1.2) hs_) (fun hs_ => fun e_ => (((HOB6.out).1 k_ e_.symm).2) hs_)) (fun hn_ => (Kd.fresh' (Kd.R_lt (crR HOB6)) k_ hn_))⟩))
       replace HOB5 := Aside0.mk (Kd.R_mono (ok' := fun k_ => nO k_ (.slice Ao37 tD5.length co37) ∧ nO k_ vE4 ∧ nO k_ vE5) (Kd.R_keptB (HOB5.out) hkp (fun k_ hk_ hs_ => Or.elim hs_ (fun e_ => (hk_.1.2) e_) (fun e_ => (hk_.2) e_))) (fun k_ hk_ => ⟨hk_.1.1.1, fun e_ => Or.elim (ho0.1 k_ e_.symm).1 (fun hs_ => hk_.2.1 hs_) (fun hn_ => Nat.not_le.2 hk_.2.2 hn_), fun e_ => Or.elim (ho1.1 k_ e_.symm).1 (fun hs_ => hk_.2.1 hs_) (fun hn_ => Nat.not_le.2 hk_.2.2 hn_)⟩))
       replace HOB6 := Aside0.mk (Kd.R_mono (ok' := fun k_ => nO k_ (.slice Ao36 tD4.length co36) ∧ nO k_ vE4 ∧ nO k_ vE5) (Kd.R_keptB (HOB6.out) hkp (fun k_ hk_ hs_ => Or.elim hs_ (fun e_ => (hk_.1.2) e_) (fun e_ => (hk_.2) e_))) (fun k_ hk_ => ⟨hk_.1.1.1, fun e_ => Or.elim (ho0.1 k_ e_.symm).1 (fun hs_ => hk_.2.1 hs_) (fun hn_ => Nat.not_le.2 hk_.2.2 hn_), fun e_ => Or.elim (ho1.1 k_ e_.symm).1 (fun hs_ => hk_.2.1 hs_) (fun hn_ => Nat.not_le.2 hk_.2.2 hn_)⟩))
       replace HB := Aside0.mk (hb)
       clear HOD2 HOD3
       (try clear hb)
       (try clear hkp)
       (try clear ho0)
       (try clear ho1)
       refine hK.out _ _ ⟨bce BKA0 0 _, bce BKA0 1 _, bce BKA0 2 _, bce BKA1 0 _, bce BKA1 1 _, bce BKA1 2 _⟩ (fun hHeld => ?_)
       clear hK K
       refine nm_ 32 ?_
       refine pu_ 5 (some 27) (bm 11 63) HT_.out ?_
       refine pu_ 6 (some 33) (bm 11 127) HT_.out ?_
       refine pu_ 7 (some 34) (bm 11 255) HT_.out ?_
       refine one_ (i := 8) (N := some 6) (bm 11 511) rfl rfl (one_of HT_.out (by kernel_rfl)) (by decide) (fun K hK => ?_)
       refine bs_ (N := 6) (cs := #[.bool false, .slice none 0 0, .slice none 0 0]) (t := 24) ?_
       intro gbA2 hg w41 hbox hb
       replace HOB5 := rblR HOB5 hb
       replace HOB6 := rblR HOB6 hb
       replace HOC8 := rblR HOC8 hb
       replace HOC9 := rblR HOC9 hb
       have BKA2 := Aside0.mk (hbox)
       have GWA2 := geh hg HB
       have GEA2 := geh hg HB
       replace HB := bst HB hb
       have NBA0_A2 := nlt hg BKA0
       have NBA2_A0 := ngt hg BKA0
       replace BKA0 := bkb BKA0 hb
       have NBA1_A2 := nlt hg BKA1
       have NBA2_A1 := ngt hg BKA1
       replace BKA1 := bkb BKA1 hb
       clear hb hbox hg
       refine hK.out _ _ ⟨bce BKA0 0 _, bce BKA0 1 _, bce BKA0 2 _, bce BKA1 0 _, bce BKA1 1 _, bce BKA1 2 _⟩ (fun hHeld => ?_)
       clear hK K
       refine nm_ 6 ?_
       exact nq_ (hCont (.slice Ao36 tD4.length co36, .slice Ao37 tD5.length co37, .slice Ao38 tE1.length co38, .slice Ao39 tE2.length co39, vE4, vE5, gbA2) _ ⟨hHeld, (crR HOB5), (crR HOB6), (crM HOC8 fun _ hk => ⟨hk.2.1, hk.2.2, hk.1⟩), (crM HOC9 fun _ hk => ⟨hk.2.1, hk.2.2, hk.1⟩), (crb BKA0), (crb BKA1), (crb BKA2), GWA2.out, GEA2.out, NBA0_A2.out, NBA2_A0.out, NBA1_A2.out, NBA2_A1.out, (blw HB)⟩)
      ·
       skip
       refine bs_ (N := 6) (cs := #[.bool false, .slice none 0 0, .slice none 0 0]) (t := 24) ?_
       intro gbA2 hg w36 hbox hb
       replace HOB5 := rblR HOB5 hb
       replace HOB6 := rblR HOB6 hb
       replace HOD2 := rblR HOD2 hb
       replace HOD3 := rblR HOD3 hb
       have BKA2 := Aside0.mk (hbox)
       have GWA2 := geh hg HB
       have GEA2 := geh hg HB
       replace HB := bst HB hb
       have NBA0_A2 := nlt hg BKA0
       have NBA2_A0 := ngt hg BKA0
       replace BKA0 := bkb BKA0 hb
       have NBA1_A2 := nlt hg BKA1
       have NBA2_A1 := ngt hg BKA1
       replace BKA1 := bkb BKA1 hb
       clear hb hbox hg
       obtain ⟨Ao37, co37, eo37⟩ := Kd.R_slice HOB5.out
       (first | subst eo37 | (injection eo37 with f1_ f2_ f3_; have f4_ := f1_.symm; have f5_ := f3_.symm; clear f1_ f2_ f3_; subst f4_; subst f5_))
       obtain ⟨Ao38, co38, eo38⟩ := Kd.R_slice HOB6.out
       (first | subst eo38 | (injection eo38 with f1_ f2_ f3_; have f4_ := f1_.symm; have f5_ := f3_.symm; clear f1_ f2_ f3_; subst f4_; subst f5_))
       obtain ⟨Ao39, co39, eo39⟩ := Kd.R_slice HOD2.out
       (first | subst eo39 | (injection eo39 with f1_ f2_ f3_; have f4_ := f1_.symm; have f5_ := f3_.symm; clear f1_ f2_ f3_; subst f4_; subst f5_))
       obtain ⟨Ao40, co40, eo40⟩ := Kd.R_slice HOD3.out
       (first | subst eo40 | (injection eo40 with f1_ f2_ f3_; have f4_ := f1_.symm; have f5_ := f3_.symm; clear f1_ f2_ f3_; subst f4_; subst f5_))
       refine hK.out _ _ ⟨bce BKA0 0 _, bce BKA0 1 _, bce BKA0 2 _, bce BKA1 0 _, bce BKA1 1 _, bce BKA1 2 _⟩ (fun hHeld => ?_)
       clear hK K
       refine nm_ 6 ?_
       refine one_ (i := 4) (N := some 32) (bm 11 287) rfl rfl (one_of HT_.out (by kernel_rfl)) (by decide) (fun K hK => ?_)
       refine g_ Try.func38 #[.agg #[.bool tD7, .slice Ao37 tD4.length co37, .slice Ao38 tD5.length co38], .agg #[.bool tD1, .slice Ao39 tE1.length co39, .slice Ao40 tE2.length co40]] ?_
       with_reducible refine (spec_SubRat.calls k tD7 _ _ tD4 _ _ tD5 tD1 (fun k_ => some k_ = (.slice Ao39 tE1.length co39 : Value).ownBlock) (.slice Ao39 tE1.length co39) tE1 (fun k_ => some k_ = (.slice Ao40 tE2.length co40 : Value).ownBlock) (.slice Ao40 tE2.length co40) tE2 tA6 tA7 tA8 tB7 w _ ?side1 ?side2 ?side3 ?side4 ?side5 ?side6 ?side7 ?side8 ?side9 A21.out).mono ?_
       (case side1 => repeat (first | (with_reducible first | exact HB.out | apply below_alloc | apply pw_below_drewN | apply below_drew1 | refine below_set ?_ GEA0.out | refine below_set ?_ GEA1.out | refine below_set ?_ GEA2.out) | exact HB.out))
       (case side2 => exact Kd.C_kept_own (HOB5.out) (fun k_ hk_ hs_ => Or.elim hs_ (fun e_ => (hk_.1.2) e_) (fun e_ => (hk_.2) e_)))
       (case side3 => exact (Kd.R_reads' HOB5.out).2.1)
       (case side4 => exact Kd.C_kept_own (HOB6.out) (fun k_ hk_ hs_ => Or.elim hs_ (fun e_ => (hk_.1.2) e_) (fun e_ => (hk_.2) e_)))
       (case side5 => exact (Kd.R_reads' HOB6.out).2.1)
       (case side6 => exact Kd.R_tight rfl HOD2.out)
       (case side7 => exact fun k_ e_ => (HOD2.out.1 k_ e_.symm).1.1)
       (case side8 => exact Kd.R_tight rfl HOD3.out)
       (case side9 => exact fun k_ e_ => (HOD3.out.1 k_ e_.symm).1.1)
       rintro e w41 ⟨vE4, vE5, rfl, ho0, ho1, hb, hkp⟩
       refine ⟨_, rfl, ?_⟩
       replace BKA0 := Aside0.mk (blk_kept (crb BKA0) hkp (fun hs_ => Or.elim hs_ (fun e_ => (fun e_ => (Kd.R_ne HOD2.out BKA0.out (by decide)) e_) e_) (fun e_ => (fun e_ => (Kd.R_ne HOD3.out BKA0.out (by decide)) e_) e_)))
       replace BKA1 := Aside0.mk (blk_kept (crb BKA1) hkp (fun hs_ => Or.elim hs_ (fun e_ => (fun e_ => (Kd.R_ne HOD2.out BKA1.out (by decide)) e_) e_) (fun e_ => (fun e_ => (Kd.R_ne HOD3.out BKA1.out (by decide)) e_) e_)))
       replace BKA2 := Aside0.mk (blk_kept (crb BKA2) hkp (fun hs_ => Or.elim hs_ (fun e_ => (fun e_ => (Kd.R_ne HOD2.out BKA2.out (by decide)) e_) e_) (fun e_ => (fun e_ => (Kd.R_ne HOD3.out BKA2.out (by decide)) e_) e_)))
       have HOC8 := Aside0.mk (Kd.R_mono (ok' := fun k_ => nO k_ vE5 ∧ nO k_ (.slice Ao37 tD4.length co37) ∧ nO k_ (.slice Ao38 tD5.length co38)) ho0 (fun k_ hk_ => ⟨hk_.2, Or.elim hk_.1 (fun hs_ => Or.elim hs_ (fun hs_ => fun e_ => (((HOB5.out).1 k_ e_.symm).1.2) hs_) (fun hs_ => fun e_ => (((HOB5.out).1 k_ e_.symm).2) hs_)) (fun hn_ => (Kd.fresh' (Kd.R_lt (crR HOB5)) k_ hn_)), Or.elim hk_.1 (fun hs_ => Or.elim hs_ (fun hs_ => fun e_ => (((HOB6.out).1 k_ e_.symm).1.2) hs_) (fun hs_ => fun e_ => (((HOB6.out).1 k_ e_.symm).2) hs_)) (fun hn_ => (Kd.fresh' (Kd.R_lt (crR HOB6)) k_ hn_))⟩))
       have HOC9 := Aside0.mk (Kd.R_mono (ok' := fun k_ => nO k_ vE4 ∧ nO k_ (.slice Ao37 tD4.length co37) ∧ nO k_ (.slice Ao38 tD5.length co38)) ho1 (fun k_ hk_ => ⟨hk_.2, Or.elim hk_.1 (fun hs_ => Or.elim hs_ (fun hs_ => fun e_ => (((HOB5.out).1 k_ e_.symm).1.2) hs_) (fun hs_ => fun e_ => (((HOB5.out).1 k_ e_.symm).2) hs_)) (fun hn_ => (Kd.fresh' (Kd.R_lt (crR HOB5)) k_ hn_)), Or.elim hk_.1 (fun hs_ => Or.elim hs_ (fun hs_ => fun e_ => (((HOB6.out).1 k_ e_.symm).1.2) hs_) (fun hs_ => fun e_ => (((HOB6.out).1 k_ e_.symm).2) hs_)) (fun hn_ => (Kd.fresh' (Kd.R_lt (crR HOB6)) k_ hn_))⟩))
       replace HOB5 := Aside0.mk (Kd.R_mono (ok' := fun k_ => nO k_ (.slice Ao38 tD5.length co38) ∧ nO k_ vE4 ∧ nO k_ vE5) (Kd.R_keptB (HOB5.out) hkp (fun k_ hk_ hs_ => Or.elim hs_ (fun e_ => (hk_.1.2) e_) (fun e_ => (hk_.2) e_))) (fun k_ hk_ => ⟨hk_.1.1.1, fun e_ => Or.elim (ho0.1 k_ e_.symm).1 (fun hs_ => hk_.2.1 hs_) (fun hn_ => Nat.not_le.2 hk_.2.2 hn_), fun e_ => Or.elim (ho1.1 k_ e_.symm).1 (fun hs_ => hk_.2.1 hs_) (fun hn_ => Nat.not_le.2 hk_.2.2 hn_)⟩))
       replace HOB6 := Aside0.mk (Kd.R_mono (ok' := fun k_ => nO k_ (.slice Ao37 tD4.length co37) ∧ nO k_ vE4 ∧ nO k_ vE5) (Kd.R_keptB (HOB6.out) hkp (fun k_ hk_ hs_ => Or.elim hs_ (fun e_ => (hk_.1.2) e_) (fun e_ => (hk_.2) e_))) (fun k_ hk_ => ⟨hk_.1.1.1, fun e_ => Or.elim (ho0.1 k_ e_.symm).1 (fun hs_ => hk_.2.1 hs_) (fun hn_ => Nat.not_le.2 hk_.2.2 hn_), fun e_ => Or.elim (ho1.1 k_ e_.symm).1 (fun hs_ => hk_.2.1 hs_) (fun hn_ => Nat.not_le.2 hk_.2.2 hn_)⟩))
       replace HB := Aside0.mk (hb)
       clear HOD2 HOD3
       (try clear hb)
       (try clear hkp)
       (try clear ho0)
       (try clear ho1)
       refine hK.out _ _ ⟨bce BKA0 0 _, bce BKA0 1 _, bce BKA0 2 _, bce BKA1 0 _, bce BKA1 1 _, bce BKA1 2 _⟩ (fun hHeld => ?_)
       clear hK K
       refine nm_ 32 ?_
       refine pu_ 5 (some 27) (bm 11 319) HT_.out ?_
       refine pu_ 6 (some 33) (bm 11 383) HT_.out ?_
       refine pu_ 7 (some 34) (bm 11 511) HT_.out ?_
       exact nq_ (hCont (.slice Ao37 tD4.length co37, .slice Ao38 tD5.length co38, .slice Ao39 tE1.length co39, .slice Ao40 tE2.length co40, vE4, vE5, gbA2) _ ⟨hHeld, (crR HOB5), (crR HOB6), (crM HOC8 fun _ hk => ⟨hk.2.1, hk.2.2, hk.1⟩), (crM HOC9 fun _ hk => ⟨hk.2.1, hk.2.2, hk.1⟩), (crb BKA0), (crb BKA1), (crb BKA2), GWA2.out, GEA2.out, NBA0_A2.out, NBA2_A0.out, NBA1_A2.out, NBA2_A1.out, (blw HB)⟩)
     ·
      skip
      refine bs_ (N := 6) (cs := #[.bool false, .slice none 0 0, .slice none 0 0]) (t := 24) ?_
      intro gbA2 hg w35 hbox hb
      replace HOB5 := rblR HOB5 hb
      replace HOB6 := rblR HOB6 hb
      have BKA2 := Aside0.mk (hbox)
      have GWA2 := geh hg HB
      have GEA2 := geh hg HB
      replace HB := bst HB hb
      have NBA0_A2 := nlt hg BKA0
      have NBA2_A0 := ngt hg BKA0
      replace BKA0 := bkb BKA0 hb
      have NBA1_A2 := nlt hg BKA1
      have NBA2_A1 := ngt hg BKA1
      replace BKA1 := bkb BKA1 hb
      clear hb hbox hg
      refine hK.out _ _ ⟨bce BKA0 0 _, bce BKA0 1 _, bce BKA0 2 _, bce BKA1 0 _, bce BKA1 1 _, bce BKA1 2 _⟩ (fun hHeld => ?_)
      clear hK K
      refine nm_ 6 ?_
      refine one_ (i := 3) (N := some 31) (bm 11 271) rfl rfl (one_of HT_.out (by kernel_rfl)) (by decide) (fun K hK => ?_)
      refine g_ Try.func22 #[.agg #[.bool a1_0, .slice A1_1 l1_1.length c1_1, .slice A1_2 l1_2.length c1_2]] ?_
      with_reducible refine (laws_toRat.calls k a1_0 _ _ l1_1 _ _ l1_2 tD1 tE1 tE2 _ ?side1 ?side2 ?side3 ?side4 A20.out).mono ?_
      (case side1 => exact crC (Kd.C_below HR1_1.out HB.out))
      (case side2 => exact HC1_1.out)
      (case side3 => exact crC (Kd.C_below HR1_2.out HB.out))
      (case side4 => exact HC1_2.out)
      rintro e w36 ⟨vL7, vL8, rfl, ho0, ho1, hb⟩
      refine ⟨_, rfl, ?_⟩
      have HOD2 := lwR (nwR (nwR ho0 HOB5) HOB6) HB
      have HOD3 := lwR (nwR (nwR ho1 HOB5) HOB6) HB
      replace HOB5 := tldR HOB5 hb (Kd.R_base ho0) (Kd.R_base ho1)
      replace HOB6 := tldR HOB6 hb (Kd.R_base ho0) (Kd.R_base ho1)
      replace BKA0 := bkb BKA0 hb
      replace BKA1 := bkb BKA1 hb
      replace BKA2 := bkb BKA2 hb
      replace HB := bst HB hb
      (try clear hb)
      (try clear hb2)
      (try clear hk)
      (try clear hi)
      (try clear ho0)
      (try clear ho1)
      obtain ⟨Ao37, co37, eo37⟩ := Kd.R_slice HOB5.out
      (first | subst eo37 | (injection eo37 with f1_ f2_ f3_; have f4_ := f1_.symm; have f5_ := f3_.symm; clear f1_ f2_ f3_; subst f4_; subst f5_))
      obtain ⟨Ao38, co38, eo38⟩ := Kd.R_slice HOB6.out
      (first | subst eo38 | (injection eo38 with f1_ f2_ f3_; have f4_ := f1_.symm; have f5_ := f3_.symm; clear f1_ f2_ f3_; subst f4_; subst f5_))
      obtain ⟨Ao39, co39, eo39⟩ := Kd.R_slice HOD2.out
      (first | subst eo39 | (injection eo39 with f1_ f2_ f3_; have f4_ := f1_.symm; have f5_ := f3_.symm; clear f1_ f2_ f3_; subst f4_; subst f5_))
      obtain ⟨Ao40, co40, eo40⟩ := Kd.R_slice HOD3.out
      (first | subst eo40 | (injection eo40 with f1_ f2_ f3_; have f4_ := f1_.symm; have f5_ := f3_.symm; clear f1_ f2_ f3_; subst f4_; subst f5_))
      refine hK.out _ _ ⟨bce BKA0 0 _, bce BKA0 1 _, bce BKA0 2 _, bce BKA1 0 _, bce BKA1 1 _, bce BKA1 2 _⟩ (fun hHeld => ?_)
      clear hK K
      refine nm_ 31 ?_
      refine one_ (i := 4) (N := some 32) (bm 11 287) rfl rfl (one_of HT_.out (by kernel_rfl)) (by decide) (fun K hK => ?_)
      refine g_ Try.func38 #[.agg #[.bool tD7, .slice Ao37 tD4.length co37, .slice Ao38 tD5.length co38], .agg #[.bool tD1, .slice Ao39 tE1.length co39, .slice Ao40 tE2.length co40]] ?_
      with_reducible refine (spec_SubRat.calls k tD7 _ _ tD4 _ _ tD5 tD1 (fun k_ => some k_ = (.slice Ao39 tE1.length co39 : Value).ownBlock) (.slice Ao39 tE1.length co39) tE1 (fun k_ => some k_ = (.slice Ao40 tE2.length co40 : Value).ownBlock) (.slice Ao40 tE2.length co40) tE2 tA6 tA7 tA8 tB7 w _ ?side1 ?side2 ?side3 ?side4 ?side5 ?side6 ?side7 ?side8 ?side9 A21.out).mono ?_
      (case side1 => repeat (first | (with_reducible first | exact HB.out | apply below_alloc | apply pw_below_drewN | apply below_drew1 | refine below_set ?_ GEA0.out | refine below_set ?_ GEA1.out | refine below_set ?_ GEA2.out) | exact HB.out))
      (case side2 => exact Kd.C_kept_own (HOB5.out) (fun k_ hk_ hs_ => Or.elim hs_ (fun e_ => (hk_.1.2) e_) (fun e_ => (hk_.2) e_)))
      (case side3 => exact (Kd.R_reads' HOB5.out).2.1)
      (case side4 => exact Kd.C_kept_own (HOB6.out) (fun k_ hk_ hs_ => Or.elim hs_ (fun e_ => (hk_.1.2) e_) (fun e_ => (hk_.2) e_)))
      (case side5 => exact (Kd.R_reads' HOB6.out).2.1)
      (case side6 => exact Kd.R_tight rfl HOD2.out)
      (case side7 => exact fun k_ e_ => (HOD2.out.1 k_ e_.symm).1.1)
      (case side8 => exact Kd.R_tight rfl HOD3.out)
      (case side9 => exact fun k_ e_ => (HOD3.out.1 k_ e_.symm).1.1)
      rintro e w41 ⟨vE4, vE5, rfl, ho0, ho1, hb, hkp⟩
      refine ⟨_, rfl, ?_⟩
      replace BKA0 := Aside0.mk (blk_kept (crb BKA0) hkp (fun hs_ => Or.elim hs_ (fun e_ => (fun e_ => (Kd.R_ne HOD2.out BKA0.out (by decide)) e_) e_) (fun e_ => (fun e_ => (Kd.R_ne HOD3.out BKA0.out (by decide)) e_) e_)))
      replace BKA1 := Aside0.mk (blk_kept (crb BKA1) hkp (fun hs_ => Or.elim hs_ (fun e_ => (fun e_ => (Kd.R_ne HOD2.out BKA1.out (by decide)) e_) e_) (fun e_ => (fun e_ => (Kd.R_ne HOD3.out BKA1.out (by decide)) e_) e_)))
      replace BKA2 := Aside0.mk (blk_kept (crb BKA2) hkp (fun hs_ => Or.elim hs_ (fun e_ => (fun e_ => (Kd.R_ne HOD2.out BKA2.out (by decide)) e_) e_) (fun e_ => (fun e_ => (Kd.R_ne HOD3.out BKA2.out (by decide)) e_) e_)))
      have HOC8 := Aside0.mk (Kd.R_mono (ok' := fun k_ => nO k_ vE5 ∧ nO k_ (.slice Ao37 tD4.length co37) ∧ nO k_ (.slice Ao38 tD5.length co38)) ho0 (fun k_ hk_ => ⟨hk_.2, Or.elim hk_.1 (fun hs_ => Or.elim hs_ (fun hs_ => fun e_ => (((HOB5.out).1 k_ e_.symm).1.2) hs_) (fun hs_ => fun e_ => (((HOB5.out).1 k_ e_.symm).2) hs_)) (fun hn_ => (Kd.fresh' (Kd.R_lt (crR HOB5)) k_ hn_)), Or.elim hk_.1 (fun hs_ => Or.elim hs_ (fun hs_ => fun e_ => (((HOB6.out).1 k_ e_.symm).1.2) hs_) (fun hs_ => fun e_ => (((HOB6.out).1 k_ e_.symm).2) hs_)) (fun hn_ => (Kd.fresh' (Kd.R_lt (crR HOB6)) k_ hn_))⟩))
      have HOC9 := Aside0.mk (Kd.R_mono (ok' := fun k_ => nO k_ vE4 ∧ nO k_ (.slice Ao37 tD4.length co37) ∧ nO k_ (.slice Ao38 tD5.length co38)) ho1 (fun k_ hk_ => ⟨hk_.2, Or.elim hk_.1 (fun hs_ => Or.elim hs_ (fun hs_ => fun e_ => (((HOB5.out).1 k_ e_.symm).1.2) hs_) (fun hs_ => fun e_ => (((HOB5.out).1 k_ e_.symm).2) hs_)) (fun hn_ => (Kd.fresh' (Kd.R_lt (crR HOB5)) k_ hn_)), Or.elim hk_.1 (fun hs_ => Or.elim hs_ (fun hs_ => fun e_ => (((HOB6.out).1 k_ e_.symm).1.2) hs_) (fun hs_ => fun e_ => (((HOB6.out).1 k_ e_.symm).2) hs_)) (fun hn_ => (Kd.fresh' (Kd.R_lt (crR HOB6)) k_ hn_))⟩))
      replace HOB5 := Aside0.mk (Kd.R_mono (ok' := fun k_ => nO k_ (.slice Ao38 tD5.length co38) ∧ nO k_ vE4 ∧ nO k_ vE5) (Kd.R_keptB (HOB5.out) hkp (fun k_ hk_ hs_ => Or.elim hs_ (fun e_ => (hk_.1.2) e_) (fun e_ => (hk_.2) e_))) (fun k_ hk_ => ⟨hk_.1.1.1, fun e_ => Or.elim (ho0.1 k_ e_.symm).1 (fun hs_ => hk_.2.1 hs_) (fun hn_ => Nat.not_le.2 hk_.2.2 hn_), fun e_ => Or.elim (ho1.1 k_ e_.symm).1 (fun hs_ => hk_.2.1 hs_) (fun hn_ => Nat.not_le.2 hk_.2.2 hn_)⟩))
      replace HOB6 := Aside0.mk (Kd.R_mono (ok' := fun k_ => nO k_ (.slice Ao37 tD4.length co37) ∧ nO k_ vE4 ∧ nO k_ vE5) (Kd.R_keptB (HOB6.out) hkp (fun k_ hk_ hs_ => Or.elim hs_ (fun e_ => (hk_.1.2) e_) (fun e_ => (hk_.2) e_))) (fun k_ hk_ => ⟨hk_.1.1.1, fun e_ => Or.elim (ho0.1 k_ e_.symm).1 (fun hs_ => hk_.2.1 hs_) (fun hn_ => Nat.not_le.2 hk_.2.2 hn_), fun e_ => Or.elim (ho1.1 k_ e_.symm).1 (fun hs_ => hk_.2.1 hs_) (fun hn_ => Nat.not_le.2 hk_.2.2 hn_)⟩))
      replace HB := Aside0.mk (hb)
      clear HOD2 HOD3
      (try clear hb)
      (try clear hkp)
      (try clear ho0)
      (try clear ho1)
      refine hK.out _ _ ⟨bce BKA0 0 _, bce BKA0 1 _, bce BKA0 2 _, bce BKA1 0 _, bce BKA1 1 _, bce BKA1 2 _⟩ (fun hHeld => ?_)
      clear hK K
      refine nm_ 32 ?_
      refine pu_ 5 (some 27) (bm 11 319) HT_.out ?_
      refine pu_ 6 (some 33) (bm 11 383) HT_.out ?_
      refine pu_ 7 (some 34) (bm 11 511) HT_.out ?_
      exact nq_ (hCont (.slice Ao37 tD4.length co37, .slice Ao38 tD5.length co38, .slice Ao39 tE1.length co39, .slice Ao40 tE2.length co40, vE4, vE5, gbA2) _ ⟨hHeld, (crR HOB5), (crR HOB6), (crM HOC8 fun _ hk => ⟨hk.2.1, hk.2.2, hk.1⟩), (crM HOC9 fun _ hk => ⟨hk.2.1, hk.2.2, hk.1⟩), (crb BKA0), (crb BKA1), (crb BKA2), GWA2.out, GEA2.out, NBA0_A2.out, NBA2_A0.out, NBA1_A2.out, NBA2_A1.out, (blw HB)⟩)
    ·
     skip
     refine bs_ (N := 6) (cs := #[.bool false, .slice none 0 0, .slice none 0 0]) (t := 24) ?_
     intro gbA2 hg w34 hbox hb
     have BKA2 := Aside0.mk (hbox)
     have GWA2 := geh hg HB
     have GEA2 := geh hg HB
     replace HB := bst HB hb
     have NBA0_A2 := nlt hg BKA0
     have NBA2_A0 := ngt hg BKA0
     replace BKA0 := bkb BKA0 hb
     have NBA1_A2 := nlt hg BKA1
     have NBA2_A1 := ngt hg BKA1
     replace BKA1 := bkb BKA1 hb
     clear hb hbox hg
     refine hK.out _ _ ⟨bce BKA0 0 _, bce BKA0 1 _, bce BKA0 2 _, bce BKA1 0 _, bce BKA1 1 _, bce BKA1 2 _⟩ (fun hHeld => ?_)
     clear hK K
     refine nm_ 6 ?_
     refine one_ (i := 1) (N := some 29) (bm 11 263) rfl rfl (one_of HT_.out (by kernel_rfl)) (by decide) (fun K hK => ?_)
     refine g_ Try.func22 #[.agg #[.bool a0_0, .slice A0_1 l0_1.length c0_1, .slice A0_2 l0_2.length c0_2]] ?_
     with_reducible refine (laws_toRat.calls k a0_0 _ _ l0_1 _ _ l0_2 tD7 tD4 tD5 _ ?side1 ?side2 ?side3 ?side4 A19.out).mono ?_
     (case side1 => exact crC (Kd.C_below HR0_1.out HB.out))
     (case side2 => exact HC0_1.out)
     (case side3 => exact crC (Kd.C_below HR0_2.out HB.out))
     (case side4 => exact HC0_2.out)
     rintro e w35 ⟨vH2, vH3, rfl, ho0, ho1, hb⟩
     refine ⟨_, rfl, ?_⟩
     have HOB5 := lwR ho0 HB
     have HOB6 := lwR ho1 HB
     replace BKA0 := bkb BKA0 hb
     replace BKA1 := bkb BKA1 hb
     replace BKA2 := bkb BKA2 hb
     replace HB := bst HB hb
     (try clear hb)
     (try clear hb2)
     (try clear hk)
     (try clear hi)
     (try clear ho0)
     (try clear ho1)
     refine hK.out _ _ ⟨bce BKA0 0 _, bce BKA0 1 _, bce BKA0 2 _, bce BKA1 0 _, bce BKA1 1 _, bce BKA1 2 _⟩ (fun hHeld => ?_)
     clear hK K
     refine nm_ 29 ?_
     refine one_ (i := 3) (N := some 31) (bm 11 271) rfl rfl (one_of HT_.out (by kernel_rfl)) (by decide) (fun K hK => ?_)
     refine g_ Try.func22 #[.agg #[.bool a1_0, .slice A1_1 l1_1.length c1_1, .slice A1_2 l1_2.length c1_2]] ?_
     with_reducible refine (laws_toRat.calls k a1_0 _ _ l1_1 _ _ l1_2 tD1 tE1 tE2 _ ?side1 ?side2 ?side3 ?side4 A20.out).mono ?_
     (case side1 => exact crC (Kd.C_below HR1_1.out HB.out))
     (case side2 => exact HC1_1.out)
     (case side3 => exact crC (Kd.C_below HR1_2.out HB.out))
     (case side4 => exact HC1_2.out)
     rintro e w36 ⟨vL7, vL8, rfl, ho0, ho1, hb⟩
     refine ⟨_, rfl, ?_⟩
     have HOD2 := lwR (nwR (nwR ho0 HOB5) HOB6) HB
     have HOD3 := lwR (nwR (nwR ho1 HOB5) HOB6) HB
     replace HOB5 := tldR HOB5 hb (Kd.R_base ho0) (Kd.R_base ho1)
     replace HOB6 := tldR HOB6 hb (Kd.R_base ho0) (Kd.R_base ho1)
     replace BKA0 := bkb BKA0 hb
     replace BKA1 := bkb BKA1 hb
     replace BKA2 := bkb BKA2 hb
     replace HB := bst HB hb
     (try clear hb)
     (try clear hb2)
     (try clear hk)
     (try clear hi)
     (try clear ho0)
     (try clear ho1)
     obtain ⟨Ao37, co37, eo37⟩ := Kd.R_slice HOB5.out
     (first | subst eo37 | (injection eo37 with f1_ f2_ f3_; have f4_ := f1_.symm; have f5_ := f3_.symm; clear f1_ f2_ f3_; subst f4_; subst f5_))
     obtain ⟨Ao38, co38, eo38⟩ := Kd.R_slice HOB6.out
     (first | subst eo38 | (injection eo38 with f1_ f2_ f3_; have f4_ := f1_.symm; have f5_ := f3_.symm; clear f1_ f2_ f3_; subst f4_; subst f5_))
     obtain ⟨Ao39, co39, eo39⟩ := Kd.R_slice HOD2.out
     (first | subst eo39 | (injection eo39 with f1_ f2_ f3_; have f4_ := f1_.symm; have f5_ := f3_.symm; clear f1_ f2_ f3_; subst f4_; subst f5_))
     obtain ⟨Ao40, co40, eo40⟩ := Kd.R_slice HOD3.out
     (first | subst eo40 | (injection eo40 with f1_ f2_ f3_; have f4_ := f1_.symm; have f5_ := f3_.symm; clear f1_ f2_ f3_; subst f4_; subst f5_))
     refine hK.out _ _ ⟨bce BKA0 0 _, bce BKA0 1 _, bce BKA0 2 _, bce BKA1 0 _, bce BKA1 1 _, bce BKA1 2 _⟩ (fun hHeld => ?_)
     clear hK K
     refine nm_ 31 ?_
     refine one_ (i := 4) (N := some 32) (bm 11 287) rfl rfl (one_of HT_.out (by kernel_rfl)) (by decide) (fun K hK => ?_)
     refine g_ Try.func38 #[.agg #[.bool tD7, .slice Ao37 tD4.length co37, .slice Ao38 tD5.length co38], .agg #[.bool tD1, .slice Ao39 tE1.length co39, .slice Ao40 tE2.length co40]] ?_
     with_reducible refine (spec_SubRat.calls k tD7 _ _ tD4 _ _ tD5 tD1 (fun k_ => some k_ = (.slice Ao39 tE1.length co39 : Value).ownBlock) (.slice Ao39 tE1.length co39) tE1 (fun k_ => some k_ = (.slice Ao40 tE2.length co40 : Value).ownBlock) (.slice Ao40 tE2.length co40) tE2 tA6 tA7 tA8 tB7 w _ ?side1 ?side2 ?side3 ?side4 ?side5 ?side6 ?side7 ?side8 ?side9 A21.out).mono ?_
     (case side1 => repeat (first | (with_reducible first | exact HB.out | apply below_alloc | apply pw_below_drewN | apply below_drew1 | refine below_set ?_ GEA0.out | refine below_set ?_ GEA1.out | refine below_set ?_ GEA2.out) | exact HB.out))
     (case side2 => exact Kd.C_kept_own (HOB5.out) (fun k_ hk_ hs_ => Or.elim hs_ (fun e_ => (hk_.1.2) e_) (fun e_ => (hk_.2) e_)))
     (case side3 => exact (Kd.R_reads' HOB5.out).2.1)
     (case side4 => exact Kd.C_kept_own (HOB6.out) (fun k_ hk_ hs_ => Or.elim hs_ (fun e_ => (hk_.1.2) e_) (fun e_ => (hk_.2) e_)))
     (case side5 => exact (Kd.R_reads' HOB6.out).2.1)
     (case side6 => exact Kd.R_tight rfl HOD2.out)
     (case side7 => exact fun k_ e_ => (HOD2.out.1 k_ e_.symm).1.1)
     (case side8 => exact Kd.R_tight rfl HOD3.out)
     (case side9 => exact fun k_ e_ => (HOD3.out.1 k_ e_.symm).1.1)
     rintro e w41 ⟨vE4, vE5, rfl, ho0, ho1, hb, hkp⟩
     refine ⟨_, rfl, ?_⟩
     replace BKA0 := Aside0.mk (blk_kept (crb BKA0) hkp (fun hs_ => Or.elim hs_ (fun e_ => (fun e_ => (Kd.R_ne HOD2.out BKA0.out (by decide)) e_) e_) (fun e_ => (fun e_ => (Kd.R_ne HOD3.out BKA0.out (by decide)) e_) e_)))
     replace BKA1 := Aside0.mk (blk_kept (crb BKA1) hkp (fun hs_ => Or.elim hs_ (fun e_ => (fun e_ => (Kd.R_ne HOD2.out BKA1.out (by decide)) e_) e_) (fun e_ => (fun e_ => (Kd.R_ne HOD3.out BKA1.out (by decide)) e_) e_)))
     replace BKA2 := Aside0.mk (blk_kept (crb BKA2) hkp (fun hs_ => Or.elim hs_ (fun e_ => (fun e_ => (Kd.R_ne HOD2.out BKA2.out (by decide)) e_) e_) (fun e_ => (fun e_ => (Kd.R_ne HOD3.out BKA2.out (by decide)) e_) e_)))
     have HOC8 := Aside0.mk (Kd.R_mono (ok' := fun k_ => nO k_ vE5 ∧ nO k_ (.slice Ao37 tD4.length co37) ∧ nO k_ (.slice Ao38 tD5.length co38)) ho0 (fun k_ hk_ => ⟨hk_.2, Or.elim hk_.1 (fun hs_ => Or.elim hs_ (fun hs_ => fun e_ => (((HOB5.out).1 k_ e_.symm).1.2) hs_) (fun hs_ => fun e_ => (((HOB5.out).1 k_ e_.symm).2) hs_)) (fun hn_ => (Kd.fresh' (Kd.R_lt (crR HOB5)) k_ hn_)), Or.elim hk_.1 (fun hs_ => Or.elim hs_ (fun hs_ => fun e_ => (((HOB6.out).1 k_ e_.symm).1.2) hs_) (fun hs_ => fun e_ => (((HOB6.out).1 k_ e_.symm).2) hs_)) (fun hn_ => (Kd.fresh' (Kd.R_lt (crR HOB6)) k_ hn_))⟩))
     have HOC9 := Aside0.mk (Kd.R_mono (ok' := fun k_ => nO k_ vE4 ∧ nO k_ (.slice Ao37 tD4.length co37) ∧ nO k_ (.slice Ao38 tD5.length co38)) ho1 (fun k_ hk_ => ⟨hk_.2, Or.elim hk_.1 (fun hs_ => Or.elim hs_ (fun hs_ => fun e_ => (((HOB5.out).1 k_ e_.symm).1.2) hs_) (fun hs_ => fun e_ => (((HOB5.out).1 k_ e_.symm).2) hs_)) (fun hn_ => (Kd.fresh' (Kd.R_lt (crR HOB5)) k_ hn_)), Or.elim hk_.1 (fun hs_ => Or.elim hs_ (fun hs_ => fun e_ => (((HOB6.out).1 k_ e_.symm).1.2) hs_) (fun hs_ => fun e_ => (((HOB6.out).1 k_ e_.symm).2) hs_)) (fun hn_ => (Kd.fresh' (Kd.R_lt (crR HOB6)) k_ hn_))⟩))
     replace HOB5 := Aside0.mk (Kd.R_mono (ok' := fun k_ => nO k_ (.slice Ao38 tD5.length co38) ∧ nO k_ vE4 ∧ nO k_ vE5) (Kd.R_keptB (HOB5.out) hkp (fun k_ hk_ hs_ => Or.elim hs_ (fun e_ => (hk_.1.2) e_) (fun e_ => (hk_.2) e_))) (fun k_ hk_ => ⟨hk_.1.1.1, fun e_ => Or.elim (ho0.1 k_ e_.symm).1 (fun hs_ => hk_.2.1 hs_) (fun hn_ => Nat.not_le.2 hk_.2.2 hn_), fun e_ => Or.elim (ho1.1 k_ e_.symm).1 (fun hs_ => hk_.2.1 hs_) (fun hn_ => Nat.not_le.2 hk_.2.2 hn_)⟩))
     replace HOB6 := Aside0.mk (Kd.R_mono (ok' := fun k_ => nO k_ (.slice Ao37 tD4.length co37) ∧ nO k_ vE4 ∧ nO k_ vE5) (Kd.R_keptB (HOB6.out) hkp (fun k_ hk_ hs_ => Or.elim hs_ (fun e_ => (hk_.1.2) e_) (fun e_ => (hk_.2) e_))) (fun k_ hk_ => ⟨hk_.1.1.1, fun e_ => Or.elim (ho0.1 k_ e_.symm).1 (fun hs_ => hk_.2.1 hs_) (fun hn_ => Nat.not_le.2 hk_.2.2 hn_), fun e_ => Or.elim (ho1.1 k_ e_.symm).1 (fun hs_ => hk_.2.1 hs_) (fun hn_ => Nat.not_le.2 hk_.2.2 hn_)⟩))
     replace HB := Aside0.mk (hb)
     clear HOD2 HOD3
     (try clear hb)
     (try clear hkp)
     (try clear ho0)
     (try clear ho1)
     refine hK.out _ _ ⟨bce BKA0 0 _, bce BKA0 1 _, bce BKA0 2 _, bce BKA1 0 _, bce BKA1 1 _, bce BKA1 2 _⟩ (fun hHeld => ?_)
     clear hK K
     refine nm_ 32 ?_
     refine pu_ 5 (some 27) (bm 11 319) HT_.out ?_
     refine pu_ 6 (some 33) (bm 11 383) HT_.out ?_
     refine pu_ 7 (some 34) (bm 11 511) HT_.out ?_
     exact nq_ (hCont (.slice Ao37 tD4.length co37, .slice Ao38 tD5.length co38, .slice Ao39 tE1.length co39, .slice Ao40 tE2.length co40, vE4, vE5, gbA2) _ ⟨hHeld, (crR HOB5), (crR HOB6), (crM HOC8 fun _ hk => ⟨hk.2.1, hk.2.2, hk.1⟩), (crM HOC9 fun _ hk => ⟨hk.2.1, hk.2.2, hk.1⟩), (crb BKA0), (crb BKA1), (crb BKA2), GWA2.out, GEA2.out, NBA0_A2.out, NBA2_A0.out, NBA1_A2.out, NBA2_A1.out, (blw HB)⟩)
   rintro ⟨vH2, vH3, vL7, vL8, vE4, vE5, gbA2⟩ w42 ⟨hS_, h0_, h1_, h2_, h3_, h4_, h5_, h6_, h7_, h8_, h9_, h10_, h11_, h12_, h13_⟩
   have HOB5 : Aside0 (Kd.R (Kd.int .i64) 3 w42 w.heap.size (fun k_ => nO k_ vH3 ∧ nO k_ vE4 ∧ nO k_ vE5) vH2 tD4) := ⟨h0_⟩
   have HOB6 : Aside0 (Kd.R (Kd.int .i64) 3 w42 w.heap.size (fun k_ => nO k_ vH2 ∧ nO k_ vE4 ∧ nO k_ vE5) vH3 tD5) := ⟨h1_⟩
   have HOC8 : Aside0 (Kd.R (Kd.int .i64) 3 w42 w.heap.size (fun k_ => nO k_ vH2 ∧ nO k_ vH3 ∧ nO k_ vE5) vE4 tA7) := ⟨h2_⟩
   have HOC9 : Aside0 (Kd.R (Kd.int .i64) 3 w42 w.heap.size (fun k_ => nO k_ vH2 ∧ nO k_ vH3 ∧ nO k_ vE4) vE5 tA8) := ⟨h3_⟩
   replace BKA0 : Aside0 (w42.heap[gbA0]? = some (.cells #[.bool a0_0, .slice A0_1 l0_1.length c0_1, .slice A0_2 l0_2.length c0_2] 30 (0, 0))) := ⟨h4_⟩
   replace BKA1 : Aside0 (w42.heap[gbA1]? = some (.cells #[.bool a1_0, .slice A1_1 l1_1.length c1_1, .slice A1_2 l1_2.length c1_2] 30 (0, 0))) := ⟨h5_⟩
   have BKA2 : Aside0 (w42.heap[gbA2]? = some (.cells #[.bool false, .slice none 0 0, .slice none 0 0] 24 (0, 0))) := ⟨h6_⟩
   have GWA2 : Aside0 (w.heap.size ≤ gbA2) := ⟨h7_⟩
   have GEA2 : Aside0 (w.heap.size ≤ gbA2) := ⟨h8_⟩
   have NBA0_A2 : Aside0 (gbA0 ≠ gbA2) := ⟨h9_⟩
   have NBA2_A0 : Aside0 (gbA2 ≠ gbA0) := ⟨h10_⟩
   have NBA1_A2 : Aside0 (gbA1 ≠ gbA2) := ⟨h11_⟩
   have NBA2_A1 : Aside0 (gbA2 ≠ gbA1) := ⟨h12_⟩
   replace HB : Aside0 (Below w.heap.size w w42) := ⟨h13_⟩
   clear h0_ h1_ h2_ h3_ h4_ h5_ h6_ h7_ h8_ h9_ h10_ h11_ h12_ h13_
   have hHeld : w42.cell? ⟨gbA0, 0, none⟩ = some (.bool a0_0) ∧ w42.cell? ⟨gbA0, 1, none⟩ = some (.slice A0_1 l0_1.length c0_1) ∧ w42.cell? ⟨gbA0, 2, none⟩ = some (.slice A0_2 l0_2.length c0_2) ∧ w42.cell? ⟨gbA1, 0, none⟩ = some (.bool a1_0) ∧ w42.cell? ⟨gbA1, 1, none⟩ = some (.slice A1_1 l1_1.length c1_1) ∧ w42.cell? ⟨gbA1, 2, none⟩ = some (.slice A1_2 l1_2.length c1_2) := hS_
   obtain ⟨Ao44, co44, eo44⟩ := Kd.R_slice HOC8.out
   (first | subst eo44 | (injection eo44 with f1_ f2_ f3_; have f4_ := f1_.symm; have f5_ := f3_.symm; clear f1_ f2_ f3_; subst f4_; subst f5_))
   obtain ⟨Ao46, co46, eo46⟩ := Kd.R_slice HOC9.out
   (first | subst eo46 | (injection eo46 with f1_ f2_ f3_; have f4_ := f1_.symm; have f5_ := f3_.symm; clear f1_ f2_ f3_; subst f4_; subst f5_))
   refine np_ ?_
   refine one_ (i := 9) (N := none) (bm 11 1023) rfl rfl (one_of HT_.out (by kernel_rfl)) (by decide) (fun K hK => ?_)
   have hs43 : w42.cell? ⟨gbA2, 0, none⟩ = some (.bool false) := bce BKA2 0 _
   have hfs43 := blk_frozen BKA2.out 0
   have hns43_0 := NBA0_A2.out
   have hns43_1 := NBA1_A2.out
   have hms43_0 := NBA2_A0.out
   have hms43_1 := NBA2_A1.out
   have hs45 : w42.cell? ⟨gbA2, 1, none⟩ = some (.slice none 0 0) := bce BKA2 1 _
   have hfs45 := blk_frozen BKA2.out 1
   have hns45_0 := NBA0_A2.out
   have hns45_1 := NBA1_A2.out
   have hms45_0 := NBA2_A0.out
   have hms45_1 := NBA2_A1.out
   have hs47 : w42.cell? ⟨gbA2, 2, none⟩ = some (.slice none 0 0) := bce BKA2 2 _
   have hfs47 := blk_frozen BKA2.out 2
   have hns47_0 := NBA0_A2.out
   have hns47_1 := NBA1_A2.out
   have hms47_0 := NBA2_A0.out
   have hms47_1 := NBA2_A1.out
   refine skip_ (w1 := ?_) (by rfl) rfl ?_ ?_
   rotate_left
   ·
    go_simp
    rfl
   refine hK.out _ _ ⟨((cell_far (p := ⟨gbA2, _, none⟩) NBA0_A2.out _).trans (((cell_far (p := ⟨gbA2, _, none⟩) NBA0_A2.out _).trans (((cell_far (p := ⟨gbA2, _, none⟩) NBA0_A2.out _).trans (hHeld.1)))))), ((cell_far (p := ⟨gbA2, _, none⟩) NBA0_A2.out _).trans (((cell_far (p := ⟨gbA2, _, none⟩) NBA0_A2.out _).trans (((cell_far (p := ⟨gbA2, _, none⟩) NBA0_A2.out _).trans (hHeld.2.1)))))), ((cell_far (p := ⟨gbA2, _, none⟩) NBA0_A2.out _).trans (((cell_far (p := ⟨gbA2, _, none⟩) NBA0_A2.out _).trans (((cell_far (p := ⟨gbA2, _, none⟩) NBA0_A2.out _).trans (hHeld.2.2.1)))))), ((cell_far (p := ⟨gbA2, _, none⟩) NBA1_A2.out _).trans (((cell_far (p := ⟨gbA2, _, none⟩) NBA1_A2.out _).trans (((cell_far (p := ⟨gbA2, _, none⟩) NBA1_A2.out _).trans (hHeld.2.2.2.1)))))), ((cell_far (p := ⟨gbA2, _, none⟩) NBA1_A2.out _).trans (((cell_far (p := ⟨gbA2, _, none⟩) NBA1_A2.out _).trans (((cell_far (p := ⟨gbA2, _, none⟩) NBA1_A2.out _).trans (hHeld.2.2.2.2.1)))))), ((cell_far (p := ⟨gbA2, _, none⟩) NBA1_A2.out _).trans (((cell_far (p := ⟨gbA2, _, none⟩) NBA1_A2.out _).trans (((cell_far (p := ⟨gbA2, _, none⟩) NBA1_A2.out _).trans (hHeld.2.2.2.2.2))))))⟩ (fun hHeld => ?_)
   clear hK K
   refine pu_ 10 (some 7) (bm 11 2047) HT_.out ?_
   refine done_ (done_of HT_.out (by kernel_rfl)) ?_
   have hnb48 := NBA0_A2.out
   have hnc48 := NBA2_A0.out
   obtain ⟨hcz49_0, hcz49_1, hcz49_2, hfz49_0, hfz49_1, hfz49_2⟩ := bc3 BKA0
   go_upto_region 12 with (first | ((with_reducible refine gate_callee (f := 22) rfl ?_); refine gL_ (some 36) Try.func22 #[.agg #[.bool a0_0, .slice A0_1 l0_1.length c0_1, .slice A0_2 l0_2.length c0_2]] ?_; (with_reducible refine (laws_toRat.calls k a0_0 _ _ l0_1 _ _ l0_2 tB4 tC0 tC1 _ ?side1 ?side2 ?side3 ?side4 A22.out).mono ?_); (case side1 => exact Kd.C_below HR0_1.out (blw HB)); (case side2 => exact HC0_1.out); (case side3 => exact Kd.C_below HR0_2.out (blw HB)); (case side4 => exact HC0_2.out); rintro e w50 ⟨vU8, vU9, rfl, ho0, ho1, hb⟩; refine ⟨_, rfl, ?_⟩; have HOE7 := lwR (nwF (nwF (nwF (nwF ho0 HOB5 BKA2) HOB6 BKA2) HOC8 BKA2) HOC9 BKA2) HB; have HOE8 := lwR (nwF (nwF (nwF (nwF ho1 HOB5 BKA2) HOB6 BKA2) HOC8 BKA2) HOC9 BKA2) HB; replace HOB5 := tldF HOB5 BKA2 hb (Kd.R_base ho0) (Kd.R_base ho1); replace HOB6 := tldF HOB6 BKA2 hb (Kd.R_base ho0) (Kd.R_base ho1); replace HOC8 := tldF HOC8 BKA2 hb (Kd.R_base ho0) (Kd.R_base ho1); replace HOC9 := tldF HOC9 BKA2 hb (Kd.R_base ho0) (Kd.R_base ho1); replace BKA0 := bkf BKA0 hb; replace BKA1 := bkf BKA1 hb; replace BKA2 := bkp BKA2 (.bool tA6) (.slice Ao44 tA7.length co44) (.slice Ao46 tA8.length co46) hb; replace HB := bst HB hb; (try clear hb); (try clear hb2); (try clear hk); (try clear hi); (try clear ho0); (try clear ho1)) | ((with_reducible refine gate_dst (N := 8) rfl ?_); refine bx_ (N := 8) (cs := #[.bool false, .slice none 0 0, .slice none 0 0]) (t := 24) ?_; intro gbB2 hg w51 hbox hb; replace HOB5 := rblR HOB5 hb; replace HOB6 := rblR HOB6 hb; replace HOC8 := rblR HOC8 hb; replace HOC9 := rblR HOC9 hb; replace HOE7 := rblR HOE7 hb; replace HOE8 := rblR HOE8 hb; have BKB2 := Aside0.mk (hbox); have GWB2 := geh hg HB; have GEB2 := geh hg HB; replace HB := bst HB hb; have NBA0_B2 := nlt hg BKA0; have NBB2_A0 := ngt hg BKA0; replace BKA0 := bkb BKA0 hb; have NBA1_B2 := nlt hg BKA1; have NBB2_A1 := ngt hg BKA1; replace BKA1 := bkb BKA1 hb; have NBA2_B2 := nlt hg BKA2; have NBB2_A2 := ngt hg BKA2; replace BKA2 := bkb BKA2 hb; clear hb hbox hg; have hnb52 := NBB2_A0.out; have hnc52 := NBA0_B2.out; have hnb53 := NBB2_A1.out; have hnc53 := NBA1_B2.out; have hnb54 := NBB2_A2.out; have hnc54 := NBA2_B2.out; obtain ⟨hcz55_0, hcz55_1, hcz55_2, hfz55_0, hfz55_1, hfz55_2⟩ := bc3 BKB2; obtain ⟨Ao56, co56, eo56⟩ := Kd.R_slice HOE7.out; subst eo56; obtain ⟨Ao57, co57, eo57⟩ := Kd.R_slice HOE8.out; subst eo57; have hnb58 := NBA1_A2.out; have hnc58 := NBA2_A1.out; obtain ⟨hcz59_0, hcz59_1, hcz59_2, hfz59_0, hfz59_1, hfz59_2⟩ := bc3 BKA1) | ((with_reducible refine gate_callee (f := 22) rfl ?_); refine gL_ (some 38) Try.func22 #[.agg #[.bool a1_0, .slice A1_1 l1_1.length c1_1, .slice A1_2 l1_2.length c1_2]] ?_; (with_reducible refine (laws_toRat.calls k a1_0 _ _ l1_1 _ _ l1_2 tB3 tB8 tB9 _ ?side1 ?side2 ?side3 ?side4 A23.out).mono ?_); (case side1 => exact Kd.C_below HR1_1.out (blw HB)); (case side2 => exact HC1_1.out); (case side3 => exact Kd.C_below HR1_2.out (blw HB)); (case side4 => exact HC1_2.out); rintro e w60 ⟨vV0, vV1, rfl, ho0, ho1, hb⟩; refine ⟨_, rfl, ?_⟩; have HOI1 := lwR (nwF (nwF (nwF (nwF (nwF (nwF ho0 HOB5 BKB2) HOB6 BKB2) HOC8 BKB2) HOC9 BKB2) HOE7 BKB2) HOE8 BKB2) HB; have HOI2 := lwR (nwF (nwF (nwF (nwF (nwF (nwF ho1 HOB5 BKB2) HOB6 BKB2) HOC8 BKB2) HOC9 BKB2) HOE7 BKB2) HOE8 BKB2) HB; replace HOB5 := tldF HOB5 BKB2 hb (Kd.R_base ho0) (Kd.R_base ho1); replace HOB6 := tldF HOB6 BKB2 hb (Kd.R_base ho0) (Kd.R_base ho1); replace HOC8 := tldF HOC8 BKB2 hb (Kd.R_base ho0) (Kd.R_base ho1); replace HOC9 := tldF HOC9 BKB2 hb (Kd.R_base ho0) (Kd.R_base ho1); replace HOE7 := tldF HOE7 BKB2 hb (Kd.R_base ho0) (Kd.R_base ho1); replace HOE8 := tldF HOE8 BKB2 hb (Kd.R_base ho0) (Kd.R_base ho1); replace BKA0 := bkf BKA0 hb; replace BKA1 := bkf BKA1 hb; replace BKA2 := bkf BKA2 hb; replace BKB2 := bkp BKB2 (.bool tB4) (.slice Ao56 tC0.length co56) (.slice Ao57 tC1.length co57) hb; replace HB := bst HB hb; (try clear hb); (try clear hb2); (try clear hk); (try clear hi); (try clear ho0); (try clear ho1)) | ((with_reducible refine gate_dst (N := 9) rfl ?_); refine bx_ (N := 9) (cs := #[.bool false, .slice none 0 0, .slice none 0 0]) (t := 24) ?_; intro gbB1 hg w61 hbox hb; replace HOB5 := rblR HOB5 hb; replace HOB6 := rblR HOB6 hb; replace HOC8 := rblR HOC8 hb; replace HOC9 := rblR HOC9 hb; replace HOE7 := rblR HOE7 hb; replace HOE8 := rblR HOE8 hb; replace HOI1 := rblR HOI1 hb; replace HOI2 := rblR HOI2 hb; have BKB1 := Aside0.mk (hbox); have GWB1 := geh hg HB; have GEB1 := geh hg HB; replace HB := bst HB hb; have NBA0_B1 := nlt hg BKA0; have NBB1_A0 := ngt hg BKA0; replace BKA0 := bkb BKA0 hb; have NBA1_B1 := nlt hg BKA1; have NBB1_A1 := ngt hg BKA1; replace BKA1 := bkb BKA1 hb; have NBA2_B1 := nlt hg BKA2; have NBB1_A2 := ngt hg BKA2; replace BKA2 := bkb BKA2 hb; have NBB2_B1 := nlt hg BKB2; have NBB1_B2 := ngt hg BKB2; replace BKB2 := bkb BKB2 hb; clear hb hbox hg; have hnb62 := NBB1_A0.out; have hnc62 := NBA0_B1.out; have hnb63 := NBB1_A1.out; have hnc63 := NBA1_B1.out; have hnb64 := NBB1_A2.out; have hnc64 := NBA2_B1.out; have hnb65 := NBB1_B2.out; have hnc65 := NBB2_B1.out; obtain ⟨hcz66_0, hcz66_1, hcz66_2, hfz66_0, hfz66_1, hfz66_2⟩ := bc3 BKB1; obtain ⟨Ao67, co67, eo67⟩ := Kd.R_slice HOI1.out; subst eo67; obtain ⟨Ao68, co68, eo68⟩ := Kd.R_slice HOI2.out; subst eo68; obtain ⟨hcz69_0, hcz69_1, hcz69_2, hfz69_0, hfz69_1, hfz69_2⟩ := bc3 BKB2) | ((with_reducible refine gate_callee (f := 39) rfl ?_); refine gL_ (some 42) Try.func39 #[.agg #[.bool tB4, .slice Ao56 tC0.length co56, .slice Ao57 tC1.length co57], .agg #[.bool tB3, .slice Ao67 tB8.length co67, .slice Ao68 tB9.length co68]] ?_; (with_reducible refine (impl_SubRat.calls k tB4 _ _ tC0 _ _ tC1 tB3 _ _ tB8 _ _ tB9 tA5 tA9 tB0 tE3 _ ?side1 ?side2 ?side3 ?side4 ?side5 ?side6 ?side7 ?side8 A24.out).mono ?_); (case side1 => refine (Kd.R_reads' (e := 3) (base := w.heap.size) (ok := fun k_ => ((((((nO k_ (.slice Ao57 tC1.length co57) ∧ nO k_ vH2) ∧ nO k_ vH3) ∧ nO k_ (.slice Ao44 tA7.length co44)) ∧ nO k_ (.slice Ao46 tA8.length co46)) ∧ nO k_ (.slice Ao67 tB8.length co67)) ∧ nO k_ (.slice Ao68 tB9.length co68))) (n := tC0.length) (c := co56) ?_).2.2; exact (crF HOE7 BKB1)); (case side2 => exact (Kd.R_reads' HOE7.out).2.1); (case side3 => refine (Kd.R_reads' (e := 3) (base := w.heap.size) (ok := fun k_ => ((((((nO k_ (.slice Ao56 tC0.length co56) ∧ nO k_ vH2) ∧ nO k_ vH3) ∧ nO k_ (.slice Ao44 tA7.length co44)) ∧ nO k_ (.slice Ao46 tA8.length co46)) ∧ nO k_ (.slice Ao67 tB8.length co67)) ∧ nO k_ (.slice Ao68 tB9.length co68))) (n := tC1.length) (c := co57) ?_).2.2; exact (crF HOE8 BKB1)); (case side4 => exact (Kd.R_reads' HOE8.out).2.1); (case side5 => refine (Kd.R_reads' (e := 3) (base := w.heap.size) (ok := fun k_ => ((((((nO k_ (.slice Ao68 tB9.length co68) ∧ nO k_ vH2) ∧ nO k_ vH3) ∧ nO k_ (.slice Ao44 tA7.length co44)) ∧ nO k_ (.slice Ao46 tA8.length co46)) ∧ nO k_ (.slice Ao56 tC0.length co56)) ∧ nO k_ (.slice Ao57 tC1.length co57))) (n := tB8.length) (c := co67) ?_).2.2; exact (crF HOI1 BKB1)); (case side6 => exact (Kd.R_reads' HOI1.out).2.1); (case side7 => refine (Kd.R_reads' (e := 3) (base := w.heap.size) (ok := fun k_ => ((((((nO k_ (.slice Ao67 tB8.length co67) ∧ nO k_ vH2) ∧ nO k_ vH3) ∧ nO k_ (.slice Ao44 tA7.length co44)) ∧ nO k_ (.slice Ao46 tA8.length co46)) ∧ nO k_ (.slice Ao56 tC0.length co56)) ∧ nO k_ (.slice Ao57 tC1.length co57))) (n := tB9.length) (c := co68) ?_).2.2; exact (crF HOI2 BKB1)); (case side8 => exact (Kd.R_reads' HOI2.out).2.1); rintro e w70 ⟨vV2, vV3, rfl, ho0, ho1, hb⟩; refine ⟨_, rfl, ?_⟩; have HOJ0 := lwR (nwF (nwF (nwF (nwF (nwF (nwF (nwF (nwF ho0 HOB5 BKB1) HOB6 BKB1) HOC8 BKB1) HOC9 BKB1) HOE7 BKB1) HOE8 BKB1) HOI1 BKB1) HOI2 BKB1) HB; have HOJ1 := lwR (nwF (nwF (nwF (nwF (nwF (nwF (nwF (nwF ho1 HOB5 BKB1) HOB6 BKB1) HOC8 BKB1) HOC9 BKB1) HOE7 BKB1) HOE8 BKB1) HOI1 BKB1) HOI2 BKB1) HB; replace HOB5 := tldF HOB5 BKB1 hb (Kd.R_base ho0) (Kd.R_base ho1); replace HOB6 := tldF HOB6 BKB1 hb (Kd.R_base ho0) (Kd.R_base ho1); replace HOC8 := tldF HOC8 BKB1 hb (Kd.R_base ho0) (Kd.R_base ho1); replace HOC9 := tldF HOC9 BKB1 hb (Kd.R_base ho0) (Kd.R_base ho1); replace HOE7 := tldF HOE7 BKB1 hb (Kd.R_base ho0) (Kd.R_base ho1); replace HOE8 := tldF HOE8 BKB1 hb (Kd.R_base ho0) (Kd.R_base ho1); replace HOI1 := tldF HOI1 BKB1 hb (Kd.R_base ho0) (Kd.R_base ho1); replace HOI2 := tldF HOI2 BKB1 hb (Kd.R_base ho0) (Kd.R_base ho1); replace BKA0 := bkf BKA0 hb; replace BKA1 := bkf BKA1 hb; replace BKA2 := bkf BKA2 hb; replace BKB2 := bkf BKB2 hb; replace BKB1 := bkp BKB1 (.bool tB3) (.slice Ao67 tB8.length co67) (.slice Ao68 tB9.length co68) hb; replace HB := bst HB hb; (try clear hb); (try clear hb2); (try clear hk); (try clear hi); (try clear ho0); (try clear ho1)) | ((with_reducible refine gate_dst (N := 10) rfl ?_); refine bx_ (N := 10) (cs := #[.bool false, .slice none 0 0, .slice none 0 0]) (t := 24) ?_; intro gbA3 hg w71 hbox hb; replace HOB5 := rblR HOB5 hb; replace HOB6 := rblR HOB6 hb; replace HOC8 := rblR HOC8 hb; replace HOC9 := rblR HOC9 hb; replace HOE7 := rblR HOE7 hb; replace HOE8 := rblR HOE8 hb; replace HOI1 := rblR HOI1 hb; replace HOI2 := rblR HOI2 hb; replace HOJ0 := rblR HOJ0 hb; replace HOJ1 := rblR HOJ1 hb; have BKA3 := Aside0.mk (hbox); have GWA3 := geh hg HB; have GEA3 := geh hg HB; replace HB := bst HB hb; have NBA0_A3 := nlt hg BKA0; have NBA3_A0 := ngt hg BKA0; replace BKA0 := bkb BKA0 hb; have NBA1_A3 := nlt hg BKA1; have NBA3_A1 := ngt hg BKA1; replace BKA1 := bkb BKA1 hb; have NBA2_A3 := nlt hg BKA2; have NBA3_A2 := ngt hg BKA2; replace BKA2 := bkb BKA2 hb; have NBB2_A3 := nlt hg BKB2; have NBA3_B2 := ngt hg BKB2; replace BKB2 := bkb BKB2 hb; have NBB1_A3 := nlt hg BKB1; have NBA3_B1 := ngt hg BKB1; replace BKB1 := bkb BKB1 hb; clear hb hbox hg; have hnb72 := NBA3_A0.out; have hnc72 := NBA0_A3.out; have hnb73 := NBA3_A1.out; have hnc73 := NBA1_A3.out; have hnb74 := NBA3_A2.out; have hnc74 := NBA2_A3.out; have hnb75 := NBA3_B2.out; have hnc75 := NBB2_A3.out; have hnb76 := NBA3_B1.out; have hnc76 := NBB1_A3.out; obtain ⟨hcz77_0, hcz77_1, hcz77_2, hfz77_0, hfz77_1, hfz77_2⟩ := bc3 BKA3; obtain ⟨Ao78, co78, eo78⟩ := Kd.R_slice HOJ0.out; subst eo78; obtain ⟨Ao79, co79, eo79⟩ := Kd.R_slice HOJ1.out; subst eo79))
   (try simp only [Act.put, List.setIfInBounds_toArray, List.set_cons_zero, List.set_cons_succ])
   go_cut [53] (fun v53 wc => ∃ (kq : Nat) (x53_24 : Bool), v53 = .bool x53_24 ∧ Aside0 (laws_FnExactSubRat.j0 kq tB7 tE3 x53_24 a0_0 l0_1 l0_2 a1_0 l1_1 l1_2 tA6 tA7 tA8 tB4 tC0 tC1 tB3 tB8 tB9 tA5 tA9 tB0 = some r) ∧ Aside0 (kq ≤ k) ∧ Aside0 (Kd.R (Kd.int .i64) 3 wc w.heap.size (fun k_ => nO k_ (.slice Ao46 tA8.length co46) ∧ nO k_ (.slice Ao56 tC0.length co56) ∧ nO k_ (.slice Ao57 tC1.length co57) ∧ nO k_ (.slice Ao67 tB8.length co67) ∧ nO k_ (.slice Ao68 tB9.length co68) ∧ nO k_ (.slice Ao78 tA9.length co78) ∧ nO k_ (.slice Ao79 tB0.length co79)) (.slice Ao44 tA7.length co44) tA7) ∧ Aside0 (Kd.R (Kd.int .i64) 3 wc w.heap.size (fun k_ => nO k_ (.slice Ao44 tA7.length co44) ∧ nO k_ (.slice Ao56 tC0.length co56) ∧ nO k_ (.slice Ao57 tC1.length co57) ∧ nO k_ (.slice Ao67 tB8.length co67) ∧ nO k_ (.slice Ao68 tB9.length co68) ∧ nO k_ (.slice Ao78 tA9.length co78) ∧ nO k_ (.slice Ao79 tB0.length co79)) (.slice Ao46 tA8.length co46) tA8) ∧ Aside0 (Kd.R (Kd.int .i64) 3 wc w.heap.size (fun k_ => nO k_ (.slice Ao44 tA7.length co44) ∧ nO k_ (.slice Ao46 tA8.length co46) ∧ nO k_ (.slice Ao57 tC1.length co57) ∧ nO k_ (.slice Ao67 tB8.length co67) ∧ nO k_ (.slice Ao68 tB9.length co68) ∧ nO k_ (.slice Ao78 tA9.length co78) ∧ nO k_ (.slice Ao79 tB0.length co79)) (.slice Ao56 tC0.length co56) tC0) ∧ Aside0 (Kd.R (Kd.int .i64) 3 wc w.heap.size (fun k_ => nO k_ (.slice Ao44 tA7.length co44) ∧ nO k_ (.slice Ao46 tA8.length co46) ∧ nO k_ (.slice Ao56 tC0.length co56) ∧ nO k_ (.slice Ao67 tB8.length co67) ∧ nO k_ (.slice Ao68 tB9.length co68) ∧ nO k_ (.slice Ao78 tA9.length co78) ∧ nO k_ (.slice Ao79 tB0.length co79)) (.slice Ao57 tC1.length co57) tC1) ∧ Aside0 (Kd.R (Kd.int .i64) 3 wc w.heap.size (fun k_ => nO k_ (.slice Ao44 tA7.length co44) ∧ nO k_ (.slice Ao46 tA8.length co46) ∧ nO k_ (.slice Ao56 tC0.length co56) ∧ nO k_ (.slice Ao57 tC1.length co57) ∧ nO k_ (.slice Ao68 tB9.length co68) ∧ nO k_ (.slice Ao78 tA9.length co78) ∧ nO k_ (.slice Ao79 tB0.length co79)) (.slice Ao67 tB8.length co67) tB8) ∧ Aside0 (Kd.R (Kd.int .i64) 3 wc w.heap.size (fun k_ => nO k_ (.slice Ao44 tA7.length co44) ∧ nO k_ (.slice Ao46 tA8.length co46) ∧ nO k_ (.slice Ao56 tC0.length co56) ∧ nO k_ (.slice Ao57 tC1.length co57) ∧ nO k_ (.slice Ao67 tB8.length co67) ∧ nO k_ (.slice Ao78 tA9.length co78) ∧ nO k_ (.slice Ao79 tB0.length co79)) (.slice Ao68 tB9.length co68) tB9) ∧ Aside0 (Kd.R (Kd.int .i64) 3 wc w.heap.size (fun k_ => nO k_ (.slice Ao44 tA7.length co44) ∧ nO k_ (.slice Ao46 tA8.length co46) ∧ nO k_ (.slice Ao56 tC0.length co56) ∧ nO k_ (.slice Ao57 tC1.length co57) ∧ nO k_ (.slice Ao67 tB8.length co67) ∧ nO k_ (.slice Ao68 tB9.length co68) ∧ nO k_ (.slice Ao79 tB0.length co79)) (.slice Ao78 tA9.length co78) tA9) ∧ Aside0 (Kd.R (Kd.int .i64) 3 wc w.heap.size (fun k_ => nO k_ (.slice Ao44 tA7.length co44) ∧ nO k_ (.slice Ao46 tA8.length co46) ∧ nO k_ (.slice Ao56 tC0.length co56) ∧ nO k_ (.slice Ao57 tC1.length co57) ∧ nO k_ (.slice Ao67 tB8.length co67) ∧ nO k_ (.slice Ao68 tB9.length co68) ∧ nO k_ (.slice Ao78 tA9.length co78)) (.slice Ao79 tB0.length co79) tB0) ∧ Aside0 (wc.heap[gbA0]? = some (.cells #[.bool a0_0, (.slice A0_1 l0_1.length c0_1), (.slice A0_2 l0_2.length c0_2)] 30 (0, 0))) ∧ Aside0 (wc.heap[gbA1]? = some (.cells #[.bool a1_0, (.slice A1_1 l1_1.length c1_1), (.slice A1_2 l1_2.length c1_2)] 30 (0, 0))) ∧ Aside0 (wc.heap[gbA2]? = some (.cells #[.bool tA6, (.slice Ao44 tA7.length co44), (.slice Ao46 tA8.length co46)] 24 (0, 0))) ∧ Aside0 (wc.heap[gbB2]? = some (.cells #[.bool tB4, (.slice Ao56 tC0.length co56), (.slice Ao57 tC1.length co57)] 24 (0, 0))) ∧ Aside0 (wc.heap[gbB1]? = some (.cells #[.bool tB3, (.slice Ao67 tB8.length co67), (.slice Ao68 tB9.length co68)] 24 (0, 0))) ∧ Aside0 (wc.heap[gbA3]? = some (.cells #[.bool tA5, (.slice Ao78 tA9.length co78), (.slice Ao79 tB0.length co79)] 24 (0, 0))) ∧ Aside0 (Below w.heap.size w wc))
   case first =>
    have H := HC25.out
    clear HC25
    replace H := Option.bind_eq_some_iff.mp H
    obtain ⟨tF0, AP9, H⟩ := H
    replace H : (if tF0 = true then (laws_FnExactSubRat.j0 k tB7 tE3 (tE3 != tB7) a0_0 l0_1 l0_2 a1_0 l1_1 l1_2 tA6 tA7 tA8 tB4 tC0 tC1 tB3 tB8 tB9 tA5 tA9 tB0) else (laws_FnExactSubRat.j0 k tB7 tE3 true a0_0 l0_1 l0_2 a1_0 l1_1 l1_2 tA6 tA7 tA8 tB4 tC0 tC1 tB3 tB8 tB9 tA5 tA9 tB0)) = some r := H
    have A80 := Aside0.mk AP9
    clear AP9
    by_cases c81 : tF0 = true
    ·
     subst c81
     have H1 : (laws_FnExactSubRat.j0 k tB7 tE3 (tE3 != tB7) a0_0 l0_1 l0_2 a1_0 l1_1 l1_2 tA6 tA7 tA8 tB4 tC0 tC1 tB3 tB8 tB9 tA5 tA9 tB0) = some r := by rw [if_pos rfl] at H; exact H
     clear H
     have H := H1
     clear H1
     have H' := Aside0.mk H
     clear H
     have hnb82 := NBA3_A0.out
     have hnc82 := NBA0_A3.out
     have hnb83 := NBA3_A1.out
     have hnc83 := NBA1_A3.out
     have hnb84 := NBA3_A2.out
     have hnc84 := NBA2_A3.out
     have hnb85 := NBA3_B2.out
     have hnc85 := NBB2_A3.out
     have hnb86 := NBA3_B1.out
     have hnc86 := NBB1_A3.out
     obtain ⟨hcz87_0, hcz87_1, hcz87_2, hfz87_0, hfz87_1, hfz87_2⟩ := bc3 BKA3
     have hnb88 := NBA2_A0.out
     have hnc88 := NBA0_A2.out
     have hnb89 := NBA2_A1.out
     have hnc89 := NBA1_A2.out
     have hnb90 := NBA2_B2.out
     have hnc90 := NBB2_A2.out
     have hnb91 := NBA2_B1.out
     have hnc91 := NBB1_A2.out
     obtain ⟨hcz92_0, hcz92_1, hcz92_2, hfz92_0, hfz92_1, hfz92_2⟩ := bc3 BKA2
     go_wp2_with (first | ((with_reducible refine gate_callee (f := 17) rfl ?_); refine gL_ (some 47) Try.func17 #[.agg #[.bool tA5, .slice Ao78 tA9.length co78, .slice Ao79 tB0.length co79], .agg #[.bool tA6, .slice Ao44 tA7.length co44, .slice Ao46 tA8.length co46]] ?_; (with_reducible refine (laws_eqRat.calls k tA5 _ _ tA9 _ _ tB0 tA6 _ _ tA7 _ _ tA8 true _ ?side1 ?side2 ?side3 ?side4 ?side5 ?side6 ?side7 ?side8 A80.out).mono ?_); (case side1 => refine (Kd.R_reads' (e := 3) (base := w.heap.size) (ok := fun k_ => ((((((((nO k_ (.slice Ao79 tB0.length co79) ∧ nO k_ vH2) ∧ nO k_ vH3) ∧ nO k_ (.slice Ao44 tA7.length co44)) ∧ nO k_ (.slice Ao46 tA8.length co46)) ∧ nO k_ (.slice Ao56 tC0.length co56)) ∧ nO k_ (.slice Ao57 tC1.length co57)) ∧ nO k_ (.slice Ao67 tB8.length co67)) ∧ nO k_ (.slice Ao68 tB9.length co68))) (n := tA9.length) (c := co78) ?_).2.2; exact (crF HOJ0 BKA3)); (case side2 => exact (Kd.R_reads' HOJ0.out).2.1); (case side3 => refine (Kd.R_reads' (e := 3) (base := w.heap.size) (ok := fun k_ => ((((((((nO k_ (.slice Ao78 tA9.length co78) ∧ nO k_ vH2) ∧ nO k_ vH3) ∧ nO k_ (.slice Ao44 tA7.length co44)) ∧ nO k_ (.slice Ao46 tA8.length co46)) ∧ nO k_ (.slice Ao56 tC0.length co56)) ∧ nO k_ (.slice Ao57 tC1.length co57)) ∧ nO k_ (.slice Ao67 tB8.length co67)) ∧ nO k_ (.slice Ao68 tB9.length co68))) (n := tB0.length) (c := co79) ?_).2.2; exact (crF HOJ1 BKA3)); (case side4 => exact (Kd.R_reads' HOJ1.out).2.1); (case side5 => refine (Kd.R_reads' (e := 3) (base := w.heap.size) (ok := fun k_ => (((((((nO k_ vH2 ∧ (nO k_ vH3 ∧ nO k_ (.slice Ao46 tA8.length co46))) ∧ nO k_ (.slice Ao56 tC0.length co56)) ∧ nO k_ (.slice Ao57 tC1.length co57)) ∧ nO k_ (.slice Ao67 tB8.length co67)) ∧ nO k_ (.slice Ao68 tB9.length co68)) ∧ nO k_ (.slice Ao78 tA9.length co78)) ∧ nO k_ (.slice Ao79 tB0.length co79))) (n := tA7.length) (c := co44) ?_).2.2; exact (crF HOC8 BKA3)); (case side6 => exact (Kd.R_reads' HOC8.out).2.1); (case side7 => refine (Kd.R_reads' (e := 3) (base := w.heap.size) (ok := fun k_ => (((((((nO k_ vH2 ∧ (nO k_ vH3 ∧ nO k_ (.slice Ao44 tA7.length co44))) ∧ nO k_ (.slice Ao56 tC0.length co56)) ∧ nO k_ (.slice Ao57 tC1.length co57)) ∧ nO k_ (.slice Ao67 tB8.length co67)) ∧ nO k_ (.slice Ao68 tB9.length co68)) ∧ nO k_ (.slice Ao78 tA9.length co78)) ∧ nO k_ (.slice Ao79 tB0.length co79))) (n := tA8.length) (c := co46) ?_).2.2; exact (crF HOC9 BKA3)); (case side8 => exact (Kd.R_reads' HOC9.out).2.1); rintro e w93 ⟨rfl, hb⟩; refine ⟨_, rfl, ?_⟩; replace HOB5 := rblF HOB5 BKA3 hb; replace HOB6 := rblF HOB6 BKA3 hb; replace HOC8 := rblF HOC8 BKA3 hb; replace HOC9 := rblF HOC9 BKA3 hb; replace HOE7 := rblF HOE7 BKA3 hb; replace HOE8 := rblF HOE8 BKA3 hb; replace HOI1 := rblF HOI1 BKA3 hb; replace HOI2 := rblF HOI2 BKA3 hb; replace HOJ0 := rblF HOJ0 BKA3 hb; replace HOJ1 := rblF HOJ1 BKA3 hb; replace BKA0 := bkf BKA0 hb; replace BKA1 := bkf BKA1 hb; replace BKA2 := bkf BKA2 hb; replace BKB2 := bkf BKB2 hb; replace BKB1 := bkf BKB1 hb; replace BKA3 := bkp BKA3 (.bool tA5) (.slice Ao78 tA9.length co78) (.slice Ao79 tB0.length co79) hb; replace HB := bst HB hb; (try clear hb); (try clear hb2); (try clear hk); (try clear hi)))
     go_meet
     case rel => exact ⟨_, ((tE3 != tB7)), rs_, H', ⟨by first | omega | exact Nat.le_refl _⟩, ⟨crM HOC8 fun _ hk => ⟨hk.1.1.1.1.1.1.2.2, hk.1.1.1.1.1.2, hk.1.1.1.1.2, hk.1.1.1.2, hk.1.1.2, hk.1.2, hk.2⟩⟩, ⟨crM HOC9 fun _ hk => ⟨hk.1.1.1.1.1.1.2.2, hk.1.1.1.1.1.2, hk.1.1.1.1.2, hk.1.1.1.2, hk.1.1.2, hk.1.2, hk.2⟩⟩, ⟨crM HOE7 fun _ hk => ⟨hk.1.1.1.1.1.2, hk.1.1.1.1.2, hk.1.1.1.1.1.1.1.1, hk.1.1.1.2, hk.1.1.2, hk.1.2, hk.2⟩⟩, ⟨crM HOE8 fun _ hk => ⟨hk.1.1.1.1.1.2, hk.1.1.1.1.2, hk.1.1.1.1.1.1.1.1, hk.1.1.1.2, hk.1.1.2, hk.1.2, hk.2⟩⟩, ⟨crM HOI1 fun _ hk => ⟨hk.1.1.1.1.1.2, hk.1.1.1.1.2, hk.1.1.1.2, hk.1.1.2, hk.1.1.1.1.1.1.1.1, hk.1.2, hk.2⟩⟩, ⟨crM HOI2 fun _ hk => ⟨hk.1.1.1.1.1.2, hk.1.1.1.1.2, hk.1.1.1.2, hk.1.1.2, hk.1.1.1.1.1.1.1.1, hk.1.2, hk.2⟩⟩, ⟨crM HOJ0 fun _ hk => ⟨hk.1.1.1.1.1.2, hk.1.1.1.1.2, hk.1.1.1.2, hk.1.1.2, hk.1.2, hk.2, hk.1.1.1.1.1.1.1.1⟩⟩, ⟨crM HOJ1 fun _ hk => ⟨hk.1.1.1.1.1.2, hk.1.1.1.1.2, hk.1.1.1.2, hk.1.1.2, hk.1.2, hk.2, hk.1.1.1.1.1.1.1.1⟩⟩, ⟨crb BKA0⟩, ⟨crb BKA1⟩, ⟨crb BKA2⟩, ⟨crb BKB2⟩, ⟨crb BKB1⟩, ⟨crb BKA3⟩, ⟨blw HB⟩⟩
    ·
     replace c81 := Bool.eq_false_iff.mpr c81
     subst c81
     have H1 : (laws_FnExactSubRat.j0 k tB7 tE3 true a0_0 l0_1 l0_2 a1_0 l1_1 l1_2 tA6 tA7 tA8 tB4 tC0 tC1 tB3 tB8 tB9 tA5 tA9 tB0) = some r := by rw [if_neg (show ¬ (false = true) by decide)] at H; exact H
     clear H
     have H := H1
     clear H1
     have H' := Aside0.mk H
     clear H
     have hnb94 := NBA3_A0.out
     have hnc94 := NBA0_A3.out
     have hnb95 := NBA3_A1.out
     have hnc95 := NBA1_A3.out
     have hnb96 := NBA3_A2.out
     have hnc96 := NBA2_A3.out
     have hnb97 := NBA3_B2.out
     have hnc97 := NBB2_A3.out
     have hnb98 := NBA3_B1.out
     have hnc98 := NBB1_A3.out
     obtain ⟨hcz99_0, hcz99_1, hcz99_2, hfz99_0, hfz99_1, hfz99_2⟩ := bc3 BKA3
     have hnbM4 := NBA2_A0.out
     have hncM4 := NBA0_A2.out
     have hnbQ0 := NBA2_A1.out
     have hncQ0 := NBA1_A2.out
     have hnbQ1 := NBA2_B2.out
     have hncQ1 := NBB2_A2.out
     have hnbQ2 := NBA2_B1.out
     have hncQ2 := NBB1_A2.out
     obtain ⟨hczK2_0, hczK2_1, hczK2_2, hfzK2_0, hfzK2_1, hfzK2_2⟩ := bc3 BKA2
     go_wp2_with (first | ((with_reducible refine gate_callee (f := 17) rfl ?_); refine gL_ (some 47) Try.func17 #[.agg #[.bool tA5, .slice Ao78 tA9.length co78, .slice Ao79 tB0.length co79], .agg #[.bool tA6, .slice Ao44 tA7.length co44, .slice Ao46 tA8.length co46]] ?_; (with_reducible refine (laws_eqRat.calls k tA5 _ _ tA9 _ _ tB0 tA6 _ _ tA7 _ _ tA8 false _ ?side1 ?side2 ?side3 ?side4 ?side5 ?side6 ?side7 ?side8 A80.out).mono ?_); (case side1 => refine (Kd.R_reads' (e := 3) (base := w.heap.size) (ok := fun k_ => ((((((((nO k_ (.slice Ao79 tB0.length co79) ∧ nO k_ vH2) ∧ nO k_ vH3) ∧ nO k_ (.slice Ao44 tA7.length co44)) ∧ nO k_ (.slice Ao46 tA8.length co46)) ∧ nO k_ (.slice Ao56 tC0.length co56)) ∧ nO k_ (.slice Ao57 tC1.length co57)) ∧ nO k_ (.slice Ao67 tB8.length co67)) ∧ nO k_ (.slice Ao68 tB9.length co68))) (n := tA9.length) (c := co78) ?_).2.2; exact (crF HOJ0 BKA3)); (case side2 => exact (Kd.R_reads' HOJ0.out).2.1); (case side3 => refine (Kd.R_reads' (e := 3) (base := w.heap.size) (ok := fun k_ => ((((((((nO k_ (.slice Ao78 tA9.length co78) ∧ nO k_ vH2) ∧ nO k_ vH3) ∧ nO k_ (.slice Ao44 tA7.length co44)) ∧ nO k_ (.slice Ao46 tA8.length co46)) ∧ nO k_ (.slice Ao56 tC0.length co56)) ∧ nO k_ (.slice Ao57 tC1.length co57)) ∧ nO k_ (.slice Ao67 tB8.length co67)) ∧ nO k_ (.slice Ao68 tB9.length co68))) (n := tB0.length) (c := co79) ?_).2.2; exact (crF HOJ1 BKA3)); (case side4 => exact (Kd.R_reads' HOJ1.out).2.1); (case side5 => refine (Kd.R_reads' (e := 3) (base := w.heap.size) (ok := fun k_ => (((((((nO k_ vH2 ∧ (nO k_ vH3 ∧ nO k_ (.slice Ao46 tA8.length co46))) ∧ nO k_ (.slice Ao56 tC0.length co56)) ∧ nO k_ (.slice Ao57 tC1.length co57)) ∧ nO k_ (.slice Ao67 tB8.length co67)) ∧ nO k_ (.slice Ao68 tB9.length co68)) ∧ nO k_ (.slice Ao78 tA9.length co78)) ∧ nO k_ (.slice Ao79 tB0.length co79))) (n := tA7.length) (c := co44) ?_).2.2; exact (crF HOC8 BKA3)); (case side6 => exact (Kd.R_reads' HOC8.out).2.1); (case side7 => refine (Kd.R_reads' (e := 3) (base := w.heap.size) (ok := fun k_ => (((((((nO k_ vH2 ∧ (nO k_ vH3 ∧ nO k_ (.slice Ao44 tA7.length co44))) ∧ nO k_ (.slice Ao56 tC0.length co56)) ∧ nO k_ (.slice Ao57 tC1.length co57)) ∧ nO k_ (.slice Ao67 tB8.length co67)) ∧ nO k_ (.slice Ao68 tB9.length co68)) ∧ nO k_ (.slice Ao78 tA9.length co78)) ∧ nO k_ (.slice Ao79 tB0.length co79))) (n := tA8.length) (c := co46) ?_).2.2; exact (crF HOC9 BKA3)); (case side8 => exact (Kd.R_reads' HOC9.out).2.1); rintro e wX1 ⟨rfl, hb⟩; refine ⟨_, rfl, ?_⟩; replace HOB5 := rblF HOB5 BKA3 hb; replace HOB6 := rblF HOB6 BKA3 hb; replace HOC8 := rblF HOC8 BKA3 hb; replace HOC9 := rblF HOC9 BKA3 hb; replace HOE7 := rblF HOE7 BKA3 hb; replace HOE8 := rblF HOE8 BKA3 hb; replace HOI1 := rblF HOI1 BKA3 hb; replace HOI2 := rblF HOI2 BKA3 hb; replace HOJ0 := rblF HOJ0 BKA3 hb; replace HOJ1 := rblF HOJ1 BKA3 hb; replace BKA0 := bkf BKA0 hb; replace BKA1 := bkf BKA1 hb; replace BKA2 := bkf BKA2 hb; replace BKB2 := bkf BKB2 hb; replace BKB1 := bkf BKB1 hb; replace BKA3 := bkp BKA3 (.bool tA5) (.slice Ao78 tA9.length co78) (.slice Ao79 tB0.length co79) hb; replace HB := bst HB hb; (try clear hb); (try clear hb2); (try clear hk); (try clear hi)))
     go_meet
     case rel => exact ⟨_, (true), rs_, H', ⟨by first | omega | exact Nat.le_refl _⟩, ⟨crM HOC8 fun _ hk => ⟨hk.1.1.1.1.1.1.2.2, hk.1.1.1.1.1.2, hk.1.1.1.1.2, hk.1.1.1.2, hk.1.1.2, hk.1.2, hk.2⟩⟩, ⟨crM HOC9 fun _ hk => ⟨hk.1.1.1.1.1.1.2.2, hk.1.1.1.1.1.2, hk.1.1.1.1.2, hk.1.1.1.2, hk.1.1.2, hk.1.2, hk.2⟩⟩, ⟨crM HOE7 fun _ hk => ⟨hk.1.1.1.1.1.2, hk.1.1.1.1.2, hk.1.1.1.1.1.1.1.1, hk.1.1.1.2, hk.1.1.2, hk.1.2, hk.2⟩⟩, ⟨crM HOE8 fun _ hk => ⟨hk.1.1.1.1.1.2, hk.1.1.1.1.2, hk.1.1.1.1.1.1.1.1, hk.1.1.1.2, hk.1.1.2, hk.1.2, hk.2⟩⟩, ⟨crM HOI1 fun _ hk => ⟨hk.1.1.1.1.1.2, hk.1.1.1.1.2, hk.1.1.1.2, hk.1.1.2, hk.1.1.1.1.1.1.1.1, hk.1.2, hk.2⟩⟩, ⟨crM HOI2 fun _ hk => ⟨hk.1.1.1.1.1.2, hk.1.1.1.1.2, hk.1.1.1.2, hk.1.1.2, hk.1.1.1.1.1.1.1.1, hk.1.2, hk.2⟩⟩, ⟨crM HOJ0 fun _ hk => ⟨hk.1.1.1.1.1.2, hk.1.1.1.1.2, hk.1.1.1.2, hk.1.1.2, hk.1.2, hk.2, hk.1.1.1.1.1.1.1.1⟩⟩, ⟨crM HOJ1 fun _ hk => ⟨hk.1.1.1.1.1.2, hk.1.1.1.1.2, hk.1.1.1.2, hk.1.1.2, hk.1.2, hk.2, hk.1.1.1.1.1.1.1.1⟩⟩, ⟨crb BKA0⟩, ⟨crb BKA1⟩, ⟨crb BKA2⟩, ⟨crb BKB2⟩, ⟨crb BKB1⟩, ⟨crb BKA3⟩, ⟨blw HB⟩⟩
   case rest =>
    clear HC25
    try clear c1
    try clear c2
    try clear p2
    try clear c3
    try clear c4
    try clear c5
    try clear c6
    try clear c7
    try clear c8
    try clear c9
    try clear c10
    try clear c17
    try clear c22
    try clear c38
    try clear c39
    try clear c48
    try clear c52
    try clear c53
    try clear c54
    try clear c58
    try clear c62
    try clear c63
    try clear c64
    try clear c65
    try clear c72
    try clear c73
    try clear c74
    try clear c75
    try clear c76
    try clear c81
    try clear c82
    try clear c83
    try clear c84
    try clear c85
    try clear c86
    try clear c88
    try clear c89
    try clear c90
    try clear c91
    try clear c94
    try clear c95
    try clear c96
    try clear c97
    try clear c98
    try clear cM4
    try clear cQ0
    try clear cQ1
    try clear cQ2
    try clear hczK2_0
    try clear hczK2_1
    try clear hczK2_2
    try clear hcz49_0
    try clear hcz49_1
    try clear hcz49_2
    try clear hcz55_0
    try clear hcz55_1
    try clear hcz55_2
    try clear hcz59_0
    try clear hcz59_1
    try clear hcz59_2
    try clear hcz66_0
    try clear hcz66_1
    try clear hcz66_2
    try clear hcz69_0
    try clear hcz69_1
    try clear hcz69_2
    try clear hcz77_0
    try clear hcz77_1
    try clear hcz77_2
    try clear hcz87_0
    try clear hcz87_1
    try clear hcz87_2
    try clear hcz92_0
    try clear hcz92_1
    try clear hcz92_2
    try clear hcz99_0
    try clear hcz99_1
    try clear hcz99_2
    try clear hfzK2_0
    try clear hfzK2_1
    try clear hfzK2_2
    try clear hfz49_0
    try clear hfz49_1
    try clear hfz49_2
    try clear hfz55_0
    try clear hfz55_1
    try clear hfz55_2
    try clear hfz59_0
    try clear hfz59_1
    try clear hfz59_2
    try clear hfz66_0
    try clear hfz66_1
    try clear hfz66_2
    try clear hfz69_0
    try clear hfz69_1
    try clear hfz69_2
    try clear hfz77_0
    try clear hfz77_1
    try clear hfz77_2
    try clear hfz87_0
    try clear hfz87_1
    try clear hfz87_2
    try clear hfz92_0
    try clear hfz92_1
    try clear hfz92_2
    try clear hfz99_0
    try clear hfz99_1
    try clear hfz99_2
    obtain ⟨kq, x53_24, rfl, HA, HJ24, HO_1326001, HO_1326002, HO_1334001, HO_1334002, HO_1342001, HO_1342002, HO_1351001, HO_1351002, BKA0, BKA1, BKA2, BKB2, BKB1, BKA3, HB⟩ := hcut
    cases kq with
    | zero => exact absurd HA.out (by simp [laws_FnExactSubRat.j0])
    | succ kj24 =>
     have H := HA.out
     clear HA
     simp only [laws_FnExactSubRat.j0] at H
     by_cases cO4 : x53_24 = true
     ·
      subst cO4
      have H1 : (some false) = some r := by rw [if_pos rfl] at H; exact H
      clear H
      have H := H1
      clear H1
      obtain rfl := Option.some.inj H
      exact absurd hr_ (by decide)
     ·
      replace cO4 := Bool.eq_false_iff.mpr cO4
      subst cO4
      have H1 : ((laws_toRat.f kj24 a0_0 l0_1 l0_2).bind fun btJ6 => ((laws_eqRat.f kj24 tB4 tC0 tC1 btJ6.1 btJ6.2.1 btJ6.2.2).bind fun tJ9 => (if tJ9 = true then ((laws_toRat.f kj24 a1_0 l1_1 l1_2).bind fun btE0 => ((laws_eqRat.f kj24 tB3 tB8 tB9 btE0.1 btE0.2.1 btE0.2.2).bind fun tI7 => (if tI7 = true then ((laws_markRat.f kj24 tB4 tC0 tC1 1).bind fun btG5 => ((laws_markRat.f kj24 tB3 tB8 tB9 btG5.1).bind fun btE6 => (if btE6.1 < 0 then (laws_FnExactSubRat.j1 kj24 tB7 true a0_0 l0_1 l0_2 a1_0 l1_1 l1_2 tA6 tA7 tA8 tA5 tA9 tB0) else ((laws_eqRat.f kj24 tA5 tA9 tB0 tA6 tA7 tA8).bind fun tE9 => (if tE9 = true then (laws_FnExactSubRat.j1 kj24 tB7 (tE3 != tB7) a0_0 l0_1 l0_2 a1_0 l1_1 l1_2 tA6 tA7 tA8 tA5 tA9 tB0) else (laws_FnExactSubRat.j1 kj24 tB7 true a0_0 l0_1 l0_2 a1_0 l1_1 l1_2 tA6 tA7 tA8 tA5 tA9 tB0)))))) else (some false)))) else (some false)))) = some r := by rw [if_neg (show ¬ (false = true) by decide)] at H; exact H
      clear H
      have H := H1
      clear H1
      replace H := Option.bind_eq_some_iff.mp H
      obtain ⟨⟨tJ6, tF1, tF2⟩, AM5, H⟩ := H
      replace H : ((laws_eqRat.f kj24 tB4 tC0 tC1 tJ6 tF1 tF2).bind fun tJ9 => (if tJ9 = true then ((laws_toRat.f kj24 a1_0 l1_1 l1_2).bind fun btE0 => ((laws_eqRat.f kj24 tB3 tB8 tB9 btE0.1 btE0.2.1 btE0.2.2).bind fun tI7 => (if tI7 = true then ((laws_markRat.f kj24 tB4 tC0 tC1 1).bind fun btG5 => ((laws_markRat.f kj24 tB3 tB8 tB9 btG5.1).bind fun btE6 => (if btE6.1 < 0 then (laws_FnExactSubRat.j1 kj24 tB7 true a0_0 l0_1 l0_2 a1_0 l1_1 l1_2 tA6 tA7 tA8 tA5 tA9 tB0) else ((laws_eqRat.f kj24 tA5 tA9 tB0 tA6 tA7 tA8).bind fun tE9 => (if tE9 = true then (laws_FnExactSubRat.j1 kj24 tB7 (tE3 != tB7) a0_0 l0_1 l0_2 a1_0 l1_1 l1_2 tA6 tA7 tA8 tA5 tA9 tB0) else (laws_FnExactSubRat.j1 kj24 tB7 true a0_0 l0_1 l0_2 a1_0 l1_1 l1_2 tA6 tA7 tA8 tA5 tA9 tB0)))))) else (some false)))) else (some false))) = some r := H
      have AV4 := Aside0.mk AM5
      clear AM5
      replace H := Option.bind_eq_some_iff.mp H
      obtain ⟨tJ9, AM6, H⟩ := H
      replace H : (if tJ9 = true then ((laws_toRat.f kj24 a1_0 l1_1 l1_2).bind fun btE0 => ((laws_eqRat.f kj24 tB3 tB8 tB9 btE0.1 btE0.2.1 btE0.2.2).bind fun tI7 => (if tI7 = true then ((laws_markRat.f kj24 tB4 tC0 tC1 1).bind fun btG5 => ((laws_markRat.f kj24 tB3 tB8 tB9 btG5.1).bind fun btE6 => (if btE6.1 < 0 then (laws_FnExactSubRat.j1 kj24 tB7 true a0_0 l0_1 l0_2 a1_0 l1_1 l1_2 tA6 tA7 tA8 tA5 tA9 tB0) else ((laws_eqRat.f kj24 tA5 tA9 tB0 tA6 tA7 tA8).bind fun tE9 => (if tE9 = true then (laws_FnExactSubRat.j1 kj24 tB7 (tE3 != tB7) a0_0 l0_1 l0_2 a1_0 l1_1 l1_2 tA6 tA7 tA8 tA5 tA9 tB0) else (laws_FnExactSubRat.j1 kj24 tB7 true a0_0 l0_1 l0_2 a1_0 l1_1 l1_2 tA6 tA7 tA8 tA5 tA9 tB0)))))) else (some false)))) else (some false)) = some r := H
      have AV5 := Aside0.mk AM6
      clear AM6
      by_cases cO5 : tJ9 = true
      ·
       subst cO5
       have H1 : ((laws_toRat.f kj24 a1_0 l1_1 l1_2).bind fun btE0 => ((laws_eqRat.f kj24 tB3 tB8 tB9 btE0.1 btE0.2.1 btE0.2.2).bind fun tI7 => (if tI7 = true then ((laws_markRat.f kj24 tB4 tC0 tC1 1).bind fun btG5 => ((laws_markRat.f kj24 tB3 tB8 tB9 btG5.1).bind fun btE6 => (if btE6.1 < 0 then (laws_FnExactSubRat.j1 kj24 tB7 true a0_0 l0_1 l0_2 a1_0 l1_1 l1_2 tA6 tA7 tA8 tA5 tA9 tB0) else ((laws_eqRat.f kj24 tA5 tA9 tB0 tA6 tA7 tA8).bind fun tE9 => (if tE9 = true then (laws_FnExactSubRat.j1 kj24 tB7 (tE3 != tB7) a0_0 l0_1 l0_2 a1_0 l1_1 l1_2 tA6 tA7 tA8 tA5 tA9 tB0) else (laws_FnExactSubRat.j1 kj24 tB7 true a0_0 l0_1 l0_2 a1_0 l1_1 l1_2 tA6 tA7 tA8 tA5 tA9 tB0)))))) else (some false)))) = some r := by rw [if_pos rfl] at H; exact H
       clear H
       have H := H1
       clear H1
       replace H := Option.bind_eq_some_iff.mp H
       obtain ⟨⟨tE0, tF3, tF4⟩, AM7, H⟩ := H
       replace H : ((laws_eqRat.f kj24 tB3 tB8 tB9 tE0 tF3 tF4).bind fun tI7 => (if tI7 = true then ((laws_markRat.f kj24 tB4 tC0 tC1 1).bind fun btG5 => ((laws_markRat.f kj24 tB3 tB8 tB9 btG5.1).bind fun btE6 => (if btE6.1 < 0 then (laws_FnExactSubRat.j1 kj24 tB7 true a0_0 l0_1 l0_2 a1_0 l1_1 l1_2 tA6 tA7 tA8 tA5 tA9 tB0) else ((laws_eqRat.f kj24 tA5 tA9 tB0 tA6 tA7 tA8).bind fun tE9 => (if tE9 = true then (laws_FnExactSubRat.j1 kj24 tB7 (tE3 != tB7) a0_0 l0_1 l0_2 a1_0 l1_1 l1_2 tA6 tA7 tA8 tA5 tA9 tB0) else (laws_FnExactSubRat.j1 kj24 tB7 true a0_0 l0_1 l0_2 a1_0 l1_1 l1_2 tA6 tA7 tA8 tA5 tA9 tB0)))))) else (some false))) = some r := H
       have AL2 := Aside0.mk AM7
       clear AM7
       replace H := Option.bind_eq_some_iff.mp H
       obtain ⟨tI7, AM8, H⟩ := H
       replace H : (if tI7 = true then ((laws_markRat.f kj24 tB4 tC0 tC1 1).bind fun btG5 => ((laws_markRat.f kj24 tB3 tB8 tB9 btG5.1).bind fun btE6 => (if btE6.1 < 0 then (laws_FnExactSubRat.j1 kj24 tB7 true a0_0 l0_1 l0_2 a1_0 l1_1 l1_2 tA6 tA7 tA8 tA5 tA9 tB0) else ((laws_eqRat.f kj24 tA5 tA9 tB0 tA6 tA7 tA8).bind fun tE9 => (if tE9 = true then (laws_FnExactSubRat.j1 kj24 tB7 (tE3 != tB7) a0_0 l0_1 l0_2 a1_0 l1_1 l1_2 tA6 tA7 tA8 tA5 tA9 tB0) else (laws_FnExactSubRat.j1 kj24 tB7 true a0_0 l0_1 l0_2 a1_0 l1_1 l1_2 tA6 tA7 tA8 tA5 tA9 tB0)))))) else (some false)) = some r := H
       have AV6 := Aside0.mk AM8
       clear AM8
       by_cases cO6 : tI7 = true
       ·
        subst cO6
        have H1 : ((laws_markRat.f kj24 tB4 tC0 tC1 1).bind fun btG5 => ((laws_markRat.f kj24 tB3 tB8 tB9 btG5.1).bind fun btE6 => (if btE6.1 < 0 then (laws_FnExactSubRat.j1 kj24 tB7 true a0_0 l0_1 l0_2 a1_0 l1_1 l1_2 tA6 tA7 tA8 tA5 tA9 tB0) else ((laws_eqRat.f kj24 tA5 tA9 tB0 tA6 tA7 tA8).bind fun tE9 => (if tE9 = true then (laws_FnExactSubRat.j1 kj24 tB7 (tE3 != tB7) a0_0 l0_1 l0_2 a1_0 l1_1 l1_2 tA6 tA7 tA8 tA5 tA9 tB0) else (laws_FnExactSubRat.j1 kj24 tB7 true a0_0 l0_1 l0_2 a1_0 l1_1 l1_2 tA6 tA7 tA8 tA5 tA9 tB0)))))) = some r := by rw [if_pos rfl] at H; exact H
        clear H
        have H := H1
        clear H1
        replace H := Option.bind_eq_some_iff.mp H
        obtain ⟨⟨tG5, tO9, tP0⟩, AM9, H⟩ := H
        replace H : ((laws_markRat.f kj24 tB3 tB8 tB9 tG5).bind fun btE6 => (if btE6.1 < 0 then (laws_FnExactSubRat.j1 kj24 tB7 true a0_0 l0_1 l0_2 a1_0 l1_1 l1_2 tA6 tA7 tA8 tA5 tA9 tB0) else ((laws_eqRat.f kj24 tA5 tA9 tB0 tA6 tA7 tA8).bind fun tE9 => (if tE9 = true then (laws_FnExactSubRat.j1 kj24 tB7 (tE3 != tB7) a0_0 l0_1 l0_2 a1_0 l1_1 l1_2 tA6 tA7 tA8 tA5 tA9 tB0) else (laws_FnExactSubRat.j1 kj24 tB7 true a0_0 l0_1 l0_2 a1_0 l1_1 l1_2 tA6 tA7 tA8 tA5 tA9 tB0))))) = some r := H
        have AV7 := Aside0.mk AM9
        clear AM9
        replace H := Option.bind_eq_some_iff.mp H
        obtain ⟨⟨tE6, tP1, tP2⟩, AN0, H⟩ := H
        replace H : (if tE6 < 0 then (laws_FnExactSubRat.j1 kj24 tB7 true a0_0 l0_1 l0_2 a1_0 l1_1 l1_2 tA6 tA7 tA8 tA5 tA9 tB0) else ((laws_eqRat.f kj24 tA5 tA9 tB0 tA6 tA7 tA8).bind fun tE9 => (if tE9 = true then (laws_FnExactSubRat.j1 kj24 tB7 (tE3 != tB7) a0_0 l0_1 l0_2 a1_0 l1_1 l1_2 tA6 tA7 tA8 tA5 tA9 tB0) else (laws_FnExactSubRat.j1 kj24 tB7 true a0_0 l0_1 l0_2 a1_0 l1_1 l1_2 tA6 tA7 tA8 tA5 tA9 tB0)))) = some r := H
        have AV8 := Aside0.mk AN0
        clear AN0
        have HCP3 := Aside0.mk H
        clear H
        try go_wp2
        replace HO_1326001 := Aside0.mk (Kd.R_drew HO_1326001.out)
        replace HO_1326002 := Aside0.mk (Kd.R_drew HO_1326002.out)
        replace HO_1334001 := Aside0.mk (Kd.R_drew HO_1334001.out)
        replace HO_1334002 := Aside0.mk (Kd.R_drew HO_1334002.out)
        replace HO_1342001 := Aside0.mk (Kd.R_drew HO_1342001.out)
        replace HO_1342002 := Aside0.mk (Kd.R_drew HO_1342002.out)
        replace HO_1351001 := Aside0.mk (Kd.R_drew HO_1351001.out)
        replace HO_1351002 := Aside0.mk (Kd.R_drew HO_1351002.out)
        replace BKA0 := Aside0.mk (blk_drew BKA0.out)
        replace BKA1 := Aside0.mk (blk_drew BKA1.out)
        replace BKA2 := Aside0.mk (blk_drew BKA2.out)
        replace BKB2 := Aside0.mk (blk_drew BKB2.out)
        replace BKB1 := Aside0.mk (blk_drew BKB1.out)
        replace BKA3 := Aside0.mk (blk_drew BKA3.out)
        replace HB := Aside0.mk (below_drew1 HB.out)
        refine start_ (n := 5) (S := fun w' => w'.cell? ⟨gbB2, 0, none⟩ = some (.bool tB4) ∧ w'.cell? ⟨gbB2, 1, none⟩ = some (.slice Ao56 tC0.length co56) ∧ w'.cell? ⟨gbB2, 2, none⟩ = some (.slice Ao57 tC1.length co57) ∧ w'.cell? ⟨gbA0, 0, none⟩ = some (.bool a0_0) ∧ w'.cell? ⟨gbA0, 1, none⟩ = some (.slice A0_1 l0_1.length c0_1) ∧ w'.cell? ⟨gbA0, 2, none⟩ = some (.slice A0_2 l0_2.length c0_2)) (ds := []) #[false, false, false, false, false] (by kernel_rfl) rfl rfl ⟨bce BKB2 0 _, bce BKB2 1 _, bce BKB2 2 _, bce BKA0 0 _, bce BKA0 1 _, bce BKA0 2 _⟩ (fun hHeld => ?_)
        generalize wc.drew = wX2 at HO_1326001 HO_1326002 HO_1334001 HO_1334002 HO_1342001 HO_1342002 HO_1351001 HO_1351002 BKA0 BKA1 BKA2 BKB2 BKB1 BKA3 HB hHeld ⊢
        refine take_ (i := 0) (N := some 54) (v := ?_) (a' := ?_) #[true, false, false, false, false] rfl rfl (by kernel_rfl) (fun _ _ _ h => h) (Or.inl ⟨by rfl, ?_⟩) hHeld ?_ ?_
        rotate_left
        ·
         rintro w' ⟨s0, s1, s2, s3, s4, s5⟩
         go_simp
         with_reducible rfl
        rotate_left
        ·
         simp only [Act.put, List.setIfInBounds_toArray, List.set_cons_zero, List.set_cons_succ, i64_w, i32_w]
         rfl
        refine take_ (i := 1) (N := some 55) (v := ?_) (a' := ?_) #[true, true, false, false, false] rfl rfl (by kernel_rfl) (fun _ _ _ h => h) (Or.inl ⟨by rfl, ?_⟩) hHeld ?_ ?_
        rotate_left
        ·
         rintro w' ⟨s0, s1, s2, s3, s4, s5⟩
         go_simp
         with_reducible rfl
        rotate_left
        ·
         simp only [Act.put, List.setIfInBounds_toArray, List.set_cons_zero, List.set_cons_succ, i64_w, i32_w]
         rfl
        refine one_ (i := 2) (N := some 56) #[true, true, true, false, false] rfl rfl (by kernel_rfl) (by decide) (fun K hK => ?_)
        refine g_ Try.func22 #[.agg #[.bool a0_0, .slice A0_1 l0_1.length c0_1, .slice A0_2 l0_2.length c0_2]] ?_
        with_reducible refine (laws_toRat.calls kj24 a0_0 _ _ l0_1 _ _ l0_2 tJ6 tF1 tF2 _ ?side1 ?side2 ?side3 ?side4 AV4.out).mono ?_
        (case side1 => exact crC (Kd.C_below HR0_1.out HB.out))
        (case side2 => exact HC0_1.out)
        (case side3 => exact crC (Kd.C_below HR0_2.out HB.out))
        (case side4 => exact HC0_2.out)
        rintro e wX3 ⟨vV9, vW0, rfl, ho0, ho1, hb⟩
        refine ⟨_, rfl, ?_⟩
        have HOF5 := lwR (nwR (nwR (nwR (nwR (nwR (nwR (nwR (nwR ho0 HO_1326001) HO_1326002) HO_1334001) HO_1334002) HO_1342001) HO_1342002) HO_1351001) HO_1351002) HB
        have HOF6 := lwR (nwR (nwR (nwR (nwR (nwR (nwR (nwR (nwR ho1 HO_1326001) HO_1326002) HO_1334001) HO_1334002) HO_1342001) HO_1342002) HO_1351001) HO_1351002) HB
        replace HO_1326001 := tldR HO_1326001 hb (Kd.R_base ho0) (Kd.R_base ho1)
        replace HO_1326002 := tldR HO_1326002 hb (Kd.R_base ho0) (Kd.R_base ho1)
        replace HO_1334001 := tldR HO_1334001 hb (Kd.R_base ho0) (Kd.R_base ho1)
        replace HO_1334002 := tldR HO_1334002 hb (Kd.R_base ho0) (Kd.R_base ho1)
        replace HO_1342001 := tldR HO_1342001 hb (Kd.R_base ho0) (Kd.R_base ho1)
        replace HO_1342002 := tldR HO_1342002 hb (Kd.R_base ho0) (Kd.R_base ho1)
        replace HO_1351001 := tldR HO_1351001 hb (Kd.R_base ho0) (Kd.R_base ho1)
        replace HO_1351002 := tldR HO_1351002 hb (Kd.R_base ho0) (Kd.R_base ho1)
        replace BKA0 := bkb BKA0 hb
        replace BKA1 := bkb BKA1 hb
        replace BKA2 := bkb BKA2 hb
        replace BKB2 := bkb BKB2 hb
        replace BKB1 := bkb BKB1 hb
        replace BKA3 := bkb BKA3 hb
        replace HB := bst HB hb
        (try clear hb)
        (try clear hb2)
        (try clear hk)
        (try clear hi)
        (try clear ho0)
        (try clear ho1)
        obtain ⟨AoG1, coG1, eoG1⟩ := Kd.R_slice HOF5.out
        (first | subst eoG1 | (injection eoG1 with f1_ f2_ f3_; have f4_ := f1_.symm; have f5_ := f3_.symm; clear f1_ f2_ f3_; subst f4_; subst f5_))
        obtain ⟨AoG2, coG2, eoG2⟩ := Kd.R_slice HOF6.out
        (first | subst eoG2 | (injection eoG2 with f1_ f2_ f3_; have f4_ := f1_.symm; have f5_ := f3_.symm; clear f1_ f2_ f3_; subst f4_; subst f5_))
        refine hK.out _ _ ⟨bce BKB2 0 _, bce BKB2 1 _, bce BKB2 2 _, bce BKA0 0 _, bce BKA0 1 _, bce BKA0 2 _⟩ (fun hHeld => ?_)
        clear hK K
        refine nm_ 56 ?_
        refine one_ (i := 3) (N := some 57) #[true, true, true, true, false] rfl rfl (by kernel_rfl) (by decide) (fun K hK => ?_)
        refine g_ Try.func17 #[.agg #[.bool tB4, .slice Ao56 tC0.length co56, .slice Ao57 tC1.length co57], .agg #[.bool tJ6, .slice AoG1 tF1.length coG1, .slice AoG2 tF2.length coG2]] ?_
        with_reducible refine (laws_eqRat.calls kj24 tB4 _ _ tC0 _ _ tC1 tJ6 _ _ tF1 _ _ tF2 true _ ?side1 ?side2 ?side3 ?side4 ?side5 ?side6 ?side7 ?side8 AV5.out).mono ?_
        (case side1 => exact crC (Kd.R_reads' HO_1334001.out).2.2)
        (case side2 => exact (Kd.R_reads' HO_1334001.out).2.1)
        (case side3 => exact crC (Kd.R_reads' HO_1334002.out).2.2)
        (case side4 => exact (Kd.R_reads' HO_1334002.out).2.1)
        (case side5 => exact crC (Kd.R_reads' HOF5.out).2.2)
        (case side6 => exact (Kd.R_reads' HOF5.out).2.1)
        (case side7 => exact crC (Kd.R_reads' HOF6.out).2.2)
        (case side8 => exact (Kd.R_reads' HOF6.out).2.1)
        rintro e wW1 ⟨rfl, hb⟩
        refine ⟨_, rfl, ?_⟩
        replace HO_1326001 := rblR HO_1326001 hb
        replace HO_1326002 := rblR HO_1326002 hb
        replace HO_1334001 := rblR HO_1334001 hb
        replace HO_1334002 := rblR HO_1334002 hb
        replace HO_1342001 := rblR HO_1342001 hb
        replace HO_1342002 := rblR HO_1342002 hb
        replace HO_1351001 := rblR HO_1351001 hb
        replace HO_1351002 := rblR HO_1351002 hb
        replace HOF5 := rblR HOF5 hb
        replace HOF6 := rblR HOF6 hb
        replace BKA0 := bkb BKA0 hb
        replace BKA1 := bkb BKA1 hb
        replace BKA2 := bkb BKA2 hb
        replace BKB2 := bkb BKB2 hb
        replace BKB1 := bkb BKB1 hb
        replace BKA3 := bkb BKA3 hb
        replace HB := bst HB hb
        (try clear hb)
        (try clear hb2)
        (try clear hk)
        (try clear hi)
        refine hK.out _ _ ⟨bce BKB2 0 _, bce BKB2 1 _, bce BKB2 2 _, bce BKA0 0 _, bce BKA0 1 _, bce BKA0 2 _⟩ (fun hHeld => ?_)
        clear hK K
        refine nm_ 57 ?_
        refine pure_ (i := 4) (N := some 58) (v := ?_) (a' := ?_) #[true, true, true, true, true] rfl rfl (by kernel_rfl) (fun _ _ _ h => h) (Or.inl ⟨by rfl, ?_⟩) ?_ ?_
        rotate_left
        ·
         intro w'
         go_simp
         with_reducible rfl
        rotate_left
        ·
         simp only [Act.put, List.setIfInBounds_toArray, List.set_cons_zero, List.set_cons_succ, i64_w, i32_w]
         rfl
        refine done_ (by kernel_rfl) ?_
        try go_wp2
        replace HO_1326001 := Aside0.mk (Kd.R_drew HO_1326001.out)
        replace HO_1326002 := Aside0.mk (Kd.R_drew HO_1326002.out)
        replace HO_1334001 := Aside0.mk (Kd.R_drew HO_1334001.out)
        replace HO_1334002 := Aside0.mk (Kd.R_drew HO_1334002.out)
        replace HO_1342001 := Aside0.mk (Kd.R_drew HO_1342001.out)
        replace HO_1342002 := Aside0.mk (Kd.R_drew HO_1342002.out)
        replace HO_1351001 := Aside0.mk (Kd.R_drew HO_1351001.out)
        replace HO_1351002 := Aside0.mk (Kd.R_drew HO_1351002.out)
        replace HOF5 := Aside0.mk (Kd.R_drew HOF5.out)
        replace HOF6 := Aside0.mk (Kd.R_drew HOF6.out)
        replace BKA0 := Aside0.mk (blk_drew BKA0.out)
        replace BKA1 := Aside0.mk (blk_drew BKA1.out)
        replace BKA2 := Aside0.mk (blk_drew BKA2.out)
        replace BKB2 := Aside0.mk (blk_drew BKB2.out)
        replace BKB1 := Aside0.mk (blk_drew BKB1.out)
        replace BKA3 := Aside0.mk (blk_drew BKA3.out)
        replace HB := Aside0.mk (below_drew1 HB.out)
        refine start_ (n := 5) (S := fun w' => w'.cell? ⟨gbB1, 0, none⟩ = some (.bool tB3) ∧ w'.cell? ⟨gbB1, 1, none⟩ = some (.slice Ao67 tB8.length co67) ∧ w'.cell? ⟨gbB1, 2, none⟩ = some (.slice Ao68 tB9.length co68) ∧ w'.cell? ⟨gbA1, 0, none⟩ = some (.bool a1_0) ∧ w'.cell? ⟨gbA1, 1, none⟩ = some (.slice A1_1 l1_1.length c1_1) ∧ w'.cell? ⟨gbA1, 2, none⟩ = some (.slice A1_2 l1_2.length c1_2)) (ds := []) #[false, false, false, false, false] (by kernel_rfl) rfl rfl ⟨bce BKB1 0 _, bce BKB1 1 _, bce BKB1 2 _, bce BKA1 0 _, bce BKA1 1 _, bce BKA1 2 _⟩ (fun hHeld => ?_)
        generalize wW1.drew = wX4 at HO_1326001 HO_1326002 HO_1334001 HO_1334002 HO_1342001 HO_1342002 HO_1351001 HO_1351002 HOF5 HOF6 BKA0 BKA1 BKA2 BKB2 BKB1 BKA3 HB hHeld ⊢
        refine take_ (i := 0) (N := some 59) (v := ?_) (a' := ?_) #[true, false, false, false, false] rfl rfl (by kernel_rfl) (fun _ _ _ h => h) (Or.inl ⟨by rfl, ?_⟩) hHeld ?_ ?_
        rotate_left
        ·
         rintro w' ⟨s0, s1, s2, s3, s4, s5⟩
         go_simp
         with_reducible rfl
        rotate_left
        ·
         simp only [Act.put, List.setIfInBounds_toArray, List.set_cons_zero, List.set_cons_succ, i64_w, i32_w]
         rfl
        refine take_ (i := 1) (N := some 60) (v := ?_) (a' := ?_) #[true, true, false, false, false] rfl rfl (by kernel_rfl) (fun _ _ _ h => h) (Or.inl ⟨by rfl, ?_⟩) hHeld ?_ ?_
        rotate_left
        ·
         rintro w' ⟨s0, s1, s2, s3, s4, s5⟩
         go_simp
         with_reducible rfl
        rotate_left
        ·
         simp only [Act.put, List.setIfInBounds_toArray, List.set_cons_zero, List.set_cons_succ, i64_w, i32_w]
         rfl
        refine one_ (i := 2) (N := some 61) #[true, true, true, false, false] rfl rfl (by kernel_rfl) (by decide) (fun K hK => ?_)
        refine g_ Try.func22 #[.agg #[.bool a1_0, .slice A1_1 l1_1.length c1_1, .slice A1_2 l1_2.length c1_2]] ?_
        with_reducible refine (laws_toRat.calls kj24 a1_0 _ _ l1_1 _ _ l1_2 tE0 tF3 tF4 _ ?side1 ?side2 ?side3 ?side4 AL2.out).mono ?_
        (case side1 => exact crC (Kd.C_below HR1_1.out HB.out))
        (case side2 => exact HC1_1.out)
        (case side3 => exact crC (Kd.C_below HR1_2.out HB.out))
        (case side4 => exact HC1_2.out)
        rintro e wX5 ⟨vW2, vW3, rfl, ho0, ho1, hb⟩
        refine ⟨_, rfl, ?_⟩
        have HOJ2 := lwR (nwR (nwR (nwR (nwR (nwR (nwR (nwR (nwR (nwR (nwR ho0 HO_1326001) HO_1326002) HO_1334001) HO_1334002) HO_1342001) HO_1342002) HO_1351001) HO_1351002) HOF5) HOF6) HB
        have HOJ3 := lwR (nwR (nwR (nwR (nwR (nwR (nwR (nwR (nwR (nwR (nwR ho1 HO_1326001) HO_1326002) HO_1334001) HO_1334002) HO_1342001) HO_1342002) HO_1351001) HO_1351002) HOF5) HOF6) HB
        replace HO_1326001 := tldR HO_1326001 hb (Kd.R_base ho0) (Kd.R_base ho1)
        replace HO_1326002 := tldR HO_1326002 hb (Kd.R_base ho0) (Kd.R_base ho1)
        replace HO_1334001 := tldR HO_1334001 hb (Kd.R_base ho0) (Kd.R_base ho1)
        replace HO_1334002 := tldR HO_1334002 hb (Kd.R_base ho0) (Kd.R_base ho1)
        replace HO_1342001 := tldR HO_1342001 hb (Kd.R_base ho0) (Kd.R_base ho1)
        replace HO_1342002 := tldR HO_1342002 hb (Kd.R_base ho0) (Kd.R_base ho1)
        replace HO_1351001 := tldR HO_1351001 hb (Kd.R_base ho0) (Kd.R_base ho1)
        replace HO_1351002 := tldR HO_1351002 hb (Kd.R_base ho0) (Kd.R_base ho1)
        replace HOF5 := tldR HOF5 hb (Kd.R_base ho0) (Kd.R_base ho1)
        replace HOF6 := tldR HOF6 hb (Kd.R_base ho0) (Kd.R_base ho1)
        replace BKA0 := bkb BKA0 hb
        replace BKA1 := bkb BKA1 hb
        replace BKA2 := bkb BKA2 hb
        replace BKB2 := bkb BKB2 hb
        replace BKB1 := bkb BKB1 hb
        replace BKA3 := bkb BKA3 hb
        replace HB := bst HB hb
        (try clear hb)
        (try clear hb2)
        (try clear hk)
        (try clear hi)
        (try clear ho0)
        (try clear ho1)
        obtain ⟨AoG3, coG3, eoG3⟩ := Kd.R_slice HOJ2.out
        (first | subst eoG3 | (injection eoG3 with f1_ f2_ f3_; have f4_ := f1_.symm; have f5_ := f3_.symm; clear f1_ f2_ f3_; subst f4_; subst f5_))
        obtain ⟨AoG4, coG4, eoG4⟩ := Kd.R_slice HOJ3.out
        (first | subst eoG4 | (injection eoG4 with f1_ f2_ f3_; have f4_ := f1_.symm; have f5_ := f3_.symm; clear f1_ f2_ f3_; subst f4_; subst f5_))
        refine hK.out _ _ ⟨bce BKB1 0 _, bce BKB1 1 _, bce BKB1 2 _, bce BKA1 0 _, bce BKA1 1 _, bce BKA1 2 _⟩ (fun hHeld => ?_)
        clear hK K
        refine nm_ 61 ?_
        refine one_ (i := 3) (N := some 62) #[true, true, true, true, false] rfl rfl (by kernel_rfl) (by decide) (fun K hK => ?_)
        refine g_ Try.func17 #[.agg #[.bool tB3, .slice Ao67 tB8.length co67, .slice Ao68 tB9.length co68], .agg #[.bool tE0, .slice AoG3 tF3.length coG3, .slice AoG4 tF4.length coG4]] ?_
        with_reducible refine (laws_eqRat.calls kj24 tB3 _ _ tB8 _ _ tB9 tE0 _ _ tF3 _ _ tF4 true _ ?side1 ?side2 ?side3 ?side4 ?side5 ?side6 ?side7 ?side8 AV6.out).mono ?_
        (case side1 => exact crC (Kd.R_reads' HO_1342001.out).2.2)
        (case side2 => exact (Kd.R_reads' HO_1342001.out).2.1)
        (case side3 => exact crC (Kd.R_reads' HO_1342002.out).2.2)
        (case side4 => exact (Kd.R_reads' HO_1342002.out).2.1)
        (case side5 => exact crC (Kd.R_reads' HOJ2.out).2.2)
        (case side6 => exact (Kd.R_reads' HOJ2.out).2.1)
        (case side7 => exact crC (Kd.R_reads' HOJ3.out).2.2)
        (case side8 => exact (Kd.R_reads' HOJ3.out).2.1)
        rintro e wX6 ⟨rfl, hb⟩
        refine ⟨_, rfl, ?_⟩
        replace HO_1326001 := rblR HO_1326001 hb
        replace HO_1326002 := rblR HO_1326002 hb
        replace HO_1334001 := rblR HO_1334001 hb
        replace HO_1334002 := rblR HO_1334002 hb
        replace HO_1342001 := rblR HO_1342001 hb
        replace HO_1342002 := rblR HO_1342002 hb
        replace HO_1351001 := rblR HO_1351001 hb
        replace HO_1351002 := rblR HO_1351002 hb
        replace HOF5 := rblR HOF5 hb
        replace HOF6 := rblR HOF6 hb
        replace HOJ2 := rblR HOJ2 hb
        replace HOJ3 := rblR HOJ3 hb
        replace BKA0 := bkb BKA0 hb
        replace BKA1 := bkb BKA1 hb
        replace BKA2 := bkb BKA2 hb
        replace BKB2 := bkb BKB2 hb
        replace BKB1 := bkb BKB1 hb
        replace BKA3 := bkb BKA3 hb
        replace HB := bst HB hb
        (try clear hb)
        (try clear hb2)
        (try clear hk)
        (try clear hi)
        refine hK.out _ _ ⟨bce BKB1 0 _, bce BKB1 1 _, bce BKB1 2 _, bce BKA1 0 _, bce BKA1 1 _, bce BKA1 2 _⟩ (fun hHeld => ?_)
        clear hK K
        refine nm_ 62 ?_
        refine pure_ (i := 4) (N := some 63) (v := ?_) (a' := ?_) #[true, true, true, true, true] rfl rfl (by kernel_rfl) (fun _ _ _ h => h) (Or.inl ⟨by rfl, ?_⟩) ?_ ?_
        rotate_left
        ·
         intro w'
         go_simp
         with_reducible rfl
        rotate_left
        ·
         simp only [Act.put, List.setIfInBounds_toArray, List.set_cons_zero, List.set_cons_succ, i64_w, i32_w]
         rfl
        refine done_ (by kernel_rfl) ?_
        have hnbQ3 := NBB2_A0.out
        have hncQ3 := NBA0_B2.out
        have hnbQ4 := NBB2_A1.out
        have hncQ4 := NBA1_B2.out
        have hnbQ5 := NBB2_A2.out
        have hncQ5 := NBA2_B2.out
        have hnbQ6 := NBB2_B1.out
        have hncQ6 := NBB1_B2.out
        have hnbQ7 := NBB2_A3.out
        have hncQ7 := NBA3_B2.out
        obtain ⟨hczK3_0, hczK3_1, hczK3_2, hfzK3_0, hfzK3_1, hfzK3_2⟩ := bc3 BKB2
        go_upto_region 21 with (first | ((with_reducible refine gate_callee (f := 18) rfl ?_); refine gL_ (some 66) Try.func18 #[.agg #[.bool tB4, .slice Ao56 tC0.length co56, .slice Ao57 tC1.length co57], .int .i64 1] ?_; (with_reducible refine (laws_markRat.calls kj24 tB4 (fun k_ => some k_ = (.slice Ao56 tC0.length co56 : Value).ownBlock) (.slice Ao56 tC0.length co56) tC0 (fun k_ => some k_ = (.slice Ao57 tC1.length co57 : Value).ownBlock) (.slice Ao57 tC1.length co57) tC1 1 tG5 tO9 tP0 w _ ?side1 ?side2 ?side3 ?side4 ?side5 AV7.out).mono ?_); (case side1 => repeat (first | (with_reducible first | exact HB.out | apply below_alloc | apply pw_below_drewN | apply below_drew1 | refine below_set ?_ GEA0.out | refine below_set ?_ GEA1.out | refine below_set ?_ GEA2.out | refine below_set ?_ GEB2.out | refine below_set ?_ GEB1.out | refine below_set ?_ GEA3.out) | exact HB.out)); (case side2 => exact Kd.R_tight rfl HO_1334001.out); (case side3 => exact fun k_ e_ => (HO_1334001.out.1 k_ e_.symm).1.1.1.1.2.2.1); (case side4 => exact Kd.R_tight rfl HO_1334002.out); (case side5 => exact fun k_ e_ => (HO_1334002.out.1 k_ e_.symm).1.1.1.1.2.2.1); rintro e wX7 ⟨rfl, hy0, hy1, hb, hkp⟩; refine ⟨_, rfl, ?_⟩; replace HO_1326001 := Aside0.mk (Kd.R_mono (ok' := fun k_ => nO k_ (.slice Ao46 tA8.length co46) ∧ nO k_ (.slice Ao56 tC0.length co56) ∧ nO k_ (.slice Ao57 tC1.length co57) ∧ nO k_ (.slice Ao67 tB8.length co67) ∧ nO k_ (.slice Ao68 tB9.length co68) ∧ nO k_ (.slice Ao78 tA9.length co78) ∧ nO k_ (.slice Ao79 tB0.length co79) ∧ nO k_ (.slice AoG1 tF1.length coG1) ∧ nO k_ (.slice AoG2 tF2.length coG2) ∧ nO k_ (.slice AoG3 tF3.length coG3) ∧ nO k_ (.slice AoG4 tF4.length coG4)) (Kd.R_keptB (HO_1326001.out) hkp (fun k_ hk_ hs_ => Or.elim hs_ (fun e_ => (hk_.1.1.1.1.2.1) e_) (fun e_ => (hk_.1.1.1.1.2.2.1) e_))) (fun k_ hk_ => ⟨hk_.1.1.1.1.1.1, hk_.1.1.1.1.1.2.1, hk_.1.1.1.1.1.2.2.1, hk_.1.1.1.1.1.2.2.2.1, hk_.1.1.1.1.1.2.2.2.2.1, hk_.1.1.1.1.1.2.2.2.2.2.1, hk_.1.1.1.1.1.2.2.2.2.2.2, hk_.1.1.1.1.2, hk_.1.1.1.2, hk_.1.1.2, hk_.1.2⟩)); replace HO_1326002 := Aside0.mk (Kd.R_mono (ok' := fun k_ => nO k_ (.slice Ao44 tA7.length co44) ∧ nO k_ (.slice Ao56 tC0.length co56) ∧ nO k_ (.slice Ao57 tC1.length co57) ∧ nO k_ (.slice Ao67 tB8.length co67) ∧ nO k_ (.slice Ao68 tB9.length co68) ∧ nO k_ (.slice Ao78 tA9.length co78) ∧ nO k_ (.slice Ao79 tB0.length co79) ∧ nO k_ (.slice AoG1 tF1.length coG1) ∧ nO k_ (.slice AoG2 tF2.length coG2) ∧ nO k_ (.slice AoG3 tF3.length coG3) ∧ nO k_ (.slice AoG4 tF4.length coG4)) (Kd.R_keptB (HO_1326002.out) hkp (fun k_ hk_ hs_ => Or.elim hs_ (fun e_ => (hk_.1.1.1.1.2.1) e_) (fun e_ => (hk_.1.1.1.1.2.2.1) e_))) (fun k_ hk_ => ⟨hk_.1.1.1.1.1.1, hk_.1.1.1.1.1.2.1, hk_.1.1.1.1.1.2.2.1, hk_.1.1.1.1.1.2.2.2.1, hk_.1.1.1.1.1.2.2.2.2.1, hk_.1.1.1.1.1.2.2.2.2.2.1, hk_.1.1.1.1.1.2.2.2.2.2.2, hk_.1.1.1.1.2, hk_.1.1.1.2, hk_.1.1.2, hk_.1.2⟩)); replace HO_1342001 := Aside0.mk (Kd.R_mono (ok' := fun k_ => nO k_ (.slice Ao44 tA7.length co44) ∧ nO k_ (.slice Ao46 tA8.length co46) ∧ nO k_ (.slice Ao56 tC0.length co56) ∧ nO k_ (.slice Ao57 tC1.length co57) ∧ nO k_ (.slice Ao68 tB9.length co68) ∧ nO k_ (.slice Ao78 tA9.length co78) ∧ nO k_ (.slice Ao79 tB0.length co79) ∧ nO k_ (.slice AoG1 tF1.length coG1) ∧ nO k_ (.slice AoG2 tF2.length coG2) ∧ nO k_ (.slice AoG3 tF3.length coG3) ∧ nO k_ (.slice AoG4 tF4.length coG4)) (Kd.R_keptB (HO_1342001.out) hkp (fun k_ hk_ hs_ => Or.elim hs_ (fun e_ => (hk_.1.1.1.1.2.2.1) e_) (fun e_ => (hk_.1.1.1.1.2.2.2.1) e_))) (fun k_ hk_ => ⟨hk_.1.1.1.1.1.1, hk_.1.1.1.1.1.2.1, hk_.1.1.1.1.1.2.2.1, hk_.1.1.1.1.1.2.2.2.1, hk_.1.1.1.1.1.2.2.2.2.1, hk_.1.1.1.1.1.2.2.2.2.2.1, hk_.1.1.1.1.1.2.2.2.2.2.2, hk_.1.1.1.1.2, hk_.1.1.1.2, hk_.1.1.2, hk_.1.2⟩)); replace HO_1342002 := Aside0.mk (Kd.R_mono (ok' := fun k_ => nO k_ (.slice Ao44 tA7.length co44) ∧ nO k_ (.slice Ao46 tA8.length co46) ∧ nO k_ (.slice Ao56 tC0.length co56) ∧ nO k_ (.slice Ao57 tC1.length co57) ∧ nO k_ (.slice Ao67 tB8.length co67) ∧ nO k_ (.slice Ao78 tA9.length co78) ∧ nO k_ (.slice Ao79 tB0.length co79) ∧ nO k_ (.slice AoG1 tF1.length coG1) ∧ nO k_ (.slice AoG2 tF2.length coG2) ∧ nO k_ (.slice AoG3 tF3.length coG3) ∧ nO k_ (.slice AoG4 tF4.length coG4)) (Kd.R_keptB (HO_1342002.out) hkp (fun k_ hk_ hs_ => Or.elim hs_ (fun e_ => (hk_.1.1.1.1.2.2.1) e_) (fun e_ => (hk_.1.1.1.1.2.2.2.1) e_))) (fun k_ hk_ => ⟨hk_.1.1.1.1.1.1, hk_.1.1.1.1.1.2.1, hk_.1.1.1.1.1.2.2.1, hk_.1.1.1.1.1.2.2.2.1, hk_.1.1.1.1.1.2.2.2.2.1, hk_.1.1.1.1.1.2.2.2.2.2.1, hk_.1.1.1.1.1.2.2.2.2.2.2, hk_.1.1.1.1.2, hk_.1.1.1.2, hk_.1.1.2, hk_.1.2⟩)); replace HO_1351001 := Aside0.mk (Kd.R_mono (ok' := fun k_ => nO k_ (.slice Ao44 tA7.length co44) ∧ nO k_ (.slice Ao46 tA8.length co46) ∧ nO k_ (.slice Ao56 tC0.length co56) ∧ nO k_ (.slice Ao57 tC1.length co57) ∧ nO k_ (.slice Ao67 tB8.length co67) ∧ nO k_ (.slice Ao68 tB9.length co68) ∧ nO k_ (.slice Ao79 tB0.length co79) ∧ nO k_ (.slice AoG1 tF1.length coG1) ∧ nO k_ (.slice AoG2 tF2.length coG2) ∧ nO k_ (.slice AoG3 tF3.length coG3) ∧ nO k_ (.slice AoG4 tF4.length coG4)) (Kd.R_keptB (HO_1351001.out) hkp (fun k_ hk_ hs_ => Or.elim hs_ (fun e_ => (hk_.1.1.1.1.2.2.1) e_) (fun e_ => (hk_.1.1.1.1.2.2.2.1) e_))) (fun k_ hk_ => ⟨hk_.1.1.1.1.1.1, hk_.1.1.1.1.1.2.1, hk_.1.1.1.1.1.2.2.1, hk_.1.1.1.1.1.2.2.2.1, hk_.1.1.1.1.1.2.2.2.2.1, hk_.1.1.1.1.1.2.2.2.2.2.1, hk_.1.1.1.1.1.2.2.2.2.2.2, hk_.1.1.1.1.2, hk_.1.1.1.2, hk_.1.1.2, hk_.1.2⟩)); replace HO_1351002 := Aside0.mk (Kd.R_mono (ok' := fun k_ => nO k_ (.slice Ao44 tA7.length co44) ∧ nO k_ (.slice Ao46 tA8.length co46) ∧ nO k_ (.slice Ao56 tC0.length co56) ∧ nO k_ (.slice Ao57 tC1.length co57) ∧ nO k_ (.slice Ao67 tB8.length co67) ∧ nO k_ (.slice Ao68 tB9.length co68) ∧ nO k_ (.slice Ao78 tA9.length co78) ∧ nO k_ (.slice AoG1 tF1.length coG1) ∧ nO k_ (.slice AoG2 tF2.length coG2) ∧ nO k_ (.slice AoG3 tF3.length coG3) ∧ nO k_ (.slice AoG4 tF4.length coG4)) (Kd.R_keptB (HO_1351002.out) hkp (fun k_ hk_ hs_ => Or.elim hs_ (fun e_ => (hk_.1.1.1.1.2.2.1) e_) (fun e_ => (hk_.1.1.1.1.2.2.2.1) e_))) (fun k_ hk_ => ⟨hk_.1.1.1.1.1.1, hk_.1.1.1.1.1.2.1, hk_.1.1.1.1.1.2.2.1, hk_.1.1.1.1.1.2.2.2.1, hk_.1.1.1.1.1.2.2.2.2.1, hk_.1.1.1.1.1.2.2.2.2.2.1, hk_.1.1.1.1.1.2.2.2.2.2.2, hk_.1.1.1.1.2, hk_.1.1.1.2, hk_.1.1.2, hk_.1.2⟩)); replace BKA0 := Aside0.mk (blk_kept (crb BKA0) hkp (fun hs_ => Or.elim hs_ (fun e_ => (fun e_ => (Kd.R_ne HO_1334001.out BKA0.out (by decide)) e_) e_) (fun e_ => (fun e_ => (Kd.R_ne HO_1334002.out BKA0.out (by decide)) e_) e_))); replace BKA1 := Aside0.mk (blk_kept (crb BKA1) hkp (fun hs_ => Or.elim hs_ (fun e_ => (fun e_ => (Kd.R_ne HO_1334001.out BKA1.out (by decide)) e_) e_) (fun e_ => (fun e_ => (Kd.R_ne HO_1334002.out BKA1.out (by decide)) e_) e_))); replace BKA2 := Aside0.mk (blk_kept (crb BKA2) hkp (fun hs_ => Or.elim hs_ (fun e_ => (fun e_ => (Kd.R_ne HO_1334001.out BKA2.out (by decide)) e_) e_) (fun e_ => (fun e_ => (Kd.R_ne HO_1334002.out BKA2.out (by decide)) e_) e_))); replace BKB2 := Aside0.mk (blk_kept (crb BKB2) hkp (fun hs_ => Or.elim hs_ (fun e_ => (fun e_ => (Kd.R_ne HO_1334001.out BKB2.out (by decide)) e_) e_) (fun e_ => (fun e_ => (Kd.R_ne HO_1334002.out BKB2.out (by decide)) e_) e_))); replace BKB1 := Aside0.mk (blk_kept (crb BKB1) hkp (fun hs_ => Or.elim hs_ (fun e_ => (fun e_ => (Kd.R_ne HO_1334001.out BKB1.out (by decide)) e_) e_) (fun e_ => (fun e_ => (Kd.R_ne HO_1334002.out BKB1.out (by decide)) e_) e_))); replace BKA3 := Aside0.mk (blk_kept (crb BKA3) hkp (fun hs_ => Or.elim hs_ (fun e_ => (fun e_ => (Kd.R_ne HO_1334001.out BKA3.out (by decide)) e_) e_) (fun e_ => (fun e_ => (Kd.R_ne HO_1334002.out BKA3.out (by decide)) e_) e_))); replace HO_1334001 := Aside0.mk (Kd.R_reok rfl hy0 (fun k_ e_ => HO_1334001.out.1 k_ e_)); replace HO_1334002 := Aside0.mk (Kd.R_reok rfl hy1 (fun k_ e_ => HO_1334002.out.1 k_ e_)); replace HOF5 := Aside0.mk (Kd.R_mono (ok' := fun k_ => nO k_ (.slice Ao44 tA7.length co44) ∧ nO k_ (.slice Ao46 tA8.length co46) ∧ nO k_ (.slice Ao56 tC0.length co56) ∧ nO k_ (.slice Ao57 tC1.length co57) ∧ nO k_ (.slice Ao67 tB8.length co67) ∧ nO k_ (.slice Ao68 tB9.length co68) ∧ nO k_ (.slice Ao78 tA9.length co78) ∧ nO k_ (.slice Ao79 tB0.length co79) ∧ nO k_ (.slice AoG2 tF2.length coG2) ∧ nO k_ (.slice AoG3 tF3.length coG3) ∧ nO k_ (.slice AoG4 tF4.length coG4)) (Kd.R_keptB (HOF5.out) hkp (fun k_ hk_ hs_ => Or.elim hs_ (fun e_ => (hk_.1.1.1.1.1.1.1.2) e_) (fun e_ => (hk_.1.1.1.1.1.1.2) e_))) (fun k_ hk_ => ⟨hk_.1.1.1.1.1.1.1.1.1.1.2, hk_.1.1.1.1.1.1.1.1.1.2, hk_.1.1.1.1.1.1.1.1.2, hk_.1.1.1.1.1.1.1.2, hk_.1.1.1.1.1.1.2, hk_.1.1.1.1.1.2, hk_.1.1.1.1.2, hk_.1.1.1.2, hk_.1.1.1.1.1.1.1.1.1.1.1, hk_.1.1.2, hk_.1.2⟩)); replace HOF6 := Aside0.mk (Kd.R_mono (ok' := fun k_ => nO k_ (.slice Ao44 tA7.length co44) ∧ nO k_ (.slice Ao46 tA8.length co46) ∧ nO k_ (.slice Ao56 tC0.length co56) ∧ nO k_ (.slice Ao57 tC1.length co57) ∧ nO k_ (.slice Ao67 tB8.length co67) ∧ nO k_ (.slice Ao68 tB9.length co68) ∧ nO k_ (.slice Ao78 tA9.length co78) ∧ nO k_ (.slice Ao79 tB0.length co79) ∧ nO k_ (.slice AoG1 tF1.length coG1) ∧ nO k_ (.slice AoG3 tF3.length coG3) ∧ nO k_ (.slice AoG4 tF4.length coG4)) (Kd.R_keptB (HOF6.out) hkp (fun k_ hk_ hs_ => Or.elim hs_ (fun e_ => (hk_.1.1.1.1.1.1.1.2) e_) (fun e_ => (hk_.1.1.1.1.1.1.2) e_))) (fun k_ hk_ => ⟨hk_.1.1.1.1.1.1.1.1.1.1.2, hk_.1.1.1.1.1.1.1.1.1.2, hk_.1.1.1.1.1.1.1.1.2, hk_.1.1.1.1.1.1.1.2, hk_.1.1.1.1.1.1.2, hk_.1.1.1.1.1.2, hk_.1.1.1.1.2, hk_.1.1.1.2, hk_.1.1.1.1.1.1.1.1.1.1.1, hk_.1.1.2, hk_.1.2⟩)); replace HOJ2 := Aside0.mk (Kd.R_mono (ok' := fun k_ => nO k_ (.slice Ao44 tA7.length co44) ∧ nO k_ (.slice Ao46 tA8.length co46) ∧ nO k_ (.slice Ao56 tC0.length co56) ∧ nO k_ (.slice Ao57 tC1.length co57) ∧ nO k_ (.slice Ao67 tB8.length co67) ∧ nO k_ (.slice Ao68 tB9.length co68) ∧ nO k_ (.slice Ao78 tA9.length co78) ∧ nO k_ (.slice Ao79 tB0.length co79) ∧ nO k_ (.slice AoG1 tF1.length coG1) ∧ nO k_ (.slice AoG2 tF2.length coG2) ∧ nO k_ (.slice AoG4 tF4.length coG4)) (Kd.R_keptB (HOJ2.out) hkp (fun k_ hk_ hs_ => Or.elim hs_ (fun e_ => (hk_.1.1.1.1.1.1.1.2) e_) (fun e_ => (hk_.1.1.1.1.1.1.2) e_))) (fun k_ hk_ => ⟨hk_.1.1.1.1.1.1.1.1.1.1.2, hk_.1.1.1.1.1.1.1.1.1.2, hk_.1.1.1.1.1.1.1.1.2, hk_.1.1.1.1.1.1.1.2, hk_.1.1.1.1.1.1.2, hk_.1.1.1.1.1.2, hk_.1.1.1.1.2, hk_.1.1.1.2, hk_.1.1.2, hk_.1.2, hk_.1.1.1.1.1.1.1.1.1.1.1⟩)); replace HOJ3 := Aside0.mk (Kd.R_mono (ok' := fun k_ => nO k_ (.slice Ao44 tA7.length co44) ∧ nO k_ (.slice Ao46 tA8.length co46) ∧ nO k_ (.slice Ao56 tC0.length co56) ∧ nO k_ (.slice Ao57 tC1.length co57) ∧ nO k_ (.slice Ao67 tB8.length co67) ∧ nO k_ (.slice Ao68 tB9.length co68) ∧ nO k_ (.slice Ao78 tA9.length co78) ∧ nO k_ (.slice Ao79 tB0.length co79) ∧ nO k_ (.slice AoG1 tF1.length coG1) ∧ nO k_ (.slice AoG2 tF2.length coG2) ∧ nO k_ (.slice AoG3 tF3.length coG3)) (Kd.R_keptB (HOJ3.out) hkp (fun k_ hk_ hs_ => Or.elim hs_ (fun e_ => (hk_.1.1.1.1.1.1.1.2) e_) (fun e_ => (hk_.1.1.1.1.1.1.2) e_))) (fun k_ hk_ => ⟨hk_.1.1.1.1.1.1.1.1.1.1.2, hk_.1.1.1.1.1.1.1.1.1.2, hk_.1.1.1.1.1.1.1.1.2, hk_.1.1.1.1.1.1.1.2, hk_.1.1.1.1.1.1.2, hk_.1.1.1.1.1.2, hk_.1.1.1.1.2, hk_.1.1.1.2, hk_.1.1.2, hk_.1.2, hk_.1.1.1.1.1.1.1.1.1.1.1⟩)); replace HB := Aside0.mk (hb); (try clear hb); (try clear hkp); (try clear hy0); (try clear hy1); have hnbQ8 := NBB1_A0.out; have hncQ8 := NBA0_B1.out; have hnbQ9 := NBB1_A1.out; have hncQ9 := NBA1_B1.out; have hnbR0 := NBB1_A2.out; have hncR0 := NBA2_B1.out; have hnbR1 := NBB1_A3.out; have hncR1 := NBA3_B1.out; obtain ⟨hczK4_0, hczK4_1, hczK4_2, hfzK4_0, hfzK4_1, hfzK4_2⟩ := bc3 BKB1) | ((with_reducible refine gate_callee (f := 18) rfl ?_); refine gL_ (some 69) Try.func18 #[.agg #[.bool tB3, .slice Ao67 tB8.length co67, .slice Ao68 tB9.length co68], .int .i64 tG5] ?_; (with_reducible refine (laws_markRat.calls kj24 tB3 (fun k_ => some k_ = (.slice Ao67 tB8.length co67 : Value).ownBlock) (.slice Ao67 tB8.length co67) tB8 (fun k_ => some k_ = (.slice Ao68 tB9.length co68 : Value).ownBlock) (.slice Ao68 tB9.length co68) tB9 tG5 tE6 tP1 tP2 w _ ?side1 ?side2 ?side3 ?side4 ?side5 AV8.out).mono ?_); (case side1 => repeat (first | (with_reducible first | exact HB.out | apply below_alloc | apply pw_below_drewN | apply below_drew1 | refine below_set ?_ GEA0.out | refine below_set ?_ GEA1.out | refine below_set ?_ GEA2.out | refine below_set ?_ GEB2.out | refine below_set ?_ GEB1.out | refine below_set ?_ GEA3.out) | exact HB.out)); (case side2 => exact Kd.R_tight rfl HO_1342001.out); (case side3 => exact fun k_ e_ => (HO_1342001.out.1 k_ e_.symm).2.2.2.2.1); (case side4 => exact Kd.R_tight rfl HO_1342002.out); (case side5 => exact fun k_ e_ => (HO_1342002.out.1 k_ e_.symm).2.2.2.2.1); rintro e wX8 ⟨rfl, hy0, hy1, hb, hkp⟩; refine ⟨_, rfl, ?_⟩; replace HO_1326001 := Aside0.mk (Kd.R_mono (ok' := fun k_ => nO k_ (.slice Ao46 tA8.length co46) ∧ nO k_ (.slice Ao56 tC0.length co56) ∧ nO k_ (.slice Ao57 tC1.length co57) ∧ nO k_ (.slice Ao67 tB8.length co67) ∧ nO k_ (.slice Ao68 tB9.length co68) ∧ nO k_ (.slice Ao78 tA9.length co78) ∧ nO k_ (.slice Ao79 tB0.length co79) ∧ nO k_ (.slice AoG1 tF1.length coG1) ∧ nO k_ (.slice AoG2 tF2.length coG2) ∧ nO k_ (.slice AoG3 tF3.length coG3) ∧ nO k_ (.slice AoG4 tF4.length coG4)) (Kd.R_keptB (HO_1326001.out) hkp (fun k_ hk_ hs_ => Or.elim hs_ (fun e_ => (hk_.2.2.2.1) e_) (fun e_ => (hk_.2.2.2.2.1) e_))) (fun k_ hk_ => ⟨hk_.1.1, hk_.1.2.1, hk_.1.2.2.1, hk_.1.2.2.2.1, hk_.1.2.2.2.2.1, hk_.1.2.2.2.2.2.1, hk_.1.2.2.2.2.2.2.1, hk_.1.2.2.2.2.2.2.2.1, hk_.1.2.2.2.2.2.2.2.2.1, hk_.1.2.2.2.2.2.2.2.2.2.1, hk_.1.2.2.2.2.2.2.2.2.2.2⟩)); replace HO_1326002 := Aside0.mk (Kd.R_mono (ok' := fun k_ => nO k_ (.slice Ao44 tA7.length co44) ∧ nO k_ (.slice Ao56 tC0.length co56) ∧ nO k_ (.slice Ao57 tC1.length co57) ∧ nO k_ (.slice Ao67 tB8.length co67) ∧ nO k_ (.slice Ao68 tB9.length co68) ∧ nO k_ (.slice Ao78 tA9.length co78) ∧ nO k_ (.slice Ao79 tB0.length co79) ∧ nO k_ (.slice AoG1 tF1.length coG1) ∧ nO k_ (.slice AoG2 tF2.length coG2) ∧ nO k_ (.slice AoG3 tF3.length coG3) ∧ nO k_ (.slice AoG4 tF4.length coG4)) (Kd.R_keptB (HO_1326002.out) hkp (fun k_ hk_ hs_ => Or.elim hs_ (fun e_ => (hk_.2.2.2.1) e_) (fun e_ => (hk_.2.2.2.2.1) e_))) (fun k_ hk_ => ⟨hk_.1.1, hk_.1.2.1, hk_.1.2.2.1, hk_.1.2.2.2.1, hk_.1.2.2.2.2.1, hk_.1.2.2.2.2.2.1, hk_.1.2.2.2.2.2.2.1, hk_.1.2.2.2.2.2.2.2.1, hk_.1.2.2.2.2.2.2.2.2.1, hk_.1.2.2.2.2.2.2.2.2.2.1, hk_.1.2.2.2.2.2.2.2.2.2.2⟩)); replace HO_1334001 := Aside0.mk (Kd.R_mono (ok' := fun k_ => nO k_ (.slice Ao44 tA7.length co44) ∧ nO k_ (.slice Ao46 tA8.length co46) ∧ nO k_ (.slice Ao57 tC1.length co57) ∧ nO k_ (.slice Ao67 tB8.length co67) ∧ nO k_ (.slice Ao68 tB9.length co68) ∧ nO k_ (.slice Ao78 tA9.length co78) ∧ nO k_ (.slice Ao79 tB0.length co79) ∧ nO k_ (.slice AoG1 tF1.length coG1) ∧ nO k_ (.slice AoG2 tF2.length coG2) ∧ nO k_ (.slice AoG3 tF3.length coG3) ∧ nO k_ (.slice AoG4 tF4.length coG4)) (Kd.R_keptB (HO_1334001.out) hkp (fun k_ hk_ hs_ => Or.elim hs_ (fun e_ => (hk_.1.1.1.1.2.2.2.1) e_) (fun e_ => (hk_.1.1.1.1.2.2.2.2.1) e_))) (fun k_ hk_ => ⟨hk_.1.1.1.1.1.1, hk_.1.1.1.1.1.2.1, hk_.1.1.1.1.1.2.2.1, hk_.1.1.1.1.1.2.2.2.1, hk_.1.1.1.1.1.2.2.2.2.1, hk_.1.1.1.1.1.2.2.2.2.2.1, hk_.1.1.1.1.1.2.2.2.2.2.2, hk_.1.1.1.1.2, hk_.1.1.1.2, hk_.1.1.2, hk_.1.2⟩)); replace HO_1334002 := Aside0.mk (Kd.R_mono (ok' := fun k_ => nO k_ (.slice Ao44 tA7.length co44) ∧ nO k_ (.slice Ao46 tA8.length co46) ∧ nO k_ (.slice Ao56 tC0.length co56) ∧ nO k_ (.slice Ao67 tB8.length co67) ∧ nO k_ (.slice Ao68 tB9.length co68) ∧ nO k_ (.slice Ao78 tA9.length co78) ∧ nO k_ (.slice Ao79 tB0.length co79) ∧ nO k_ (.slice AoG1 tF1.length coG1) ∧ nO k_ (.slice AoG2 tF2.length coG2) ∧ nO k_ (.slice AoG3 tF3.length coG3) ∧ nO k_ (.slice AoG4 tF4.length coG4)) (Kd.R_keptB (HO_1334002.out) hkp (fun k_ hk_ hs_ => Or.elim hs_ (fun e_ => (hk_.1.1.1.1.2.2.2.1) e_) (fun e_ => (hk_.1.1.1.1.2.2.2.2.1) e_))) (fun k_ hk_ => ⟨hk_.1.1.1.1.1.1, hk_.1.1.1.1.1.2.1, hk_.1.1.1.1.1.2.2.1, hk_.1.1.1.1.1.2.2.2.1, hk_.1.1.1.1.1.2.2.2.2.1, hk_.1.1.1.1.1.2.2.2.2.2.1, hk_.1.1.1.1.1.2.2.2.2.2.2, hk_.1.1.1.1.2, hk_.1.1.1.2, hk_.1.1.2, hk_.1.2⟩)); replace HO_1351001 := Aside0.mk (Kd.R_mono (ok' := fun k_ => nO k_ (.slice Ao44 tA7.length co44) ∧ nO k_ (.slice Ao46 tA8.length co46) ∧ nO k_ (.slice Ao56 tC0.length co56) ∧ nO k_ (.slice Ao57 tC1.length co57) ∧ nO k_ (.slice Ao67 tB8.length co67) ∧ nO k_ (.slice Ao68 tB9.length co68) ∧ nO k_ (.slice Ao79 tB0.length co79) ∧ nO k_ (.slice AoG1 tF1.length coG1) ∧ nO k_ (.slice AoG2 tF2.length coG2) ∧ nO k_ (.slice AoG3 tF3.length coG3) ∧ nO k_ (.slice AoG4 tF4.length coG4)) (Kd.R_keptB (HO_1351001.out) hkp (fun k_ hk_ hs_ => Or.elim hs_ (fun e_ => (hk_.2.2.2.2.1) e_) (fun e_ => (hk_.2.2.2.2.2.1) e_))) (fun k_ hk_ => ⟨hk_.1.1, hk_.1.2.1, hk_.1.2.2.1, hk_.1.2.2.2.1, hk_.1.2.2.2.2.1, hk_.1.2.2.2.2.2.1, hk_.1.2.2.2.2.2.2.1, hk_.1.2.2.2.2.2.2.2.1, hk_.1.2.2.2.2.2.2.2.2.1, hk_.1.2.2.2.2.2.2.2.2.2.1, hk_.1.2.2.2.2.2.2.2.2.2.2⟩)); replace HO_1351002 := Aside0.mk (Kd.R_mono (ok' := fun k_ => nO k_ (.slice Ao44 tA7.length co44) ∧ nO k_ (.slice Ao46 tA8.length co46) ∧ nO k_ (.slice Ao56 tC0.length co56) ∧ nO k_ (.slice Ao57 tC1.length co57) ∧ nO k_ (.slice Ao67 tB8.length co67) ∧ nO k_ (.slice Ao68 tB9.length co68) ∧ nO k_ (.slice Ao78 tA9.length co78) ∧ nO k_ (.slice AoG1 tF1.length coG1) ∧ nO k_ (.slice AoG2 tF2.length coG2) ∧ nO k_ (.slice AoG3 tF3.length coG3) ∧ nO k_ (.slice AoG4 tF4.length coG4)) (Kd.R_keptB (HO_1351002.out) hkp (fun k_ hk_ hs_ => Or.elim hs_ (fun e_ => (hk_.2.2.2.2.1) e_) (fun e_ => (hk_.2.2.2.2.2.1) e_))) (fun k_ hk_ => ⟨hk_.1.1, hk_.1.2.1, hk_.1.2.2.1, hk_.1.2.2.2.1, hk_.1.2.2.2.2.1, hk_.1.2.2.2.2.2.1, hk_.1.2.2.2.2.2.2.1, hk_.1.2.2.2.2.2.2.2.1, hk_.1.2.2.2.2.2.2.2.2.1, hk_.1.2.2.2.2.2.2.2.2.2.1, hk_.1.2.2.2.2.2.2.2.2.2.2⟩)); replace BKA0 := Aside0.mk (blk_kept (crb BKA0) hkp (fun hs_ => Or.elim hs_ (fun e_ => (fun e_ => (Kd.R_ne HO_1342001.out BKA0.out (by decide)) e_) e_) (fun e_ => (fun e_ => (Kd.R_ne HO_1342002.out BKA0.out (by decide)) e_) e_))); replace BKA1 := Aside0.mk (blk_kept (crb BKA1) hkp (fun hs_ => Or.elim hs_ (fun e_ => (fun e_ => (Kd.R_ne HO_1342001.out BKA1.out (by decide)) e_) e_) (fun e_ => (fun e_ => (Kd.R_ne HO_1342002.out BKA1.out (by decide)) e_) e_))); replace BKA2 := Aside0.mk (blk_kept (crb BKA2) hkp (fun hs_ => Or.elim hs_ (fun e_ => (fun e_ => (Kd.R_ne HO_1342001.out BKA2.out (by decide)) e_) e_) (fun e_ => (fun e_ => (Kd.R_ne HO_1342002.out BKA2.out (by decide)) e_) e_))); replace BKB2 := Aside0.mk (blk_kept (crb BKB2) hkp (fun hs_ => Or.elim hs_ (fun e_ => (fun e_ => (Kd.R_ne HO_1342001.out BKB2.out (by decide)) e_) e_) (fun e_ => (fun e_ => (Kd.R_ne HO_1342002.out BKB2.out (by decide)) e_) e_))); replace BKB1 := Aside0.mk (blk_kept (crb BKB1) hkp (fun hs_ => Or.elim hs_ (fun e_ => (fun e_ => (Kd.R_ne HO_1342001.out BKB1.out (by decide)) e_) e_) (fun e_ => (fun e_ => (Kd.R_ne HO_1342002.out BKB1.out (by decide)) e_) e_))); replace BKA3 := Aside0.mk (blk_kept (crb BKA3) hkp (fun hs_ => Or.elim hs_ (fun e_ => (fun e_ => (Kd.R_ne HO_1342001.out BKA3.out (by decide)) e_) e_) (fun e_ => (fun e_ => (Kd.R_ne HO_1342002.out BKA3.out (by decide)) e_) e_))); replace HO_1342001 := Aside0.mk (Kd.R_reok rfl hy0 (fun k_ e_ => HO_1342001.out.1 k_ e_)); replace HO_1342002 := Aside0.mk (Kd.R_reok rfl hy1 (fun k_ e_ => HO_1342002.out.1 k_ e_)); replace HOF5 := Aside0.mk (Kd.R_mono (ok' := fun k_ => nO k_ (.slice Ao44 tA7.length co44) ∧ nO k_ (.slice Ao46 tA8.length co46) ∧ nO k_ (.slice Ao56 tC0.length co56) ∧ nO k_ (.slice Ao57 tC1.length co57) ∧ nO k_ (.slice Ao67 tB8.length co67) ∧ nO k_ (.slice Ao68 tB9.length co68) ∧ nO k_ (.slice Ao78 tA9.length co78) ∧ nO k_ (.slice Ao79 tB0.length co79) ∧ nO k_ (.slice AoG2 tF2.length coG2) ∧ nO k_ (.slice AoG3 tF3.length coG3) ∧ nO k_ (.slice AoG4 tF4.length coG4)) (Kd.R_keptB (HOF5.out) hkp (fun k_ hk_ hs_ => Or.elim hs_ (fun e_ => (hk_.2.2.2.2.1) e_) (fun e_ => (hk_.2.2.2.2.2.1) e_))) (fun k_ hk_ => ⟨hk_.1.1, hk_.1.2.1, hk_.1.2.2.1, hk_.1.2.2.2.1, hk_.1.2.2.2.2.1, hk_.1.2.2.2.2.2.1, hk_.1.2.2.2.2.2.2.1, hk_.1.2.2.2.2.2.2.2.1, hk_.1.2.2.2.2.2.2.2.2.1, hk_.1.2.2.2.2.2.2.2.2.2.1, hk_.1.2.2.2.2.2.2.2.2.2.2⟩)); replace HOF6 := Aside0.mk (Kd.R_mono (ok' := fun k_ => nO k_ (.slice Ao44 tA7.length co44) ∧ nO k_ (.slice Ao46 tA8.length co46) ∧ nO k_ (.slice Ao56 tC0.length co56) ∧ nO k_ (.slice Ao57 tC1.length co57) ∧ nO k_ (.slice Ao67 tB8.length co67) ∧ nO k_ (.slice Ao68 tB9.length co68) ∧ nO k_ (.slice Ao78 tA9.length co78) ∧ nO k_ (.slice Ao79 tB0.length co79) ∧ nO k_ (.slice AoG1 tF1.length coG1) ∧ nO k_ (.slice AoG3 tF3.length coG3) ∧ nO k_ (.slice AoG4 tF4.length coG4)) (Kd.R_keptB (HOF6.out) hkp (fun k_ hk_ hs_ => Or.elim hs_ (fun e_ => (hk_.2.2.2.2.1) e_) (fun e_ => (hk_.2.2.2.2.2.1) e_))) (fun k_ hk_ => ⟨hk_.1.1, hk_.1.2.1, hk_.1.2.2.1, hk_.1.2.2.2.1, hk_.1.2.2.2.2.1, hk_.1.2.2.2.2.2.1, hk_.1.2.2.2.2.2.2.1, hk_.1.2.2.2.2.2.2.2.1, hk_.1.2.2.2.2.2.2.2.2.1, hk_.1.2.2.2.2.2.2.2.2.2.1, hk_.1.2.2.2.2.2.2.2.2.2.2⟩)); replace HOJ2 := Aside0.mk (Kd.R_mono (ok' := fun k_ => nO k_ (.slice Ao44 tA7.length co44) ∧ nO k_ (.slice Ao46 tA8.length co46) ∧ nO k_ (.slice Ao56 tC0.length co56) ∧ nO k_ (.slice Ao57 tC1.length co57) ∧ nO k_ (.slice Ao67 tB8.length co67) ∧ nO k_ (.slice Ao68 tB9.length co68) ∧ nO k_ (.slice Ao78 tA9.length co78) ∧ nO k_ (.slice Ao79 tB0.length co79) ∧ nO k_ (.slice AoG1 tF1.length coG1) ∧ nO k_ (.slice AoG2 tF2.length coG2) ∧ nO k_ (.slice AoG4 tF4.length coG4)) (Kd.R_keptB (HOJ2.out) hkp (fun k_ hk_ hs_ => Or.elim hs_ (fun e_ => (hk_.2.2.2.2.1) e_) (fun e_ => (hk_.2.2.2.2.2.1) e_))) (fun k_ hk_ => ⟨hk_.1.1, hk_.1.2.1, hk_.1.2.2.1, hk_.1.2.2.2.1, hk_.1.2.2.2.2.1, hk_.1.2.2.2.2.2.1, hk_.1.2.2.2.2.2.2.1, hk_.1.2.2.2.2.2.2.2.1, hk_.1.2.2.2.2.2.2.2.2.1, hk_.1.2.2.2.2.2.2.2.2.2.1, hk_.1.2.2.2.2.2.2.2.2.2.2⟩)); replace HOJ3 := Aside0.mk (Kd.R_mono (ok' := fun k_ => nO k_ (.slice Ao44 tA7.length co44) ∧ nO k_ (.slice Ao46 tA8.length co46) ∧ nO k_ (.slice Ao56 tC0.length co56) ∧ nO k_ (.slice Ao57 tC1.length co57) ∧ nO k_ (.slice Ao67 tB8.length co67) ∧ nO k_ (.slice Ao68 tB9.length co68) ∧ nO k_ (.slice Ao78 tA9.length co78) ∧ nO k_ (.slice Ao79 tB0.length co79) ∧ nO k_ (.slice AoG1 tF1.length coG1) ∧ nO k_ (.slice AoG2 tF2.length coG2) ∧ nO k_ (.slice AoG3 tF3.length coG3)) (Kd.R_keptB (HOJ3.out) hkp (fun k_ hk_ hs_ => Or.elim hs_ (fun e_ => (hk_.2.2.2.2.1) e_) (fun e_ => (hk_.2.2.2.2.2.1) e_))) (fun k_ hk_ => ⟨hk_.1.1, hk_.1.2.1, hk_.1.2.2.1, hk_.1.2.2.2.1, hk_.1.2.2.2.2.1, hk_.1.2.2.2.2.2.1, hk_.1.2.2.2.2.2.2.1, hk_.1.2.2.2.2.2.2.2.1, hk_.1.2.2.2.2.2.2.2.2.1, hk_.1.2.2.2.2.2.2.2.2.2.1, hk_.1.2.2.2.2.2.2.2.2.2.2⟩)); replace HB := Aside0.mk (hb); (try clear hb); (try clear hkp); (try clear hy0); (try clear hy1)))
        (try simp only [Act.put, List.setIfInBounds_toArray, List.set_cons_zero, List.set_cons_succ])
        go_cut [82] (fun v82 wc => ∃ (kq : Nat) (x82_114 : Bool), v82 = .bool x82_114 ∧ Aside0 (laws_FnExactSubRat.j1 kq tB7 x82_114 a0_0 l0_1 l0_2 a1_0 l1_1 l1_2 tA6 tA7 tA8 tA5 tA9 tB0 = some r) ∧ Aside0 (kq ≤ kj24) ∧ Aside0 (Kd.R (Kd.int .i64) 3 wc w.heap.size (fun k_ => nO k_ (.slice Ao46 tA8.length co46) ∧ nO k_ (.slice Ao78 tA9.length co78) ∧ nO k_ (.slice Ao79 tB0.length co79)) (.slice Ao44 tA7.length co44) tA7) ∧ Aside0 (Kd.R (Kd.int .i64) 3 wc w.heap.size (fun k_ => nO k_ (.slice Ao44 tA7.length co44) ∧ nO k_ (.slice Ao78 tA9.length co78) ∧ nO k_ (.slice Ao79 tB0.length co79)) (.slice Ao46 tA8.length co46) tA8) ∧ Aside0 (Kd.R (Kd.int .i64) 3 wc w.heap.size (fun k_ => nO k_ (.slice Ao44 tA7.length co44) ∧ nO k_ (.slice Ao46 tA8.length co46) ∧ nO k_ (.slice Ao79 tB0.length co79)) (.slice Ao78 tA9.length co78) tA9) ∧ Aside0 (Kd.R (Kd.int .i64) 3 wc w.heap.size (fun k_ => nO k_ (.slice Ao44 tA7.length co44) ∧ nO k_ (.slice Ao46 tA8.length co46) ∧ nO k_ (.slice Ao78 tA9.length co78)) (.slice Ao79 tB0.length co79) tB0) ∧ Aside0 (wc.heap[gbA0]? = some (.cells #[.bool a0_0, (.slice A0_1 l0_1.length c0_1), (.slice A0_2 l0_2.length c0_2)] 30 (0, 0))) ∧ Aside0 (wc.heap[gbA1]? = some (.cells #[.bool a1_0, (.slice A1_1 l1_1.length c1_1), (.slice A1_2 l1_2.length c1_2)] 30 (0, 0))) ∧ Aside0 (wc.heap[gbA2]? = some (.cells #[.bool tA6, (.slice Ao44 tA7.length co44), (.slice Ao46 tA8.length co46)] 24 (0, 0))) ∧ Aside0 (wc.heap[gbA3]? = some (.cells #[.bool tA5, (.slice Ao78 tA9.length co78), (.slice Ao79 tB0.length co79)] 24 (0, 0))) ∧ Aside0 (Below w.heap.size w wc))
        case first =>
         have H := HCP3.out
         clear HCP3
         by_cases cL9 : tE6 < 0
         ·
          rw [if_pos cL9] at H
          have c139b0 : decide (tE6 < 0) = true := decide_eq_true cL9
          clear cL9
          (first | rw [c139b0] | (simp only [i64_w, i32_w]; rw [c139b0]) | skip)
          have H' := Aside0.mk H
          clear H
          go_wp2
          go_meet
          case rel => exact ⟨_, (true), rs_, H', ⟨by have := HJ24.out; first | omega | exact Nat.le_refl _⟩, ⟨crM HO_1326001 fun _ hk => ⟨hk.1, hk.2.2.2.2.2.1, hk.2.2.2.2.2.2.1⟩⟩, ⟨crM HO_1326002 fun _ hk => ⟨hk.1, hk.2.2.2.2.2.1, hk.2.2.2.2.2.2.1⟩⟩, ⟨crM HO_1351001 fun _ hk => ⟨hk.1, hk.2.1, hk.2.2.2.2.2.2.1⟩⟩, ⟨crM HO_1351002 fun _ hk => ⟨hk.1, hk.2.1, hk.2.2.2.2.2.2.1⟩⟩, ⟨crb BKA0⟩, ⟨crb BKA1⟩, ⟨crb BKA2⟩, ⟨crb BKA3⟩, ⟨blw HB⟩⟩
         ·
          rw [if_neg cL9] at H
          have c139b0 : decide (tE6 < 0) = false := decide_eq_false cL9
          clear cL9
          (first | rw [c139b0] | (simp only [i64_w, i32_w]; rw [c139b0]) | skip)
          replace H := Option.bind_eq_some_iff.mp H
          obtain ⟨tE9, AI9, H⟩ := H
          replace H : (if tE9 = true then (laws_FnExactSubRat.j1 kj24 tB7 (tE3 != tB7) a0_0 l0_1 l0_2 a1_0 l1_1 l1_2 tA6 tA7 tA8 tA5 tA9 tB0) else (laws_FnExactSubRat.j1 kj24 tB7 true a0_0 l0_1 l0_2 a1_0 l1_1 l1_2 tA6 tA7 tA8 tA5 tA9 tB0)) = some r := H
          have AR2 := Aside0.mk AI9
          clear AI9
          by_cases cN1 : tE9 = true
          ·
           subst cN1
           have H1 : (laws_FnExactSubRat.j1 kj24 tB7 (tE3 != tB7) a0_0 l0_1 l0_2 a1_0 l1_1 l1_2 tA6 tA7 tA8 tA5 tA9 tB0) = some r := by rw [if_pos rfl] at H; exact H
           clear H
           have H := H1
           clear H1
           have H' := Aside0.mk H
           clear H
           have hnbR3 := NBA3_A0.out
           have hncR3 := NBA0_A3.out
           have hnbR4 := NBA3_A1.out
           have hncR4 := NBA1_A3.out
           have hnbR5 := NBA3_A2.out
           have hncR5 := NBA2_A3.out
           have hnbR6 := NBA3_B2.out
           have hncR6 := NBB2_A3.out
           have hnbR7 := NBA3_B1.out
           have hncR7 := NBB1_A3.out
           obtain ⟨hczK5_0, hczK5_1, hczK5_2, hfzK5_0, hfzK5_1, hfzK5_2⟩ := bc3 BKA3
           have hnbR8 := NBA2_A0.out
           have hncR8 := NBA0_A2.out
           have hnbR9 := NBA2_A1.out
           have hncR9 := NBA1_A2.out
           have hnbS0 := NBA2_B2.out
           have hncS0 := NBB2_A2.out
           have hnbS1 := NBA2_B1.out
           have hncS1 := NBB1_A2.out
           obtain ⟨hczK6_0, hczK6_1, hczK6_2, hfzK6_0, hfzK6_1, hfzK6_2⟩ := bc3 BKA2
           go_wp2_with (first | (go_at_call 17; (with_reducible refine (laws_eqRat.calls kj24 tA5 _ _ tA9 _ _ tB0 tA6 _ _ tA7 _ _ tA8 true _ ?side1 ?side2 ?side3 ?side4 ?side5 ?side6 ?side7 ?side8 AR2.out).mono ?_); (case side1 => exact crC (Kd.R_reads' HO_1351001.out).2.2); (case side2 => exact (Kd.R_reads' HO_1351001.out).2.1); (case side3 => exact crC (Kd.R_reads' HO_1351002.out).2.2); (case side4 => exact (Kd.R_reads' HO_1351002.out).2.1); (case side5 => exact crC (Kd.R_reads' HO_1326001.out).2.2); (case side6 => exact (Kd.R_reads' HO_1326001.out).2.1); (case side7 => exact crC (Kd.R_reads' HO_1326002.out).2.2); (case side8 => exact (Kd.R_reads' HO_1326002.out).2.1); rintro e wX9 ⟨rfl, hb⟩; replace HO_1326001 := rblR HO_1326001 hb; replace HO_1326002 := rblR HO_1326002 hb; replace HO_1334001 := rblR HO_1334001 hb; replace HO_1334002 := rblR HO_1334002 hb; replace HO_1342001 := rblR HO_1342001 hb; replace HO_1342002 := rblR HO_1342002 hb; replace HO_1351001 := rblR HO_1351001 hb; replace HO_1351002 := rblR HO_1351002 hb; replace HOF5 := rblR HOF5 hb; replace HOF6 := rblR HOF6 hb; replace HOJ2 := rblR HOJ2 hb; replace HOJ3 := rblR HOJ3 hb; replace BKA0 := bkb BKA0 hb; replace BKA1 := bkb BKA1 hb; replace BKA2 := bkb BKA2 hb; replace BKB2 := bkb BKB2 hb; replace BKB1 := bkb BKB1 hb; replace BKA3 := bkb BKA3 hb; replace HB := bst HB hb; (try clear hb); (try clear hb2); (try clear hk); (try clear hi)))
           go_meet
           case rel => exact ⟨_, ((tE3 != tB7)), rs_, H', ⟨by have := HJ24.out; first | omega | exact Nat.le_refl _⟩, ⟨crM HO_1326001 fun _ hk => ⟨hk.1, hk.2.2.2.2.2.1, hk.2.2.2.2.2.2.1⟩⟩, ⟨crM HO_1326002 fun _ hk => ⟨hk.1, hk.2.2.2.2.2.1, hk.2.2.2.2.2.2.1⟩⟩, ⟨crM HO_1351001 fun _ hk => ⟨hk.1, hk.2.1, hk.2.2.2.2.2.2.1⟩⟩, ⟨crM HO_1351002 fun _ hk => ⟨hk.1, hk.2.1, hk.2.2.2.2.2.2.1⟩⟩, ⟨crb BKA0⟩, ⟨crb BKA1⟩, ⟨crb BKA2⟩, ⟨crb BKA3⟩, ⟨blw HB⟩⟩
          ·
           replace cN1 := Bool.eq_false_iff.mpr cN1
           subst cN1
           have H1 : (laws_FnExactSubRat.j1 kj24 tB7 true a0_0 l0_1 l0_2 a1_0 l1_1 l1_2 tA6 tA7 tA8 tA5 tA9 tB0) = some r := by rw [if_neg (show ¬ (false = true) by decide)] at H; exact H
           clear H
           have H := H1
           clear H1
           have H' := Aside0.mk H
           clear H
           have hnbS2 := NBA3_A0.out
           have hncS2 := NBA0_A3.out
           have hnbS3 := NBA3_A1.out
           have hncS3 := NBA1_A3.out
           have hnbS4 := NBA3_A2.out
           have hncS4 := NBA2_A3.out
           have hnbS5 := NBA3_B2.out
           have hncS5 := NBB2_A3.out
           have hnbS6 := NBA3_B1.out
           have hncS6 := NBB1_A3.out
           obtain ⟨hczK7_0, hczK7_1, hczK7_2, hfzK7_0, hfzK7_1, hfzK7_2⟩ := bc3 BKA3
           have hnbS7 := NBA2_A0.out
           have hncS7 := NBA0_A2.out
           have hnbS8 := NBA2_A1.out
           have hncS8 := NBA1_A2.out
           have hnbS9 := NBA2_B2.out
           have hncS9 := NBB2_A2.out
           have hnbT0 := NBA2_B1.out
           have hncT0 := NBB1_A2.out
           obtain ⟨hczK8_0, hczK8_1, hczK8_2, hfzK8_0, hfzK8_1, hfzK8_2⟩ := bc3 BKA2
           go_wp2_with (first | (go_at_call 17; (with_reducible refine (laws_eqRat.calls kj24 tA5 _ _ tA9 _ _ tB0 tA6 _ _ tA7 _ _ tA8 false _ ?side1 ?side2 ?side3 ?side4 ?side5 ?side6 ?side7 ?side8 AR2.out).mono ?_); (case side1 => exact crC (Kd.R_reads' HO_1351001.out).2.2); (case side2 => exact (Kd.R_reads' HO_1351001.out).2.1); (case side3 => exact crC (Kd.R_reads' HO_1351002.out).2.2); (case side4 => exact (Kd.R_reads' HO_1351002.out).2.1); (case side5 => exact crC (Kd.R_reads' HO_1326001.out).2.2); (case side6 => exact (Kd.R_reads' HO_1326001.out).2.1); (case side7 => exact crC (Kd.R_reads' HO_1326002.out).2.2); (case side8 => exact (Kd.R_reads' HO_1326002.out).2.1); rintro e wY0 ⟨rfl, hb⟩; replace HO_1326001 := rblR HO_1326001 hb; replace HO_1326002 := rblR HO_1326002 hb; replace HO_1334001 := rblR HO_1334001 hb; replace HO_1334002 := rblR HO_1334002 hb; replace HO_1342001 := rblR HO_1342001 hb; replace HO_1342002 := rblR HO_1342002 hb; replace HO_1351001 := rblR HO_1351001 hb; replace HO_1351002 := rblR HO_1351002 hb; replace HOF5 := rblR HOF5 hb; replace HOF6 := rblR HOF6 hb; replace HOJ2 := rblR HOJ2 hb; replace HOJ3 := rblR HOJ3 hb; replace BKA0 := bkb BKA0 hb; replace BKA1 := bkb BKA1 hb; replace BKA2 := bkb BKA2 hb; replace BKB2 := bkb BKB2 hb; replace BKB1 := bkb BKB1 hb; replace BKA3 := bkb BKA3 hb; replace HB := bst HB hb; (try clear hb); (try clear hb2); (try clear hk); (try clear hi)))
           go_meet
           case rel => exact ⟨_, (true), rs_, H', ⟨by have := HJ24.out; first | omega | exact Nat.le_refl _⟩, ⟨crM HO_1326001 fun _ hk => ⟨hk.1, hk.2.2.2.2.2.1, hk.2.2.2.2.2.2.1⟩⟩, ⟨crM HO_1326002 fun _ hk => ⟨hk.1, hk.2.2.2.2.2.1, hk.2.2.2.2.2.2.1⟩⟩, ⟨crM HO_1351001 fun _ hk => ⟨hk.1, hk.2.1, hk.2.2.2.2.2.2.1⟩⟩, ⟨crM HO_1351002 fun _ hk => ⟨hk.1, hk.2.1, hk.2.2.2.2.2.2.1⟩⟩, ⟨crb BKA0⟩, ⟨crb BKA1⟩, ⟨crb BKA2⟩, ⟨crb BKA3⟩, ⟨blw HB⟩⟩
        case rest =>
         clear HCP3
         try clear c1
         try clear c2
         try clear p2
         try clear c12
         try clear c13
         try clear c14
         try clear c15
         try clear c16
         try clear c17
         try clear c18
         try clear c22
         try clear cQ3
         try clear cQ4
         try clear cQ5
         try clear cQ6
         try clear cQ7
         try clear cQ8
         try clear cQ9
         try clear cR0
         try clear cR1
         try clear cL9
         try clear c139b0
         try clear cN1
         try clear cR3
         try clear cR4
         try clear cR5
         try clear cR6
         try clear cR7
         try clear cR8
         try clear cR9
         try clear cS0
         try clear cS1
         try clear cS2
         try clear cS3
         try clear cS4
         try clear cS5
         try clear cS6
         try clear cS7
         try clear cS8
         try clear cS9
         try clear cT0
         try clear hczK3_0
         try clear hczK3_1
         try clear hczK3_2
         try clear hczK4_0
         try clear hczK4_1
         try clear hczK4_2
         try clear hczK5_0
         try clear hczK5_1
         try clear hczK5_2
         try clear hczK6_0
         try clear hczK6_1
         try clear hczK6_2
         try clear hczK7_0
         try clear hczK7_1
         try clear hczK7_2
         try clear hczK8_0
         try clear hczK8_1
         try clear hczK8_2
         try clear hfzK3_0
         try clear hfzK3_1
         try clear hfzK3_2
         try clear hfzK4_0
         try clear hfzK4_1
         try clear hfzK4_2
         try clear hfzK5_0
         try clear hfzK5_1
         try clear hfzK5_2
         try clear hfzK6_0
         try clear hfzK6_1
         try clear hfzK6_2
         try clear hfzK7_0
         try clear hfzK7_1
         try clear hfzK7_2
         try clear hfzK8_0
         try clear hfzK8_1
         try clear hfzK8_2
         obtain ⟨kq, x82_114, rfl, HA, HJ114, HO_1326001, HO_1326002, HO_1351001, HO_1351002, BKA0, BKA1, BKA2, BKA3, HB⟩ := hcut
         cases kq with
         | zero => exact absurd HA.out (by simp [laws_FnExactSubRat.j1])
         | succ kj114 =>
          have H := HA.out
          clear HA
          simp only [laws_FnExactSubRat.j1] at H
          by_cases cO7 : x82_114 = true
          ·
           subst cO7
           have H1 : (some false) = some r := by rw [if_pos rfl] at H; exact H
           clear H
           have H := H1
           clear H1
           obtain rfl := Option.some.inj H
           exact absurd hr_ (by decide)
          ·
           replace cO7 := Bool.eq_false_iff.mpr cO7
           subst cO7
           have H1 : ((laws_markRat.f kj114 tA5 tA9 tB0 1).bind fun btC4 => ((laws_heldRat.f kj114 tA5 btC4.2.1 btC4.2.2 1).bind fun tG6 => (if tG6 < 0 then (some false) else (if tG6 = btC4.1 then ((laws_toRat.f kj114 a0_0 l0_1 l0_2).bind fun btD6 => ((laws_toRat.f kj114 a1_0 l1_1 l1_2).bind fun btD0 => ((impl_SubRat.f kj114 btD6.1 btD6.2.1 btD6.2.2 btD0.1 btD0.2.1 btD0.2.2).bind fun btC5 => ((laws_eqRat.f kj114 btC5.1 btC5.2.1 btC5.2.2.1 tA6 tA7 tA8).bind fun tI6 => (if tI6 = true then (laws_FnExactSubRat.j2 kj114 btC4.1 (btC5.2.2.2 != tB7) tA5 btC4.2.1 btC4.2.2) else (laws_FnExactSubRat.j2 kj114 btC4.1 true tA5 btC4.2.1 btC4.2.2)))))) else (some false))))) = some r := by rw [if_neg (show ¬ (false = true) by decide)] at H; exact H
           clear H
           have H := H1
           clear H1
           replace H := Option.bind_eq_some_iff.mp H
           obtain ⟨⟨tC4, tD8, tD9⟩, AN2, H⟩ := H
           replace H : ((laws_heldRat.f kj114 tA5 tD8 tD9 1).bind fun tG6 => (if tG6 < 0 then (some false) else (if tG6 = tC4 then ((laws_toRat.f kj114 a0_0 l0_1 l0_2).bind fun btD6 => ((laws_toRat.f kj114 a1_0 l1_1 l1_2).bind fun btD0 => ((impl_SubRat.f kj114 btD6.1 btD6.2.1 btD6.2.2 btD0.1 btD0.2.1 btD0.2.2).bind fun btC5 => ((laws_eqRat.f kj114 btC5.1 btC5.2.1 btC5.2.2.1 tA6 tA7 tA8).bind fun tI6 => (if tI6 = true then (laws_FnExactSubRat.j2 kj114 tC4 (btC5.2.2.2 != tB7) tA5 tD8 tD9) else (laws_FnExactSubRat.j2 kj114 tC4 true tA5 tD8 tD9)))))) else (some false)))) = some r := H
           have AW4 := Aside0.mk AN2
           clear AN2
           replace H := Option.bind_eq_some_iff.mp H
           obtain ⟨tG6, AN3, H⟩ := H
           replace H : (if tG6 < 0 then (some false) else (if tG6 = tC4 then ((laws_toRat.f kj114 a0_0 l0_1 l0_2).bind fun btD6 => ((laws_toRat.f kj114 a1_0 l1_1 l1_2).bind fun btD0 => ((impl_SubRat.f kj114 btD6.1 btD6.2.1 btD6.2.2 btD0.1 btD0.2.1 btD0.2.2).bind fun btC5 => ((laws_eqRat.f kj114 btC5.1 btC5.2.1 btC5.2.2.1 tA6 tA7 tA8).bind fun tI6 => (if tI6 = true then (laws_FnExactSubRat.j2 kj114 tC4 (btC5.2.2.2 != tB7) tA5 tD8 tD9) else (laws_FnExactSubRat.j2 kj114 tC4 true tA5 tD8 tD9)))))) else (some false))) = some r := H
           have AW5 := Aside0.mk AN3
           clear AN3
           by_cases cM2 : tG6 < 0
           ·
            rw [if_pos cM2] at H
            have c169b0 : decide (tG6 < 0) = true := decide_eq_true cM2
            clear cM2
            obtain rfl := Option.some.inj H
            exact absurd hr_ (by decide)
           ·
            rw [if_neg cM2] at H
            have c169b0 : decide (tG6 < 0) = false := decide_eq_false cM2
            clear cM2
            by_cases cM0 : tG6 = tC4
            ·
             rw [if_pos cM0] at H
             have c177b0 : (tG6 == tC4) = true := beq_iff_eq.mpr cM0
             have c177b1 : (tG6 != tC4) = false := bne_eq_false_iff_eq.mpr cM0
             clear cM0
             replace H := Option.bind_eq_some_iff.mp H
             obtain ⟨⟨tD6, tH4, tH5⟩, AN4, H⟩ := H
             replace H : ((laws_toRat.f kj114 a1_0 l1_1 l1_2).bind fun btD0 => ((impl_SubRat.f kj114 tD6 tH4 tH5 btD0.1 btD0.2.1 btD0.2.2).bind fun btC5 => ((laws_eqRat.f kj114 btC5.1 btC5.2.1 btC5.2.2.1 tA6 tA7 tA8).bind fun tI6 => (if tI6 = true then (laws_FnExactSubRat.j2 kj114 tC4 (btC5.2.2.2 != tB7) tA5 tD8 tD9) else (laws_FnExactSubRat.j2 kj114 tC4 true tA5 tD8 tD9))))) = some r := H
             have AT1 := Aside0.mk AN4
             clear AN4
             replace H := Option.bind_eq_some_iff.mp H
             obtain ⟨⟨tD0, tH6, tH7⟩, AN5, H⟩ := H
             replace H : ((impl_SubRat.f kj114 tD6 tH4 tH5 tD0 tH6 tH7).bind fun btC5 => ((laws_eqRat.f kj114 btC5.1 btC5.2.1 btC5.2.2.1 tA6 tA7 tA8).bind fun tI6 => (if tI6 = true then (laws_FnExactSubRat.j2 kj114 tC4 (btC5.2.2.2 != tB7) tA5 tD8 tD9) else (laws_FnExactSubRat.j2 kj114 tC4 true tA5 tD8 tD9)))) = some r := H
             have AP4 := Aside0.mk AN5
             clear AN5
             replace H := Option.bind_eq_some_iff.mp H
             obtain ⟨⟨tC5, tF7, tF8, tI9⟩, AN6, H⟩ := H
             replace H : ((laws_eqRat.f kj114 tC5 tF7 tF8 tA6 tA7 tA8).bind fun tI6 => (if tI6 = true then (laws_FnExactSubRat.j2 kj114 tC4 (tI9 != tB7) tA5 tD8 tD9) else (laws_FnExactSubRat.j2 kj114 tC4 true tA5 tD8 tD9))) = some r := H
             have AL3 := Aside0.mk AN6
             clear AN6
             have HCP5 := Aside0.mk H
             clear H
             have hnbW6 := NBA3_A0.out
             have hncW6 := NBA0_A3.out
             have hnbW7 := NBA3_A1.out
             have hncW7 := NBA1_A3.out
             have hnbW8 := NBA3_A2.out
             have hncW8 := NBA2_A3.out
             obtain ⟨hczN7_0, hczN7_1, hczN7_2, hfzN7_0, hfzN7_1, hfzN7_2⟩ := bc3 BKA3
             try go_wp2_with (first | ((with_reducible refine gate_callee (f := 18) rfl ?_); refine gL_ (some 85) Try.func18 #[.agg #[.bool tA5, .slice Ao78 tA9.length co78, .slice Ao79 tB0.length co79], .int .i64 1] ?_; (with_reducible refine (laws_markRat.calls kj114 tA5 (fun k_ => some k_ = (.slice Ao78 tA9.length co78 : Value).ownBlock) (.slice Ao78 tA9.length co78) tA9 (fun k_ => some k_ = (.slice Ao79 tB0.length co79 : Value).ownBlock) (.slice Ao79 tB0.length co79) tB0 1 tC4 tD8 tD9 w _ ?side1 ?side2 ?side3 ?side4 ?side5 AW4.out).mono ?_); (case side1 => repeat (first | (with_reducible first | exact HB.out | apply below_alloc | apply pw_below_drewN | apply below_drew1 | refine below_set ?_ GEA0.out | refine below_set ?_ GEA1.out | refine below_set ?_ GEA2.out | refine below_set ?_ GEA3.out) | exact HB.out)); (case side2 => exact Kd.R_tight rfl HO_1351001.out); (case side3 => exact fun k_ e_ => (HO_1351001.out.1 k_ e_.symm).2.2); (case side4 => exact Kd.R_tight rfl HO_1351002.out); (case side5 => exact fun k_ e_ => (HO_1351002.out.1 k_ e_.symm).2.2); rintro e wY1 ⟨rfl, hy0, hy1, hb, hkp⟩; refine ⟨_, rfl, ?_⟩; replace HO_1326001 := Aside0.mk (Kd.R_mono (ok' := fun k_ => nO k_ (.slice Ao46 tA8.length co46) ∧ nO k_ (.slice Ao78 tA9.length co78) ∧ nO k_ (.slice Ao79 tB0.length co79)) (Kd.R_keptB (HO_1326001.out) hkp (fun k_ hk_ hs_ => Or.elim hs_ (fun e_ => (hk_.2.1) e_) (fun e_ => (hk_.2.2) e_))) (fun k_ hk_ => ⟨hk_.1.1, hk_.1.2.1, hk_.1.2.2⟩)); replace HO_1326002 := Aside0.mk (Kd.R_mono (ok' := fun k_ => nO k_ (.slice Ao44 tA7.length co44) ∧ nO k_ (.slice Ao78 tA9.length co78) ∧ nO k_ (.slice Ao79 tB0.length co79)) (Kd.R_keptB (HO_1326002.out) hkp (fun k_ hk_ hs_ => Or.elim hs_ (fun e_ => (hk_.2.1) e_) (fun e_ => (hk_.2.2) e_))) (fun k_ hk_ => ⟨hk_.1.1, hk_.1.2.1, hk_.1.2.2⟩)); replace BKA0 := Aside0.mk (blk_kept (crb BKA0) hkp (fun hs_ => Or.elim hs_ (fun e_ => (fun e_ => (Kd.R_ne HO_1351001.out BKA0.out (by decide)) e_) e_) (fun e_ => (fun e_ => (Kd.R_ne HO_1351002.out BKA0.out (by decide)) e_) e_))); replace BKA1 := Aside0.mk (blk_kept (crb BKA1) hkp (fun hs_ => Or.elim hs_ (fun e_ => (fun e_ => (Kd.R_ne HO_1351001.out BKA1.out (by decide)) e_) e_) (fun e_ => (fun e_ => (Kd.R_ne HO_1351002.out BKA1.out (by decide)) e_) e_))); replace BKA2 := Aside0.mk (blk_kept (crb BKA2) hkp (fun hs_ => Or.elim hs_ (fun e_ => (fun e_ => (Kd.R_ne HO_1351001.out BKA2.out (by decide)) e_) e_) (fun e_ => (fun e_ => (Kd.R_ne HO_1351002.out BKA2.out (by decide)) e_) e_))); replace BKA3 := Aside0.mk (blk_kept (crb BKA3) hkp (fun hs_ => Or.elim hs_ (fun e_ => (fun e_ => (Kd.R_ne HO_1351001.out BKA3.out (by decide)) e_) e_) (fun e_ => (fun e_ => (Kd.R_ne HO_1351002.out BKA3.out (by decide)) e_) e_))); replace HO_1351001 := Aside0.mk (Kd.R_reok rfl hy0 (fun k_ e_ => HO_1351001.out.1 k_ e_)); replace HO_1351002 := Aside0.mk (Kd.R_reok rfl hy1 (fun k_ e_ => HO_1351002.out.1 k_ e_)); replace HB := Aside0.mk (hb); (try clear hb); (try clear hkp); (try clear hy0); (try clear hy1); obtain ⟨hczN8_0, hczN8_1, hczN8_2, hfzN8_0, hfzN8_1, hfzN8_2⟩ := bc3 BKA3) | ((with_reducible refine gate_callee (f := 19) rfl ?_); refine goesL_ (some 88) rfl rfl Try.func19 (by kernel_rfl) rfl #[.agg #[.bool tA5, .slice Ao78 tD8.length co78, .slice Ao79 tD9.length co79], .int .i64 1] rfl (by (try simp only [List.map_toArray, List.map_cons, List.map_nil]); first | done | (rw [show tD8.length = tA9.length from (Kd.R_reads' HO_1351001.out).1.symm, show tD9.length = tB0.length from (Kd.R_reads' HO_1351002.out).1.symm] <;> rfl) | rfl | (simp only [List.length_drop, List.length_take]; rfl)) ?_; (with_reducible refine (laws_heldRat.calls kj114 tA5 _ _ tD8 _ _ tD9 1 tG6 _ ?side1 ?side2 ?side3 ?side4 AW5.out).mono ?_); (case side1 => exact crC (Kd.R_reads' HO_1351001.out).2.2); (case side2 => rw [show tD8.length = tA9.length from (Kd.R_reads' HO_1351001.out).1.symm]; exact (Kd.R_reads' HO_1351001.out).2.1); (case side3 => exact crC (Kd.R_reads' HO_1351002.out).2.2); (case side4 => rw [show tD9.length = tB0.length from (Kd.R_reads' HO_1351002.out).1.symm]; exact (Kd.R_reads' HO_1351002.out).2.1); rintro e wW9 ⟨rfl, hb⟩; refine ⟨_, rfl, ?_⟩; replace HO_1326001 := rblR HO_1326001 hb; replace HO_1326002 := rblR HO_1326002 hb; replace HO_1351001 := rblR HO_1351001 hb; replace HO_1351002 := rblR HO_1351002 hb; replace BKA0 := bkb BKA0 hb; replace BKA1 := bkb BKA1 hb; replace BKA2 := bkb BKA2 hb; replace BKA3 := bkb BKA3 hb; replace HB := bst HB hb; (try clear hb); (try clear hb2); (try clear hk); (try clear hi)))
             replace HO_1326001 := Aside0.mk (Kd.R_drew HO_1326001.out)
             replace HO_1326002 := Aside0.mk (Kd.R_drew HO_1326002.out)
             replace HO_1351001 := Aside0.mk (Kd.R_drew HO_1351001.out)
             replace HO_1351002 := Aside0.mk (Kd.R_drew HO_1351002.out)
             replace BKA0 := Aside0.mk (blk_drew BKA0.out)
             replace BKA1 := Aside0.mk (blk_drew BKA1.out)
             replace BKA2 := Aside0.mk (blk_drew BKA2.out)
             replace BKA3 := Aside0.mk (blk_drew BKA3.out)
             replace HB := Aside0.mk (below_drew1 HB.out)
             refine start_ (n := 11) (S := fun w' => w'.cell? ⟨gbA0, 0, none⟩ = some (.bool a0_0) ∧ w'.cell? ⟨gbA0, 1, none⟩ = some (.slice A0_1 l0_1.length c0_1) ∧ w'.cell? ⟨gbA0, 2, none⟩ = some (.slice A0_2 l0_2.length c0_2) ∧ w'.cell? ⟨gbA1, 0, none⟩ = some (.bool a1_0) ∧ w'.cell? ⟨gbA1, 1, none⟩ = some (.slice A1_1 l1_1.length c1_1) ∧ w'.cell? ⟨gbA1, 2, none⟩ = some (.slice A1_2 l1_2.length c1_2)) (ds := []) (bm 11 0) (by kernel_rfl) rfl rfl ⟨bce BKA0 0 _, bce BKA0 1 _, bce BKA0 2 _, bce BKA1 0 _, bce BKA1 1 _, bce BKA1 2 _⟩ (fun hHeld => ?_); refine with_tabW laws_FnExactSubRat.tab31 laws_FnExactSubRat.bits31 (fun HT_ HW_ => ?_)
             generalize wW9.drew = wY2 at HO_1326001 HO_1326002 HO_1351001 HO_1351002 BKA0 BKA1 BKA2 BKA3 HB hHeld ⊢
             refine tk_ 0 (some 95) (bm 11 1) HT_.out HW_.out hHeld ?_
             refine tk_ 2 (some 97) (bm 11 5) HT_.out HW_.out hHeld ?_
             refine join_ (σ := Value × Value × Value × Value × Value × Value × Nat) 2 (bm 11 511) (fun s_ => [(96, .agg #[.bool tD6, s_.1, s_.2.1]), (98, .agg #[.bool tD0, s_.2.2.1, s_.2.2.2.1]), (99, .tuple #[.agg #[.bool tC5, s_.2.2.2.2.1, s_.2.2.2.2.2.1], .int .i64 tI9]), (15, .pointer (some ⟨s_.2.2.2.2.2.2, 0, none⟩)), (94, .tuple #[.agg #[.bool tC5, s_.2.2.2.2.1, s_.2.2.2.2.2.1], .int .i64 tI9]), (100, .agg #[.bool tC5, s_.2.2.2.2.1, s_.2.2.2.2.2.1]), (101, .int .i64 tI9)]) (fun s_ w' => (w'.cell? ⟨gbA0, 0, none⟩ = some (.bool a0_0) ∧ w'.cell? ⟨gbA0, 1, none⟩ = some (.slice A0_1 l0_1.length c0_1) ∧ w'.cell? ⟨gbA0, 2, none⟩ = some (.slice A0_2 l0_2.length c0_2) ∧ w'.cell? ⟨gbA1, 0, none⟩ = some (.bool a1_0) ∧ w'.cell? ⟨gbA1, 1, none⟩ = some (.slice A1_1 l1_1.length c1_1) ∧ w'.cell? ⟨gbA1, 2, none⟩ = some (.slice A1_2 l1_2.length c1_2)) ∧ (Kd.R (Kd.int .i64) 3 w' w.heap.size (fun k_ => nO k_ s_.2.1 ∧ nO k_ s_.2.2.1 ∧ nO k_ s_.2.2.2.1 ∧ nO k_ s_.2.2.2.2.1 ∧ nO k_ s_.2.2.2.2.2.1 ∧ nO k_ (.slice Ao44 tA7.length co44) ∧ nO k_ (.slice Ao46 tA8.length co46) ∧ nO k_ (.slice Ao78 tA9.length co78) ∧ nO k_ (.slice Ao79 tB0.length co79)) s_.1 tH4) ∧ (Kd.R (Kd.int .i64) 3 w' w.heap.size (fun k_ => nO k_ s_.1 ∧ nO k_ s_.2.2.1 ∧ nO k_ s_.2.2.2.1 ∧ nO k_ s_.2.2.2.2.1 ∧ nO k_ s_.2.2.2.2.2.1 ∧ nO k_ (.slice Ao44 tA7.length co44) ∧ nO k_ (.slice Ao46 tA8.length co46) ∧ nO k_ (.slice Ao78 tA9.length co78) ∧ nO k_ (.slice Ao79 tB0.length co79)) s_.2.1 tH5) ∧ (Kd.R (Kd.int .i64) 3 w' w.heap.size (fun k_ => nO k_ s_.1 ∧ nO k_ s_.2.1 ∧ nO k_ s_.2.2.2.1 ∧ nO k_ s_.2.2.2.2.1 ∧ nO k_ s_.2.2.2.2.2.1 ∧ nO k_ (.slice Ao44 tA7.length co44) ∧ nO k_ (.slice Ao46 tA8.length co46) ∧ nO k_ (.slice Ao78 tA9.length co78) ∧ nO k_ (.slice Ao79 tB0.length co79)) s_.2.2.1 tH6) ∧ (Kd.R (Kd.int .i64) 3 w' w.heap.size (fun k_ => nO k_ s_.1 ∧ nO k_ s_.2.1 ∧ nO k_ s_.2.2.1 ∧ nO k_ s_.2.2.2.2.1 ∧ nO k_ s_.2.2.2.2.2.1 ∧ nO k_ (.slice Ao44 tA7.length co44) ∧ nO k_ (.slice Ao46 tA8.length co46) ∧ nO k_ (.slice Ao78 tA9.length co78) ∧ nO k_ (.slice Ao79 tB0.length co79)) s_.2.2.2.1 tH7) ∧ (Kd.R (Kd.int .i64) 3 w' w.heap.size (fun k_ => nO k_ s_.1 ∧ nO k_ s_.2.1 ∧ nO k_ s_.2.2.1 ∧ nO k_ s_.2.2.2.1 ∧ nO k_ s_.2.2.2.2.2.1 ∧ nO k_ (.slice Ao44 tA7.length co44) ∧ nO k_ (.slice Ao46 tA8.length co46) ∧ nO k_ (.slice Ao78 tA9.length co78) ∧ nO k_ (.slice Ao79 tB0.length co79)) s_.2.2.2.2.1 tF7) ∧ (Kd.R (Kd.int .i64) 3 w' w.heap.size (fun k_ => nO k_ s_.1 ∧ nO k_ s_.2.1 ∧ nO k_ s_.2.2.1 ∧ nO k_ s_.2.2.2.1 ∧ nO k_ s_.2.2.2.2.1 ∧ nO k_ (.slice Ao44 tA7.length co44) ∧ nO k_ (.slice Ao46 tA8.length co46) ∧ nO k_ (.slice Ao78 tA9.length co78) ∧ nO k_ (.slice Ao79 tB0.length co79)) s_.2.2.2.2.2.1 tF8) ∧ (Kd.R (Kd.int .i64) 3 w' w.heap.size (fun k_ => nO k_ s_.1 ∧ nO k_ s_.2.1 ∧ nO k_ s_.2.2.1 ∧ nO k_ s_.2.2.2.1 ∧ nO k_ s_.2.2.2.2.1 ∧ nO k_ s_.2.2.2.2.2.1 ∧ nO k_ (.slice Ao46 tA8.length co46) ∧ nO k_ (.slice Ao78 tA9.length co78) ∧ nO k_ (.slice Ao79 tB0.length co79)) (.slice Ao44 tA7.length co44) tA7) ∧ (Kd.R (Kd.int .i64) 3 w' w.heap.size (fun k_ => nO k_ s_.1 ∧ nO k_ s_.2.1 ∧ nO k_ s_.2.2.1 ∧ nO k_ s_.2.2.2.1 ∧ nO k_ s_.2.2.2.2.1 ∧ nO k_ s_.2.2.2.2.2.1 ∧ nO k_ (.slice Ao44 tA7.length co44) ∧ nO k_ (.slice Ao78 tA9.length co78) ∧ nO k_ (.slice Ao79 tB0.length co79)) (.slice Ao46 tA8.length co46) tA8) ∧ (Kd.R (Kd.int .i64) 3 w' w.heap.size (fun k_ => nO k_ s_.1 ∧ nO k_ s_.2.1 ∧ nO k_ s_.2.2.1 ∧ nO k_ s_.2.2.2.1 ∧ nO k_ s_.2.2.2.2.1 ∧ nO k_ s_.2.2.2.2.2.1 ∧ nO k_ (.slice Ao44 tA7.length co44) ∧ nO k_ (.slice Ao46 tA8.length co46) ∧ nO k_ (.slice Ao79 tB0.length co79)) (.slice Ao78 tA9.length co78) tD8) ∧ (Kd.R (Kd.int .i64) 3 w' w.heap.size (fun k_ => nO k_ s_.1 ∧ nO k_ s_.2.1 ∧ nO k_ s_.2.2.1 ∧ nO k_ s_.2.2.2.1 ∧ nO k_ s_.2.2.2.2.1 ∧ nO k_ s_.2.2.2.2.2.1 ∧ nO k_ (.slice Ao44 tA7.length co44) ∧ nO k_ (.slice Ao46 tA8.length co46) ∧ nO k_ (.slice Ao78 tA9.length co78)) (.slice Ao79 tB0.length co79) tD9) ∧ (w'.heap[gbA0]? = some (.cells #[.bool a0_0, .slice A0_1 l0_1.length c0_1, .slice A0_2 l0_2.length c0_2] 30 (0, 0))) ∧ (w'.heap[gbA1]? = some (.cells #[.bool a1_0, .slice A1_1 l1_1.length c1_1, .slice A1_2 l1_2.length c1_2] 30 (0, 0))) ∧ (w'.heap[gbA2]? = some (.cells #[.bool tA6, .slice Ao44 tA7.length co44, .slice Ao46 tA8.length co46] 24 (0, 0))) ∧ (w'.heap[gbA3]? = some (.cells #[.bool tA5, .slice Ao78 tA9.length co78, .slice Ao79 tB0.length co79] 24 (0, 0))) ∧ (w'.heap[s_.2.2.2.2.2.2]? = some (.cells #[.bool false, .slice none 0 0, .slice none 0 0] 24 (0, 0))) ∧ (w.heap.size ≤ s_.2.2.2.2.2.2) ∧ (w.heap.size ≤ s_.2.2.2.2.2.2) ∧ (gbA0 ≠ s_.2.2.2.2.2.2) ∧ (s_.2.2.2.2.2.2 ≠ gbA0) ∧ (gbA1 ≠ s_.2.2.2.2.2.2) ∧ (s_.2.2.2.2.2.2 ≠ gbA1) ∧ (gbA2 ≠ s_.2.2.2.2.2.2) ∧ (s_.2.2.2.2.2.2 ≠ gbA2) ∧ (gbA3 ≠ s_.2.2.2.2.2.2) ∧ (s_.2.2.2.2.2.2 ≠ gbA3) ∧ (Below w.heap.size w w')) ?_ ?_
             rotate_left
             ·
              intro hCont
              refine two_ (i := 1) (j := 8) (Ni := some 96) (Nj := some 15) (bm 11 7) (bm 11 261) rfl rfl rfl rfl (two_of HT_.out (by kernel_rfl)) (by decide) (by decide) (fun K hK => ?_) (fun K hK => ?_)
              ·
               skip
               refine g_ Try.func22 #[.agg #[.bool a0_0, .slice A0_1 l0_1.length c0_1, .slice A0_2 l0_2.length c0_2]] ?_
               with_reducible refine (laws_toRat.calls kj114 a0_0 _ _ l0_1 _ _ l0_2 tD6 tH4 tH5 _ ?side1 ?side2 ?side3 ?side4 AT1.out).mono ?_
               (case side1 => exact crC (Kd.C_below HR0_1.out HB.out))
               (case side2 => exact HC0_1.out)
               (case side3 => exact crC (Kd.C_below HR0_2.out HB.out))
               (case side4 => exact HC0_2.out)
               rintro e wO3 ⟨vG7, vG8, rfl, ho0, ho1, hb⟩
               refine ⟨_, rfl, ?_⟩
               have HOC2 := lwR (nwR (nwR (nwR (nwR ho0 HO_1326001) HO_1326002) HO_1351001) HO_1351002) HB
               have HOC3 := lwR (nwR (nwR (nwR (nwR ho1 HO_1326001) HO_1326002) HO_1351001) HO_1351002) HB
               replace HO_1326001 := tldR HO_1326001 hb (Kd.R_base ho0) (Kd.R_base ho1)
               replace HO_1326002 := tldR HO_1326002 hb (Kd.R_base ho0) (Kd.R_base ho1)
               replace HO_1351001 := tldR HO_1351001 hb (Kd.R_base ho0) (Kd.R_base ho1)
               replace HO_1351002 := tldR HO_1351002 hb (Kd.R_base ho0) (Kd.R_base ho1)
               replace BKA0 := bkb BKA0 hb
               replace BKA1 := bkb BKA1 hb
               replace BKA2 := bkb BKA2 hb
               replace BKA3 := bkb BKA3 hb
               replace HB := bst HB hb
               (try clear hb)
               (try clear hb2)
               (try clear hk)
               (try clear hi)
               (try clear ho0)
               (try clear ho1)
               refine hK.out _ _ ⟨bce BKA0 0 _, bce BKA0 1 _, bce BKA0 2 _, bce BKA1 0 _, bce BKA1 1 _, bce BKA1 2 _⟩ (fun hHeld => ?_)
               clear hK K
               refine nm_ 96 ?_
               refine two_ (i := 3) (j := 8) (Ni := some 98) (Nj := some 15) (bm 11 15) (bm 11 263) rfl rfl rfl rfl (two_of HT_.out (by kernel_rfl)) (by decide) (by decide) (fun K hK => ?_) (fun K hK => ?_)
               ·
                skip
                refine g_ Try.func22 #[.agg #[.bool a1_0, .slice A1_1 l1_1.length c1_1, .slice A1_2 l1_2.length c1_2]] ?_
                with_reducible refine (laws_toRat.calls kj114 a1_0 _ _ l1_1 _ _ l1_2 tD0 tH6 tH7 _ ?side1 ?side2 ?side3 ?side4 AP4.out).mono ?_
                (case side1 => exact crC (Kd.C_below HR1_1.out HB.out))
                (case side2 => exact HC1_1.out)
                (case side3 => exact crC (Kd.C_below HR1_2.out HB.out))
                (case side4 => exact HC1_2.out)
                rintro e wT2 ⟨vF9, vG0, rfl, ho0, ho1, hb⟩
                refine ⟨_, rfl, ?_⟩
                have HOC6 := lwR (nwR (nwR (nwR (nwR (nwR (nwR ho0 HO_1326001) HO_1326002) HO_1351001) HO_1351002) HOC2) HOC3) HB
                have HOC7 := lwR (nwR (nwR (nwR (nwR (nwR (nwR ho1 HO_1326001) HO_1326002) HO_1351001) HO_1351002) HOC2) HOC3) HB
                replace HO_1326001 := tldR HO_1326001 hb (Kd.R_base ho0) (Kd.R_base ho1)
                replace HO_1326002 := tldR HO_1326002 hb (Kd.R_base ho0) (Kd.R_base ho1)
                replace HO_1351001 := tldR HO_1351001 hb (Kd.R_base ho0) (Kd.R_base ho1)
                replace HO_1351002 := tldR HO_1351002 hb (Kd.R_base ho0) (Kd.R_base ho1)
                replace HOC2 := tldR HOC2 hb (Kd.R_base ho0) (Kd.R_base ho1)
                replace HOC3 := tldR HOC3 hb (Kd.R_base ho0) (Kd.R_base ho1)
                replace BKA0 := bkb BKA0 hb
                replace BKA1 := bkb BKA1 hb
                replace BKA2 := bkb BKA2 hb
                replace BKA3 := bkb BKA3 hb
                replace HB := bst HB hb
                (try clear hb)
                (try clear hb2)
                (try clear hk)
                (try clear hi)
                (try clear ho0)
                (try clear ho1)
                obtain ⟨AoK9, coK9, eoK9⟩ := Kd.R_slice HOC2.out
                (first | subst eoK9 | (injection eoK9 with f1_ f2_ f3_; have f4_ := f1_.symm; have f5_ := f3_.symm; clear f1_ f2_ f3_; subst f4_; subst f5_))
                obtain ⟨AoI3, coI3, eoI3⟩ := Kd.R_slice HOC3.out
                (first | subst eoI3 | (injection eoI3 with f1_ f2_ f3_; have f4_ := f1_.symm; have f5_ := f3_.symm; clear f1_ f2_ f3_; subst f4_; subst f5_))
                obtain ⟨AoI4, coI4, eoI4⟩ := Kd.R_slice HOC6.out
                (first | subst eoI4 | (injection eoI4 with f1_ f2_ f3_; have f4_ := f1_.symm; have f5_ := f3_.symm; clear f1_ f2_ f3_; subst f4_; subst f5_))
                obtain ⟨AoI5, coI5, eoI5⟩ := Kd.R_slice HOC7.out
                (first | subst eoI5 | (injection eoI5 with f1_ f2_ f3_; have f4_ := f1_.symm; have f5_ := f3_.symm; clear f1_ f2_ f3_; subst f4_; subst f5_))
                refine hK.out _ _ ⟨bce BKA0 0 _, bce BKA0 1 _, bce BKA0 2 _, bce BKA1 0 _, bce BKA1 1 _, bce BKA1 2 _⟩ (fun hHeld => ?_)
                clear hK K
                refine nm_ 98 ?_
                refine two_ (i := 4) (j := 8) (Ni := some 99) (Nj := some 15) (bm 11 31) (bm 11 271) rfl rfl rfl rfl (two_of HT_.out (by kernel_rfl)) (by decide) (by decide) (fun K hK => ?_) (fun K hK => ?_)
                ·
                 skip
                 refine g_ Try.func39 #[.agg #[.bool tD6, .slice AoK9 tH4.length coK9, .slice AoI3 tH5.length coI3], .agg #[.bool tD0, .slice AoI4 tH6.length coI4, .slice AoI5 tH7.length coI5]] ?_
                 with_reducible refine (impl_SubRat.calls kj114 tD6 _ _ tH4 _ _ tH5 tD0 _ _ tH6 _ _ tH7 tC5 tF7 tF8 tI9 _ ?side1 ?side2 ?side3 ?side4 ?side5 ?side6 ?side7 ?side8 AL3.out).mono ?_
                 (case side1 => exact crC (Kd.R_reads' HOC2.out).2.2)
                 (case side2 => exact (Kd.R_reads' HOC2.out).2.1)
                 (case side3 => exact crC (Kd.R_reads' HOC3.out).2.2)
                 (case side4 => exact (Kd.R_reads' HOC3.out).2.1)
                 (case side5 => exact crC (Kd.R_reads' HOC6.out).2.2)
                 (case side6 => exact (Kd.R_reads' HOC6.out).2.1)
                 (case side7 => exact crC (Kd.R_reads' HOC7.out).2.2)
                 (case side8 => exact (Kd.R_reads' HOC7.out).2.1)
                 rintro e wJ4 ⟨vH8, vH9, rfl, ho0, ho1, hb⟩
                 refine ⟨_, rfl, ?_⟩
                 have HOG9 := lwR (nwR (nwR (nwR (nwR (nwR (nwR (nwR (nwR ho0 HO_1326001) HO_1326002) HO_1351001) HO_1351002) HOC2) HOC3) HOC6) HOC7) HB
                 have HOH0 := lwR (nwR (nwR (nwR (nwR (nwR (nwR (nwR (nwR ho1 HO_1326001) HO_1326002) HO_1351001) HO_1351002) HOC2) HOC3) HOC6) HOC7) HB
                 replace HO_1326001 := tldR HO_1326001 hb (Kd.R_base ho0) (Kd.R_base ho1)
                 replace HO_1326002 := tldR HO_1326002 hb (Kd.R_base ho0) (Kd.R_base ho1)
                 replace HO_1351001 := tldR HO_1351001 hb (Kd.R_base ho0) (Kd.R_base ho1)
                 replace HO_1351002 := tldR HO_1351002 hb (Kd.R_base ho0) (Kd.R_base ho1)
                 replace HOC2 := tldR HOC2 hb (Kd.R_base ho0) (Kd.R_base ho1)
                 replace HOC3 := tldR HOC3 hb (Kd.R_base ho0) (Kd.R_base ho1)
                 replace HOC6 := tldR HOC6 hb (Kd.R_base ho0) (Kd.R_base ho1)
                 replace HOC7 := tldR HOC7 hb (Kd.R_base ho0) (Kd.R_base ho1)
                 replace BKA0 := bkb BKA0 hb
                 replace BKA1 := bkb BKA1 hb
                 replace BKA2 := bkb BKA2 hb
                 replace BKA3 := bkb BKA3 hb
                 replace HB := bst HB hb
                 (try clear hb)
                 (try clear hb2)
                 (try clear hk)
                 (try clear hi)
                 (try clear ho0)
                 (try clear ho1)
                 refine hK.out _ _ ⟨bce BKA0 0 _, bce BKA0 1 _, bce BKA0 2 _, bce BKA1 0 _, bce BKA1 1 _, bce BKA1 2 _⟩ (fun hHeld => ?_)
                 clear hK K
                 refine nm_ 99 ?_
                 refine pu_ 5 (some 94) (bm 11 63) HT_.out ?_
                 refine pu_ 6 (some 100) (bm 11 127) HT_.out ?_
                 refine pu_ 7 (some 101) (bm 11 255) HT_.out ?_
                 refine one_ (i := 8) (N := some 15) (bm 11 511) rfl rfl (one_of HT_.out (by kernel_rfl)) (by decide) (fun K hK => ?_)
                 refine bs_ (N := 15) (cs := #[.bool false, .slice none 0 0, .slice none 0 0]) (t := 24) ?_
                 intro gbA4 hg wP6 hbox hb
                 replace HO_1326001 := rblR HO_1326001 hb
                 replace HO_1326002 := rblR HO_1326002 hb
                 replace HO_1351001 := rblR HO_1351001 hb
                 replace HO_1351002 := rblR HO_1351002 hb
                 replace HOC2 := rblR HOC2 hb
                 replace HOC3 := rblR HOC3 hb
                 replace HOC6 := rblR HOC6 hb
                 replace HOC7 := rblR HOC7 hb
                 replace HOG9 := rblR HOG9 hb
                 replace HOH0 := rblR HOH0 hb
                 have BKA4 := Aside0.mk (hbox)
                 have GWA4 := geh hg HB
                 have GEA4 := geh hg HB
                 replace HB := bst HB hb
                 have NBA0_A4 := nlt hg BKA0
                 have NBA4_A0 := ngt hg BKA0
                 replace BKA0 := bkb BKA0 hb
                 have NBA1_A4 := nlt hg BKA1
                 have NBA4_A1 := ngt hg BKA1
                 replace BKA1 := bkb BKA1 hb
                 have NBA2_A4 := nlt hg BKA2
                 have NBA4_A2 := ngt hg BKA2
                 replace BKA2 := bkb BKA2 hb
                 have NBA3_A4 := nlt hg BKA3
                 have NBA4_A3 := ngt hg BKA3
                 replace BKA3 := bkb BKA3 hb
                 clear hb hbox hg
                 refine hK.out _ _ ⟨bce BKA0 0 _, bce BKA0 1 _, bce BKA0 2 _, bce BKA1 0 _, bce BKA1 1 _, bce BKA1 2 _⟩ (fun hHeld => ?_)
                 clear hK K
                 refine nm_ 15 ?_
                 exact nq_ (hCont (.slice AoK9 tH4.length coK9, .slice AoI3 tH5.length coI3, .slice AoI4 tH6.length coI4, .slice AoI5 tH7.length coI5, vH8, vH9, gbA4) _ ⟨hHeld, (crM HOC2 fun _ hk => ⟨hk.1.1.1.1.1.1.1.1, hk.1.1.1.2, hk.1.1.2, hk.1.2, hk.2, hk.1.1.1.1.1.1.1.2, hk.1.1.1.1.1.1.2, hk.1.1.1.1.1.2, hk.1.1.1.1.2⟩), (crM HOC3 fun _ hk => ⟨hk.1.1.1.1.1.1.1.1, hk.1.1.1.2, hk.1.1.2, hk.1.2, hk.2, hk.1.1.1.1.1.1.1.2, hk.1.1.1.1.1.1.2, hk.1.1.1.1.1.2, hk.1.1.1.1.2⟩), (crM HOC6 fun _ hk => ⟨hk.1.1.1.2, hk.1.1.2, hk.1.1.1.1.1.1.1.1, hk.1.2, hk.2, hk.1.1.1.1.1.1.1.2, hk.1.1.1.1.1.1.2, hk.1.1.1.1.1.2, hk.1.1.1.1.2⟩), (crM HOC7 fun _ hk => ⟨hk.1.1.1.2, hk.1.1.2, hk.1.1.1.1.1.1.1.1, hk.1.2, hk.2, hk.1.1.1.1.1.1.1.2, hk.1.1.1.1.1.1.2, hk.1.1.1.1.1.2, hk.1.1.1.1.2⟩), (crM HOG9 fun _ hk => ⟨hk.1.1.1.2, hk.1.1.2, hk.1.2, hk.2, hk.1.1.1.1.1.1.1.1, hk.1.1.1.1.1.1.1.2, hk.1.1.1.1.1.1.2, hk.1.1.1.1.1.2, hk.1.1.1.1.2⟩), (crM HOH0 fun _ hk => ⟨hk.1.1.1.2, hk.1.1.2, hk.1.2, hk.2, hk.1.1.1.1.1.1.1.1, hk.1.1.1.1.1.1.1.2, hk.1.1.1.1.1.1.2, hk.1.1.1.1.1.2, hk.1.1.1.1.2⟩), (crM HO_1326001 fun _ hk => ⟨hk.1.1.1.1.1.2, hk.1.1.1.1.2, hk.1.1.1.2, hk.1.1.2, hk.1.2, hk.2, hk.1.1.1.1.1.1.1, hk.1.1.1.1.1.1.2.1, hk.1.1.1.1.1.1.2.2⟩), (crM HO_1326002 fun _ hk => ⟨hk.1.1.1.1.1.2, hk.1.1.1.1.2, hk.1.1.1.2, hk.1.1.2, hk.1.2, hk.2, hk.1.1.1.1.1.1.1, hk.1.1.1.1.1.1.2.1, hk.1.1.1.1.1.1.2.2⟩), (crM HO_1351001 fun _ hk => ⟨hk.1.1.1.1.1.2, hk.1.1.1.1.2, hk.1.1.1.2, hk.1.1.2, hk.1.2, hk.2, hk.1.1.1.1.1.1.1, hk.1.1.1.1.1.1.2.1, hk.1.1.1.1.1.1.2.2⟩), (crM HO_1351002 fun _ hk => ⟨hk.1.1.1.1.1.2, hk.1.1.1.1.2, hk.1.1.1.2, hk.1.1.2, hk.1.2, hk.2, hk.1.1.1.1.1.1.1, hk.1.1.1.1.1.1.2.1, hk.1.1.1.1.1.1.2.2⟩), (crb BKA0), (crb BKA1), (crb BKA2), (crb BKA3), (crb BKA4), GWA4.out, GEA4.out, NBA0_A4.out, NBA4_A0.out, NBA1_A4.out, NBA4_A1.out, NBA2_A4.out, NBA4_A2.out, NBA3_A4.out, NBA4_A3.out, (blw HB)⟩)
                ·
                 skip
                 refine bs_ (N := 15) (cs := #[.bool false, .slice none 0 0, .slice none 0 0]) (t := 24) ?_
                 intro gbA4 hg wK9 hbox hb
                 replace HO_1326001 := rblR HO_1326001 hb
                 replace HO_1326002 := rblR HO_1326002 hb
                 replace HO_1351001 := rblR HO_1351001 hb
                 replace HO_1351002 := rblR HO_1351002 hb
                 replace HOC2 := rblR HOC2 hb
                 replace HOC3 := rblR HOC3 hb
                 replace HOC6 := rblR HOC6 hb
                 replace HOC7 := rblR HOC7 hb
                 have BKA4 := Aside0.mk (hbox)
                 have GWA4 := geh hg HB
                 have GEA4 := geh hg HB
                 replace HB := bst HB hb
                 have NBA0_A4 := nlt hg BKA0
                 have NBA4_A0 := ngt hg BKA0
                 replace BKA0 := bkb BKA0 hb
                 have NBA1_A4 := nlt hg BKA1
                 have NBA4_A1 := ngt hg BKA1
                 replace BKA1 := bkb BKA1 hb
                 have NBA2_A4 := nlt hg BKA2
                 have NBA4_A2 := ngt hg BKA2
                 replace BKA2 := bkb BKA2 hb
                 have NBA3_A4 := nlt hg BKA3
                 have NBA4_A3 := ngt hg BKA3
                 replace BKA3 := bkb BKA3 hb
                 clear hb hbox hg
                 obtain ⟨AoI3, coI3, eoI3⟩ := Kd.R_slice HOC2.out
                 (first | subst eoI3 | (injection eoI3 with f1_ f2_ f3_; have f4_ := f1_.symm; have f5_ := f3_.symm; clear f1_ f2_ f3_; subst f4_; subst f5_))
                 obtain ⟨AoI4, coI4, eoI4⟩ := Kd.R_slice HOC3.out
                 (first | subst eoI4 | (injection eoI4 with f1_ f2_ f3_; have f4_ := f1_.symm; have f5_ := f3_.symm; clear f1_ f2_ f3_; subst f4_; subst f5_))
                 obtain ⟨AoI5, coI5, eoI5⟩ := Kd.R_slice HOC6.out
                 (first | subst eoI5 | (injection eoI5 with f1_ f2_ f3_; have f4_ := f1_.symm; have f5_ := f3_.symm; clear f1_ f2_ f3_; subst f4_; subst f5_))
                 obtain ⟨AoJ4, coJ4, eoJ4⟩ := Kd.R_slice HOC7.out
                 (first | subst eoJ4 | (injection eoJ4 with f1_ f2_ f3_; have f4_ := f1_.symm; have f5_ := f3_.symm; clear f1_ f2_ f3_; subst f4_; subst f5_))
                 refine hK.out _ _ ⟨bce BKA0 0 _, bce BKA0 1 _, bce BKA0 2 _, bce BKA1 0 _, bce BKA1 1 _, bce BKA1 2 _⟩ (fun hHeld => ?_)
                 clear hK K
                 refine nm_ 15 ?_
                 refine one_ (i := 4) (N := some 99) (bm 11 287) rfl rfl (one_of HT_.out (by kernel_rfl)) (by decide) (fun K hK => ?_)
                 refine g_ Try.func39 #[.agg #[.bool tD6, .slice AoI3 tH4.length coI3, .slice AoI4 tH5.length coI4], .agg #[.bool tD0, .slice AoI5 tH6.length coI5, .slice AoJ4 tH7.length coJ4]] ?_
                 with_reducible refine (impl_SubRat.calls kj114 tD6 _ _ tH4 _ _ tH5 tD0 _ _ tH6 _ _ tH7 tC5 tF7 tF8 tI9 _ ?side1 ?side2 ?side3 ?side4 ?side5 ?side6 ?side7 ?side8 AL3.out).mono ?_
                 (case side1 => exact crC (Kd.R_reads' HOC2.out).2.2)
                 (case side2 => exact (Kd.R_reads' HOC2.out).2.1)
                 (case side3 => exact crC (Kd.R_reads' HOC3.out).2.2)
                 (case side4 => exact (Kd.R_reads' HOC3.out).2.1)
                 (case side5 => exact crC (Kd.R_reads' HOC6.out).2.2)
                 (case side6 => exact (Kd.R_reads' HOC6.out).2.1)
                 (case side7 => exact crC (Kd.R_reads' HOC7.out).2.2)
                 (case side8 => exact (Kd.R_reads' HOC7.out).2.1)
                 rintro e wP6 ⟨vH8, vH9, rfl, ho0, ho1, hb⟩
                 refine ⟨_, rfl, ?_⟩
                 have HOG9 := lwR (nwR (nwR (nwR (nwR (nwR (nwR (nwR (nwR ho0 HO_1326001) HO_1326002) HO_1351001) HO_1351002) HOC2) HOC3) HOC6) HOC7) HB
                 have HOH0 := lwR (nwR (nwR (nwR (nwR (nwR (nwR (nwR (nwR ho1 HO_1326001) HO_1326002) HO_1351001) HO_1351002) HOC2) HOC3) HOC6) HOC7) HB
                 replace HO_1326001 := tldR HO_1326001 hb (Kd.R_base ho0) (Kd.R_base ho1)
                 replace HO_1326002 := tldR HO_1326002 hb (Kd.R_base ho0) (Kd.R_base ho1)
                 replace HO_1351001 := tldR HO_1351001 hb (Kd.R_base ho0) (Kd.R_base ho1)
                 replace HO_1351002 := tldR HO_1351002 hb (Kd.R_base ho0) (Kd.R_base ho1)
                 replace HOC2 := tldR HOC2 hb (Kd.R_base ho0) (Kd.R_base ho1)
                 replace HOC3 := tldR HOC3 hb (Kd.R_base ho0) (Kd.R_base ho1)
                 replace HOC6 := tldR HOC6 hb (Kd.R_base ho0) (Kd.R_base ho1)
                 replace HOC7 := tldR HOC7 hb (Kd.R_base ho0) (Kd.R_base ho1)
                 replace BKA0 := bkb BKA0 hb
                 replace BKA1 := bkb BKA1 hb
                 replace BKA2 := bkb BKA2 hb
                 replace BKA3 := bkb BKA3 hb
                 replace BKA4 := bkb BKA4 hb
                 replace HB := bst HB hb
                 (try clear hb)
                 (try clear hb2)
                 (try clear hk)
                 (try clear hi)
                 (try clear ho0)
                 (try clear ho1)
                 refine hK.out _ _ ⟨bce BKA0 0 _, bce BKA0 1 _, bce BKA0 2 _, bce BKA1 0 _, bce BKA1 1 _, bce BKA1 2 _⟩ (fun hHeld => ?_)
                 clear hK K
                 refine nm_ 99 ?_
                 refine pu_ 5 (some 94) (bm 11 319) HT_.out ?_
                 refine pu_ 6 (some 100) (bm 11 383) HT_.out ?_
                 refine pu_ 7 (some 101) (bm 11 511) HT_.out ?_
                 exact nq_ (hCont (.slice AoI3 tH4.length coI3, .slice AoI4 tH5.length coI4, .slice AoI5 tH6.length coI5, .slice AoJ4 tH7.length coJ4, vH8, vH9, gbA4) _ ⟨hHeld, (crM HOC2 fun _ hk => ⟨hk.1.1.1.1.1.1.1.1, hk.1.1.1.2, hk.1.1.2, hk.1.2, hk.2, hk.1.1.1.1.1.1.1.2, hk.1.1.1.1.1.1.2, hk.1.1.1.1.1.2, hk.1.1.1.1.2⟩), (crM HOC3 fun _ hk => ⟨hk.1.1.1.1.1.1.1.1, hk.1.1.1.2, hk.1.1.2, hk.1.2, hk.2, hk.1.1.1.1.1.1.1.2, hk.1.1.1.1.1.1.2, hk.1.1.1.1.1.2, hk.1.1.1.1.2⟩), (crM HOC6 fun _ hk => ⟨hk.1.1.1.2, hk.1.1.2, hk.1.1.1.1.1.1.1.1, hk.1.2, hk.2, hk.1.1.1.1.1.1.1.2, hk.1.1.1.1.1.1.2, hk.1.1.1.1.1.2, hk.1.1.1.1.2⟩), (crM HOC7 fun _ hk => ⟨hk.1.1.1.2, hk.1.1.2, hk.1.1.1.1.1.1.1.1, hk.1.2, hk.2, hk.1.1.1.1.1.1.1.2, hk.1.1.1.1.1.1.2, hk.1.1.1.1.1.2, hk.1.1.1.1.2⟩), (crM HOG9 fun _ hk => ⟨hk.1.1.1.2, hk.1.1.2, hk.1.2, hk.2, hk.1.1.1.1.1.1.1.1, hk.1.1.1.1.1.1.1.2, hk.1.1.1.1.1.1.2, hk.1.1.1.1.1.2, hk.1.1.1.1.2⟩), (crM HOH0 fun _ hk => ⟨hk.1.1.1.2, hk.1.1.2, hk.1.2, hk.2, hk.1.1.1.1.1.1.1.1, hk.1.1.1.1.1.1.1.2, hk.1.1.1.1.1.1.2, hk.1.1.1.1.1.2, hk.1.1.1.1.2⟩), (crM HO_1326001 fun _ hk => ⟨hk.1.1.1.1.1.2, hk.1.1.1.1.2, hk.1.1.1.2, hk.1.1.2, hk.1.2, hk.2, hk.1.1.1.1.1.1.1, hk.1.1.1.1.1.1.2.1, hk.1.1.1.1.1.1.2.2⟩), (crM HO_1326002 fun _ hk => ⟨hk.1.1.1.1.1.2, hk.1.1.1.1.2, hk.1.1.1.2, hk.1.1.2, hk.1.2, hk.2, hk.1.1.1.1.1.1.1, hk.1.1.1.1.1.1.2.1, hk.1.1.1.1.1.1.2.2⟩), (crM HO_1351001 fun _ hk => ⟨hk.1.1.1.1.1.2, hk.1.1.1.1.2, hk.1.1.1.2, hk.1.1.2, hk.1.2, hk.2, hk.1.1.1.1.1.1.1, hk.1.1.1.1.1.1.2.1, hk.1.1.1.1.1.1.2.2⟩), (crM HO_1351002 fun _ hk => ⟨hk.1.1.1.1.1.2, hk.1.1.1.1.2, hk.1.1.1.2, hk.1.1.2, hk.1.2, hk.2, hk.1.1.1.1.1.1.1, hk.1.1.1.1.1.1.2.1, hk.1.1.1.1.1.1.2.2⟩), (crb BKA0), (crb BKA1), (crb BKA2), (crb BKA3), (crb BKA4), GWA4.out, GEA4.out, NBA0_A4.out, NBA4_A0.out, NBA1_A4.out, NBA4_A1.out, NBA2_A4.out, NBA4_A2.out, NBA3_A4.out, NBA4_A3.out, (blw HB)⟩)
               ·
                skip
                refine bs_ (N := 15) (cs := #[.bool false, .slice none 0 0, .slice none 0 0]) (t := 24) ?_
                intro gbA4 hg wT2 hbox hb
                replace HO_1326001 := rblR HO_1326001 hb
                replace HO_1326002 := rblR HO_1326002 hb
                replace HO_1351001 := rblR HO_1351001 hb
                replace HO_1351002 := rblR HO_1351002 hb
                replace HOC2 := rblR HOC2 hb
                replace HOC3 := rblR HOC3 hb
                have BKA4 := Aside0.mk (hbox)
                have GWA4 := geh hg HB
                have GEA4 := geh hg HB
                replace HB := bst HB hb
                have NBA0_A4 := nlt hg BKA0
                have NBA4_A0 := ngt hg BKA0
                replace BKA0 := bkb BKA0 hb
                have NBA1_A4 := nlt hg BKA1
                have NBA4_A1 := ngt hg BKA1
                replace BKA1 := bkb BKA1 hb
                have NBA2_A4 := nlt hg BKA2
                have NBA4_A2 := ngt hg BKA2
                replace BKA2 := bkb BKA2 hb
                have NBA3_A4 := nlt hg BKA3
                have NBA4_A3 := ngt hg BKA3
                replace BKA3 := bkb BKA3 hb
                clear hb hbox hg
                refine hK.out _ _ ⟨bce BKA0 0 _, bce BKA0 1 _, bce BKA0 2 _, bce BKA1 0 _, bce BKA1 1 _, bce BKA1 2 _⟩ (fun hHeld => ?_)
                clear hK K
                refine nm_ 15 ?_
                refine one_ (i := 3) (N := some 98) (bm 11 271) rfl rfl (one_of HT_.out (by kernel_rfl)) (by decide) (fun K hK => ?_)
                refine g_ Try.func22 #[.agg #[.bool a1_0, .slice A1_1 l1_1.length c1_1, .slice A1_2 l1_2.length c1_2]] ?_
                with_reducible refine (laws_toRat.calls kj114 a1_0 _ _ l1_1 _ _ l1_2 tD0 tH6 tH7 _ ?side1 ?side2 ?side3 ?side4 AP4.out).mono ?_
                (case side1 => exact crC (Kd.C_below HR1_1.out HB.out))
                (case side2 => exact HC1_1.out)
                (case side3 => exact crC (Kd.C_below HR1_2.out HB.out))
                (case side4 => exact HC1_2.out)
                rintro e wK9 ⟨vF9, vG0, rfl, ho0, ho1, hb⟩
                refine ⟨_, rfl, ?_⟩
                have HOC6 := lwR (nwR (nwR (nwR (nwR (nwR (nwR ho0 HO_1326001) HO_1326002) HO_1351001) HO_1351002) HOC2) HOC3) HB
                have HOC7 := lwR (nwR (nwR (nwR (nwR (nwR (nwR ho1 HO_1326001) HO_1326002) HO_1351001) HO_1351002) HOC2) HOC3) HB
                replace HO_1326001 := tldR HO_1326001 hb (Kd.R_base ho0) (Kd.R_base ho1)
                replace HO_1326002 := tldR HO_1326002 hb (Kd.R_base ho0) (Kd.R_base ho1)
                replace HO_1351001 := tldR HO_1351001 hb (Kd.R_base ho0) (Kd.R_base ho1)
                replace HO_1351002 := tldR HO_1351002 hb (Kd.R_base ho0) (Kd.R_base ho1)
                replace HOC2 := tldR HOC2 hb (Kd.R_base ho0) (Kd.R_base ho1)
                replace HOC3 := tldR HOC3 hb (Kd.R_base ho0) (Kd.R_base ho1)
                replace BKA0 := bkb BKA0 hb
                replace BKA1 := bkb BKA1 hb
                replace BKA2 := bkb BKA2 hb
                replace BKA3 := bkb BKA3 hb
                replace BKA4 := bkb BKA4 hb
                replace HB := bst HB hb
                (try clear hb)
                (try clear hb2)
                (try clear hk)
                (try clear hi)
                (try clear ho0)
                (try clear ho1)
                obtain ⟨AoI3, coI3, eoI3⟩ := Kd.R_slice HOC2.out
                (first | subst eoI3 | (injection eoI3 with f1_ f2_ f3_; have f4_ := f1_.symm; have f5_ := f3_.symm; clear f1_ f2_ f3_; subst f4_; subst f5_))
                obtain ⟨AoI4, coI4, eoI4⟩ := Kd.R_slice HOC3.out
                (first | subst eoI4 | (injection eoI4 with f1_ f2_ f3_; have f4_ := f1_.symm; have f5_ := f3_.symm; clear f1_ f2_ f3_; subst f4_; subst f5_))
                obtain ⟨AoI5, coI5, eoI5⟩ := Kd.R_slice HOC6.out
                (first | subst eoI5 | (injection eoI5 with f1_ f2_ f3_; have f4_ := f1_.symm; have f5_ := f3_.symm; clear f1_ f2_ f3_; subst f4_; subst f5_))
                obtain ⟨AoJ4, coJ4, eoJ4⟩ := Kd.R_slice HOC7.out
                (first | subst eoJ4 | (injection eoJ4 with f1_ f2_ f3_; have f4_ := f1_.symm; have f5_ := f3_.symm; clear f1_ f2_ f3_; subst f4_; subst f5_))
                refine hK.out _ _ ⟨bce BKA0 0 _, bce BKA0 1 _, bce BKA0 2 _, bce BKA1 0 _, bce BKA1 1 _, bce BKA1 2 _⟩ (fun hHeld => ?_)
                clear hK K
                refine nm_ 98 ?_
                refine one_ (i := 4) (N := some 99) (bm 11 287) rfl rfl (one_of HT_.out (by kernel_rfl)) (by decide) (fun K hK => ?_)
                refine g_ Try.func39 #[.agg #[.bool tD6, .slice AoI3 tH4.length coI3, .slice AoI4 tH5.length coI4], .agg #[.bool tD0, .slice AoI5 tH6.length coI5, .slice AoJ4 tH7.length coJ4]] ?_
                with_reducible refine (impl_SubRat.calls kj114 tD6 _ _ tH4 _ _ tH5 tD0 _ _ tH6 _ _ tH7 tC5 tF7 tF8 tI9 _ ?side1 ?side2 ?side3 ?side4 ?side5 ?side6 ?side7 ?side8 AL3.out).mono ?_
                (case side1 => exact crC (Kd.R_reads' HOC2.out).2.2)
                (case side2 => exact (Kd.R_reads' HOC2.out).2.1)
                (case side3 => exact crC (Kd.R_reads' HOC3.out).2.2)
                (case side4 => exact (Kd.R_reads' HOC3.out).2.1)
                (case side5 => exact crC (Kd.R_reads' HOC6.out).2.2)
                (case side6 => exact (Kd.R_reads' HOC6.out).2.1)
                (case side7 => exact crC (Kd.R_reads' HOC7.out).2.2)
                (case side8 => exact (Kd.R_reads' HOC7.out).2.1)
                rintro e wP6 ⟨vH8, vH9, rfl, ho0, ho1, hb⟩
                refine ⟨_, rfl, ?_⟩
                have HOG9 := lwR (nwR (nwR (nwR (nwR (nwR (nwR (nwR (nwR ho0 HO_1326001) HO_1326002) HO_1351001) HO_1351002) HOC2) HOC3) HOC6) HOC7) HB
                have HOH0 := lwR (nwR (nwR (nwR (nwR (nwR (nwR (nwR (nwR ho1 HO_1326001) HO_1326002) HO_1351001) HO_1351002) HOC2) HOC3) HOC6) HOC7) HB
                replace HO_1326001 := tldR HO_1326001 hb (Kd.R_base ho0) (Kd.R_base ho1)
                replace HO_1326002 := tldR HO_1326002 hb (Kd.R_base ho0) (Kd.R_base ho1)
                replace HO_1351001 := tldR HO_1351001 hb (Kd.R_base ho0) (Kd.R_base ho1)
                replace HO_1351002 := tldR HO_1351002 hb (Kd.R_base ho0) (Kd.R_base ho1)
                replace HOC2 := tldR HOC2 hb (Kd.R_base ho0) (Kd.R_base ho1)
                replace HOC3 := tldR HOC3 hb (Kd.R_base ho0) (Kd.R_base ho1)
                replace HOC6 := tldR HOC6 hb (Kd.R_base ho0) (Kd.R_base ho1)
                replace HOC7 := tldR HOC7 hb (Kd.R_base ho0) (Kd.R_base ho1)
                replace BKA0 := bkb BKA0 hb
                replace BKA1 := bkb BKA1 hb
                replace BKA2 := bkb BKA2 hb
                replace BKA3 := bkb BKA3 hb
                replace BKA4 := bkb BKA4 hb
                replace HB := bst HB hb
                (try clear hb)
                (try clear hb2)
                (try clear hk)
                (try clear hi)
                (try clear ho0)
                (try clear ho1)
                refine hK.out _ _ ⟨bce BKA0 0 _, bce BKA0 1 _, bce BKA0 2 _, bce BKA1 0 _, bce BKA1 1 _, bce BKA1 2 _⟩ (fun hHeld => ?_)
                clear hK K
                refine nm_ 99 ?_
                refine pu_ 5 (some 94) (bm 11 319) HT_.out ?_
                refine pu_ 6 (some 100) (bm 11 383) HT_.out ?_
                refine pu_ 7 (some 101) (bm 11 511) HT_.out ?_
                exact nq_ (hCont (.slice AoI3 tH4.length coI3, .slice AoI4 tH5.length coI4, .slice AoI5 tH6.length coI5, .slice AoJ4 tH7.length coJ4, vH8, vH9, gbA4) _ ⟨hHeld, (crM HOC2 fun _ hk => ⟨hk.1.1.1.1.1.1.1.1, hk.1.1.1.2, hk.1.1.2, hk.1.2, hk.2, hk.1.1.1.1.1.1.1.2, hk.1.1.1.1.1.1.2, hk.1.1.1.1.1.2, hk.1.1.1.1.2⟩), (crM HOC3 fun _ hk => ⟨hk.1.1.1.1.1.1.1.1, hk.1.1.1.2, hk.1.1.2, hk.1.2, hk.2, hk.1.1.1.1.1.1.1.2, hk.1.1.1.1.1.1.2, hk.1.1.1.1.1.2, hk.1.1.1.1.2⟩), (crM HOC6 fun _ hk => ⟨hk.1.1.1.2, hk.1.1.2, hk.1.1.1.1.1.1.1.1, hk.1.2, hk.2, hk.1.1.1.1.1.1.1.2, hk.1.1.1.1.1.1.2, hk.1.1.1.1.1.2, hk.1.1.1.1.2⟩), (crM HOC7 fun _ hk => ⟨hk.1.1.1.2, hk.1.1.2, hk.1.1.1.1.1.1.1.1, hk.1.2, hk.2, hk.1.1.1.1.1.1.1.2, hk.1.1.1.1.1.1.2, hk.1.1.1.1.1.2, hk.1.1.1.1.2⟩), (crM HOG9 fun _ hk => ⟨hk.1.1.1.2, hk.1.1.2, hk.1.2, hk.2, hk.1.1.1.1.1.1.1.1, hk.1.1.1.1.1.1.1.2, hk.1.1.1.1.1.1.2, hk.1.1.1.1.1.2, hk.1.1.1.1.2⟩), (crM HOH0 fun _ hk => ⟨hk.1.1.1.2, hk.1.1.2, hk.1.2, hk.2, hk.1.1.1.1.1.1.1.1, hk.1.1.1.1.1.1.1.2, hk.1.1.1.1.1.1.2, hk.1.1.1.1.1.2, hk.1.1.1.1.2⟩), (crM HO_1326001 fun _ hk => ⟨hk.1.1.1.1.1.2, hk.1.1.1.1.2, hk.1.1.1.2, hk.1.1.2, hk.1.2, hk.2, hk.1.1.1.1.1.1.1, hk.1.1.1.1.1.1.2.1, hk.1.1.1.1.1.1.2.2⟩), (crM HO_1326002 fun _ hk => ⟨hk.1.1.1.1.1.2, hk.1.1.1.1.2, hk.1.1.1.2, hk.1.1.2, hk.1.2, hk.2, hk.1.1.1.1.1.1.1, hk.1.1.1.1.1.1.2.1, hk.1.1.1.1.1.1.2.2⟩), (crM HO_1351001 fun _ hk => ⟨hk.1.1.1.1.1.2, hk.1.1.1.1.2, hk.1.1.1.2, hk.1.1.2, hk.1.2, hk.2, hk.1.1.1.1.1.1.1, hk.1.1.1.1.1.1.2.1, hk.1.1.1.1.1.1.2.2⟩), (crM HO_1351002 fun _ hk => ⟨hk.1.1.1.1.1.2, hk.1.1.1.1.2, hk.1.1.1.2, hk.1.1.2, hk.1.2, hk.2, hk.1.1.1.1.1.1.1, hk.1.1.1.1.1.1.2.1, hk.1.1.1.1.1.1.2.2⟩), (crb BKA0), (crb BKA1), (crb BKA2), (crb BKA3), (crb BKA4), GWA4.out, GEA4.out, NBA0_A4.out, NBA4_A0.out, NBA1_A4.out, NBA4_A1.out, NBA2_A4.out, NBA4_A2.out, NBA3_A4.out, NBA4_A3.out, (blw HB)⟩)
              ·
               skip
               refine bs_ (N := 15) (cs := #[.bool false, .slice none 0 0, .slice none 0 0]) (t := 24) ?_
               intro gbA4 hg wO3 hbox hb
               replace HO_1326001 := rblR HO_1326001 hb
               replace HO_1326002 := rblR HO_1326002 hb
               replace HO_1351001 := rblR HO_1351001 hb
               replace HO_1351002 := rblR HO_1351002 hb
               have BKA4 := Aside0.mk (hbox)
               have GWA4 := geh hg HB
               have GEA4 := geh hg HB
               replace HB := bst HB hb
               have NBA0_A4 := nlt hg BKA0
               have NBA4_A0 := ngt hg BKA0
               replace BKA0 := bkb BKA0 hb
               have NBA1_A4 := nlt hg BKA1
               have NBA4_A1 := ngt hg BKA1
               replace BKA1 := bkb BKA1 hb
               have NBA2_A4 := nlt hg BKA2
               have NBA4_A2 := ngt hg BKA2
               replace BKA2 := bkb BKA2 hb
               have NBA3_A4 := nlt hg BKA3
               have NBA4_A3 := ngt hg BKA3
               replace BKA3 := bkb BKA3 hb
               clear hb hbox hg
               refine hK.out _ _ ⟨bce BKA0 0 _, bce BKA0 1 _, bce BKA0 2 _, bce BKA1 0 _, bce BKA1 1 _, bce BKA1 2 _⟩ (fun hHeld => ?_)
               clear hK K
               refine nm_ 15 ?_
               refine one_ (i := 1) (N := some 96) (bm 11 263) rfl rfl (one_of HT_.out (by kernel_rfl)) (by decide) (fun K hK => ?_)
               refine g_ Try.func22 #[.agg #[.bool a0_0, .slice A0_1 l0_1.length c0_1, .slice A0_2 l0_2.length c0_2]] ?_
               with_reducible refine (laws_toRat.calls kj114 a0_0 _ _ l0_1 _ _ l0_2 tD6 tH4 tH5 _ ?side1 ?side2 ?side3 ?side4 AT1.out).mono ?_
               (case side1 => exact crC (Kd.C_below HR0_1.out HB.out))
               (case side2 => exact HC0_1.out)
               (case side3 => exact crC (Kd.C_below HR0_2.out HB.out))
               (case side4 => exact HC0_2.out)
               rintro e wT2 ⟨vG7, vG8, rfl, ho0, ho1, hb⟩
               refine ⟨_, rfl, ?_⟩
               have HOC2 := lwR (nwR (nwR (nwR (nwR ho0 HO_1326001) HO_1326002) HO_1351001) HO_1351002) HB
               have HOC3 := lwR (nwR (nwR (nwR (nwR ho1 HO_1326001) HO_1326002) HO_1351001) HO_1351002) HB
               replace HO_1326001 := tldR HO_1326001 hb (Kd.R_base ho0) (Kd.R_base ho1)
               replace HO_1326002 := tldR HO_1326002 hb (Kd.R_base ho0) (Kd.R_base ho1)
               replace HO_1351001 := tldR HO_1351001 hb (Kd.R_base ho0) (Kd.R_base ho1)
               replace HO_1351002 := tldR HO_1351002 hb (Kd.R_base ho0) (Kd.R_base ho1)
               replace BKA0 := bkb BKA0 hb
               replace BKA1 := bkb BKA1 hb
               replace BKA2 := bkb BKA2 hb
               replace BKA3 := bkb BKA3 hb
               replace BKA4 := bkb BKA4 hb
               replace HB := bst HB hb
               (try clear hb)
               (try clear hb2)
               (try clear hk)
               (try clear hi)
               (try clear ho0)
               (try clear ho1)
               refine hK.out _ _ ⟨bce BKA0 0 _, bce BKA0 1 _, bce BKA0 2 _, bce BKA1 0 _, bce BKA1 1 _, bce BKA1 2 _⟩ (fun hHeld => ?_)
               clear hK K
               refine nm_ 96 ?_
               refine one_ (i := 3) (N := some 98) (bm 11 271) rfl rfl (one_of HT_.out (by kernel_rfl)) (by decide) (fun K hK => ?_)
               refine g_ Try.func22 #[.agg #[.bool a1_0, .slice A1_1 l1_1.length c1_1, .slice A1_2 l1_2.length c1_2]] ?_
               with_reducible refine (laws_toRat.calls kj114 a1_0 _ _ l1_1 _ _ l1_2 tD0 tH6 tH7 _ ?side1 ?side2 ?side3 ?side4 AP4.out).mono ?_
               (case side1 => exact crC (Kd.C_below HR1_1.out HB.out))
               (case side2 => exact HC1_1.out)
               (case side3 => exact crC (Kd.C_below HR1_2.out HB.out))
               (case side4 => exact HC1_2.out)
               rintro e wK9 ⟨vF9, vG0, rfl, ho0, ho1, hb⟩
               refine ⟨_, rfl, ?_⟩
               have HOC6 := lwR (nwR (nwR (nwR (nwR (nwR (nwR ho0 HO_1326001) HO_1326002) HO_1351001) HO_1351002) HOC2) HOC3) HB
               have HOC7 := lwR (nwR (nwR (nwR (nwR (nwR (nwR ho1 HO_1326001) HO_1326002) HO_1351001) HO_1351002) HOC2) HOC3) HB
               replace HO_1326001 := tldR HO_1326001 hb (Kd.R_base ho0) (Kd.R_base ho1)
               replace HO_1326002 := tldR HO_1326002 hb (Kd.R_base ho0) (Kd.R_base ho1)
               replace HO_1351001 := tldR HO_1351001 hb (Kd.R_base ho0) (Kd.R_base ho1)
               replace HO_1351002 := tldR HO_1351002 hb (Kd.R_base ho0) (Kd.R_base ho1)
               replace HOC2 := tldR HOC2 hb (Kd.R_base ho0) (Kd.R_base ho1)
               replace HOC3 := tldR HOC3 hb (Kd.R_base ho0) (Kd.R_base ho1)
               replace BKA0 := bkb BKA0 hb
               replace BKA1 := bkb BKA1 hb
               replace BKA2 := bkb BKA2 hb
               replace BKA3 := bkb BKA3 hb
               replace BKA4 := bkb BKA4 hb
               replace HB := bst HB hb
               (try clear hb)
               (try clear hb2)
               (try clear hk)
               (try clear hi)
               (try clear ho0)
               (try clear ho1)
               obtain ⟨AoI3, coI3, eoI3⟩ := Kd.R_slice HOC2.out
               (first | subst eoI3 | (injection eoI3 with f1_ f2_ f3_; have f4_ := f1_.symm; have f5_ := f3_.symm; clear f1_ f2_ f3_; subst f4_; subst f5_))
               obtain ⟨AoI4, coI4, eoI4⟩ := Kd.R_slice HOC3.out
               (first | subst eoI4 | (injection eoI4 with f1_ f2_ f3_; have f4_ := f1_.symm; have f5_ := f3_.symm; clear f1_ f2_ f3_; subst f4_; subst f5_))
               obtain ⟨AoI5, coI5, eoI5⟩ := Kd.R_slice HOC6.out
               (first | subst eoI5 | (injection eoI5 with f1_ f2_ f3_; have f4_ := f1_.symm; have f5_ := f3_.symm; clear f1_ f2_ f3_; subst f4_; subst f5_))
               obtain ⟨AoJ4, coJ4, eoJ4⟩ := Kd.R_slice HOC7.out
               (first | subst eoJ4 | (injection eoJ4 with f1_ f2_ f3_; have f4_ := f1_.symm; have f5_ := f3_.symm; clear f1_ f2_ f3_; subst f4_; subst f5_))
               refine hK.out _ _ ⟨bce BKA0 0 _, bce BKA0 1 _, bce BKA0 2 _, bce BKA1 0 _, bce BKA1 1 _, bce BKA1 2 _⟩ (fun hHeld => ?_)
               clear hK K
               refine nm_ 98 ?_
               refine one_ (i := 4) (N := some 99) (bm 11 287) rfl rfl (one_of HT_.out (by kernel_rfl)) (by decide) (fun K hK => ?_)
               refine g_ Try.func39 #[.agg #[.bool tD6, .slice AoI3 tH4.length coI3, .slice AoI4 tH5.length coI4], .agg #[.bool tD0, .slice AoI5 tH6.length coI5, .slice AoJ4 tH7.length coJ4]] ?_
               with_reducible refine (impl_SubRat.calls kj114 tD6 _ _ tH4 _ _ tH5 tD0 _ _ tH6 _ _ tH7 tC5 tF7 tF8 tI9 _ ?side1 ?side2 ?side3 ?side4 ?side5 ?side6 ?side7 ?side8 AL3.out).mono ?_
               (case side1 => exact crC (Kd.R_reads' HOC2.out).2.2)
               (case side2 => exact (Kd.R_reads' HOC2.out).2.1)
               (case side3 => exact crC (Kd.R_reads' HOC3.out).2.2)
               (case side4 => exact (Kd.R_reads' HOC3.out).2.1)
               (case side5 => exact crC (Kd.R_reads' HOC6.out).2.2)
               (case side6 => exact (Kd.R_reads' HOC6.out).2.1)
               (case side7 => exact crC (Kd.R_reads' HOC7.out).2.2)
               (case side8 => exact (Kd.R_reads' HOC7.out).2.1)
               rintro e wP6 ⟨vH8, vH9, rfl, ho0, ho1, hb⟩
               refine ⟨_, rfl, ?_⟩
               have HOG9 := lwR (nwR (nwR (nwR (nwR (nwR (nwR (nwR (nwR ho0 HO_1326001) HO_1326002) HO_1351001) HO_1351002) HOC2) HOC3) HOC6) HOC7) HB
               have HOH0 := lwR (nwR (nwR (nwR (nwR (nwR (nwR (nwR (nwR ho1 HO_1326001) HO_1326002) HO_1351001) HO_1351002) HOC2) HOC3) HOC6) HOC7) HB
               replace HO_1326001 := tldR HO_1326001 hb (Kd.R_base ho0) (Kd.R_base ho1)
               replace HO_1326002 := tldR HO_1326002 hb (Kd.R_base ho0) (Kd.R_base ho1)
               replace HO_1351001 := tldR HO_1351001 hb (Kd.R_base ho0) (Kd.R_base ho1)
               replace HO_1351002 := tldR HO_1351002 hb (Kd.R_base ho0) (Kd.R_base ho1)
               replace HOC2 := tldR HOC2 hb (Kd.R_base ho0) (Kd.R_base ho1)
               replace HOC3 := tldR HOC3 hb (Kd.R_base ho0) (Kd.R_base ho1)
               replace HOC6 := tldR HOC6 hb (Kd.R_base ho0) (Kd.R_base ho1)
               replace HOC7 := tldR HOC7 hb (Kd.R_base ho0) (Kd.R_base ho1)
               replace BKA0 := bkb BKA0 hb
               replace BKA1 := bkb BKA1 hb
               replace BKA2 := bkb BKA2 hb
               replace BKA3 := bkb BKA3 hb
               replace BKA4 := bkb BKA4 hb
               replace HB := bst HB hb
               (try clear hb)
               (try clear hb2)
               (try clear hk)
               (try clear hi)
               (try clear ho0)
               (try clear ho1)
               refine hK.out _ _ ⟨bce BKA0 0 _, bce BKA0 1 _, bce BKA0 2 _, bce BKA1 0 _, bce BKA1 1 _, bce BKA1 2 _⟩ (fun hHeld => ?_)
               clear hK K
               refine nm_ 99 ?_
               refine pu_ 5 (some 94) (bm 11 319) HT_.out ?_
               refine pu_ 6 (some 100) (bm 11 383) HT_.out ?_
               refine pu_ 7 (some 101) (bm 11 511) HT_.out ?_
               exact nq_ (hCont (.slice AoI3 tH4.length coI3, .slice AoI4 tH5.length coI4, .slice AoI5 tH6.length coI5, .slice AoJ4 tH7.length coJ4, vH8, vH9, gbA4) _ ⟨hHeld, (crM HOC2 fun _ hk => ⟨hk.1.1.1.1.1.1.1.1, hk.1.1.1.2, hk.1.1.2, hk.1.2, hk.2, hk.1.1.1.1.1.1.1.2, hk.1.1.1.1.1.1.2, hk.1.1.1.1.1.2, hk.1.1.1.1.2⟩), (crM HOC3 fun _ hk => ⟨hk.1.1.1.1.1.1.1.1, hk.1.1.1.2, hk.1.1.2, hk.1.2, hk.2, hk.1.1.1.1.1.1.1.2, hk.1.1.1.1.1.1.2, hk.1.1.1.1.1.2, hk.1.1.1.1.2⟩), (crM HOC6 fun _ hk => ⟨hk.1.1.1.2, hk.1.1.2, hk.1.1.1.1.1.1.1.1, hk.1.2, hk.2, hk.1.1.1.1.1.1.1.2, hk.1.1.1.1.1.1.2, hk.1.1.1.1.1.2, hk.1.1.1.1.2⟩), (crM HOC7 fun _ hk => ⟨hk.1.1.1.2, hk.1.1.2, hk.1.1.1.1.1.1.1.1, hk.1.2, hk.2, hk.1.1.1.1.1.1.1.2, hk.1.1.1.1.1.1.2, hk.1.1.1.1.1.2, hk.1.1.1.1.2⟩), (crM HOG9 fun _ hk => ⟨hk.1.1.1.2, hk.1.1.2, hk.1.2, hk.2, hk.1.1.1.1.1.1.1.1, hk.1.1.1.1.1.1.1.2, hk.1.1.1.1.1.1.2, hk.1.1.1.1.1.2, hk.1.1.1.1.2⟩), (crM HOH0 fun _ hk => ⟨hk.1.1.1.2, hk.1.1.2, hk.1.2, hk.2, hk.1.1.1.1.1.1.1.1, hk.1.1.1.1.1.1.1.2, hk.1.1.1.1.1.1.2, hk.1.1.1.1.1.2, hk.1.1.1.1.2⟩), (crM HO_1326001 fun _ hk => ⟨hk.1.1.1.1.1.2, hk.1.1.1.1.2, hk.1.1.1.2, hk.1.1.2, hk.1.2, hk.2, hk.1.1.1.1.1.1.1, hk.1.1.1.1.1.1.2.1, hk.1.1.1.1.1.1.2.2⟩), (crM HO_1326002 fun _ hk => ⟨hk.1.1.1.1.1.2, hk.1.1.1.1.2, hk.1.1.1.2, hk.1.1.2, hk.1.2, hk.2, hk.1.1.1.1.1.1.1, hk.1.1.1.1.1.1.2.1, hk.1.1.1.1.1.1.2.2⟩), (crM HO_1351001 fun _ hk => ⟨hk.1.1.1.1.1.2, hk.1.1.1.1.2, hk.1.1.1.2, hk.1.1.2, hk.1.2, hk.2, hk.1.1.1.1.1.1.1, hk.1.1.1.1.1.1.2.1, hk.1.1.1.1.1.1.2.2⟩), (crM HO_1351002 fun _ hk => ⟨hk.1.1.1.1.1.2, hk.1.1.1.1.2, hk.1.1.1.2, hk.1.1.2, hk.1.2, hk.2, hk.1.1.1.1.1.1.1, hk.1.1.1.1.1.1.2.1, hk.1.1.1.1.1.1.2.2⟩), (crb BKA0), (crb BKA1), (crb BKA2), (crb BKA3), (crb BKA4), GWA4.out, GEA4.out, NBA0_A4.out, NBA4_A0.out, NBA1_A4.out, NBA4_A1.out, NBA2_A4.out, NBA4_A2.out, NBA3_A4.out, NBA4_A3.out, (blw HB)⟩)
             rintro ⟨vG7, vG8, vF9, vG0, vH8, vH9, gbA4⟩ wJ8 ⟨hS_, h0_, h1_, h2_, h3_, h4_, h5_, h6_, h7_, h8_, h9_, h10_, h11_, h12_, h13_, h14_, h15_, h16_, h17_, h18_, h19_, h20_, h21_, h22_, h23_, h24_, h25_⟩
             have HOC2 : Aside0 (Kd.R (Kd.int .i64) 3 wJ8 w.heap.size (fun k_ => nO k_ vG8 ∧ nO k_ vF9 ∧ nO k_ vG0 ∧ nO k_ vH8 ∧ nO k_ vH9 ∧ nO k_ (.slice Ao44 tA7.length co44) ∧ nO k_ (.slice Ao46 tA8.length co46) ∧ nO k_ (.slice Ao78 tA9.length co78) ∧ nO k_ (.slice Ao79 tB0.length co79)) vG7 tH4) := ⟨h0_⟩
             have HOC3 : Aside0 (Kd.R (Kd.int .i64) 3 wJ8 w.heap.size (fun k_ => nO k_ vG7 ∧ nO k_ vF9 ∧ nO k_ vG0 ∧ nO k_ vH8 ∧ nO k_ vH9 ∧ nO k_ (.slice Ao44 tA7.length co44) ∧ nO k_ (.slice Ao46 tA8.length co46) ∧ nO k_ (.slice Ao78 tA9.length co78) ∧ nO k_ (.slice Ao79 tB0.length co79)) vG8 tH5) := ⟨h1_⟩
             have HOC6 : Aside0 (Kd.R (Kd.int .i64) 3 wJ8 w.heap.size (fun k_ => nO k_ vG7 ∧ nO k_ vG8 ∧ nO k_ vG0 ∧ nO k_ vH8 ∧ nO k_ vH9 ∧ nO k_ (.slice Ao44 tA7.length co44) ∧ nO k_ (.slice Ao46 tA8.length co46) ∧ nO k_ (.slice Ao78 tA9.length co78) ∧ nO k_ (.slice Ao79 tB0.length co79)) vF9 tH6) := ⟨h2_⟩
             have HOC7 : Aside0 (Kd.R (Kd.int .i64) 3 wJ8 w.heap.size (fun k_ => nO k_ vG7 ∧ nO k_ vG8 ∧ nO k_ vF9 ∧ nO k_ vH8 ∧ nO k_ vH9 ∧ nO k_ (.slice Ao44 tA7.length co44) ∧ nO k_ (.slice Ao46 tA8.length co46) ∧ nO k_ (.slice Ao78 tA9.length co78) ∧ nO k_ (.slice Ao79 tB0.length co79)) vG0 tH7) := ⟨h3_⟩
             have HOG9 : Aside0 (Kd.R (Kd.int .i64) 3 wJ8 w.heap.size (fun k_ => nO k_ vG7 ∧ nO k_ vG8 ∧ nO k_ vF9 ∧ nO k_ vG0 ∧ nO k_ vH9 ∧ nO k_ (.slice Ao44 tA7.length co44) ∧ nO k_ (.slice Ao46 tA8.length co46) ∧ nO k_ (.slice Ao78 tA9.length co78) ∧ nO k_ (.slice Ao79 tB0.length co79)) vH8 tF7) := ⟨h4_⟩
             have HOH0 : Aside0 (Kd.R (Kd.int .i64) 3 wJ8 w.heap.size (fun k_ => nO k_ vG7 ∧ nO k_ vG8 ∧ nO k_ vF9 ∧ nO k_ vG0 ∧ nO k_ vH8 ∧ nO k_ (.slice Ao44 tA7.length co44) ∧ nO k_ (.slice Ao46 tA8.length co46) ∧ nO k_ (.slice Ao78 tA9.length co78) ∧ nO k_ (.slice Ao79 tB0.length co79)) vH9 tF8) := ⟨h5_⟩
             replace HO_1326001 : Aside0 (Kd.R (Kd.int .i64) 3 wJ8 w.heap.size (fun k_ => nO k_ vG7 ∧ nO k_ vG8 ∧ nO k_ vF9 ∧ nO k_ vG0 ∧ nO k_ vH8 ∧ nO k_ vH9 ∧ nO k_ (.slice Ao46 tA8.length co46) ∧ nO k_ (.slice Ao78 tA9.length co78) ∧ nO k_ (.slice Ao79 tB0.length co79)) (.slice Ao44 tA7.length co44) tA7) := ⟨h6_⟩
             replace HO_1326002 : Aside0 (Kd.R (Kd.int .i64) 3 wJ8 w.heap.size (fun k_ => nO k_ vG7 ∧ nO k_ vG8 ∧ nO k_ vF9 ∧ nO k_ vG0 ∧ nO k_ vH8 ∧ nO k_ vH9 ∧ nO k_ (.slice Ao44 tA7.length co44) ∧ nO k_ (.slice Ao78 tA9.length co78) ∧ nO k_ (.slice Ao79 tB0.length co79)) (.slice Ao46 tA8.length co46) tA8) := ⟨h7_⟩
             replace HO_1351001 : Aside0 (Kd.R (Kd.int .i64) 3 wJ8 w.heap.size (fun k_ => nO k_ vG7 ∧ nO k_ vG8 ∧ nO k_ vF9 ∧ nO k_ vG0 ∧ nO k_ vH8 ∧ nO k_ vH9 ∧ nO k_ (.slice Ao44 tA7.length co44) ∧ nO k_ (.slice Ao46 tA8.length co46) ∧ nO k_ (.slice Ao79 tB0.length co79)) (.slice Ao78 tA9.length co78) tD8) := ⟨h8_⟩
             replace HO_1351002 : Aside0 (Kd.R (Kd.int .i64) 3 wJ8 w.heap.size (fun k_ => nO k_ vG7 ∧ nO k_ vG8 ∧ nO k_ vF9 ∧ nO k_ vG0 ∧ nO k_ vH8 ∧ nO k_ vH9 ∧ nO k_ (.slice Ao44 tA7.length co44) ∧ nO k_ (.slice Ao46 tA8.length co46) ∧ nO k_ (.slice Ao78 tA9.length co78)) (.slice Ao79 tB0.length co79) tD9) := ⟨h9_⟩
             replace BKA0 : Aside0 (wJ8.heap[gbA0]? = some (.cells #[.bool a0_0, .slice A0_1 l0_1.length c0_1, .slice A0_2 l0_2.length c0_2] 30 (0, 0))) := ⟨h10_⟩
             replace BKA1 : Aside0 (wJ8.heap[gbA1]? = some (.cells #[.bool a1_0, .slice A1_1 l1_1.length c1_1, .slice A1_2 l1_2.length c1_2] 30 (0, 0))) := ⟨h11_⟩
             replace BKA2 : Aside0 (wJ8.heap[gbA2]? = some (.cells #[.bool tA6, .slice Ao44 tA7.length co44, .slice Ao46 tA8.length co46] 24 (0, 0))) := ⟨h12_⟩
             replace BKA3 : Aside0 (wJ8.heap[gbA3]? = some (.cells #[.bool tA5, .slice Ao78 tA9.length co78, .slice Ao79 tB0.length co79] 24 (0, 0))) := ⟨h13_⟩
             have BKA4 : Aside0 (wJ8.heap[gbA4]? = some (.cells #[.bool false, .slice none 0 0, .slice none 0 0] 24 (0, 0))) := ⟨h14_⟩
             have GWA4 : Aside0 (w.heap.size ≤ gbA4) := ⟨h15_⟩
             have GEA4 : Aside0 (w.heap.size ≤ gbA4) := ⟨h16_⟩
             have NBA0_A4 : Aside0 (gbA0 ≠ gbA4) := ⟨h17_⟩
             have NBA4_A0 : Aside0 (gbA4 ≠ gbA0) := ⟨h18_⟩
             have NBA1_A4 : Aside0 (gbA1 ≠ gbA4) := ⟨h19_⟩
             have NBA4_A1 : Aside0 (gbA4 ≠ gbA1) := ⟨h20_⟩
             have NBA2_A4 : Aside0 (gbA2 ≠ gbA4) := ⟨h21_⟩
             have NBA4_A2 : Aside0 (gbA4 ≠ gbA2) := ⟨h22_⟩
             have NBA3_A4 : Aside0 (gbA3 ≠ gbA4) := ⟨h23_⟩
             have NBA4_A3 : Aside0 (gbA4 ≠ gbA3) := ⟨h24_⟩
             replace HB : Aside0 (Below w.heap.size w wJ8) := ⟨h25_⟩
             clear h0_ h1_ h2_ h3_ h4_ h5_ h6_ h7_ h8_ h9_ h10_ h11_ h12_ h13_ h14_ h15_ h16_ h17_ h18_ h19_ h20_ h21_ h22_ h23_ h24_ h25_
             have hHeld : wJ8.cell? ⟨gbA0, 0, none⟩ = some (.bool a0_0) ∧ wJ8.cell? ⟨gbA0, 1, none⟩ = some (.slice A0_1 l0_1.length c0_1) ∧ wJ8.cell? ⟨gbA0, 2, none⟩ = some (.slice A0_2 l0_2.length c0_2) ∧ wJ8.cell? ⟨gbA1, 0, none⟩ = some (.bool a1_0) ∧ wJ8.cell? ⟨gbA1, 1, none⟩ = some (.slice A1_1 l1_1.length c1_1) ∧ wJ8.cell? ⟨gbA1, 2, none⟩ = some (.slice A1_2 l1_2.length c1_2) := hS_
             obtain ⟨AoI8, coI8, eoI8⟩ := Kd.R_slice HOG9.out
             (first | subst eoI8 | (injection eoI8 with f1_ f2_ f3_; have f4_ := f1_.symm; have f5_ := f3_.symm; clear f1_ f2_ f3_; subst f4_; subst f5_))
             obtain ⟨AoJ5, coJ5, eoJ5⟩ := Kd.R_slice HOH0.out
             (first | subst eoJ5 | (injection eoJ5 with f1_ f2_ f3_; have f4_ := f1_.symm; have f5_ := f3_.symm; clear f1_ f2_ f3_; subst f4_; subst f5_))
             refine np_ ?_
             refine one_ (i := 9) (N := none) (bm 11 1023) rfl rfl (one_of HT_.out (by kernel_rfl)) (by decide) (fun K hK => ?_)
             have hsL4 : wJ8.cell? ⟨gbA4, 0, none⟩ = some (.bool false) := bce BKA4 0 _
             have hfsL4 := blk_frozen BKA4.out 0
             have hnsL4_0 := NBA0_A4.out
             have hnsL4_1 := NBA1_A4.out
             have hnsL4_2 := NBA2_A4.out
             have hnsL4_3 := NBA3_A4.out
             have hmsL4_0 := NBA4_A0.out
             have hmsL4_1 := NBA4_A1.out
             have hmsL4_2 := NBA4_A2.out
             have hmsL4_3 := NBA4_A3.out
             have hsL5 : wJ8.cell? ⟨gbA4, 1, none⟩ = some (.slice none 0 0) := bce BKA4 1 _
             have hfsL5 := blk_frozen BKA4.out 1
             have hnsL5_0 := NBA0_A4.out
             have hnsL5_1 := NBA1_A4.out
             have hnsL5_2 := NBA2_A4.out
             have hnsL5_3 := NBA3_A4.out
             have hmsL5_0 := NBA4_A0.out
             have hmsL5_1 := NBA4_A1.out
             have hmsL5_2 := NBA4_A2.out
             have hmsL5_3 := NBA4_A3.out
             have hsL6 : wJ8.cell? ⟨gbA4, 2, none⟩ = some (.slice none 0 0) := bce BKA4 2 _
             have hfsL6 := blk_frozen BKA4.out 2
             have hnsL6_0 := NBA0_A4.out
             have hnsL6_1 := NBA1_A4.out
             have hnsL6_2 := NBA2_A4.out
             have hnsL6_3 := NBA3_A4.out
             have hmsL6_0 := NBA4_A0.out
             have hmsL6_1 := NBA4_A1.out
             have hmsL6_2 := NBA4_A2.out
             have hmsL6_3 := NBA4_A3.out
             refine skip_ (w1 := ?_) (by rfl) rfl ?_ ?_
             rotate_left
             ·
              go_simp
              rfl
             refine hK.out _ _ ⟨((cell_far (p := ⟨gbA4, _, none⟩) NBA0_A4.out _).trans (((cell_far (p := ⟨gbA4, _, none⟩) NBA0_A4.out _).trans (((cell_far (p := ⟨gbA4, _, none⟩) NBA0_A4.out _).trans (hHeld.1)))))), ((cell_far (p := ⟨gbA4, _, none⟩) NBA0_A4.out _).trans (((cell_far (p := ⟨gbA4, _, none⟩) NBA0_A4.out _).trans (((cell_far (p := ⟨gbA4, _, none⟩) NBA0_A4.out _).trans (hHeld.2.1)))))), ((cell_far (p := ⟨gbA4, _, none⟩) NBA0_A4.out _).trans (((cell_far (p := ⟨gbA4, _, none⟩) NBA0_A4.out _).trans (((cell_far (p := ⟨gbA4, _, none⟩) NBA0_A4.out _).trans (hHeld.2.2.1)))))), ((cell_far (p := ⟨gbA4, _, none⟩) NBA1_A4.out _).trans (((cell_far (p := ⟨gbA4, _, none⟩) NBA1_A4.out _).trans (((cell_far (p := ⟨gbA4, _, none⟩) NBA1_A4.out _).trans (hHeld.2.2.2.1)))))), ((cell_far (p := ⟨gbA4, _, none⟩) NBA1_A4.out _).trans (((cell_far (p := ⟨gbA4, _, none⟩) NBA1_A4.out _).trans (((cell_far (p := ⟨gbA4, _, none⟩) NBA1_A4.out _).trans (hHeld.2.2.2.2.1)))))), ((cell_far (p := ⟨gbA4, _, none⟩) NBA1_A4.out _).trans (((cell_far (p := ⟨gbA4, _, none⟩) NBA1_A4.out _).trans (((cell_far (p := ⟨gbA4, _, none⟩) NBA1_A4.out _).trans (hHeld.2.2.2.2.2))))))⟩ (fun hHeld => ?_)
             clear hK K
             refine pu_ 10 (some 16) (bm 11 2047) HT_.out ?_
             refine done_ (done_of HT_.out (by kernel_rfl)) ?_
             go_upto_region 32 with (fail)
             go_cut [110] (fun vL2 wc => ∃ (kq : Nat) (xL2_L3 : Bool), vL2 = .bool xL2_L3 ∧ Aside0 (laws_FnExactSubRat.j2 kq tC4 xL2_L3 tA5 tD8 tD9 = some r) ∧ Aside0 (kq ≤ kj114) ∧ Aside0 (Kd.R (Kd.int .i64) 3 wc w.heap.size (fun k_ => nO k_ (.slice Ao79 tB0.length co79)) (.slice Ao78 tA9.length co78) tD8) ∧ Aside0 (Kd.R (Kd.int .i64) 3 wc w.heap.size (fun k_ => nO k_ (.slice Ao78 tA9.length co78)) (.slice Ao79 tB0.length co79) tD9) ∧ Aside0 (wc.heap[gbA3]? = some (.cells #[.bool tA5, (.slice Ao78 tA9.length co78), (.slice Ao79 tB0.length co79)] 24 (0, 0))) ∧ Aside0 (Below w.heap.size w wc))
             case first =>
              have H := HCP5.out
              clear HCP5
              replace H := Option.bind_eq_some_iff.mp H
              obtain ⟨tI6, AN9, H⟩ := H
              replace H : (if tI6 = true then (laws_FnExactSubRat.j2 kj114 tC4 (tI9 != tB7) tA5 tD8 tD9) else (laws_FnExactSubRat.j2 kj114 tC4 true tA5 tD8 tD9)) = some r := H
              have AT3 := Aside0.mk AN9
              clear AN9
              by_cases cO0 : tI6 = true
              ·
               subst cO0
               have H1 : (laws_FnExactSubRat.j2 kj114 tC4 (tI9 != tB7) tA5 tD8 tD9) = some r := by rw [if_pos rfl] at H; exact H
               clear H
               have H := H1
               clear H1
               have H' := Aside0.mk H
               clear H
               have hnbT4 := NBA4_A0.out
               have hncT4 := NBA0_A4.out
               have hnbT5 := NBA4_A1.out
               have hncT5 := NBA1_A4.out
               have hnbT6 := NBA4_A2.out
               have hncT6 := NBA2_A4.out
               have hnbT7 := NBA4_A3.out
               have hncT7 := NBA3_A4.out
               obtain ⟨hczK0_0, hczK0_1, hczK0_2, hfzK0_0, hfzK0_1, hfzK0_2⟩ := bc3 BKA4
               have hnbT8 := NBA2_A0.out
               have hncT8 := NBA0_A2.out
               have hnbT9 := NBA2_A1.out
               have hncT9 := NBA1_A2.out
               have hnbU0 := NBA2_A3.out
               have hncU0 := NBA3_A2.out
               obtain ⟨hczL0_0, hczL0_1, hczL0_2, hfzL0_0, hfzL0_1, hfzL0_2⟩ := bc3 BKA2
               go_wp2_with (first | ((with_reducible refine gate_callee (f := 17) rfl ?_); refine gL_ (some 104) Try.func17 #[.agg #[.bool tC5, .slice AoI8 tF7.length coI8, .slice AoJ5 tF8.length coJ5], .agg #[.bool tA6, .slice Ao44 tA7.length co44, .slice Ao46 tA8.length co46]] ?_; (with_reducible refine (laws_eqRat.calls kj114 tC5 _ _ tF7 _ _ tF8 tA6 _ _ tA7 _ _ tA8 true _ ?side1 ?side2 ?side3 ?side4 ?side5 ?side6 ?side7 ?side8 AT3.out).mono ?_); (case side1 => refine (Kd.R_reads' (e := 3) (base := w.heap.size) (ok := fun k_ => (nO k_ vG7 ∧ (nO k_ vG8 ∧ (nO k_ vF9 ∧ (nO k_ vG0 ∧ (nO k_ (.slice AoJ5 tF8.length coJ5) ∧ (nO k_ (.slice Ao44 tA7.length co44) ∧ (nO k_ (.slice Ao46 tA8.length co46) ∧ (nO k_ (.slice Ao78 tA9.length co78) ∧ nO k_ (.slice Ao79 tB0.length co79)))))))))) (n := tF7.length) (c := coI8) ?_).2.2; exact (crF HOG9 BKA4)); (case side2 => exact (Kd.R_reads' HOG9.out).2.1); (case side3 => refine (Kd.R_reads' (e := 3) (base := w.heap.size) (ok := fun k_ => (nO k_ vG7 ∧ (nO k_ vG8 ∧ (nO k_ vF9 ∧ (nO k_ vG0 ∧ (nO k_ (.slice AoI8 tF7.length coI8) ∧ (nO k_ (.slice Ao44 tA7.length co44) ∧ (nO k_ (.slice Ao46 tA8.length co46) ∧ (nO k_ (.slice Ao78 tA9.length co78) ∧ nO k_ (.slice Ao79 tB0.length co79)))))))))) (n := tF8.length) (c := coJ5) ?_).2.2; exact (crF HOH0 BKA4)); (case side4 => exact (Kd.R_reads' HOH0.out).2.1); (case side5 => refine (Kd.R_reads' (e := 3) (base := w.heap.size) (ok := fun k_ => (nO k_ vG7 ∧ (nO k_ vG8 ∧ (nO k_ vF9 ∧ (nO k_ vG0 ∧ (nO k_ (.slice AoI8 tF7.length coI8) ∧ (nO k_ (.slice AoJ5 tF8.length coJ5) ∧ (nO k_ (.slice Ao46 tA8.length co46) ∧ (nO k_ (.slice Ao78 tA9.length co78) ∧ nO k_ (.slice Ao79 tB0.length co79)))))))))) (n := tA7.length) (c := co44) ?_).2.2; exact (crF HO_1326001 BKA4)); (case side6 => exact (Kd.R_reads' HO_1326001.out).2.1); (case side7 => refine (Kd.R_reads' (e := 3) (base := w.heap.size) (ok := fun k_ => (nO k_ vG7 ∧ (nO k_ vG8 ∧ (nO k_ vF9 ∧ (nO k_ vG0 ∧ (nO k_ (.slice AoI8 tF7.length coI8) ∧ (nO k_ (.slice AoJ5 tF8.length coJ5) ∧ (nO k_ (.slice Ao44 tA7.length co44) ∧ (nO k_ (.slice Ao78 tA9.length co78) ∧ nO k_ (.slice Ao79 tB0.length co79)))))))))) (n := tA8.length) (c := co46) ?_).2.2; exact (crF HO_1326002 BKA4)); (case side8 => exact (Kd.R_reads' HO_1326002.out).2.1); rintro e wY3 ⟨rfl, hb⟩; refine ⟨_, rfl, ?_⟩; replace HO_1326001 := rblF HO_1326001 BKA4 hb; replace HO_1326002 := rblF HO_1326002 BKA4 hb; replace HO_1351001 := rblF HO_1351001 BKA4 hb; replace HO_1351002 := rblF HO_1351002 BKA4 hb; replace HOC2 := rblF HOC2 BKA4 hb; replace HOC3 := rblF HOC3 BKA4 hb; replace HOC6 := rblF HOC6 BKA4 hb; replace HOC7 := rblF HOC7 BKA4 hb; replace HOG9 := rblF HOG9 BKA4 hb; replace HOH0 := rblF HOH0 BKA4 hb; replace BKA0 := bkf BKA0 hb; replace BKA1 := bkf BKA1 hb; replace BKA2 := bkf BKA2 hb; replace BKA3 := bkf BKA3 hb; replace BKA4 := bkp BKA4 (.bool tC5) (.slice AoI8 tF7.length coI8) (.slice AoJ5 tF8.length coJ5) hb; replace HB := bst HB hb; (try clear hb); (try clear hb2); (try clear hk); (try clear hi)))
               go_meet
               case rel => exact ⟨_, ((tI9 != tB7)), rs_, H', ⟨by have := HJ24.out; have := HJ114.out; first | omega | exact Nat.le_refl _⟩, ⟨crM HO_1351001 fun _ hk => hk.2.2.2.2.2.2.2.2⟩, ⟨crM HO_1351002 fun _ hk => hk.2.2.2.2.2.2.2.2⟩, ⟨crb BKA3⟩, ⟨blw HB⟩⟩
              ·
               replace cO0 := Bool.eq_false_iff.mpr cO0
               subst cO0
               have H1 : (laws_FnExactSubRat.j2 kj114 tC4 true tA5 tD8 tD9) = some r := by rw [if_neg (show ¬ (false = true) by decide)] at H; exact H
               clear H
               have H := H1
               clear H1
               have H' := Aside0.mk H
               clear H
               have hnbU1 := NBA4_A0.out
               have hncU1 := NBA0_A4.out
               have hnbU2 := NBA4_A1.out
               have hncU2 := NBA1_A4.out
               have hnbU3 := NBA4_A2.out
               have hncU3 := NBA2_A4.out
               have hnbU4 := NBA4_A3.out
               have hncU4 := NBA3_A4.out
               obtain ⟨hczK1_0, hczK1_1, hczK1_2, hfzK1_0, hfzK1_1, hfzK1_2⟩ := bc3 BKA4
               have hnbU5 := NBA2_A0.out
               have hncU5 := NBA0_A2.out
               have hnbU6 := NBA2_A1.out
               have hncU6 := NBA1_A2.out
               have hnbU7 := NBA2_A3.out
               have hncU7 := NBA3_A2.out
               obtain ⟨hczL1_0, hczL1_1, hczL1_2, hfzL1_0, hfzL1_1, hfzL1_2⟩ := bc3 BKA2
               go_wp2_with (first | ((with_reducible refine gate_callee (f := 17) rfl ?_); refine gL_ (some 104) Try.func17 #[.agg #[.bool tC5, .slice AoI8 tF7.length coI8, .slice AoJ5 tF8.length coJ5], .agg #[.bool tA6, .slice Ao44 tA7.length co44, .slice Ao46 tA8.length co46]] ?_; (with_reducible refine (laws_eqRat.calls kj114 tC5 _ _ tF7 _ _ tF8 tA6 _ _ tA7 _ _ tA8 false _ ?side1 ?side2 ?side3 ?side4 ?side5 ?side6 ?side7 ?side8 AT3.out).mono ?_); (case side1 => refine (Kd.R_reads' (e := 3) (base := w.heap.size) (ok := fun k_ => (nO k_ vG7 ∧ (nO k_ vG8 ∧ (nO k_ vF9 ∧ (nO k_ vG0 ∧ (nO k_ (.slice AoJ5 tF8.length coJ5) ∧ (nO k_ (.slice Ao44 tA7.length co44) ∧ (nO k_ (.slice Ao46 tA8.length co46) ∧ (nO k_ (.slice Ao78 tA9.length co78) ∧ nO k_ (.slice Ao79 tB0.length co79)))))))))) (n := tF7.length) (c := coI8) ?_).2.2; exact (crF HOG9 BKA4)); (case side2 => exact (Kd.R_reads' HOG9.out).2.1); (case side3 => refine (Kd.R_reads' (e := 3) (base := w.heap.size) (ok := fun k_ => (nO k_ vG7 ∧ (nO k_ vG8 ∧ (nO k_ vF9 ∧ (nO k_ vG0 ∧ (nO k_ (.slice AoI8 tF7.length coI8) ∧ (nO k_ (.slice Ao44 tA7.length co44) ∧ (nO k_ (.slice Ao46 tA8.length co46) ∧ (nO k_ (.slice Ao78 tA9.length co78) ∧ nO k_ (.slice Ao79 tB0.length co79)))))))))) (n := tF8.length) (c := coJ5) ?_).2.2; exact (crF HOH0 BKA4)); (case side4 => exact (Kd.R_reads' HOH0.out).2.1); (case side5 => refine (Kd.R_reads' (e := 3) (base := w.heap.size) (ok := fun k_ => (nO k_ vG7 ∧ (nO k_ vG8 ∧ (nO k_ vF9 ∧ (nO k_ vG0 ∧ (nO k_ (.slice AoI8 tF7.length coI8) ∧ (nO k_ (.slice AoJ5 tF8.length coJ5) ∧ (nO k_ (.slice Ao46 tA8.length co46) ∧ (nO k_ (.slice Ao78 tA9.length co78) ∧ nO k_ (.slice Ao79 tB0.length co79)))))))))) (n := tA7.length) (c := co44) ?_).2.2; exact (crF HO_1326001 BKA4)); (case side6 => exact (Kd.R_reads' HO_1326001.out).2.1); (case side7 => refine (Kd.R_reads' (e := 3) (base := w.heap.size) (ok := fun k_ => (nO k_ vG7 ∧ (nO k_ vG8 ∧ (nO k_ vF9 ∧ (nO k_ vG0 ∧ (nO k_ (.slice AoI8 tF7.length coI8) ∧ (nO k_ (.slice AoJ5 tF8.length coJ5) ∧ (nO k_ (.slice Ao44 tA7.length co44) ∧ (nO k_ (.slice Ao78 tA9.length co78) ∧ nO k_ (.slice Ao79 tB0.length co79)))))))))) (n := tA8.length) (c := co46) ?_).2.2; exact (crF HO_1326002 BKA4)); (case side8 => exact (Kd.R_reads' HO_1326002.out).2.1); rintro e wY4 ⟨rfl, hb⟩; refine ⟨_, rfl, ?_⟩; replace HO_1326001 := rblF HO_1326001 BKA4 hb; replace HO_1326002 := rblF HO_1326002 BKA4 hb; replace HO_1351001 := rblF HO_1351001 BKA4 hb; replace HO_1351002 := rblF HO_1351002 BKA4 hb; replace HOC2 := rblF HOC2 BKA4 hb; replace HOC3 := rblF HOC3 BKA4 hb; replace HOC6 := rblF HOC6 BKA4 hb; replace HOC7 := rblF HOC7 BKA4 hb; replace HOG9 := rblF HOG9 BKA4 hb; replace HOH0 := rblF HOH0 BKA4 hb; replace BKA0 := bkf BKA0 hb; replace BKA1 := bkf BKA1 hb; replace BKA2 := bkf BKA2 hb; replace BKA3 := bkf BKA3 hb; replace BKA4 := bkp BKA4 (.bool tC5) (.slice AoI8 tF7.length coI8) (.slice AoJ5 tF8.length coJ5) hb; replace HB := bst HB hb; (try clear hb); (try clear hb2); (try clear hk); (try clear hi)))
               go_meet
               case rel => exact ⟨_, (true), rs_, H', ⟨by have := HJ24.out; have := HJ114.out; first | omega | exact Nat.le_refl _⟩, ⟨crM HO_1351001 fun _ hk => hk.2.2.2.2.2.2.2.2⟩, ⟨crM HO_1351002 fun _ hk => hk.2.2.2.2.2.2.2.2⟩, ⟨crb BKA3⟩, ⟨blw HB⟩⟩
             case rest =>
              clear HCP5
              try clear c1
              try clear c2
              try clear p2
              try clear c3
              try clear c17
              try clear c20
              try clear c21
              try clear c22
              try clear c39
              try clear cO0
              try clear cT4
              try clear cT5
              try clear cT6
              try clear cT7
              try clear cT8
              try clear cT9
              try clear cU0
              try clear cU1
              try clear cU2
              try clear cU3
              try clear cU4
              try clear cU5
              try clear cU6
              try clear cU7
              try clear hczK0_0
              try clear hczK0_1
              try clear hczK0_2
              try clear hczL0_0
              try clear hczL0_1
              try clear hczL0_2
              try clear hczK1_0
              try clear hczK1_1
              try clear hczK1_2
              try clear hczL1_0
              try clear hczL1_1
              try clear hczL1_2
              try clear hfzK0_0
              try clear hfzK0_1
              try clear hfzK0_2
              try clear hfzL0_0
              try clear hfzL0_1
              try clear hfzL0_2
              try clear hfzK1_0
              try clear hfzK1_1
              try clear hfzK1_2
              try clear hfzL1_0
              try clear hfzL1_1
              try clear hfzL1_2
              obtain ⟨kq, xL2_L3, rfl, HA, HJ180, HO_1351001, HO_1351002, BKA3, HB⟩ := hcut
              have hl1351001_180 := (Kd.R_reads' HO_1351001.out).1
              rw [hl1351001_180] at HO_1351001
              (try simp only [hl1351001_180])
              (try simp only [hl1351001_180] at BKA3)
              (try simp only [hl1351001_180] at HO_1351002)
              have hl1351002_180 := (Kd.R_reads' HO_1351002.out).1
              rw [hl1351002_180] at HO_1351002
              (try simp only [hl1351002_180])
              (try simp only [hl1351002_180] at BKA3)
              (try simp only [hl1351002_180] at HO_1351001)
              cases kq with
              | zero => exact absurd HA.out (by simp [laws_FnExactSubRat.j2])
              | succ kj180 =>
               have H := HA.out
               clear HA
               simp only [laws_FnExactSubRat.j2] at H
               by_cases cO8 : xL2_L3 = true
               ·
                subst cO8
                have H1 : (some false) = some r := by rw [if_pos rfl] at H; exact H
                clear H
                have H := H1
                clear H1
                obtain rfl := Option.some.inj H
                exact absurd hr_ (by decide)
               ·
                replace cO8 := Bool.eq_false_iff.mpr cO8
                subst cO8
                have H1 : ((laws_heldRat.f kj180 tA5 tD8 tD9 1).bind fun tI0 => (if tI0 < 0 then (some false) else (if tI0 = tC4 then (some true) else (some false)))) = some r := by rw [if_neg (show ¬ (false = true) by decide)] at H; exact H
                clear H
                have H := H1
                clear H1
                replace H := Option.bind_eq_some_iff.mp H
                obtain ⟨tI0, AO1, H⟩ := H
                replace H : (if tI0 < 0 then (some false) else (if tI0 = tC4 then (some true) else (some false))) = some r := H
                have AX0 := Aside0.mk AO1
                clear AO1
                by_cases cM3 : tI0 < 0
                ·
                 rw [if_pos cM3] at H
                 have c228b0 : decide (tI0 < 0) = true := decide_eq_true cM3
                 clear cM3
                 obtain rfl := Option.some.inj H
                 exact absurd hr_ (by decide)
                ·
                 rw [if_neg cM3] at H
                 have c228b0 : decide (tI0 < 0) = false := decide_eq_false cM3
                 clear cM3
                 by_cases cM1 : tI0 = tC4
                 ·
                  rw [if_pos cM1] at H
                  have c231b0 : (tI0 == tC4) = true := beq_iff_eq.mpr cM1
                  have c231b1 : (tI0 != tC4) = false := bne_eq_false_iff_eq.mpr cM1
                  clear cM1
                  obtain rfl := Option.some.inj H
                  obtain ⟨hczO2_0, hczO2_1, hczO2_2, hfzO2_0, hfzO2_1, hfzO2_2⟩ := bc3 BKA3
                  go_wp2_with (first | ((with_reducible refine gate_callee (f := 19) rfl ?_); refine gL_ (some 113) Try.func19 #[.agg #[.bool tA5, .slice Ao78 tD8.length co78, .slice Ao79 tD9.length co79], .int .i64 1] ?_; (with_reducible refine (laws_heldRat.calls kj180 tA5 _ _ tD8 _ _ tD9 1 tI0 _ ?side1 ?side2 ?side3 ?side4 AX0.out).mono ?_); (case side1 => exact crC (Kd.R_reads' HO_1351001.out).2.2); (case side2 => exact (Kd.R_reads' HO_1351001.out).2.1); (case side3 => exact crC (Kd.R_reads' HO_1351002.out).2.2); (case side4 => exact (Kd.R_reads' HO_1351002.out).2.1); rintro e wY5 ⟨rfl, hb⟩; refine ⟨_, rfl, ?_⟩; replace HO_1351001 := rblR HO_1351001 hb; replace HO_1351002 := rblR HO_1351002 hb; replace BKA3 := bkb BKA3 hb; replace HB := bst HB hb; (try clear hb); (try clear hb2); (try clear hk); (try clear hi)))
                  go_ret
                  exact ⟨er_, blw HB⟩
                 ·
                  rw [if_neg cM1] at H
                  have c231b0 : (tI0 == tC4) = false := beq_eq_false_iff_ne.mpr cM1
                  have c231b1 : (tI0 != tC4) = true := bne_iff_ne.mpr cM1
                  obtain rfl := Option.some.inj H
                  exact absurd hr_ (by decide)
            ·
             rw [if_neg cM0] at H
             have c177b0 : (tG6 == tC4) = false := beq_eq_false_iff_ne.mpr cM0
             have c177b1 : (tG6 != tC4) = true := bne_iff_ne.mpr cM0
             obtain rfl := Option.some.inj H
             exact absurd hr_ (by decide)
       ·
        replace cO6 := Bool.eq_false_iff.mpr cO6
        subst cO6
        have H1 : (some false) = some r := by rw [if_neg (show ¬ (false = true) by decide)] at H; exact H
        clear H
        have H := H1
        clear H1
        obtain rfl := Option.some.inj H
        exact absurd hr_ (by decide)
      ·
       replace cO5 := Bool.eq_false_iff.mpr cO5
       subst cO5
       have H1 : (some false) = some r := by rw [if_neg (show ¬ (false = true) by decide)] at H; exact H
       clear H
       have H := H1
       clear H1
       obtain rfl := Option.some.inj H
       exact absurd hr_ (by decide)

/-- THE ONE PURE STATEMENT of laws_FnExactSubRat: yours. -/
def laws_FnExactSubRat.Pure : Prop := ∀ (a0_0 : Bool) (l0_1 : List Int) (l0_2 : List Int) (a1_0 : Bool) (l1_1 : List Int) (l1_2 : List Int), (True ∧ (l0_1.length ≤ maxLen ∧ ∀ y0_ ∈ l0_1, (Lit.int .i64 y0_).wf = true) ∧ (l0_2.length ≤ maxLen ∧ ∀ y0_ ∈ l0_2, (Lit.int .i64 y0_).wf = true)) → (True ∧ (l1_1.length ≤ maxLen ∧ ∀ y0_ ∈ l1_1, (Lit.int .i64 y0_).wf = true) ∧ (l1_2.length ≤ maxLen ∧ ∀ y0_ ∈ l1_2, (Lit.int .i64 y0_).wf = true)) → ∃ k, laws_FnExactSubRat.f k a0_0 l0_1 l0_2 a1_0 l1_1 l1_2 = some true

end Go.Proofs.Ytacdaijalkkogaa.Q
