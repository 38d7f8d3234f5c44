-- written by a program of this claim's session (myprint.py) out of the translation; Lean checks it.
import Derived.Test.YtacdaijalkkogaaQx0
import Derived.Test.YtacdaijalkkogaaSq
import Derived.Test.YtacdaijalkkogaaQxrlaw
import Derived.Test.YtacdaijalkkogaaQxMulRat
namespace Go.Proofs.Ytacdaijalkkogaa.Q
open Go.RowKit Go.Proofs.YtacdaijalkkogaaW.PrintWords Go.Proofs.YtacdaijalkkogaaW.PrintLast Go.Proofs.YtacdaijalkkogaaW.PrintMore
attribute [local go_sem] max2_int min2_int max_two min_two max_three min_three max_four min_four   -- for this text's walks alone
set_option linter.unusedVariables false
set_option linter.unusedSimpArgs false

mutual
def laws_FnExactMulRat.j0 : Nat → Int → Int → Bool → Bool → List Int → List Int → Bool → List Int → List Int → Bool → List Int → List Int → Bool → List Int → List Int → Bool → List Int → List Int → Bool → List Int → List Int → Option (Bool)
 | 0, _, _, _, _, _, _, _, _, _, _, _, _, _, _, _, _, _, _, _, _, _ => none
 | k + 1, x7, x11, x53, x754000, x754001, x754002, x755000, x755001, x755002, x780000, x780001, x780002, x788000, x788001, x788002, x796000, x796001, x796002, x805000, x805001, x805002 => if x53 = true then (some false) else ((laws_toRat.f k x754000 x754001 x754002).bind fun bt806 => ((laws_eqRat.f k x788000 x788001 x788002 bt806.1 bt806.2.1 bt806.2.2).bind fun t813 => (if t813 = true then ((laws_toRat.f k x755000 x755001 x755002).bind fun bt814 => ((laws_eqRat.f k x796000 x796001 x796002 bt814.1 bt814.2.1 bt814.2.2).bind fun t821 => (if t821 = true then ((laws_markRat.f k x788000 x788001 x788002 1).bind fun bt822 => ((laws_markRat.f k x796000 x796001 x796002 bt822.1).bind fun bt825 => (if bt825.1 < 0 then (laws_FnExactMulRat.j1 k x7 true x754000 x754001 x754002 x755000 x755001 x755002 x780000 x780001 x780002 x805000 x805001 x805002) else ((laws_eqRat.f k x805000 x805001 x805002 x780000 x780001 x780002).bind fun t828 => (if t828 = true then (laws_FnExactMulRat.j1 k x7 (x11 != x7) x754000 x754001 x754002 x755000 x755001 x755002 x780000 x780001 x780002 x805000 x805001 x805002) else (laws_FnExactMulRat.j1 k x7 true x754000 x754001 x754002 x755000 x755001 x755002 x780000 x780001 x780002 x805000 x805001 x805002)))))) else (some false)))) else (some false))))
def laws_FnExactMulRat.j1 : Nat → Int → Bool → Bool → List Int → List Int → Bool → List Int → List Int → Bool → List Int → List Int → Bool → List Int → List Int → Option (Bool)
 | 0, _, _, _, _, _, _, _, _, _, _, _, _, _, _ => none
 | k + 1, x7, x82, x754000, x754001, x754002, x755000, x755001, x755002, x780000, x780001, x780002, x805000, x805001, x805002 => if x82 = true then (some false) else ((laws_markRat.f k x805000 x805001 x805002 1).bind fun bt829 => ((laws_heldRat.f k x805000 bt829.2.1 bt829.2.2 1).bind fun t832 => (if t832 < 0 then (some false) else (if t832 = bt829.1 then ((laws_toRat.f k x754000 x754001 x754002).bind fun bt833 => ((laws_toRat.f k x755000 x755001 x755002).bind fun bt840 => ((impl_MulRat.f k bt833.1 bt833.2.1 bt833.2.2 bt840.1 bt840.2.1 bt840.2.2).bind fun bt847 => ((laws_eqRat.f k bt847.1 bt847.2.1 bt847.2.2.1 x780000 x780001 x780002).bind fun t856 => (if t856 = true then (laws_FnExactMulRat.j2 k bt829.1 (bt847.2.2.2 != x7) x805000 bt829.2.1 bt829.2.2) else (laws_FnExactMulRat.j2 k bt829.1 true x805000 bt829.2.1 bt829.2.2)))))) else (some false)))))
def laws_FnExactMulRat.j2 : Nat → Int → Bool → Bool → List Int → List Int → Option (Bool)
 | 0, _, _, _, _, _ => none
 | k + 1, x13, x110, x805000, x805001, x805002 => if x110 = true then (some false) else ((laws_heldRat.f k x805000 x805001 x805002 1).bind fun t857 => (if t857 < 0 then (some false) else (if t857 = x13 then (some true) else (some false))))
end
def laws_FnExactMulRat.f (k : Nat) (a0_0 : Bool) (l0_1 : List Int) (l0_2 : List Int) (a1_0 : Bool) (l1_1 : List Int) (l1_2 : List Int) : Option (Bool) := (laws_szRat.f a0_0 l0_1 l0_2 1048576).bind fun t755 => (if t755 < 0 then (some true) else ((laws_szRat.f a1_0 l1_1 l1_2 t755).bind fun t756 => (if t756 < 0 then (some true) else ((laws_toRat.f k a0_0 l0_1 l0_2).bind fun bt757 => ((laws_toRat.f k a1_0 l1_1 l1_2).bind fun bt764 => ((spec_MulRat.f k bt757.1 bt757.2.1 bt757.2.2 bt764.1 bt764.2.1 bt764.2.2).bind fun bt771 => ((laws_toRat.f k a0_0 l0_1 l0_2).bind fun bt780 => ((laws_toRat.f k a1_0 l1_1 l1_2).bind fun bt788 => ((impl_MulRat.f k bt780.1 bt780.2.1 bt780.2.2 bt788.1 bt788.2.1 bt788.2.2).bind fun bt796 => ((laws_eqRat.f k bt796.1 bt796.2.1 bt796.2.2.1 bt771.1 bt771.2.1 bt771.2.2.1).bind fun t805 => (if t805 = true then (laws_FnExactMulRat.j0 k bt771.2.2.2 bt796.2.2.2 (bt796.2.2.2 != bt771.2.2.2) a0_0 l0_1 l0_2 a1_0 l1_1 l1_2 bt771.1 bt771.2.1 bt771.2.2.1 bt780.1 bt780.2.1 bt780.2.2 bt788.1 bt788.2.1 bt788.2.2 bt796.1 bt796.2.1 bt796.2.2.1) else (laws_FnExactMulRat.j0 k bt771.2.2.2 bt796.2.2.2 true a0_0 l0_1 l0_2 a1_0 l1_1 l1_2 bt771.1 bt771.2.1 bt771.2.2.1 bt780.1 bt780.2.1 bt780.2.2 bt788.1 bt788.2.1 bt788.2.2 bt796.1 bt796.2.1 bt796.2.2.1))))))))))))
theorem laws_FnExactMulRat.mono_l : ∀ k, (∀ y0 y1 y2 y3 y4 y5 y6 y7 y8 y9 y10 y11 y12 y13 y14 y15 y16 y17 y18 y19 y20, LeO (laws_FnExactMulRat.j0 k y0 y1 y2 y3 y4 y5 y6 y7 y8 y9 y10 y11 y12 y13 y14 y15 y16 y17 y18 y19 y20) (laws_FnExactMulRat.j0 (k + 1) y0 y1 y2 y3 y4 y5 y6 y7 y8 y9 y10 y11 y12 y13 y14 y15 y16 y17 y18 y19 y20)) ∧ (∀ y0 y1 y2 y3 y4 y5 y6 y7 y8 y9 y10 y11 y12 y13, LeO (laws_FnExactMulRat.j1 k y0 y1 y2 y3 y4 y5 y6 y7 y8 y9 y10 y11 y12 y13) (laws_FnExactMulRat.j1 (k + 1) y0 y1 y2 y3 y4 y5 y6 y7 y8 y9 y10 y11 y12 y13)) ∧ (∀ y0 y1 y2 y3 y4, LeO (laws_FnExactMulRat.j2 k y0 y1 y2 y3 y4) (laws_FnExactMulRat.j2 (k + 1) y0 y1 y2 y3 y4))
 | 0 => ⟨fun _ _ _ _ _ _ _ _ _ _ _ _ _ _ _ _ _ _ _ _ _ r h => by simp [laws_FnExactMulRat.j0] at h, fun _ _ _ _ _ _ _ _ _ _ _ _ _ _ r h => by simp [laws_FnExactMulRat.j1] at h, fun _ _ _ _ _ r h => by simp [laws_FnExactMulRat.j2] at h⟩
 | k + 1 => by
  obtain ⟨ih0, ih1, ih2⟩ := laws_FnExactMulRat.mono_l k
  refine ⟨?_, ?_, ?_⟩
  ·
   intro y0 y1 y2 y3 y4 y5 y6 y7 y8 y9 y10 y11 y12 y13 y14 y15 y16 y17 y18 y19 y20
   unfold laws_FnExactMulRat.j0
   repeat' first
   | (with_reducible exact ih0 _ _ _ _ _ _ _ _ _ _ _ _ _ _ _ _ _ _ _ _ _)
   | (with_reducible exact ih1 _ _ _ _ _ _ _ _ _ _ _ _ _ _)
   | (with_reducible exact ih2 _ _ _ _ _)
   | (with_reducible exact impl_MulRat.mono _ _ _ _ _ _ _)
   | (with_reducible exact laws_eqRat.mono _ _ _ _ _ _ _)
   | (with_reducible exact laws_heldRat.mono _ _ _ _ _)
   | (with_reducible exact laws_markRat.mono _ _ _ _ _)
   | (with_reducible exact laws_toRat.mono _ _ _ _)
   | (with_reducible exact spec_MulRat.mono _ _ _ _ _ _ _)
   | (with_reducible exact LeO.refl _)
   | (with_reducible exact LeO.none _)
   | (with_reducible refine LeO.ite ?_ ?_)
   | (with_reducible refine LeO.bind ?_ (fun _ => ?_))
   | exact ih0 _ _ _ _ _ _ _ _ _ _ _ _ _ _ _ _ _ _ _ _ _
   | exact ih1 _ _ _ _ _ _ _ _ _ _ _ _ _ _
   | exact ih2 _ _ _ _ _
   | exact impl_MulRat.mono _ _ _ _ _ _ _
   | exact laws_eqRat.mono _ _ _ _ _ _ _
   | exact laws_heldRat.mono _ _ _ _ _
   | exact laws_markRat.mono _ _ _ _ _
   | exact laws_toRat.mono _ _ _ _
   | exact spec_MulRat.mono _ _ _ _ _ _ _
   | exact LeO.none _
   | refine LeO.ite ?_ ?_
   | refine LeO.bind ?_ (fun _ => ?_)
  ·
   intro y0 y1 y2 y3 y4 y5 y6 y7 y8 y9 y10 y11 y12 y13
   unfold laws_FnExactMulRat.j1
   repeat' first
   | (with_reducible exact ih0 _ _ _ _ _ _ _ _ _ _ _ _ _ _ _ _ _ _ _ _ _)
   | (with_reducible exact ih1 _ _ _ _ _ _ _ _ _ _ _ _ _ _)
   | (with_reducible exact ih2 _ _ _ _ _)
   | (with_reducible exact impl_MulRat.mono _ _ _ _ _ _ _)
   | (with_reducible exact laws_eqRat.mono _ _ _ _ _ _ _)
   | (with_reducible exact laws_heldRat.mono _ _ _ _ _)
   | (with_reducible exact laws_markRat.mono _ _ _ _ _)
   | (with_reducible exact laws_toRat.mono _ _ _ _)
   | (with_reducible exact spec_MulRat.mono _ _ _ _ _ _ _)
   | (with_reducible exact LeO.refl _)
   | (with_reducible exact LeO.none _)
   | (with_reducible refine LeO.ite ?_ ?_)
   | (with_reducible refine LeO.bind ?_ (fun _ => ?_))
   | exact ih0 _ _ _ _ _ _ _ _ _ _ _ _ _ _ _ _ _ _ _ _ _
   | exact ih1 _ _ _ _ _ _ _ _ _ _ _ _ _ _
   | exact ih2 _ _ _ _ _
   | exact impl_MulRat.mono _ _ _ _ _ _ _
   | exact laws_eqRat.mono _ _ _ _ _ _ _
   | exact laws_heldRat.mono _ _ _ _ _
   | exact laws_markRat.mono _ _ _ _ _
   | exact laws_toRat.mono _ _ _ _
   | exact spec_MulRat.mono _ _ _ _ _ _ _
   | exact LeO.none _
   | refine LeO.ite ?_ ?_
   | refine LeO.bind ?_ (fun _ => ?_)
  ·
   intro y0 y1 y2 y3 y4
   unfold laws_FnExactMulRat.j2
   repeat' first
   | (with_reducible exact ih0 _ _ _ _ _ _ _ _ _ _ _ _ _ _ _ _ _ _ _ _ _)
   | (with_reducible exact ih1 _ _ _ _ _ _ _ _ _ _ _ _ _ _)
   | (with_reducible exact ih2 _ _ _ _ _)
   | (with_reducible exact impl_MulRat.mono _ _ _ _ _ _ _)
   | (with_reducible exact laws_eqRat.mono _ _ _ _ _ _ _)
   | (with_reducible exact laws_heldRat.mono _ _ _ _ _)
   | (with_reducible exact laws_markRat.mono _ _ _ _ _)
   | (with_reducible exact laws_toRat.mono _ _ _ _)
   | (with_reducible exact spec_MulRat.mono _ _ _ _ _ _ _)
   | (with_reducible exact LeO.refl _)
   | (with_reducible exact LeO.none _)
   | (with_reducible refine LeO.ite ?_ ?_)
   | (with_reducible refine LeO.bind ?_ (fun _ => ?_))
   | exact ih0 _ _ _ _ _ _ _ _ _ _ _ _ _ _ _ _ _ _ _ _ _
   | exact ih1 _ _ _ _ _ _ _ _ _ _ _ _ _ _
   | exact ih2 _ _ _ _ _
   | exact impl_MulRat.mono _ _ _ _ _ _ _
   | exact laws_eqRat.mono _ _ _ _ _ _ _
   | exact laws_heldRat.mono _ _ _ _ _
   | exact laws_markRat.mono _ _ _ _ _
   | exact laws_toRat.mono _ _ _ _
   | exact spec_MulRat.mono _ _ _ _ _ _ _
   | exact LeO.none _
   | refine LeO.ite ?_ ?_
   | refine LeO.bind ?_ (fun _ => ?_)
theorem laws_FnExactMulRat.mono : ∀ a0 a1 a2 a3 a4 a5 k, LeO (laws_FnExactMulRat.f k a0 a1 a2 a3 a4 a5) (laws_FnExactMulRat.f (k + 1) a0 a1 a2 a3 a4 a5) := by
 intro a0 a1 a2 a3 a4 a5 k
 obtain ⟨ih0, ih1, ih2⟩ := laws_FnExactMulRat.mono_l k
 unfold laws_FnExactMulRat.f
 repeat' first
   | (with_reducible exact ih0 _ _ _ _ _ _ _ _ _ _ _ _ _ _ _ _ _ _ _ _ _)
   | (with_reducible exact ih1 _ _ _ _ _ _ _ _ _ _ _ _ _ _)
   | (with_reducible exact ih2 _ _ _ _ _)
   | (with_reducible exact impl_MulRat.mono _ _ _ _ _ _ _)
   | (with_reducible exact laws_eqRat.mono _ _ _ _ _ _ _)
   | (with_reducible exact laws_heldRat.mono _ _ _ _ _)
   | (with_reducible exact laws_markRat.mono _ _ _ _ _)
   | (with_reducible exact laws_toRat.mono _ _ _ _)
   | (with_reducible exact spec_MulRat.mono _ _ _ _ _ _ _)
   | (with_reducible exact LeO.refl _)
   | (with_reducible exact LeO.none _)
   | (with_reducible refine LeO.ite ?_ ?_)
   | (with_reducible refine LeO.bind ?_ (fun _ => ?_))
   | exact ih0 _ _ _ _ _ _ _ _ _ _ _ _ _ _ _ _ _ _ _ _ _
   | exact ih1 _ _ _ _ _ _ _ _ _ _ _ _ _ _
   | exact ih2 _ _ _ _ _
   | exact impl_MulRat.mono _ _ _ _ _ _ _
   | exact laws_eqRat.mono _ _ _ _ _ _ _
   | exact laws_heldRat.mono _ _ _ _ _
   | exact laws_markRat.mono _ _ _ _ _
   | exact laws_toRat.mono _ _ _ _
   | exact spec_MulRat.mono _ _ _ _ _ _ _
   | exact LeO.none _
   | refine LeO.ite ?_ ?_
   | refine LeO.bind ?_ (fun _ => ?_)
def laws_FnExactMulRat.T8 : Bool × List (List Nat × List Nat) := (true, [([], []), ([0], [0]), ([], []), ([2, 1], [2]), ([1, 3, 3], [1, 3]), ([4], [4]), ([5], [5]), ([5], [5]), ([], []), ([8, 6, 4, 0, 1, 2, 3, 4, 5, 6, 8], [6, 8]), ([7, 9, 0, 1, 2, 3, 4, 5, 6, 7, 8, 9], [7])])
def laws_FnExactMulRat.B8 : List Nat := [0, 1, 0, 7, 15, 31, 63, 63, 0, 383, 1023]
theorem laws_FnExactMulRat.tab8 : rtab .any (opsOf Try.f7 8) = laws_FnExactMulRat.T8 := by kernel_rfl
theorem laws_FnExactMulRat.bits8 : waitsOk laws_FnExactMulRat.T8.2 laws_FnExactMulRat.B8 = true := by kernel_rfl
def laws_FnExactMulRat.T31 : Bool × List (List Nat × List Nat) := (true, [([], []), ([0], [0]), ([], []), ([2, 1], [2]), ([1, 3, 3], [1, 3]), ([4], [4]), ([5], [5]), ([5], [5]), ([], []), ([8, 6, 4, 0, 1, 2, 3, 4, 5, 6, 8], [6, 8]), ([7, 9, 0, 1, 2, 3, 4, 5, 6, 7, 8, 9], [7])])
def laws_FnExactMulRat.B31 : List Nat := [0, 1, 0, 7, 15, 31, 63, 63, 0, 383, 1023]
theorem laws_FnExactMulRat.tab31 : rtab .any (opsOf Try.f7 31) = laws_FnExactMulRat.T31 := by kernel_rfl
theorem laws_FnExactMulRat.bits31 : waitsOk laws_FnExactMulRat.T31.2 laws_FnExactMulRat.B31 = true := by kernel_rfl
set_option maxHeartbeats 8000000 in
set_option maxRecDepth 100000 in
theorem laws_FnExactMulRat.calls (k : Nat) (a0_0 : Bool) (A0_1 : Option Addr) (c0_1 : Nat) (l0_1 : List Int) (A0_2 : Option Addr) (c0_2 : Nat) (l0_2 : List Int) (a1_0 : Bool) (A1_1 : Option Addr) (c1_1 : Nat) (l1_1 : List Int) (A1_2 : Option Addr) (c1_2 : Nat) (l1_2 : List Int) (r : Bool) (w : World) (hr0_1 : Kd.C (Kd.int .i64) w A0_1 l0_1.length l0_1) (hc0_1 : l0_1.length ≤ c0_1) (hr0_2 : Kd.C (Kd.int .i64) w A0_2 l0_2.length l0_2) (hc0_2 : l0_2.length ≤ c0_2) (hr1_1 : Kd.C (Kd.int .i64) w A1_1 l1_1.length l1_1) (hc1_1 : l1_1.length ≤ c1_1) (hr1_2 : Kd.C (Kd.int .i64) w A1_2 l1_2.length l1_2) (hc1_2 : l1_2.length ≤ c1_2) (h : laws_FnExactMulRat.f k a0_0 l0_1 l0_2 a1_0 l1_1 l1_2 = some r) (hr_ : r = true) :
  Calls Try.prog 7 #[.agg #[.bool a0_0, .slice A0_1 l0_1.length c0_1, .slice A0_2 l0_2.length c0_2], .agg #[.bool a1_0, .slice A1_1 l1_1.length c1_1, .slice A1_2 l1_2.length c1_2]] w fun e w' => e = .returned (.bool r) ∧ Below w.heap.size w w' := by
 have hu30 := Try.underlying30
 have hu24 := Try.underlying24
 have HR0_1 := Aside0.mk hr0_1
 have HC0_1 := Aside0.mk hc0_1
 clear hr0_1 hc0_1
 have HR0_2 := Aside0.mk hr0_2
 have HC0_2 := Aside0.mk hc0_2
 clear hr0_2 hc0_2
 have HR1_1 := Aside0.mk hr1_1
 have HC1_1 := Aside0.mk hc1_1
 clear hr1_1 hc1_1
 have HR1_2 := Aside0.mk hr1_2
 have HC1_2 := Aside0.mk hc1_2
 clear hr1_2 hc1_2
 have HB := Aside0.mk (Below.refl w.heap.size w)
 have H : ((laws_szRat.f a0_0 l0_1 l0_2 1048576).bind fun t755 => (if t755 < 0 then (some true) else ((laws_szRat.f a1_0 l1_1 l1_2 t755).bind fun t756 => (if t756 < 0 then (some true) else ((laws_toRat.f k a0_0 l0_1 l0_2).bind fun bt757 => ((laws_toRat.f k a1_0 l1_1 l1_2).bind fun bt764 => ((spec_MulRat.f k bt757.1 bt757.2.1 bt757.2.2 bt764.1 bt764.2.1 bt764.2.2).bind fun bt771 => ((laws_toRat.f k a0_0 l0_1 l0_2).bind fun bt780 => ((laws_toRat.f k a1_0 l1_1 l1_2).bind fun bt788 => ((impl_MulRat.f k bt780.1 bt780.2.1 bt780.2.2 bt788.1 bt788.2.1 bt788.2.2).bind fun bt796 => ((laws_eqRat.f k bt796.1 bt796.2.1 bt796.2.2.1 bt771.1 bt771.2.1 bt771.2.2.1).bind fun t805 => (if t805 = true then (laws_FnExactMulRat.j0 k bt771.2.2.2 bt796.2.2.2 (bt796.2.2.2 != bt771.2.2.2) a0_0 l0_1 l0_2 a1_0 l1_1 l1_2 bt771.1 bt771.2.1 bt771.2.2.1 bt780.1 bt780.2.1 bt780.2.2 bt788.1 bt788.2.1 bt788.2.2 bt796.1 bt796.2.1 bt796.2.2.1) else (laws_FnExactMulRat.j0 k bt771.2.2.2 bt796.2.2.2 true a0_0 l0_1 l0_2 a1_0 l1_1 l1_2 bt771.1 bt771.2.1 bt771.2.2.1 bt780.1 bt780.2.1 bt780.2.2 bt788.1 bt788.2.1 bt788.2.2 bt796.1 bt796.2.1 bt796.2.2.1))))))))))))) = some r := h
 clear h
 replace H := Option.bind_eq_some_iff.mp H
 obtain ⟨t755, A30, H⟩ := H
 replace H : (if t755 < 0 then (some true) else ((laws_szRat.f a1_0 l1_1 l1_2 t755).bind fun t756 => (if t756 < 0 then (some true) else ((laws_toRat.f k a0_0 l0_1 l0_2).bind fun bt757 => ((laws_toRat.f k a1_0 l1_1 l1_2).bind fun bt764 => ((spec_MulRat.f k bt757.1 bt757.2.1 bt757.2.2 bt764.1 bt764.2.1 bt764.2.2).bind fun bt771 => ((laws_toRat.f k a0_0 l0_1 l0_2).bind fun bt780 => ((laws_toRat.f k a1_0 l1_1 l1_2).bind fun bt788 => ((impl_MulRat.f k bt780.1 bt780.2.1 bt780.2.2 bt788.1 bt788.2.1 bt788.2.2).bind fun bt796 => ((laws_eqRat.f k bt796.1 bt796.2.1 bt796.2.2.1 bt771.1 bt771.2.1 bt771.2.2.1).bind fun t805 => (if t805 = true then (laws_FnExactMulRat.j0 k bt771.2.2.2 bt796.2.2.2 (bt796.2.2.2 != bt771.2.2.2) a0_0 l0_1 l0_2 a1_0 l1_1 l1_2 bt771.1 bt771.2.1 bt771.2.2.1 bt780.1 bt780.2.1 bt780.2.2 bt788.1 bt788.2.1 bt788.2.2 bt796.1 bt796.2.1 bt796.2.2.1) else (laws_FnExactMulRat.j0 k bt771.2.2.2 bt796.2.2.2 true a0_0 l0_1 l0_2 a1_0 l1_1 l1_2 bt771.1 bt771.2.1 bt771.2.2.1 bt780.1 bt780.2.1 bt780.2.2 bt788.1 bt788.2.1 bt788.2.2 bt796.1 bt796.2.1 bt796.2.2.1)))))))))))) = some r := H
 have A3 := Aside0.mk A30
 clear A30
 by_cases c4 : t755 < 0
 ·
  rw [if_pos c4] at H
  have c4b0 : decide (t755 < 0) = true := decide_eq_true c4
  clear c4
  obtain rfl := Option.some.inj H
  go_enter Try.func7, Try.ntmps7
  go_wp2_with (first | ((with_reducible refine gate_dst (N := 2) rfl ?_); refine box_event ?hg (N := 2) ?hd (cs := #[.bool a0_0, .slice A0_1 l0_1.length c0_1, .slice A0_2 l0_2.length c0_2]) (t := 30) ?hr ?_; (case hd => rfl); (case hg => rfl); (case hr => first | (go_simp; done) | (go_simp; rfl)); intro gb753 hg w5 hbox hb; have BK753 := Aside0.mk (hbox); have GW753 := geh hg HB; have GE753 := geh hg HB; replace HB := bst HB hb; clear hb hbox hg) | ((with_reducible refine gate_dst (N := 3) rfl ?_); refine box_event ?hg (N := 3) ?hd (cs := #[.bool a1_0, .slice A1_1 l1_1.length c1_1, .slice A1_2 l1_2.length c1_2]) (t := 30) ?hr ?_; (case hd => rfl); (case hg => rfl); (case hr => first | (go_simp; done) | (go_simp; rfl)); intro gb754 hg w6 hbox hb; have BK754 := Aside0.mk (hbox); have GW754 := geh hg HB; have GE754 := geh hg HB; replace HB := bst HB hb; have NB753_754 := nlt hg BK753; have NB754_753 := ngt hg BK753; replace BK753 := bkb BK753 hb; clear hb hbox hg; have hnb7 := NB753_754.out; have hnc7 := NB754_753.out; have hcz8_0 := bce BK753 0 (.bool a0_0); have hcz8_1 := bce BK753 1 (.slice A0_1 l0_1.length c0_1); have hcz8_2 := bce BK753 2 (.slice A0_2 l0_2.length c0_2); have hfz8_0 := blk_frozen BK753.out 0; have hfz8_1 := blk_frozen BK753.out 1; have hfz8_2 := blk_frozen BK753.out 2) | ((with_reducible refine gate_callee (f := 20) rfl ?_); refine goesL_ (some 19) rfl rfl Try.func20 (by kernel_rfl) rfl #[.agg #[.bool a0_0, .slice A0_1 l0_1.length c0_1, .slice A0_2 l0_2.length c0_2], .int .i64 1048576] rfl (by (try simp only [List.map_toArray, List.map_cons, List.map_nil]); first | done | rfl | (simp only [List.length_drop, List.length_take]; rfl)) ?_; (with_reducible refine (laws_szRat.calls a0_0 _ _ l0_1 _ _ l0_2 1048576 t755 _ ?side1 ?side2 ?side3 ?side4 A3.out).mono ?_); (case side1 => exact crC (Kd.C_below HR0_1.out HB.out)); (case side2 => exact HC0_1.out); (case side3 => exact crC (Kd.C_below HR0_2.out HB.out)); (case side4 => exact HC0_2.out); rintro e w9 ⟨rfl, hb⟩; refine ⟨_, rfl, ?_⟩; replace BK753 := bkb BK753 hb; replace BK754 := bkb BK754 hb; replace HB := bst HB hb; (try clear hb); (try clear hb2); (try clear hk); (try clear hi)))
  go_ret
  exact ⟨by first | rfl | (simp [errW_none, errW_some] <;> rfl) | (simp [*, errW_none, errW_some] <;> rfl), blw HB⟩
 ·
  rw [if_neg c4] at H
  have c4b0 : decide (t755 < 0) = false := decide_eq_false c4
  clear c4
  replace H := Option.bind_eq_some_iff.mp H
  obtain ⟨t756, A100, H⟩ := H
  replace H : (if t756 < 0 then (some true) else ((laws_toRat.f k a0_0 l0_1 l0_2).bind fun bt757 => ((laws_toRat.f k a1_0 l1_1 l1_2).bind fun bt764 => ((spec_MulRat.f k bt757.1 bt757.2.1 bt757.2.2 bt764.1 bt764.2.1 bt764.2.2).bind fun bt771 => ((laws_toRat.f k a0_0 l0_1 l0_2).bind fun bt780 => ((laws_toRat.f k a1_0 l1_1 l1_2).bind fun bt788 => ((impl_MulRat.f k bt780.1 bt780.2.1 bt780.2.2 bt788.1 bt788.2.1 bt788.2.2).bind fun bt796 => ((laws_eqRat.f k bt796.1 bt796.2.1 bt796.2.2.1 bt771.1 bt771.2.1 bt771.2.2.1).bind fun t805 => (if t805 = true then (laws_FnExactMulRat.j0 k bt771.2.2.2 bt796.2.2.2 (bt796.2.2.2 != bt771.2.2.2) a0_0 l0_1 l0_2 a1_0 l1_1 l1_2 bt771.1 bt771.2.1 bt771.2.2.1 bt780.1 bt780.2.1 bt780.2.2 bt788.1 bt788.2.1 bt788.2.2 bt796.1 bt796.2.1 bt796.2.2.1) else (laws_FnExactMulRat.j0 k bt771.2.2.2 bt796.2.2.2 true a0_0 l0_1 l0_2 a1_0 l1_1 l1_2 bt771.1 bt771.2.1 bt771.2.2.1 bt780.1 bt780.2.1 bt780.2.2 bt788.1 bt788.2.1 bt788.2.2 bt796.1 bt796.2.1 bt796.2.2.1)))))))))) = some r := H
  have A10 := Aside0.mk A100
  clear A100
  by_cases c11 : t756 < 0
  ·
   rw [if_pos c11] at H
   have c11b0 : decide (t756 < 0) = true := decide_eq_true c11
   clear c11
   obtain rfl := Option.some.inj H
   go_enter Try.func7, Try.ntmps7
   go_wp2_with (first | ((with_reducible refine gate_dst (N := 2) rfl ?_); refine box_event ?hg (N := 2) ?hd (cs := #[.bool a0_0, .slice A0_1 l0_1.length c0_1, .slice A0_2 l0_2.length c0_2]) (t := 30) ?hr ?_; (case hd => rfl); (case hg => rfl); (case hr => first | (go_simp; done) | (go_simp; rfl)); intro gb753 hg w12 hbox hb; have BK753 := Aside0.mk (hbox); have GW753 := geh hg HB; have GE753 := geh hg HB; replace HB := bst HB hb; clear hb hbox hg) | ((with_reducible refine gate_dst (N := 3) rfl ?_); refine box_event ?hg (N := 3) ?hd (cs := #[.bool a1_0, .slice A1_1 l1_1.length c1_1, .slice A1_2 l1_2.length c1_2]) (t := 30) ?hr ?_; (case hd => rfl); (case hg => rfl); (case hr => first | (go_simp; done) | (go_simp; rfl)); intro gb754 hg w13 hbox hb; have BK754 := Aside0.mk (hbox); have GW754 := geh hg HB; have GE754 := geh hg HB; replace HB := bst HB hb; have NB753_754 := nlt hg BK753; have NB754_753 := ngt hg BK753; replace BK753 := bkb BK753 hb; clear hb hbox hg; have hnb14 := NB753_754.out; have hnc14 := NB754_753.out; have hcz15_0 := bce BK753 0 (.bool a0_0); have hcz15_1 := bce BK753 1 (.slice A0_1 l0_1.length c0_1); have hcz15_2 := bce BK753 2 (.slice A0_2 l0_2.length c0_2); have hfz15_0 := blk_frozen BK753.out 0; have hfz15_1 := blk_frozen BK753.out 1; have hfz15_2 := blk_frozen BK753.out 2) | ((with_reducible refine gate_callee (f := 20) rfl ?_); refine goesL_ (some 19) rfl rfl Try.func20 (by kernel_rfl) rfl #[.agg #[.bool a0_0, .slice A0_1 l0_1.length c0_1, .slice A0_2 l0_2.length c0_2], .int .i64 1048576] rfl (by (try simp only [List.map_toArray, List.map_cons, List.map_nil]); first | done | rfl | (simp only [List.length_drop, List.length_take]; rfl)) ?_; (with_reducible refine (laws_szRat.calls a0_0 _ _ l0_1 _ _ l0_2 1048576 t755 _ ?side1 ?side2 ?side3 ?side4 A3.out).mono ?_); (case side1 => exact crC (Kd.C_below HR0_1.out HB.out)); (case side2 => exact HC0_1.out); (case side3 => exact crC (Kd.C_below HR0_2.out HB.out)); (case side4 => exact HC0_2.out); rintro e w16 ⟨rfl, hb⟩; refine ⟨_, rfl, ?_⟩; replace BK753 := bkb BK753 hb; replace BK754 := bkb BK754 hb; replace HB := bst HB hb; (try clear hb); (try clear hb2); (try clear hk); (try clear hi); have hcz17_0 := bce BK754 0 (.bool a1_0); have hcz17_1 := bce BK754 1 (.slice A1_1 l1_1.length c1_1); have hcz17_2 := bce BK754 2 (.slice A1_2 l1_2.length c1_2); have hfz17_0 := blk_frozen BK754.out 0; have hfz17_1 := blk_frozen BK754.out 1; have hfz17_2 := blk_frozen BK754.out 2) | ((with_reducible refine gate_callee (f := 20) rfl ?_); refine goesL_ (some 24) rfl rfl Try.func20 (by kernel_rfl) rfl #[.agg #[.bool a1_0, .slice A1_1 l1_1.length c1_1, .slice A1_2 l1_2.length c1_2], .int .i64 t755] rfl (by (try simp only [List.map_toArray, List.map_cons, List.map_nil]); first | done | rfl | (simp only [List.length_drop, List.length_take]; rfl)) ?_; (with_reducible refine (laws_szRat.calls a1_0 _ _ l1_1 _ _ l1_2 t755 t756 _ ?side1 ?side2 ?side3 ?side4 A10.out).mono ?_); (case side1 => exact crC (Kd.C_below HR1_1.out HB.out)); (case side2 => exact HC1_1.out); (case side3 => exact crC (Kd.C_below HR1_2.out HB.out)); (case side4 => exact HC1_2.out); rintro e w18 ⟨rfl, hb⟩; refine ⟨_, rfl, ?_⟩; replace BK753 := bkb BK753 hb; replace BK754 := bkb BK754 hb; replace HB := bst HB hb; (try clear hb); (try clear hb2); (try clear hk); (try clear hi)))
   go_ret
   exact ⟨by first | rfl | (simp [errW_none, errW_some] <;> rfl) | (simp [*, errW_none, errW_some] <;> rfl), blw HB⟩
  ·
   rw [if_neg c11] at H
   have c11b0 : decide (t756 < 0) = false := decide_eq_false c11
   clear c11
   replace H := Option.bind_eq_some_iff.mp H
   obtain ⟨⟨t757, t758, t761⟩, A190, H⟩ := H
   replace H : ((laws_toRat.f k a1_0 l1_1 l1_2).bind fun bt764 => ((spec_MulRat.f k t757 t758 t761 bt764.1 bt764.2.1 bt764.2.2).bind fun bt771 => ((laws_toRat.f k a0_0 l0_1 l0_2).bind fun bt780 => ((laws_toRat.f k a1_0 l1_1 l1_2).bind fun bt788 => ((impl_MulRat.f k bt780.1 bt780.2.1 bt780.2.2 bt788.1 bt788.2.1 bt788.2.2).bind fun bt796 => ((laws_eqRat.f k bt796.1 bt796.2.1 bt796.2.2.1 bt771.1 bt771.2.1 bt771.2.2.1).bind fun t805 => (if t805 = true then (laws_FnExactMulRat.j0 k bt771.2.2.2 bt796.2.2.2 (bt796.2.2.2 != bt771.2.2.2) a0_0 l0_1 l0_2 a1_0 l1_1 l1_2 bt771.1 bt771.2.1 bt771.2.2.1 bt780.1 bt780.2.1 bt780.2.2 bt788.1 bt788.2.1 bt788.2.2 bt796.1 bt796.2.1 bt796.2.2.1) else (laws_FnExactMulRat.j0 k bt771.2.2.2 bt796.2.2.2 true a0_0 l0_1 l0_2 a1_0 l1_1 l1_2 bt771.1 bt771.2.1 bt771.2.2.1 bt780.1 bt780.2.1 bt780.2.2 bt788.1 bt788.2.1 bt788.2.2 bt796.1 bt796.2.1 bt796.2.2.1)))))))) = some r := H
   have A19 := Aside0.mk A190
   clear A190
   replace H := Option.bind_eq_some_iff.mp H
   obtain ⟨⟨t764, t765, t768⟩, A200, H⟩ := H
   replace H : ((spec_MulRat.f k t757 t758 t761 t764 t765 t768).bind fun bt771 => ((laws_toRat.f k a0_0 l0_1 l0_2).bind fun bt780 => ((laws_toRat.f k a1_0 l1_1 l1_2).bind fun bt788 => ((impl_MulRat.f k bt780.1 bt780.2.1 bt780.2.2 bt788.1 bt788.2.1 bt788.2.2).bind fun bt796 => ((laws_eqRat.f k bt796.1 bt796.2.1 bt796.2.2.1 bt771.1 bt771.2.1 bt771.2.2.1).bind fun t805 => (if t805 = true then (laws_FnExactMulRat.j0 k bt771.2.2.2 bt796.2.2.2 (bt796.2.2.2 != bt771.2.2.2) a0_0 l0_1 l0_2 a1_0 l1_1 l1_2 bt771.1 bt771.2.1 bt771.2.2.1 bt780.1 bt780.2.1 bt780.2.2 bt788.1 bt788.2.1 bt788.2.2 bt796.1 bt796.2.1 bt796.2.2.1) else (laws_FnExactMulRat.j0 k bt771.2.2.2 bt796.2.2.2 true a0_0 l0_1 l0_2 a1_0 l1_1 l1_2 bt771.1 bt771.2.1 bt771.2.2.1 bt780.1 bt780.2.1 bt780.2.2 bt788.1 bt788.2.1 bt788.2.2 bt796.1 bt796.2.1 bt796.2.2.1))))))) = some r := H
   have A20 := Aside0.mk A200
   clear A200
   replace H := Option.bind_eq_some_iff.mp H
   obtain ⟨⟨t771, t772, t775, t778⟩, A210, H⟩ := H
   replace H : ((laws_toRat.f k a0_0 l0_1 l0_2).bind fun bt780 => ((laws_toRat.f k a1_0 l1_1 l1_2).bind fun bt788 => ((impl_MulRat.f k bt780.1 bt780.2.1 bt780.2.2 bt788.1 bt788.2.1 bt788.2.2).bind fun bt796 => ((laws_eqRat.f k bt796.1 bt796.2.1 bt796.2.2.1 t771 t772 t775).bind fun t805 => (if t805 = true then (laws_FnExactMulRat.j0 k t778 bt796.2.2.2 (bt796.2.2.2 != t778) a0_0 l0_1 l0_2 a1_0 l1_1 l1_2 t771 t772 t775 bt780.1 bt780.2.1 bt780.2.2 bt788.1 bt788.2.1 bt788.2.2 bt796.1 bt796.2.1 bt796.2.2.1) else (laws_FnExactMulRat.j0 k t778 bt796.2.2.2 true a0_0 l0_1 l0_2 a1_0 l1_1 l1_2 t771 t772 t775 bt780.1 bt780.2.1 bt780.2.2 bt788.1 bt788.2.1 bt788.2.2 bt796.1 bt796.2.1 bt796.2.2.1)))))) = some r := H
   have A21 := Aside0.mk A210
   clear A210
   replace H := Option.bind_eq_some_iff.mp H
   obtain ⟨⟨t780, t781, t784⟩, A220, H⟩ := H
   replace H : ((laws_toRat.f k a1_0 l1_1 l1_2).bind fun bt788 => ((impl_MulRat.f k t780 t781 t784 bt788.1 bt788.2.1 bt788.2.2).bind fun bt796 => ((laws_eqRat.f k bt796.1 bt796.2.1 bt796.2.2.1 t771 t772 t775).bind fun t805 => (if t805 = true then (laws_FnExactMulRat.j0 k t778 bt796.2.2.2 (bt796.2.2.2 != t778) a0_0 l0_1 l0_2 a1_0 l1_1 l1_2 t771 t772 t775 t780 t781 t784 bt788.1 bt788.2.1 bt788.2.2 bt796.1 bt796.2.1 bt796.2.2.1) else (laws_FnExactMulRat.j0 k t778 bt796.2.2.2 true a0_0 l0_1 l0_2 a1_0 l1_1 l1_2 t771 t772 t775 t780 t781 t784 bt788.1 bt788.2.1 bt788.2.2 bt796.1 bt796.2.1 bt796.2.2.1))))) = some r := H
   have A22 := Aside0.mk A220
   clear A220
   replace H := Option.bind_eq_some_iff.mp H
   obtain ⟨⟨t788, t789, t792⟩, A230, H⟩ := H
   replace H : ((impl_MulRat.f k t780 t781 t784 t788 t789 t792).bind fun bt796 => ((laws_eqRat.f k bt796.1 bt796.2.1 bt796.2.2.1 t771 t772 t775).bind fun t805 => (if t805 = true then (laws_FnExactMulRat.j0 k t778 bt796.2.2.2 (bt796.2.2.2 != t778) a0_0 l0_1 l0_2 a1_0 l1_1 l1_2 t771 t772 t775 t780 t781 t784 t788 t789 t792 bt796.1 bt796.2.1 bt796.2.2.1) else (laws_FnExactMulRat.j0 k t778 bt796.2.2.2 true a0_0 l0_1 l0_2 a1_0 l1_1 l1_2 t771 t772 t775 t780 t781 t784 t788 t789 t792 bt796.1 bt796.2.1 bt796.2.2.1)))) = some r := H
   have A23 := Aside0.mk A230
   clear A230
   replace H := Option.bind_eq_some_iff.mp H
   obtain ⟨⟨t796, t797, t800, t803⟩, A240, H⟩ := H
   replace H : ((laws_eqRat.f k t796 t797 t800 t771 t772 t775).bind fun t805 => (if t805 = true then (laws_FnExactMulRat.j0 k t778 t803 (t803 != t778) a0_0 l0_1 l0_2 a1_0 l1_1 l1_2 t771 t772 t775 t780 t781 t784 t788 t789 t792 t796 t797 t800) else (laws_FnExactMulRat.j0 k t778 t803 true a0_0 l0_1 l0_2 a1_0 l1_1 l1_2 t771 t772 t775 t780 t781 t784 t788 t789 t792 t796 t797 t800))) = some r := H
   have A24 := Aside0.mk A240
   clear A240
   have HC25 := Aside0.mk H
   clear H
   go_enter Try.func7, Try.ntmps7
   try go_wp2_with (first | ((with_reducible refine gate_dst (N := 2) rfl ?_); refine box_event ?hg (N := 2) ?hd (cs := #[.bool a0_0, .slice A0_1 l0_1.length c0_1, .slice A0_2 l0_2.length c0_2]) (t := 30) ?hr ?_; (case hd => rfl); (case hg => rfl); (case hr => first | (go_simp; done) | (go_simp; rfl)); intro gb753 hg w26 hbox hb; have BK753 := Aside0.mk (hbox); have GW753 := geh hg HB; have GE753 := geh hg HB; replace HB := bst HB hb; clear hb hbox hg) | ((with_reducible refine gate_dst (N := 3) rfl ?_); refine box_event ?hg (N := 3) ?hd (cs := #[.bool a1_0, .slice A1_1 l1_1.length c1_1, .slice A1_2 l1_2.length c1_2]) (t := 30) ?hr ?_; (case hd => rfl); (case hg => rfl); (case hr => first | (go_simp; done) | (go_simp; rfl)); intro gb754 hg w27 hbox hb; have BK754 := Aside0.mk (hbox); have GW754 := geh hg HB; have GE754 := geh hg HB; replace HB := bst HB hb; have NB753_754 := nlt hg BK753; have NB754_753 := ngt hg BK753; replace BK753 := bkb BK753 hb; clear hb hbox hg; have hnb28 := NB753_754.out; have hnc28 := NB754_753.out; have hcz29_0 := bce BK753 0 (.bool a0_0); have hcz29_1 := bce BK753 1 (.slice A0_1 l0_1.length c0_1); have hcz29_2 := bce BK753 2 (.slice A0_2 l0_2.length c0_2); have hfz29_0 := blk_frozen BK753.out 0; have hfz29_1 := blk_frozen BK753.out 1; have hfz29_2 := blk_frozen BK753.out 2) | ((with_reducible refine gate_callee (f := 20) rfl ?_); refine goesL_ (some 19) rfl rfl Try.func20 (by kernel_rfl) rfl #[.agg #[.bool a0_0, .slice A0_1 l0_1.length c0_1, .slice A0_2 l0_2.length c0_2], .int .i64 1048576] rfl (by (try simp only [List.map_toArray, List.map_cons, List.map_nil]); first | done | rfl | (simp only [List.length_drop, List.length_take]; rfl)) ?_; (with_reducible refine (laws_szRat.calls a0_0 _ _ l0_1 _ _ l0_2 1048576 t755 _ ?side1 ?side2 ?side3 ?side4 A3.out).mono ?_); (case side1 => exact crC (Kd.C_below HR0_1.out HB.out)); (case side2 => exact HC0_1.out); (case side3 => exact crC (Kd.C_below HR0_2.out HB.out)); (case side4 => exact HC0_2.out); rintro e w30 ⟨rfl, hb⟩; refine ⟨_, rfl, ?_⟩; replace BK753 := bkb BK753 hb; replace BK754 := bkb BK754 hb; replace HB := bst HB hb; (try clear hb); (try clear hb2); (try clear hk); (try clear hi); have hcz31_0 := bce BK754 0 (.bool a1_0); have hcz31_1 := bce BK754 1 (.slice A1_1 l1_1.length c1_1); have hcz31_2 := bce BK754 2 (.slice A1_2 l1_2.length c1_2); have hfz31_0 := blk_frozen BK754.out 0; have hfz31_1 := blk_frozen BK754.out 1; have hfz31_2 := blk_frozen BK754.out 2) | ((with_reducible refine gate_callee (f := 20) rfl ?_); refine goesL_ (some 24) rfl rfl Try.func20 (by kernel_rfl) rfl #[.agg #[.bool a1_0, .slice A1_1 l1_1.length c1_1, .slice A1_2 l1_2.length c1_2], .int .i64 t755] rfl (by (try simp only [List.map_toArray, List.map_cons, List.map_nil]); first | done | rfl | (simp only [List.length_drop, List.length_take]; rfl)) ?_; (with_reducible refine (laws_szRat.calls a1_0 _ _ l1_1 _ _ l1_2 t755 t756 _ ?side1 ?side2 ?side3 ?side4 A10.out).mono ?_); (case side1 => exact crC (Kd.C_below HR1_1.out HB.out)); (case side2 => exact HC1_1.out); (case side3 => exact crC (Kd.C_below HR1_2.out HB.out)); (case side4 => exact HC1_2.out); rintro e w32 ⟨rfl, hb⟩; refine ⟨_, rfl, ?_⟩; replace BK753 := bkb BK753 hb; replace BK754 := bkb BK754 hb; replace HB := bst HB hb; (try clear hb); (try clear hb2); (try clear hk); (try clear hi)))
   replace BK753 := Aside0.mk (blk_drew BK753.out)
   replace BK754 := Aside0.mk (blk_drew BK754.out)
   replace HB := Aside0.mk (below_drew1 HB.out)
   refine start_ (n := 11) (S := fun w' => w'.cell? ⟨gb753, 0, none⟩ = some (.bool a0_0) ∧ w'.cell? ⟨gb753, 1, none⟩ = some (.slice A0_1 l0_1.length c0_1) ∧ w'.cell? ⟨gb753, 2, none⟩ = some (.slice A0_2 l0_2.length c0_2) ∧ w'.cell? ⟨gb754, 0, none⟩ = some (.bool a1_0) ∧ w'.cell? ⟨gb754, 1, none⟩ = some (.slice A1_1 l1_1.length c1_1) ∧ w'.cell? ⟨gb754, 2, none⟩ = some (.slice A1_2 l1_2.length c1_2)) (ds := []) #[false, false, false, false, false, false, false, false, false, false, false] (by kernel_rfl) rfl rfl ⟨bce BK753 0 _, bce BK753 1 _, bce BK753 2 _, bce BK754 0 _, bce BK754 1 _, bce BK754 2 _⟩ (fun hHeld => ?_); refine with_tabW laws_FnExactMulRat.tab8 laws_FnExactMulRat.bits8 (fun HT_ HW_ => ?_)
   generalize w32.drew = w33 at BK753 BK754 HB hHeld ⊢
   refine take_ (i := 0) (N := some 28) (v := ?_) (a' := ?_) #[true, false, false, false, false, false, false, false, false, false, false] rfl rfl (take_ofW HT_.out HW_.out (by kernel_rfl)) (fun _ _ _ h => h) (Or.inl ⟨by rfl, ?_⟩) hHeld ?_ ?_
   rotate_left
   ·
    rintro w' ⟨s0, s1, s2, s3, s4, s5⟩
    go_simp
    with_reducible rfl
   rotate_left
   ·
    simp only [Act.put, List.setIfInBounds_toArray, List.set_cons_zero, List.set_cons_succ, i64_w, i32_w]
    rfl
   refine take_ (i := 2) (N := some 30) (v := ?_) (a' := ?_) #[true, false, true, false, false, false, false, false, false, false, false] rfl rfl (take_ofW HT_.out HW_.out (by kernel_rfl)) (fun _ _ _ h => h) (Or.inl ⟨by rfl, ?_⟩) hHeld ?_ ?_
   rotate_left
   ·
    rintro w' ⟨s0, s1, s2, s3, s4, s5⟩
    go_simp
    with_reducible rfl
   rotate_left
   ·
    simp only [Act.put, List.setIfInBounds_toArray, List.set_cons_zero, List.set_cons_succ, i64_w, i32_w]
    rfl
   refine join_ (σ := Value × Value × Value × Value × Value × Value × Nat) 2 #[true, true, true, true, true, true, true, true, true, false, false] (fun s_ => [(29, .agg #[.bool t757, s_.1, s_.2.1]), (31, .agg #[.bool t764, s_.2.2.1, s_.2.2.2.1]), (32, .tuple #[.agg #[.bool t771, s_.2.2.2.2.1, s_.2.2.2.2.2.1], .int .i64 t778]), (6, .pointer (some ⟨s_.2.2.2.2.2.2, 0, none⟩)), (27, .tuple #[.agg #[.bool t771, s_.2.2.2.2.1, s_.2.2.2.2.2.1], .int .i64 t778]), (33, .agg #[.bool t771, s_.2.2.2.2.1, s_.2.2.2.2.2.1]), (34, .int .i64 t778)]) (fun s_ w' => (w'.cell? ⟨gb753, 0, none⟩ = some (.bool a0_0) ∧ w'.cell? ⟨gb753, 1, none⟩ = some (.slice A0_1 l0_1.length c0_1) ∧ w'.cell? ⟨gb753, 2, none⟩ = some (.slice A0_2 l0_2.length c0_2) ∧ w'.cell? ⟨gb754, 0, none⟩ = some (.bool a1_0) ∧ w'.cell? ⟨gb754, 1, none⟩ = some (.slice A1_1 l1_1.length c1_1) ∧ w'.cell? ⟨gb754, 2, none⟩ = some (.slice A1_2 l1_2.length c1_2)) ∧ (Kd.R (Kd.int .i64) 3 w' w.heap.size (fun k_ => nO k_ s_.2.1 ∧ nO k_ s_.2.2.1 ∧ nO k_ s_.2.2.2.1 ∧ nO k_ s_.2.2.2.2.1 ∧ nO k_ s_.2.2.2.2.2.1) s_.1 t758) ∧ (Kd.R (Kd.int .i64) 3 w' w.heap.size (fun k_ => nO k_ s_.1 ∧ nO k_ s_.2.2.1 ∧ nO k_ s_.2.2.2.1 ∧ nO k_ s_.2.2.2.2.1 ∧ nO k_ s_.2.2.2.2.2.1) s_.2.1 t761) ∧ (Kd.R (Kd.int .i64) 3 w' w.heap.size (fun k_ => nO k_ s_.1 ∧ nO k_ s_.2.1 ∧ nO k_ s_.2.2.2.1 ∧ nO k_ s_.2.2.2.2.1 ∧ nO k_ s_.2.2.2.2.2.1) s_.2.2.1 t765) ∧ (Kd.R (Kd.int .i64) 3 w' w.heap.size (fun k_ => nO k_ s_.1 ∧ nO k_ s_.2.1 ∧ nO k_ s_.2.2.1 ∧ nO k_ s_.2.2.2.2.1 ∧ nO k_ s_.2.2.2.2.2.1) s_.2.2.2.1 t768) ∧ (Kd.R (Kd.int .i64) 3 w' w.heap.size (fun k_ => nO k_ s_.1 ∧ nO k_ s_.2.1 ∧ nO k_ s_.2.2.1 ∧ nO k_ s_.2.2.2.1 ∧ nO k_ s_.2.2.2.2.2.1) s_.2.2.2.2.1 t772) ∧ (Kd.R (Kd.int .i64) 3 w' w.heap.size (fun k_ => nO k_ s_.1 ∧ nO k_ s_.2.1 ∧ nO k_ s_.2.2.1 ∧ nO k_ s_.2.2.2.1 ∧ nO k_ s_.2.2.2.2.1) s_.2.2.2.2.2.1 t775) ∧ (w'.heap[gb753]? = some (.cells #[.bool a0_0, .slice A0_1 l0_1.length c0_1, .slice A0_2 l0_2.length c0_2] 30 (0, 0))) ∧ (w'.heap[gb754]? = some (.cells #[.bool a1_0, .slice A1_1 l1_1.length c1_1, .slice A1_2 l1_2.length c1_2] 30 (0, 0))) ∧ (w'.heap[s_.2.2.2.2.2.2]? = some (.cells #[.bool false, .slice none 0 0, .slice none 0 0] 24 (0, 0))) ∧ (w.heap.size ≤ s_.2.2.2.2.2.2) ∧ (w.heap.size ≤ s_.2.2.2.2.2.2) ∧ (gb753 ≠ s_.2.2.2.2.2.2) ∧ (s_.2.2.2.2.2.2 ≠ gb753) ∧ (gb754 ≠ s_.2.2.2.2.2.2) ∧ (s_.2.2.2.2.2.2 ≠ gb754) ∧ (Below w.heap.size w w')) ?_ ?_
   rotate_left
   ·
    intro hCont
    refine two_ (i := 1) (j := 8) (Ni := some 29) (Nj := some 6) #[true, true, true, false, false, false, false, false, false, false, false] #[true, false, true, false, false, false, false, false, true, false, false] rfl rfl rfl rfl (two_of HT_.out (by kernel_rfl)) (by decide) (by decide) (fun K hK => ?_) (fun K hK => ?_)
    ·
     skip
     refine goes_ Try.func22 (by kernel_rfl) rfl #[.agg #[.bool a0_0, .slice A0_1 l0_1.length c0_1, .slice A0_2 l0_2.length c0_2]] (by rfl) rfl rfl (by (try simp only [List.map_toArray, List.map_cons, List.map_nil]); first | done | rfl | (simp only [List.length_drop, List.length_take]; rfl)) ?_
     with_reducible refine (laws_toRat.calls k a0_0 _ _ l0_1 _ _ l0_2 t757 t758 t761 _ ?side1 ?side2 ?side3 ?side4 A19.out).mono ?_
     (case side1 => exact crC (Kd.C_below HR0_1.out HB.out))
     (case side2 => exact HC0_1.out)
     (case side3 => exact crC (Kd.C_below HR0_2.out HB.out))
     (case side4 => exact HC0_2.out)
     rintro e w34 ⟨v759, v762, rfl, ho0, ho1, hb⟩
     refine ⟨_, rfl, ?_⟩
     have HO760 := lwR ho0 HB
     have HO763 := lwR ho1 HB
     replace BK753 := bkb BK753 hb
     replace BK754 := bkb BK754 hb
     replace HB := bst HB hb
     (try clear hb)
     (try clear hb2)
     (try clear hk)
     (try clear hi)
     (try clear ho0)
     (try clear ho1)
     refine hK.out _ _ ⟨bce BK753 0 _, bce BK753 1 _, bce BK753 2 _, bce BK754 0 _, bce BK754 1 _, bce BK754 2 _⟩ (fun hHeld => ?_)
     clear hK K
     refine norm_ (a' := ?_) ?_ ?_
     rotate_left
     ·
      show Act.put _ (some 29) _ = _
      simp only [Act.put, List.setIfInBounds_toArray, List.set_cons_zero, List.set_cons_succ, i64_w, i32_w]
      rfl
     refine two_ (i := 3) (j := 8) (Ni := some 31) (Nj := some 6) #[true, true, true, true, false, false, false, false, false, false, false] #[true, true, true, false, false, false, false, false, true, false, false] rfl rfl rfl rfl (two_of HT_.out (by kernel_rfl)) (by decide) (by decide) (fun K hK => ?_) (fun K hK => ?_)
     ·
      skip
      refine goes_ Try.func22 (by kernel_rfl) rfl #[.agg #[.bool a1_0, .slice A1_1 l1_1.length c1_1, .slice A1_2 l1_2.length c1_2]] (by rfl) rfl rfl (by (try simp only [List.map_toArray, List.map_cons, List.map_nil]); first | done | rfl | (simp only [List.length_drop, List.length_take]; rfl)) ?_
      with_reducible refine (laws_toRat.calls k a1_0 _ _ l1_1 _ _ l1_2 t764 t765 t768 _ ?side1 ?side2 ?side3 ?side4 A20.out).mono ?_
      (case side1 => exact crC (Kd.C_below HR1_1.out HB.out))
      (case side2 => exact HC1_1.out)
      (case side3 => exact crC (Kd.C_below HR1_2.out HB.out))
      (case side4 => exact HC1_2.out)
      rintro e w35 ⟨v766, v769, rfl, ho0, ho1, hb⟩
      refine ⟨_, rfl, ?_⟩
      have HO767 := lwR (nwR (nwR ho0 HO760) HO763) HB
      have HO770 := lwR (nwR (nwR ho1 HO760) HO763) HB
      replace HO760 := tldR HO760 hb (Kd.R_base ho0) (Kd.R_base ho1)
      replace HO763 := tldR HO763 hb (Kd.R_base ho0) (Kd.R_base ho1)
      replace BK753 := bkb BK753 hb
      replace BK754 := bkb BK754 hb
      replace HB := bst HB hb
      (try clear hb)
      (try clear hb2)
      (try clear hk)
      (try clear hi)
      (try clear ho0)
      (try clear ho1)
      obtain ⟨Ao36, co36, eo36⟩ := Kd.R_slice HO760.out
      (first | subst eo36 | (injection eo36 with f1_ f2_ f3_; have f4_ := f1_.symm; have f5_ := f3_.symm; clear f1_ f2_ f3_; subst f4_; subst f5_))
      obtain ⟨Ao37, co37, eo37⟩ := Kd.R_slice HO763.out
      (first | subst eo37 | (injection eo37 with f1_ f2_ f3_; have f4_ := f1_.symm; have f5_ := f3_.symm; clear f1_ f2_ f3_; subst f4_; subst f5_))
      obtain ⟨Ao38, co38, eo38⟩ := Kd.R_slice HO767.out
      (first | subst eo38 | (injection eo38 with f1_ f2_ f3_; have f4_ := f1_.symm; have f5_ := f3_.symm; clear f1_ f2_ f3_; subst f4_; subst f5_))
      obtain ⟨Ao39, co39, eo39⟩ := Kd.R_slice HO770.out
      (first | subst eo39 | (injection eo39 with f1_ f2_ f3_; have f4_ := f1_.symm; have f5_ := f3_.symm; clear f1_ f2_ f3_; subst f4_; subst f5_))
      refine hK.out _ _ ⟨bce BK753 0 _, bce BK753 1 _, bce BK753 2 _, bce BK754 0 _, bce BK754 1 _, bce BK754 2 _⟩ (fun hHeld => ?_)
      clear hK K
      refine norm_ (a' := ?_) ?_ ?_
      rotate_left
      ·
       show Act.put _ (some 31) _ = _
       simp only [Act.put, List.setIfInBounds_toArray, List.set_cons_zero, List.set_cons_succ, i64_w, i32_w]
       rfl
      refine two_ (i := 4) (j := 8) (Ni := some 32) (Nj := some 6) #[true, true, true, true, true, false, false, false, false, false, false] #[true, true, true, true, false, false, false, false, true, false, false] rfl rfl rfl rfl (two_of HT_.out (by kernel_rfl)) (by decide) (by decide) (fun K hK => ?_) (fun K hK => ?_)
      ·
       skip
       refine goes_ Try.func28 (by kernel_rfl) rfl #[.agg #[.bool t757, .slice Ao36 t758.length co36, .slice Ao37 t761.length co37], .agg #[.bool t764, .slice Ao38 t765.length co38, .slice Ao39 t768.length co39]] (by rfl) rfl rfl (by (try simp only [List.map_toArray, List.map_cons, List.map_nil]); first | done | rfl | (simp only [List.length_drop, List.length_take]; rfl)) ?_
       with_reducible refine (spec_MulRat.calls k t757 _ _ t758 _ _ t761 t764 _ _ t765 _ _ t768 t771 t772 t775 t778 _ ?side1 ?side2 ?side3 ?side4 ?side5 ?side6 ?side7 ?side8 A21.out).mono ?_
       (case side1 => exact crC (Kd.R_reads' HO760.out).2.2)
       (case side2 => exact (Kd.R_reads' HO760.out).2.1)
       (case side3 => exact crC (Kd.R_reads' HO763.out).2.2)
       (case side4 => exact (Kd.R_reads' HO763.out).2.1)
       (case side5 => exact crC (Kd.R_reads' HO767.out).2.2)
       (case side6 => exact (Kd.R_reads' HO767.out).2.1)
       (case side7 => exact crC (Kd.R_reads' HO770.out).2.2)
       (case side8 => exact (Kd.R_reads' HO770.out).2.1)
       rintro e w40 ⟨v773, v776, rfl, ho0, ho1, hb⟩
       refine ⟨_, rfl, ?_⟩
       have HO774 := lwR (nwR (nwR (nwR (nwR ho0 HO760) HO763) HO767) HO770) HB
       have HO777 := lwR (nwR (nwR (nwR (nwR ho1 HO760) HO763) HO767) HO770) HB
       replace HO760 := tldR HO760 hb (Kd.R_base ho0) (Kd.R_base ho1)
       replace HO763 := tldR HO763 hb (Kd.R_base ho0) (Kd.R_base ho1)
       replace HO767 := tldR HO767 hb (Kd.R_base ho0) (Kd.R_base ho1)
       replace HO770 := tldR HO770 hb (Kd.R_base ho0) (Kd.R_base ho1)
       replace BK753 := bkb BK753 hb
       replace BK754 := bkb BK754 hb
       replace HB := bst HB hb
       (try clear hb)
       (try clear hb2)
       (try clear hk)
       (try clear hi)
       (try clear ho0)
       (try clear ho1)
       refine hK.out _ _ ⟨bce BK753 0 _, bce BK753 1 _, bce BK753 2 _, bce BK754 0 _, bce BK754 1 _, bce BK754 2 _⟩ (fun hHeld => ?_)
       clear hK K
       refine norm_ (a' := ?_) ?_ ?_
       rotate_left
       ·
        show Act.put _ (some 32) _ = _
        simp only [Act.put, List.setIfInBounds_toArray, List.set_cons_zero, List.set_cons_succ, i64_w, i32_w]
        rfl
       refine pure_ (i := 5) (N := some 27) (v := ?_) (a' := ?_) #[true, true, true, true, true, true, false, false, false, false, false] rfl rfl (any_of HT_.out (by kernel_rfl)) (fun _ _ _ h => h) (Or.inl ⟨by rfl, ?_⟩) ?_ ?_
       rotate_left
       ·
        intro w'
        go_simp
        with_reducible rfl
       rotate_left
       ·
        simp only [Act.put, List.setIfInBounds_toArray, List.set_cons_zero, List.set_cons_succ, i64_w, i32_w]
        rfl
       refine pure_ (i := 6) (N := some 33) (v := ?_) (a' := ?_) #[true, true, true, true, true, true, true, false, false, false, false] rfl rfl (any_of HT_.out (by kernel_rfl)) (fun _ _ _ h => h) (Or.inl ⟨by rfl, ?_⟩) ?_ ?_
       rotate_left
       ·
        intro w'
        go_simp
        with_reducible rfl
       rotate_left
       ·
        simp only [Act.put, List.setIfInBounds_toArray, List.set_cons_zero, List.set_cons_succ, i64_w, i32_w]
        rfl
       refine pure_ (i := 7) (N := some 34) (v := ?_) (a' := ?_) #[true, true, true, true, true, true, true, true, false, false, false] rfl rfl (any_of HT_.out (by kernel_rfl)) (fun _ _ _ h => h) (Or.inl ⟨by rfl, ?_⟩) ?_ ?_
       rotate_left
       ·
        intro w'
        go_simp
        with_reducible rfl
       rotate_left
       ·
        simp only [Act.put, List.setIfInBounds_toArray, List.set_cons_zero, List.set_cons_succ, i64_w, i32_w]
        rfl
       refine one_ (i := 8) (N := some 6) #[true, true, true, true, true, true, true, true, true, false, false] rfl rfl (one_of HT_.out (by kernel_rfl)) (by decide) (fun K hK => ?_)
       refine box_step ?hg (N := 6) ?hd (cs := #[.bool false, .slice none 0 0, .slice none 0 0]) (t := 24) ?hr ?_; (case hd => rfl); (case hg => rfl); (case hr => first | (go_simp; done) | (go_simp; rfl))
       intro gb779 hg w41 hbox hb
       replace HO760 := rblR HO760 hb
       replace HO763 := rblR HO763 hb
       replace HO767 := rblR HO767 hb
       replace HO770 := rblR HO770 hb
       replace HO774 := rblR HO774 hb
       replace HO777 := rblR HO777 hb
       have BK779 := Aside0.mk (hbox)
       have GW779 := geh hg HB
       have GE779 := geh hg HB
       replace HB := bst HB hb
       have NB753_779 := nlt hg BK753
       have NB779_753 := ngt hg BK753
       replace BK753 := bkb BK753 hb
       have NB754_779 := nlt hg BK754
       have NB779_754 := ngt hg BK754
       replace BK754 := bkb BK754 hb
       clear hb hbox hg
       refine hK.out _ _ ⟨bce BK753 0 _, bce BK753 1 _, bce BK753 2 _, bce BK754 0 _, bce BK754 1 _, bce BK754 2 _⟩ (fun hHeld => ?_)
       clear hK K
       refine norm_ (a' := ?_) ?_ ?_
       rotate_left
       ·
        show Act.put _ (some 6) _ = _
        simp only [Act.put, List.setIfInBounds_toArray, List.set_cons_zero, List.set_cons_succ, i64_w, i32_w]
        rfl
       exact norm_ (by simp only [putAll, Act.put, List.setIfInBounds_toArray, List.set_cons_zero, List.set_cons_succ]) (hCont (.slice Ao36 t758.length co36, .slice Ao37 t761.length co37, .slice Ao38 t765.length co38, .slice Ao39 t768.length co39, v773, v776, gb779) _ ⟨hHeld, (crM HO760 fun _ hk => ⟨hk.1.1.1.1, hk.1.1.1.2, hk.1.1.2, hk.1.2, hk.2⟩), (crM HO763 fun _ hk => ⟨hk.1.1.1.1, hk.1.1.1.2, hk.1.1.2, hk.1.2, hk.2⟩), (crM HO767 fun _ hk => ⟨hk.1.1.1.2, hk.1.1.2, hk.1.1.1.1, hk.1.2, hk.2⟩), (crM HO770 fun _ hk => ⟨hk.1.1.1.2, hk.1.1.2, hk.1.1.1.1, hk.1.2, hk.2⟩), (crM HO774 fun _ hk => ⟨hk.1.1.1.2, hk.1.1.2, hk.1.2, hk.2, hk.1.1.1.1⟩), (crM HO777 fun _ hk => ⟨hk.1.1.1.2, hk.1.1.2, hk.1.2, hk.2, hk.1.1.1.1⟩), (crb BK753), (crb BK754), (crb BK779), GW779.out, GE779.out, NB753_779.out, NB779_753.out, NB754_779.out, NB779_754.out, (blw HB)⟩)
      ·
       skip
       refine box_step ?hg (N := 6) ?hd (cs := #[.bool false, .slice none 0 0, .slice none 0 0]) (t := 24) ?hr ?_; (case hd => rfl); (case hg => rfl); (case hr => first | (go_simp; done) | (go_simp; rfl))
       intro gb779 hg w36 hbox hb
       replace HO760 := rblR HO760 hb
       replace HO763 := rblR HO763 hb
       replace HO767 := rblR HO767 hb
       replace HO770 := rblR HO770 hb
       have BK779 := Aside0.mk (hbox)
       have GW779 := geh hg HB
       have GE779 := geh hg HB
       replace HB := bst HB hb
       have NB753_779 := nlt hg BK753
       have NB779_753 := ngt hg BK753
       replace BK753 := bkb BK753 hb
       have NB754_779 := nlt hg BK754
       have NB779_754 := ngt hg BK754
       replace BK754 := bkb BK754 hb
       clear hb hbox hg
       obtain ⟨Ao37, co37, eo37⟩ := Kd.R_slice HO760.out
       (first | subst eo37 | (injection eo37 with f1_ f2_ f3_; have f4_ := f1_.symm; have f5_ := f3_.symm; clear f1_ f2_ f3_; subst f4_; subst f5_))
       obtain ⟨Ao38, co38, eo38⟩ := Kd.R_slice HO763.out
       (first | subst eo38 | (injection eo38 with f1_ f2_ f3_; have f4_ := f1_.symm; have f5_ := f3_.symm; clear f1_ f2_ f3_; subst f4_; subst f5_))
       obtain ⟨Ao39, co39, eo39⟩ := Kd.R_slice HO767.out
       (first | subst eo39 | (injection eo39 with f1_ f2_ f3_; have f4_ := f1_.symm; have f5_ := f3_.symm; clear f1_ f2_ f3_; subst f4_; subst f5_))
       obtain ⟨Ao40, co40, eo40⟩ := Kd.R_slice HO770.out
       (first | subst eo40 | (injection eo40 with f1_ f2_ f3_; have f4_ := f1_.symm; have f5_ := f3_.symm; clear f1_ f2_ f3_; subst f4_; subst f5_))
       refine hK.out _ _ ⟨bce BK753 0 _, bce BK753 1 _, bce BK753 2 _, bce BK754 0 _, bce BK754 1 _, bce BK754 2 _⟩ (fun hHeld => ?_)
       clear hK K
       refine norm_ (a' := ?_) ?_ ?_
       rotate_left
       ·
        show Act.put _ (some 6) _ = _
        simp only [Act.put, List.setIfInBounds_toArray, List.set_cons_zero, List.set_cons_succ, i64_w, i32_w]
        rfl
       refine one_ (i := 4) (N := some 32) #[true, true, true, true, true, false, false, false, true, false, false] rfl rfl (one_of HT_.out (by kernel_rfl)) (by decide) (fun K hK => ?_)
       refine goes_ Try.func28 (by kernel_rfl) rfl #[.agg #[.bool t757, .slice Ao37 t758.length co37, .slice Ao38 t761.length co38], .agg #[.bool t764, .slice Ao39 t765.length co39, .slice Ao40 t768.length co40]] (by rfl) rfl rfl (by (try simp only [List.map_toArray, List.map_cons, List.map_nil]); first | done | rfl | (simp only [List.length_drop, List.length_take]; rfl)) ?_
       with_reducible refine (spec_MulRat.calls k t757 _ _ t758 _ _ t761 t764 _ _ t765 _ _ t768 t771 t772 t775 t778 _ ?side1 ?side2 ?side3 ?side4 ?side5 ?side6 ?side7 ?side8 A21.out).mono ?_
       (case side1 => exact crC (Kd.R_reads' HO760.out).2.2)
       (case side2 => exact (Kd.R_reads' HO760.out).2.1)
       (case side3 => exact crC (Kd.R_reads' HO763.out).2.2)
       (case side4 => exact (Kd.R_reads' HO763.out).2.1)
       (case side5 => exact crC (Kd.R_reads' HO767.out).2.2)
       (case side6 => exact (Kd.R_reads' HO767.out).2.1)
       (case side7 => exact crC (Kd.R_reads' HO770.out).2.2)
       (case side8 => exact (Kd.R_reads' HO770.out).2.1)
       rintro e w41 ⟨v773, v776, rfl, ho0, ho1, hb⟩
       refine ⟨_, rfl, ?_⟩
       have HO774 := lwR (nwR (nwR (nwR (nwR ho0 HO760) HO763) HO767) HO770) HB
       have HO777 := lwR (nwR (nwR (nwR (nwR ho1 HO760) HO763) HO767) HO770) HB
       replace HO760 := tldR HO760 hb (Kd.R_base ho0) (Kd.R_base ho1)
       replace HO763 := tldR HO763 hb (Kd.R_base ho0) (Kd.R_base ho1)
       replace HO767 := tldR HO767 hb (Kd.R_base ho0) (Kd.R_base ho1)
       replace HO770 := tldR HO770 hb (Kd.R_base ho0) (Kd.R_base ho1)
       replace BK753 := bkb BK753 hb
       replace BK754 := bkb BK754 hb
       replace BK779 := bkb BK779 hb
       replace HB := bst HB hb
       (try clear hb)
       (try clear hb2)
       (try clear hk)
       (try clear hi)
       (try clear ho0)
       (try clear ho1)
       refine hK.out _ _ ⟨bce BK753 0 _, bce BK753 1 _, bce BK753 2 _, bce BK754 0 _, bce BK754 1 _, bce BK754 2 _⟩ (fun hHeld => ?_)
       clear hK K
       refine norm_ (a' := ?_) ?_ ?_
       rotate_left
       ·
        show Act.put _ (some 32) _ = _
        simp only [Act.put, List.setIfInBounds_toArray, List.set_cons_zero, List.set_cons_succ, i64_w, i32_w]
        rfl
       refine pure_ (i := 5) (N := some 27) (v := ?_) (a' := ?_) #[true, true, true, true, true, true, false, false, true, false, false] rfl rfl (any_of HT_.out (by kernel_rfl)) (fun _ _ _ h => h) (Or.inl ⟨by rfl, ?_⟩) ?_ ?_
       rotate_left
       ·
        intro w'
        go_simp
        with_reducible rfl
       rotate_left
       ·
        simp only [Act.put, List.setIfInBounds_toArray, List.set_cons_zero, List.set_cons_succ, i64_w, i32_w]
        rfl
       refine pure_ (i := 6) (N := some 33) (v := ?_) (a' := ?_) #[true, true, true, true, true, true, true, false, true, false, false] rfl rfl (any_of HT_.out (by kernel_rfl)) (fun _ _ _ h => h) (Or.inl ⟨by rfl, ?_⟩) ?_ ?_
       rotate_left
       ·
        intro w'
        go_simp
        with_reducible rfl
       rotate_left
       ·
        simp only [Act.put, List.setIfInBounds_toArray, List.set_cons_zero, List.set_cons_succ, i64_w, i32_w]
        rfl
       refine pure_ (i := 7) (N := some 34) (v := ?_) (a' := ?_) #[true, true, true, true, true, true, true, true, true, false, false] rfl rfl (any_of HT_.out (by kernel_rfl)) (fun _ _ _ h => h) (Or.inl ⟨by rfl, ?_⟩) ?_ ?_
       rotate_left
       ·
        intro w'
        go_simp
        with_reducible rfl
       rotate_left
       ·
        simp only [Act.put, List.setIfInBounds_toArray, List.set_cons_zero, List.set_cons_succ, i64_w, i32_w]
        rfl
       exact norm_ (by simp only [putAll, Act.put, List.setIfInBounds_toArray, List.set_cons_zero, List.set_cons_succ]) (hCont (.slice Ao37 t758.length co37, .slice Ao38 t761.length co38, .slice Ao39 t765.length co39, .slice Ao40 t768.length co40, v773, v776, gb779) _ ⟨hHeld, (crM HO760 fun _ hk => ⟨hk.1.1.1.1, hk.1.1.1.2, hk.1.1.2, hk.1.2, hk.2⟩), (crM HO763 fun _ hk => ⟨hk.1.1.1.1, hk.1.1.1.2, hk.1.1.2, hk.1.2, hk.2⟩), (crM HO767 fun _ hk => ⟨hk.1.1.1.2, hk.1.1.2, hk.1.1.1.1, hk.1.2, hk.2⟩), (crM HO770 fun _ hk => ⟨hk.1.1.1.2, hk.1.1.2, hk.1.1.1.1, hk.1.2, hk.2⟩), (crM HO774 fun _ hk => ⟨hk.1.1.1.2, hk.1.1.2, hk.1.2, hk.2, hk.1.1.1.1⟩), (crM HO777 fun _ hk => ⟨hk.1.1.1.2, hk.1.1.2, hk.1.2, hk.2, hk.1.1.1.1⟩), (crb BK753), (crb BK754), (crb BK779), GW779.out, GE779.out, NB753_779.out, NB779_753.out, NB754_779.out, NB779_754.out, (blw HB)⟩)
     ·
      skip
      refine box_step ?hg (N := 6) ?hd (cs := #[.bool false, .slice none 0 0, .slice none 0 0]) (t := 24) ?hr ?_; (case hd => rfl); (case hg => rfl); (case hr => first | (go_simp; done) | (go_simp; rfl))
      intro gb779 hg w35 hbox hb
      replace HO760 := rblR HO760 hb
      replace HO763 := rblR HO763 hb
      have BK779 := Aside0.mk (hbox)
      have GW779 := geh hg HB
      have GE779 := geh hg HB
      replace HB := bst HB hb
      have NB753_779 := nlt hg BK753
      have NB779_753 := ngt hg BK753
      replace BK753 := bkb BK753 hb
      have NB754_779 := nlt hg BK754
      have NB779_754 := ngt hg BK754
      replace BK754 := bkb BK754 hb
      clear hb hbox hg
      refine hK.out _ _ ⟨bce BK753 0 _, bce BK753 1 _, bce BK753 2 _, bce BK754 0 _, bce BK754 1 _, bce BK754 2 _⟩ (fun hHeld => ?_)
      clear hK K
      refine norm_ (a' := ?_) ?_ ?_
      rotate_left
      ·
       show Act.put _ (some 6) _ = _
       simp only [Act.put, List.setIfInBounds_toArray, List.set_cons_zero, List.set_cons_succ, i64_w, i32_w]
       rfl
      refine one_ (i := 3) (N := some 31) #[true, true, true, true, false, false, false, false, true, false, false] rfl rfl (one_of HT_.out (by kernel_rfl)) (by decide) (fun K hK => ?_)
      refine goes_ Try.func22 (by kernel_rfl) rfl #[.agg #[.bool a1_0, .slice A1_1 l1_1.length c1_1, .slice A1_2 l1_2.length c1_2]] (by rfl) rfl rfl (by (try simp only [List.map_toArray, List.map_cons, List.map_nil]); first | done | rfl | (simp only [List.length_drop, List.length_take]; rfl)) ?_
      with_reducible refine (laws_toRat.calls k a1_0 _ _ l1_1 _ _ l1_2 t764 t765 t768 _ ?side1 ?side2 ?side3 ?side4 A20.out).mono ?_
      (case side1 => exact crC (Kd.C_below HR1_1.out HB.out))
      (case side2 => exact HC1_1.out)
      (case side3 => exact crC (Kd.C_below HR1_2.out HB.out))
      (case side4 => exact HC1_2.out)
      rintro e w36 ⟨v766, v769, rfl, ho0, ho1, hb⟩
      refine ⟨_, rfl, ?_⟩
      have HO767 := lwR (nwR (nwR ho0 HO760) HO763) HB
      have HO770 := lwR (nwR (nwR ho1 HO760) HO763) HB
      replace HO760 := tldR HO760 hb (Kd.R_base ho0) (Kd.R_base ho1)
      replace HO763 := tldR HO763 hb (Kd.R_base ho0) (Kd.R_base ho1)
      replace BK753 := bkb BK753 hb
      replace BK754 := bkb BK754 hb
      replace BK779 := bkb BK779 hb
      replace HB := bst HB hb
      (try clear hb)
      (try clear hb2)
      (try clear hk)
      (try clear hi)
      (try clear ho0)
      (try clear ho1)
      obtain ⟨Ao37, co37, eo37⟩ := Kd.R_slice HO760.out
      (first | subst eo37 | (injection eo37 with f1_ f2_ f3_; have f4_ := f1_.symm; have f5_ := f3_.symm; clear f1_ f2_ f3_; subst f4_; subst f5_))
      obtain ⟨Ao38, co38, eo38⟩ := Kd.R_slice HO763.out
      (first | subst eo38 | (injection eo38 with f1_ f2_ f3_; have f4_ := f1_.symm; have f5_ := f3_.symm; clear f1_ f2_ f3_; subst f4_; subst f5_))
      obtain ⟨Ao39, co39, eo39⟩ := Kd.R_slice HO767.out
      (first | subst eo39 | (injection eo39 with f1_ f2_ f3_; have f4_ := f1_.symm; have f5_ := f3_.symm; clear f1_ f2_ f3_; subst f4_; subst f5_))
      obtain ⟨Ao40, co40, eo40⟩ := Kd.R_slice HO770.out
      (first | subst eo40 | (injection eo40 with f1_ f2_ f3_; have f4_ := f1_.symm; have f5_ := f3_.symm; clear f1_ f2_ f3_; subst f4_; subst f5_))
      refine hK.out _ _ ⟨bce BK753 0 _, bce BK753 1 _, bce BK753 2 _, bce BK754 0 _, bce BK754 1 _, bce BK754 2 _⟩ (fun hHeld => ?_)
      clear hK K
      refine norm_ (a' := ?_) ?_ ?_
      rotate_left
      ·
       show Act.put _ (some 31) _ = _
       simp only [Act.put, List.setIfInBounds_toArray, List.set_cons_zero, List.set_cons_succ, i64_w, i32_w]
       rfl
      refine one_ (i := 4) (N := some 32) #[true, true, true, true, true, false, false, false, true, false, false] rfl rfl (one_of HT_.out (by kernel_rfl)) (by decide) (fun K hK => ?_)
      refine goes_ Try.func28 (by kernel_rfl) rfl #[.agg #[.bool t757, .slice Ao37 t758.length co37, .slice Ao38 t761.length co38], .agg #[.bool t764, .slice Ao39 t765.length co39, .slice Ao40 t768.length co40]] (by rfl) rfl rfl (by (try simp only [List.map_toArray, List.map_cons, List.map_nil]); first | done | rfl | (simp only [List.length_drop, List.length_take]; rfl)) ?_
      with_reducible refine (spec_MulRat.calls k t757 _ _ t758 _ _ t761 t764 _ _ t765 _ _ t768 t771 t772 t775 t778 _ ?side1 ?side2 ?side3 ?side4 ?side5 ?side6 ?side7 ?side8 A21.out).mono ?_
      (case side1 => exact crC (Kd.R_reads' HO760.out).2.2)
      (case side2 => exact (Kd.R_reads' HO760.out).2.1)
      (case side3 => exact crC (Kd.R_reads' HO763.out).2.2)
      (case side4 => exact (Kd.R_reads' HO763.out).2.1)
      (case side5 => exact crC (Kd.R_reads' HO767.out).2.2)
      (case side6 => exact (Kd.R_reads' HO767.out).2.1)
      (case side7 => exact crC (Kd.R_reads' HO770.out).2.2)
      (case side8 => exact (Kd.R_reads' HO770.out).2.1)
      rintro e w41 ⟨v773, v776, rfl, ho0, ho1, hb⟩
      refine ⟨_, rfl, ?_⟩
      have HO774 := lwR (nwR (nwR (nwR (nwR ho0 HO760) HO763) HO767) HO770) HB
      have HO777 := lwR (nwR (nwR (nwR (nwR ho1 HO760) HO763) HO767) HO770) HB
      replace HO760 := tldR HO760 hb (Kd.R_base ho0) (Kd.R_base ho1)
      replace HO763 := tldR HO763 hb (Kd.R_base ho0) (Kd.R_base ho1)
      replace HO767 := tldR HO767 hb (Kd.R_base ho0) (Kd.R_base ho1)
      replace HO770 := tldR HO770 hb (Kd.R_base ho0) (Kd.R_base ho1)
      replace BK753 := bkb BK753 hb
      replace BK754 := bkb BK754 hb
      replace BK779 := bkb BK779 hb
      replace HB := bst HB hb
      (try clear hb)
      (try clear hb2)
      (try clear hk)
      (try clear hi)
      (try clear ho0)
      (try clear ho1)
      refine hK.out _ _ ⟨bce BK753 0 _, bce BK753 1 _, bce BK753 2 _, bce BK754 0 _, bce BK754 1 _, bce BK754 2 _⟩ (fun hHeld => ?_)
      clear hK K
      refine norm_ (a' := ?_) ?_ ?_
      rotate_left
      ·
       show Act.put _ (some 32) _ = _
       simp only [Act.put, List.setIfInBounds_toArray, List.set_cons_zero, List.set_cons_succ, i64_w, i32_w]
       rfl
      refine pure_ (i := 5) (N := some 27) (v := ?_) (a' := ?_) #[true, true, true, true, true, true, false, false, true, false, false] rfl rfl (any_of HT_.out (by kernel_rfl)) (fun _ _ _ h => h) (Or.inl ⟨by rfl, ?_⟩) ?_ ?_
      rotate_left
      ·
       intro w'
       go_simp
       with_reducible rfl
      rotate_left
      ·
       simp only [Act.put, List.setIfInBounds_toArray, List.set_cons_zero, List.set_cons_succ, i64_w, i32_w]
       rfl
      refine pure_ (i := 6) (N := some 33) (v := ?_) (a' := ?_) #[true, true, true, true, true, true, true, false, true, false, false] rfl rfl (any_of HT_.out (by kernel_rfl)) (fun _ _ _ h => h) (Or.inl ⟨by rfl, ?_⟩) ?_ ?_
      rotate_left
      ·
       intro w'
       go_simp
       with_reducible rfl
      rotate_left
      ·
       simp only [Act.put, List.setIfInBounds_toArray, List.set_cons_zero, List.set_cons_succ, i64_w, i32_w]
       rfl
      refine pure_ (i := 7) (N := some 34) (v := ?_) (a' := ?_) #[true, true, true, true, true, true, true, true, true, false, false] rfl rfl (any_of HT_.out (by kernel_rfl)) (fun _ _ _ h => h) (Or.inl ⟨by rfl, ?_⟩) ?_ ?_
      rotate_left
      ·
       intro w'
       go_simp
       with_reducible rfl
      rotate_left
      ·
       simp only [Act.put, List.setIfInBounds_toArray, List.set_cons_zero, List.set_cons_succ, i64_w, i32_w]
       rfl
      exact norm_ (by simp only [putAll, Act.put, List.setIfInBounds_toArray, List.set_cons_zero, List.set_cons_succ]) (hCont (.slice Ao37 t758.length co37, .slice Ao38 t761.length co38, .slice Ao39 t765.length co39, .slice Ao40 t768.length co40, v773, v776, gb779) _ ⟨hHeld, (crM HO760 fun _ hk => ⟨hk.1.1.1.1, hk.1.1.1.2, hk.1.1.2, hk.1.2, hk.2⟩), (crM HO763 fun _ hk => ⟨hk.1.1.1.1, hk.1.1.1.2, hk.1.1.2, hk.1.2, hk.2⟩), (crM HO767 fun _ hk => ⟨hk.1.1.1.2, hk.1.1.2, hk.1.1.1.1, hk.1.2, hk.2⟩), (crM HO770 fun _ hk => ⟨hk.1.1.1.2, hk.1.1.2, hk.1.1.1.1, hk.1.2, hk.2⟩), (crM HO774 fun _ hk => ⟨hk.1.1.1.2, hk.1.1.2, hk.1.2, hk.2, hk.1.1.1.1⟩), (crM HO777 fun _ hk => ⟨hk.1.1.1.2, hk.1.1.2, hk.1.2, hk.2, hk.1.1.1.1⟩), (crb BK753), (crb BK754), (crb BK779), GW779.out, GE779.out, NB753_779.out, NB779_753.out, NB754_779.out, NB779_754.out, (blw HB)⟩)
    ·
     skip
     refine box_step ?hg (N := 6) ?hd (cs := #[.bool false, .slice none 0 0, .slice none 0 0]) (t := 24) ?hr ?_; (case hd => rfl); (case hg => rfl); (case hr => first | (go_simp; done) | (go_simp; rfl))
     intro gb779 hg w34 hbox hb
     have BK779 := Aside0.mk (hbox)
     have GW779 := geh hg HB
     have GE779 := geh hg HB
     replace HB := bst HB hb
     have NB753_779 := nlt hg BK753
     have NB779_753 := ngt hg BK753
     replace BK753 := bkb BK753 hb
     have NB754_779 := nlt hg BK754
     have NB779_754 := ngt hg BK754
     replace BK754 := bkb BK754 hb
     clear hb hbox hg
     refine hK.out _ _ ⟨bce BK753 0 _, bce BK753 1 _, bce BK753 2 _, bce BK754 0 _, bce BK754 1 _, bce BK754 2 _⟩ (fun hHeld => ?_)
     clear hK K
     refine norm_ (a' := ?_) ?_ ?_
     rotate_left
     ·
      show Act.put _ (some 6) _ = _
      simp only [Act.put, List.setIfInBounds_toArray, List.set_cons_zero, List.set_cons_succ, i64_w, i32_w]
      rfl
     refine one_ (i := 1) (N := some 29) #[true, true, true, false, false, false, false, false, true, false, false] rfl rfl (one_of HT_.out (by kernel_rfl)) (by decide) (fun K hK => ?_)
     refine goes_ Try.func22 (by kernel_rfl) rfl #[.agg #[.bool a0_0, .slice A0_1 l0_1.length c0_1, .slice A0_2 l0_2.length c0_2]] (by rfl) rfl rfl (by (try simp only [List.map_toArray, List.map_cons, List.map_nil]); first | done | rfl | (simp only [List.length_drop, List.length_take]; rfl)) ?_
     with_reducible refine (laws_toRat.calls k a0_0 _ _ l0_1 _ _ l0_2 t757 t758 t761 _ ?side1 ?side2 ?side3 ?side4 A19.out).mono ?_
     (case side1 => exact crC (Kd.C_below HR0_1.out HB.out))
     (case side2 => exact HC0_1.out)
     (case side3 => exact crC (Kd.C_below HR0_2.out HB.out))
     (case side4 => exact HC0_2.out)
     rintro e w35 ⟨v759, v762, rfl, ho0, ho1, hb⟩
     refine ⟨_, rfl, ?_⟩
     have HO760 := lwR ho0 HB
     have HO763 := lwR ho1 HB
     replace BK753 := bkb BK753 hb
     replace BK754 := bkb BK754 hb
     replace BK779 := bkb BK779 hb
     replace HB := bst HB hb
     (try clear hb)
     (try clear hb2)
     (try clear hk)
     (try clear hi)
     (try clear ho0)
     (try clear ho1)
     refine hK.out _ _ ⟨bce BK753 0 _, bce BK753 1 _, bce BK753 2 _, bce BK754 0 _, bce BK754 1 _, bce BK754 2 _⟩ (fun hHeld => ?_)
     clear hK K
     refine norm_ (a' := ?_) ?_ ?_
     rotate_left
     ·
      show Act.put _ (some 29) _ = _
      simp only [Act.put, List.setIfInBounds_toArray, List.set_cons_zero, List.set_cons_succ, i64_w, i32_w]
      rfl
     refine one_ (i := 3) (N := some 31) #[true, true, true, true, false, false, false, false, true, false, false] rfl rfl (one_of HT_.out (by kernel_rfl)) (by decide) (fun K hK => ?_)
     refine goes_ Try.func22 (by kernel_rfl) rfl #[.agg #[.bool a1_0, .slice A1_1 l1_1.length c1_1, .slice A1_2 l1_2.length c1_2]] (by rfl) rfl rfl (by (try simp only [List.map_toArray, List.map_cons, List.map_nil]); first | done | rfl | (simp only [List.length_drop, List.length_take]; rfl)) ?_
     with_reducible refine (laws_toRat.calls k a1_0 _ _ l1_1 _ _ l1_2 t764 t765 t768 _ ?side1 ?side2 ?side3 ?side4 A20.out).mono ?_
     (case side1 => exact crC (Kd.C_below HR1_1.out HB.out))
     (case side2 => exact HC1_1.out)
     (case side3 => exact crC (Kd.C_below HR1_2.out HB.out))
     (case side4 => exact HC1_2.out)
     rintro e w36 ⟨v766, v769, rfl, ho0, ho1, hb⟩
     refine ⟨_, rfl, ?_⟩
     have HO767 := lwR (nwR (nwR ho0 HO760) HO763) HB
     have HO770 := lwR (nwR (nwR ho1 HO760) HO763) HB
     replace HO760 := tldR HO760 hb (Kd.R_base ho0) (Kd.R_base ho1)
     replace HO763 := tldR HO763 hb (Kd.R_base ho0) (Kd.R_base ho1)
     replace BK753 := bkb BK753 hb
     replace BK754 := bkb BK754 hb
     replace BK779 := bkb BK779 hb
     replace HB := bst HB hb
     (try clear hb)
     (try clear hb2)
     (try clear hk)
     (try clear hi)
     (try clear ho0)
     (try clear ho1)
     obtain ⟨Ao37, co37, eo37⟩ := Kd.R_slice HO760.out
     (first | subst eo37 | (injection eo37 with f1_ f2_ f3_; have f4_ := f1_.symm; have f5_ := f3_.symm; clear f1_ f2_ f3_; subst f4_; subst f5_))
     obtain ⟨Ao38, co38, eo38⟩ := Kd.R_slice HO763.out
     (first | subst eo38 | (injection eo38 with f1_ f2_ f3_; have f4_ := f1_.symm; have f5_ := f3_.symm; clear f1_ f2_ f3_; subst f4_; subst f5_))
     obtain ⟨Ao39, co39, eo39⟩ := Kd.R_slice HO767.out
     (first | subst eo39 | (injection eo39 with f1_ f2_ f3_; have f4_ := f1_.symm; have f5_ := f3_.symm; clear f1_ f2_ f3_; subst f4_; subst f5_))
     obtain ⟨Ao40, co40, eo40⟩ := Kd.R_slice HO770.out
     (first | subst eo40 | (injection eo40 with f1_ f2_ f3_; have f4_ := f1_.symm; have f5_ := f3_.symm; clear f1_ f2_ f3_; subst f4_; subst f5_))
     refine hK.out _ _ ⟨bce BK753 0 _, bce BK753 1 _, bce BK753 2 _, bce BK754 0 _, bce BK754 1 _, bce BK754 2 _⟩ (fun hHeld => ?_)
     clear hK K
     refine norm_ (a' := ?_) ?_ ?_
     rotate_left
     ·
      show Act.put _ (some 31) _ = _
      simp only [Act.put, List.setIfInBounds_toArray, List.set_cons_zero, List.set_cons_succ, i64_w, i32_w]
      rfl
     refine one_ (i := 4) (N := some 32) #[true, true, true, true, true, false, false, false, true, false, false] rfl rfl (one_of HT_.out (by kernel_rfl)) (by decide) (fun K hK => ?_)
     refine goes_ Try.func28 (by kernel_rfl) rfl #[.agg #[.bool t757, .slice Ao37 t758.length co37, .slice Ao38 t761.length co38], .agg #[.bool t764, .slice Ao39 t765.length co39, .slice Ao40 t768.length co40]] (by rfl) rfl rfl (by (try simp only [List.map_toArray, List.map_cons, List.map_nil]); first | done | rfl | (simp only [List.length_drop, List.length_take]; rfl)) ?_
     with_reducible refine (spec_MulRat.calls k t757 _ _ t758 _ _ t761 t764 _ _ t765 _ _ t768 t771 t772 t775 t778 _ ?side1 ?side2 ?side3 ?side4 ?side5 ?side6 ?side7 ?side8 A21.out).mono ?_
     (case side1 => exact crC (Kd.R_reads' HO760.out).2.2)
     (case side2 => exact (Kd.R_reads' HO760.out).2.1)
     (case side3 => exact crC (Kd.R_reads' HO763.out).2.2)
     (case side4 => exact (Kd.R_reads' HO763.out).2.1)
     (case side5 => exact crC (Kd.R_reads' HO767.out).2.2)
     (case side6 => exact (Kd.R_reads' HO767.out).2.1)
     (case side7 => exact crC (Kd.R_reads' HO770.out).2.2)
     (case side8 => exact (Kd.R_reads' HO770.out).2.1)
     rintro e w41 ⟨v773, v776, rfl, ho0, ho1, hb⟩
     refine ⟨_, rfl, ?_⟩
     have HO774 := lwR (nwR (nwR (nwR (nwR ho0 HO760) HO763) HO767) HO770) HB
     have HO777 := lwR (nwR (nwR (nwR (nwR ho1 HO760) HO763) HO767) HO770) HB
     replace HO760 := tldR HO760 hb (Kd.R_base ho0) (Kd.R_base ho1)
     replace HO763 := tldR HO763 hb (Kd.R_base ho0) (Kd.R_base ho1)
     replace HO767 := tldR HO767 hb (Kd.R_base ho0) (Kd.R_base ho1)
     replace HO770 := tldR HO770 hb (Kd.R_base ho0) (Kd.R_base ho1)
     replace BK753 := bkb BK753 hb
     replace BK754 := bkb BK754 hb
     replace BK779 := bkb BK779 hb
     replace HB := bst HB hb
     (try clear hb)
     (try clear hb2)
     (try clear hk)
     (try clear hi)
     (try clear ho0)
     (try clear ho1)
     refine hK.out _ _ ⟨bce BK753 0 _, bce BK753 1 _, bce BK753 2 _, bce BK754 0 _, bce BK754 1 _, bce BK754 2 _⟩ (fun hHeld => ?_)
     clear hK K
     refine norm_ (a' := ?_) ?_ ?_
     rotate_left
     ·
      show Act.put _ (some 32) _ = _
      simp only [Act.put, List.setIfInBounds_toArray, List.set_cons_zero, List.set_cons_succ, i64_w, i32_w]
      rfl
     refine pure_ (i := 5) (N := some 27) (v := ?_) (a' := ?_) #[true, true, true, true, true, true, false, false, true, false, false] rfl rfl (any_of HT_.out (by kernel_rfl)) (fun _ _ _ h => h) (Or.inl ⟨by rfl, ?_⟩) ?_ ?_
     rotate_left
     ·
      intro w'
      go_simp
      with_reducible rfl
     rotate_left
     ·
      simp only [Act.put, List.setIfInBounds_toArray, List.set_cons_zero, List.set_cons_succ, i64_w, i32_w]
      rfl
     refine pure_ (i := 6) (N := some 33) (v := ?_) (a' := ?_) #[true, true, true, true, true, true, true, false, true, false, false] rfl rfl (any_of HT_.out (by kernel_rfl)) (fun _ _ _ h => h) (Or.inl ⟨by rfl, ?_⟩) ?_ ?_
     rotate_left
     ·
      intro w'
      go_simp
      with_reducible rfl
     rotate_left
     ·
      simp only [Act.put, List.setIfInBounds_toArray, List.set_cons_zero, List.set_cons_succ, i64_w, i32_w]
      rfl
     refine pure_ (i := 7) (N := some 34) (v := ?_) (a' := ?_) #[true, true, true, true, true, true, true, true, true, false, false] rfl rfl (any_of HT_.out (by kernel_rfl)) (fun _ _ _ h => h) (Or.inl ⟨by rfl, ?_⟩) ?_ ?_
     rotate_left
     ·
      intro w'
      go_simp
      with_reducible rfl
     rotate_left
     ·
      simp only [Act.put, List.setIfInBounds_toArray, List.set_cons_zero, List.set_cons_succ, i64_w, i32_w]
      rfl
     exact norm_ (by simp only [putAll, Act.put, List.setIfInBounds_toArray, List.set_cons_zero, List.set_cons_succ]) (hCont (.slice Ao37 t758.length co37, .slice Ao38 t761.length co38, .slice Ao39 t765.length co39, .slice Ao40 t768.length co40, v773, v776, gb779) _ ⟨hHeld, (crM HO760 fun _ hk => ⟨hk.1.1.1.1, hk.1.1.1.2, hk.1.1.2, hk.1.2, hk.2⟩), (crM HO763 fun _ hk => ⟨hk.1.1.1.1, hk.1.1.1.2, hk.1.1.2, hk.1.2, hk.2⟩), (crM HO767 fun _ hk => ⟨hk.1.1.1.2, hk.1.1.2, hk.1.1.1.1, hk.1.2, hk.2⟩), (crM HO770 fun _ hk => ⟨hk.1.1.1.2, hk.1.1.2, hk.1.1.1.1, hk.1.2, hk.2⟩), (crM HO774 fun _ hk => ⟨hk.1.1.1.2, hk.1.1.2, hk.1.2, hk.2, hk.1.1.1.1⟩), (crM HO777 fun _ hk => ⟨hk.1.1.1.2, hk.1.1.2, hk.1.2, hk.2, hk.1.1.1.1⟩), (crb BK753), (crb BK754), (crb BK779), GW779.out, GE779.out, NB753_779.out, NB779_753.out, NB754_779.out, NB779_754.out, (blw HB)⟩)
   rintro ⟨v759, v762, v766, v769, v773, v776, gb779⟩ w42 ⟨hS_, h0_, h1_, h2_, h3_, h4_, h5_, h6_, h7_, h8_, h9_, h10_, h11_, h12_, h13_, h14_, h15_⟩
   have HO760 : Aside0 (Kd.R (Kd.int .i64) 3 w42 w.heap.size (fun k_ => nO k_ v762 ∧ nO k_ v766 ∧ nO k_ v769 ∧ nO k_ v773 ∧ nO k_ v776) v759 t758) := ⟨h0_⟩
   have HO763 : Aside0 (Kd.R (Kd.int .i64) 3 w42 w.heap.size (fun k_ => nO k_ v759 ∧ nO k_ v766 ∧ nO k_ v769 ∧ nO k_ v773 ∧ nO k_ v776) v762 t761) := ⟨h1_⟩
   have HO767 : Aside0 (Kd.R (Kd.int .i64) 3 w42 w.heap.size (fun k_ => nO k_ v759 ∧ nO k_ v762 ∧ nO k_ v769 ∧ nO k_ v773 ∧ nO k_ v776) v766 t765) := ⟨h2_⟩
   have HO770 : Aside0 (Kd.R (Kd.int .i64) 3 w42 w.heap.size (fun k_ => nO k_ v759 ∧ nO k_ v762 ∧ nO k_ v766 ∧ nO k_ v773 ∧ nO k_ v776) v769 t768) := ⟨h3_⟩
   have HO774 : Aside0 (Kd.R (Kd.int .i64) 3 w42 w.heap.size (fun k_ => nO k_ v759 ∧ nO k_ v762 ∧ nO k_ v766 ∧ nO k_ v769 ∧ nO k_ v776) v773 t772) := ⟨h4_⟩
   have HO777 : Aside0 (Kd.R (Kd.int .i64) 3 w42 w.heap.size (fun k_ => nO k_ v759 ∧ nO k_ v762 ∧ nO k_ v766 ∧ nO k_ v769 ∧ nO k_ v773) v776 t775) := ⟨h5_⟩
   replace BK753 : Aside0 (w42.heap[gb753]? = some (.cells #[.bool a0_0, .slice A0_1 l0_1.length c0_1, .slice A0_2 l0_2.length c0_2] 30 (0, 0))) := ⟨h6_⟩
   replace BK754 : Aside0 (w42.heap[gb754]? = some (.cells #[.bool a1_0, .slice A1_1 l1_1.length c1_1, .slice A1_2 l1_2.length c1_2] 30 (0, 0))) := ⟨h7_⟩
   have BK779 : Aside0 (w42.heap[gb779]? = some (.cells #[.bool false, .slice none 0 0, .slice none 0 0] 24 (0, 0))) := ⟨h8_⟩
   have GW779 : Aside0 (w.heap.size ≤ gb779) := ⟨h9_⟩
   have GE779 : Aside0 (w.heap.size ≤ gb779) := ⟨h10_⟩
   have NB753_779 : Aside0 (gb753 ≠ gb779) := ⟨h11_⟩
   have NB779_753 : Aside0 (gb779 ≠ gb753) := ⟨h12_⟩
   have NB754_779 : Aside0 (gb754 ≠ gb779) := ⟨h13_⟩
   have NB779_754 : Aside0 (gb779 ≠ gb754) := ⟨h14_⟩
   replace HB : Aside0 (Below w.heap.size w w42) := ⟨h15_⟩
   clear h0_ h1_ h2_ h3_ h4_ h5_ h6_ h7_ h8_ h9_ h10_ h11_ h12_ h13_ h14_ h15_
   have hHeld : w42.cell? ⟨gb753, 0, none⟩ = some (.bool a0_0) ∧ w42.cell? ⟨gb753, 1, none⟩ = some (.slice A0_1 l0_1.length c0_1) ∧ w42.cell? ⟨gb753, 2, none⟩ = some (.slice A0_2 l0_2.length c0_2) ∧ w42.cell? ⟨gb754, 0, none⟩ = some (.bool a1_0) ∧ w42.cell? ⟨gb754, 1, none⟩ = some (.slice A1_1 l1_1.length c1_1) ∧ w42.cell? ⟨gb754, 2, none⟩ = some (.slice A1_2 l1_2.length c1_2) := hS_
   obtain ⟨Ao44, co44, eo44⟩ := Kd.R_slice HO774.out
   (first | subst eo44 | (injection eo44 with f1_ f2_ f3_; have f4_ := f1_.symm; have f5_ := f3_.symm; clear f1_ f2_ f3_; subst f4_; subst f5_))
   obtain ⟨Ao46, co46, eo46⟩ := Kd.R_slice HO777.out
   (first | subst eo46 | (injection eo46 with f1_ f2_ f3_; have f4_ := f1_.symm; have f5_ := f3_.symm; clear f1_ f2_ f3_; subst f4_; subst f5_))
   refine norm_ (a' := ?_) ?_ ?_
   rotate_left
   ·
    simp only [putAll, Act.put, List.setIfInBounds_toArray, List.set_cons_zero, List.set_cons_succ]
    rfl
   refine one_ (i := 9) (N := none) #[true, true, true, true, true, true, true, true, true, true, false] rfl rfl (one_of HT_.out (by kernel_rfl)) (by decide) (fun K hK => ?_)
   have hs43 : w42.cell? ⟨gb779, 0, none⟩ = some (.bool false) := bce BK779 0 _
   have hfs43 := blk_frozen BK779.out 0
   have hns43_0 := NB753_779.out
   have hns43_1 := NB754_779.out
   have hms43_0 := NB779_753.out
   have hms43_1 := NB779_754.out
   have hs45 : w42.cell? ⟨gb779, 1, none⟩ = some (.slice none 0 0) := bce BK779 1 _
   have hfs45 := blk_frozen BK779.out 1
   have hns45_0 := NB753_779.out
   have hns45_1 := NB754_779.out
   have hms45_0 := NB779_753.out
   have hms45_1 := NB779_754.out
   have hs47 : w42.cell? ⟨gb779, 2, none⟩ = some (.slice none 0 0) := bce BK779 2 _
   have hfs47 := blk_frozen BK779.out 2
   have hns47_0 := NB753_779.out
   have hns47_1 := NB754_779.out
   have hms47_0 := NB779_753.out
   have hms47_1 := NB779_754.out
   refine skip_ (w1 := ?_) (by rfl) rfl ?_ ?_
   rotate_left
   ·
    go_simp
    rfl
   refine hK.out _ _ ⟨((cell_far (p := ⟨gb779, _, none⟩) NB753_779.out _).trans (((cell_far (p := ⟨gb779, _, none⟩) NB753_779.out _).trans (((cell_far (p := ⟨gb779, _, none⟩) NB753_779.out _).trans (hHeld.1)))))), ((cell_far (p := ⟨gb779, _, none⟩) NB753_779.out _).trans (((cell_far (p := ⟨gb779, _, none⟩) NB753_779.out _).trans (((cell_far (p := ⟨gb779, _, none⟩) NB753_779.out _).trans (hHeld.2.1)))))), ((cell_far (p := ⟨gb779, _, none⟩) NB753_779.out _).trans (((cell_far (p := ⟨gb779, _, none⟩) NB753_779.out _).trans (((cell_far (p := ⟨gb779, _, none⟩) NB753_779.out _).trans (hHeld.2.2.1)))))), ((cell_far (p := ⟨gb779, _, none⟩) NB754_779.out _).trans (((cell_far (p := ⟨gb779, _, none⟩) NB754_779.out _).trans (((cell_far (p := ⟨gb779, _, none⟩) NB754_779.out _).trans (hHeld.2.2.2.1)))))), ((cell_far (p := ⟨gb779, _, none⟩) NB754_779.out _).trans (((cell_far (p := ⟨gb779, _, none⟩) NB754_779.out _).trans (((cell_far (p := ⟨gb779, _, none⟩) NB754_779.out _).trans (hHeld.2.2.2.2.1)))))), ((cell_far (p := ⟨gb779, _, none⟩) NB754_779.out _).trans (((cell_far (p := ⟨gb779, _, none⟩) NB754_779.out _).trans (((cell_far (p := ⟨gb779, _, none⟩) NB754_779.out _).trans (hHeld.2.2.2.2.2))))))⟩ (fun hHeld => ?_)
   clear hK K
   refine pure_ (i := 10) (N := some 7) (v := ?_) (a' := ?_) #[true, true, true, true, true, true, true, true, true, true, true] rfl rfl (any_of HT_.out (by kernel_rfl)) (fun _ _ _ h => h) (Or.inl ⟨by rfl, ?_⟩) ?_ ?_
   rotate_left
   ·
    intro w'
    go_simp
    with_reducible rfl
   rotate_left
   ·
    simp only [Act.put, List.setIfInBounds_toArray, List.set_cons_zero, List.set_cons_succ, i64_w, i32_w]
    rfl
   refine done_ (done_of HT_.out (by kernel_rfl)) ?_
   have hnb48 := NB753_779.out
   have hnc48 := NB779_753.out
   have hcz49_0 := bce BK753 0 (.bool a0_0)
   have hcz49_1 := bce BK753 1 (.slice A0_1 l0_1.length c0_1)
   have hcz49_2 := bce BK753 2 (.slice A0_2 l0_2.length c0_2)
   have hfz49_0 := blk_frozen BK753.out 0
   have hfz49_1 := blk_frozen BK753.out 1
   have hfz49_2 := blk_frozen BK753.out 2
   go_upto_region 12 with (first | ((with_reducible refine gate_callee (f := 22) rfl ?_); refine goesL_ (some 36) rfl rfl Try.func22 (by kernel_rfl) rfl #[.agg #[.bool a0_0, .slice A0_1 l0_1.length c0_1, .slice A0_2 l0_2.length c0_2]] rfl (by (try simp only [List.map_toArray, List.map_cons, List.map_nil]); first | done | rfl | (simp only [List.length_drop, List.length_take]; rfl)) ?_; (with_reducible refine (laws_toRat.calls k a0_0 _ _ l0_1 _ _ l0_2 t780 t781 t784 _ ?side1 ?side2 ?side3 ?side4 A22.out).mono ?_); (case side1 => exact Kd.C_below HR0_1.out (blw HB)); (case side2 => exact HC0_1.out); (case side3 => exact Kd.C_below HR0_2.out (blw HB)); (case side4 => exact HC0_2.out); rintro e w50 ⟨v782, v785, rfl, ho0, ho1, hb⟩; refine ⟨_, rfl, ?_⟩; have HO783 := lwR (nwF (nwF (nwF (nwF (nwF (nwF ho0 HO760 BK779) HO763 BK779) HO767 BK779) HO770 BK779) HO774 BK779) HO777 BK779) HB; have HO786 := lwR (nwF (nwF (nwF (nwF (nwF (nwF ho1 HO760 BK779) HO763 BK779) HO767 BK779) HO770 BK779) HO774 BK779) HO777 BK779) HB; replace HO760 := tldF HO760 BK779 hb (Kd.R_base ho0) (Kd.R_base ho1); replace HO763 := tldF HO763 BK779 hb (Kd.R_base ho0) (Kd.R_base ho1); replace HO767 := tldF HO767 BK779 hb (Kd.R_base ho0) (Kd.R_base ho1); replace HO770 := tldF HO770 BK779 hb (Kd.R_base ho0) (Kd.R_base ho1); replace HO774 := tldF HO774 BK779 hb (Kd.R_base ho0) (Kd.R_base ho1); replace HO777 := tldF HO777 BK779 hb (Kd.R_base ho0) (Kd.R_base ho1); replace BK753 := bkf BK753 hb; replace BK754 := bkf BK754 hb; replace BK779 := bkp BK779 (.bool t771) (.slice Ao44 t772.length co44) (.slice Ao46 t775.length co46) hb; replace HB := bst HB hb; (try clear hb); (try clear hb2); (try clear hk); (try clear hi); (try clear ho0); (try clear ho1)) | ((with_reducible refine gate_dst (N := 8) rfl ?_); refine box_event ?hg (N := 8) ?hd (cs := #[.bool false, .slice none 0 0, .slice none 0 0]) (t := 24) ?hr ?_; (case hd => rfl); (case hg => rfl); (case hr => first | (go_simp; done) | (go_simp; rfl)); intro gb787 hg w51 hbox hb; replace HO760 := rblR HO760 hb; replace HO763 := rblR HO763 hb; replace HO767 := rblR HO767 hb; replace HO770 := rblR HO770 hb; replace HO774 := rblR HO774 hb; replace HO777 := rblR HO777 hb; replace HO783 := rblR HO783 hb; replace HO786 := rblR HO786 hb; have BK787 := Aside0.mk (hbox); have GW787 := geh hg HB; have GE787 := geh hg HB; replace HB := bst HB hb; have NB753_787 := nlt hg BK753; have NB787_753 := ngt hg BK753; replace BK753 := bkb BK753 hb; have NB754_787 := nlt hg BK754; have NB787_754 := ngt hg BK754; replace BK754 := bkb BK754 hb; have NB779_787 := nlt hg BK779; have NB787_779 := ngt hg BK779; replace BK779 := bkb BK779 hb; clear hb hbox hg; have hnb52 := NB787_753.out; have hnc52 := NB753_787.out; have hnb53 := NB787_754.out; have hnc53 := NB754_787.out; have hnb54 := NB787_779.out; have hnc54 := NB779_787.out; have hcz55_0 := bce BK787 0 (.bool false); have hcz55_1 := bce BK787 1 (.slice none 0 0); have hcz55_2 := bce BK787 2 (.slice none 0 0); have hfz55_0 := blk_frozen BK787.out 0; have hfz55_1 := blk_frozen BK787.out 1; have hfz55_2 := blk_frozen BK787.out 2; obtain ⟨Ao56, co56, eo56⟩ := Kd.R_slice HO783.out; subst eo56; obtain ⟨Ao57, co57, eo57⟩ := Kd.R_slice HO786.out; subst eo57; have hnb58 := NB754_779.out; have hnc58 := NB779_754.out; have hcz59_0 := bce BK754 0 (.bool a1_0); have hcz59_1 := bce BK754 1 (.slice A1_1 l1_1.length c1_1); have hcz59_2 := bce BK754 2 (.slice A1_2 l1_2.length c1_2); have hfz59_0 := blk_frozen BK754.out 0; have hfz59_1 := blk_frozen BK754.out 1; have hfz59_2 := blk_frozen BK754.out 2) | ((with_reducible refine gate_callee (f := 22) rfl ?_); refine goesL_ (some 38) rfl rfl Try.func22 (by kernel_rfl) rfl #[.agg #[.bool a1_0, .slice A1_1 l1_1.length c1_1, .slice A1_2 l1_2.length c1_2]] rfl (by (try simp only [List.map_toArray, List.map_cons, List.map_nil]); first | done | rfl | (simp only [List.length_drop, List.length_take]; rfl)) ?_; (with_reducible refine (laws_toRat.calls k a1_0 _ _ l1_1 _ _ l1_2 t788 t789 t792 _ ?side1 ?side2 ?side3 ?side4 A23.out).mono ?_); (case side1 => exact Kd.C_below HR1_1.out (blw HB)); (case side2 => exact HC1_1.out); (case side3 => exact Kd.C_below HR1_2.out (blw HB)); (case side4 => exact HC1_2.out); rintro e w60 ⟨v790, v793, rfl, ho0, ho1, hb⟩; refine ⟨_, rfl, ?_⟩; have HO791 := lwR (nwF (nwF (nwF (nwF (nwF (nwF (nwF (nwF ho0 HO760 BK787) HO763 BK787) HO767 BK787) HO770 BK787) HO774 BK787) HO777 BK787) HO783 BK787) HO786 BK787) HB; have HO794 := lwR (nwF (nwF (nwF (nwF (nwF (nwF (nwF (nwF ho1 HO760 BK787) HO763 BK787) HO767 BK787) HO770 BK787) HO774 BK787) HO777 BK787) HO783 BK787) HO786 BK787) HB; replace HO760 := tldF HO760 BK787 hb (Kd.R_base ho0) (Kd.R_base ho1); replace HO763 := tldF HO763 BK787 hb (Kd.R_base ho0) (Kd.R_base ho1); replace HO767 := tldF HO767 BK787 hb (Kd.R_base ho0) (Kd.R_base ho1); replace HO770 := tldF HO770 BK787 hb (Kd.R_base ho0) (Kd.R_base ho1); replace HO774 := tldF HO774 BK787 hb (Kd.R_base ho0) (Kd.R_base ho1); replace HO777 := tldF HO777 BK787 hb (Kd.R_base ho0) (Kd.R_base ho1); replace HO783 := tldF HO783 BK787 hb (Kd.R_base ho0) (Kd.R_base ho1); replace HO786 := tldF HO786 BK787 hb (Kd.R_base ho0) (Kd.R_base ho1); replace BK753 := bkf BK753 hb; replace BK754 := bkf BK754 hb; replace BK779 := bkf BK779 hb; replace BK787 := bkp BK787 (.bool t780) (.slice Ao56 t781.length co56) (.slice Ao57 t784.length co57) hb; replace HB := bst HB hb; (try clear hb); (try clear hb2); (try clear hk); (try clear hi); (try clear ho0); (try clear ho1)) | ((with_reducible refine gate_dst (N := 9) rfl ?_); refine box_event ?hg (N := 9) ?hd (cs := #[.bool false, .slice none 0 0, .slice none 0 0]) (t := 24) ?hr ?_; (case hd => rfl); (case hg => rfl); (case hr => first | (go_simp; done) | (go_simp; rfl)); intro gb795 hg w61 hbox hb; replace HO760 := rblR HO760 hb; replace HO763 := rblR HO763 hb; replace HO767 := rblR HO767 hb; replace HO770 := rblR HO770 hb; replace HO774 := rblR HO774 hb; replace HO777 := rblR HO777 hb; replace HO783 := rblR HO783 hb; replace HO786 := rblR HO786 hb; replace HO791 := rblR HO791 hb; replace HO794 := rblR HO794 hb; have BK795 := Aside0.mk (hbox); have GW795 := geh hg HB; have GE795 := geh hg HB; replace HB := bst HB hb; have NB753_795 := nlt hg BK753; have NB795_753 := ngt hg BK753; replace BK753 := bkb BK753 hb; have NB754_795 := nlt hg BK754; have NB795_754 := ngt hg BK754; replace BK754 := bkb BK754 hb; have NB779_795 := nlt hg BK779; have NB795_779 := ngt hg BK779; replace BK779 := bkb BK779 hb; have NB787_795 := nlt hg BK787; have NB795_787 := ngt hg BK787; replace BK787 := bkb BK787 hb; clear hb hbox hg; have hnb62 := NB795_753.out; have hnc62 := NB753_795.out; have hnb63 := NB795_754.out; have hnc63 := NB754_795.out; have hnb64 := NB795_779.out; have hnc64 := NB779_795.out; have hnb65 := NB795_787.out; have hnc65 := NB787_795.out; have hcz66_0 := bce BK795 0 (.bool false); have hcz66_1 := bce BK795 1 (.slice none 0 0); have hcz66_2 := bce BK795 2 (.slice none 0 0); have hfz66_0 := blk_frozen BK795.out 0; have hfz66_1 := blk_frozen BK795.out 1; have hfz66_2 := blk_frozen BK795.out 2; obtain ⟨Ao67, co67, eo67⟩ := Kd.R_slice HO791.out; subst eo67; obtain ⟨Ao68, co68, eo68⟩ := Kd.R_slice HO794.out; subst eo68; have hcz69_0 := bce BK787 0 (.bool t780); have hcz69_1 := bce BK787 1 (.slice Ao56 t781.length co56); have hcz69_2 := bce BK787 2 (.slice Ao57 t784.length co57); have hfz69_0 := blk_frozen BK787.out 0; have hfz69_1 := blk_frozen BK787.out 1; have hfz69_2 := blk_frozen BK787.out 2) | ((with_reducible refine gate_callee (f := 29) rfl ?_); refine goesL_ (some 42) rfl rfl Try.func29 (by kernel_rfl) rfl #[.agg #[.bool t780, .slice Ao56 t781.length co56, .slice Ao57 t784.length co57], .agg #[.bool t788, .slice Ao67 t789.length co67, .slice Ao68 t792.length co68]] rfl (by (try simp only [List.map_toArray, List.map_cons, List.map_nil]); first | done | rfl | (simp only [List.length_drop, List.length_take]; rfl)) ?_; (with_reducible refine (impl_MulRat.calls k t780 _ _ t781 _ _ t784 t788 _ _ t789 _ _ t792 t796 t797 t800 t803 _ ?side1 ?side2 ?side3 ?side4 ?side5 ?side6 ?side7 ?side8 A24.out).mono ?_); (case side1 => refine (Kd.R_reads' (e := 3) (base := w.heap.size) (ok := fun k_ => ((((((((nO k_ (.slice Ao57 t784.length co57) ∧ nO k_ v759) ∧ nO k_ v762) ∧ nO k_ v766) ∧ nO k_ v769) ∧ nO k_ (.slice Ao44 t772.length co44)) ∧ nO k_ (.slice Ao46 t775.length co46)) ∧ nO k_ (.slice Ao67 t789.length co67)) ∧ nO k_ (.slice Ao68 t792.length co68))) (n := t781.length) (c := co56) ?_).2.2; exact (crF HO783 BK795)); (case side2 => exact (Kd.R_reads' HO783.out).2.1); (case side3 => refine (Kd.R_reads' (e := 3) (base := w.heap.size) (ok := fun k_ => ((((((((nO k_ (.slice Ao56 t781.length co56) ∧ nO k_ v759) ∧ nO k_ v762) ∧ nO k_ v766) ∧ nO k_ v769) ∧ nO k_ (.slice Ao44 t772.length co44)) ∧ nO k_ (.slice Ao46 t775.length co46)) ∧ nO k_ (.slice Ao67 t789.length co67)) ∧ nO k_ (.slice Ao68 t792.length co68))) (n := t784.length) (c := co57) ?_).2.2; exact (crF HO786 BK795)); (case side4 => exact (Kd.R_reads' HO786.out).2.1); (case side5 => refine (Kd.R_reads' (e := 3) (base := w.heap.size) (ok := fun k_ => ((((((((nO k_ (.slice Ao68 t792.length co68) ∧ nO k_ v759) ∧ nO k_ v762) ∧ nO k_ v766) ∧ nO k_ v769) ∧ nO k_ (.slice Ao44 t772.length co44)) ∧ nO k_ (.slice Ao46 t775.length co46)) ∧ nO k_ (.slice Ao56 t781.length co56)) ∧ nO k_ (.slice Ao57 t784.length co57))) (n := t789.length) (c := co67) ?_).2.2; exact (crF HO791 BK795)); (case side6 => exact (Kd.R_reads' HO791.out).2.1); (case side7 => refine (Kd.R_reads' (e := 3) (base := w.heap.size) (ok := fun k_ => ((((((((nO k_ (.slice Ao67 t789.length co67) ∧ nO k_ v759) ∧ nO k_ v762) ∧ nO k_ v766) ∧ nO k_ v769) ∧ nO k_ (.slice Ao44 t772.length co44)) ∧ nO k_ (.slice Ao46 t775.length co46)) ∧ nO k_ (.slice Ao56 t781.length co56)) ∧ nO k_ (.slice Ao57 t784.length co57))) (n := t792.length) (c := co68) ?_).2.2; exact (crF HO794 BK795)); (case side8 => exact (Kd.R_reads' HO794.out).2.1); rintro e w70 ⟨v798, v801, rfl, ho0, ho1, hb⟩; refine ⟨_, rfl, ?_⟩; have HO799 := lwR (nwF (nwF (nwF (nwF (nwF (nwF (nwF (nwF (nwF (nwF ho0 HO760 BK795) HO763 BK795) HO767 BK795) HO770 BK795) HO774 BK795) HO777 BK795) HO783 BK795) HO786 BK795) HO791 BK795) HO794 BK795) HB; have HO802 := lwR (nwF (nwF (nwF (nwF (nwF (nwF (nwF (nwF (nwF (nwF ho1 HO760 BK795) HO763 BK795) HO767 BK795) HO770 BK795) HO774 BK795) HO777 BK795) HO783 BK795) HO786 BK795) HO791 BK795) HO794 BK795) HB; replace HO760 := tldF HO760 BK795 hb (Kd.R_base ho0) (Kd.R_base ho1); replace HO763 := tldF HO763 BK795 hb (Kd.R_base ho0) (Kd.R_base ho1); replace HO767 := tldF HO767 BK795 hb (Kd.R_base ho0) (Kd.R_base ho1); replace HO770 := tldF HO770 BK795 hb (Kd.R_base ho0) (Kd.R_base ho1); replace HO774 := tldF HO774 BK795 hb (Kd.R_base ho0) (Kd.R_base ho1); replace HO777 := tldF HO777 BK795 hb (Kd.R_base ho0) (Kd.R_base ho1); replace HO783 := tldF HO783 BK795 hb (Kd.R_base ho0) (Kd.R_base ho1); replace HO786 := tldF HO786 BK795 hb (Kd.R_base ho0) (Kd.R_base ho1); replace HO791 := tldF HO791 BK795 hb (Kd.R_base ho0) (Kd.R_base ho1); replace HO794 := tldF HO794 BK795 hb (Kd.R_base ho0) (Kd.R_base ho1); replace BK753 := bkf BK753 hb; replace BK754 := bkf BK754 hb; replace BK779 := bkf BK779 hb; replace BK787 := bkf BK787 hb; replace BK795 := bkp BK795 (.bool t788) (.slice Ao67 t789.length co67) (.slice Ao68 t792.length co68) hb; replace HB := bst HB hb; (try clear hb); (try clear hb2); (try clear hk); (try clear hi); (try clear ho0); (try clear ho1)) | ((with_reducible refine gate_dst (N := 10) rfl ?_); refine box_event ?hg (N := 10) ?hd (cs := #[.bool false, .slice none 0 0, .slice none 0 0]) (t := 24) ?hr ?_; (case hd => rfl); (case hg => rfl); (case hr => first | (go_simp; done) | (go_simp; rfl)); intro gb804 hg w71 hbox hb; replace HO760 := rblR HO760 hb; replace HO763 := rblR HO763 hb; replace HO767 := rblR HO767 hb; replace HO770 := rblR HO770 hb; replace HO774 := rblR HO774 hb; replace HO777 := rblR HO777 hb; replace HO783 := rblR HO783 hb; replace HO786 := rblR HO786 hb; replace HO791 := rblR HO791 hb; replace HO794 := rblR HO794 hb; replace HO799 := rblR HO799 hb; replace HO802 := rblR HO802 hb; have BK804 := Aside0.mk (hbox); have GW804 := geh hg HB; have GE804 := geh hg HB; replace HB := bst HB hb; have NB753_804 := nlt hg BK753; have NB804_753 := ngt hg BK753; replace BK753 := bkb BK753 hb; have NB754_804 := nlt hg BK754; have NB804_754 := ngt hg BK754; replace BK754 := bkb BK754 hb; have NB779_804 := nlt hg BK779; have NB804_779 := ngt hg BK779; replace BK779 := bkb BK779 hb; have NB787_804 := nlt hg BK787; have NB804_787 := ngt hg BK787; replace BK787 := bkb BK787 hb; have NB795_804 := nlt hg BK795; have NB804_795 := ngt hg BK795; replace BK795 := bkb BK795 hb; clear hb hbox hg; have hnb72 := NB804_753.out; have hnc72 := NB753_804.out; have hnb73 := NB804_754.out; have hnc73 := NB754_804.out; have hnb74 := NB804_779.out; have hnc74 := NB779_804.out; have hnb75 := NB804_787.out; have hnc75 := NB787_804.out; have hnb76 := NB804_795.out; have hnc76 := NB795_804.out; have hcz77_0 := bce BK804 0 (.bool false); have hcz77_1 := bce BK804 1 (.slice none 0 0); have hcz77_2 := bce BK804 2 (.slice none 0 0); have hfz77_0 := blk_frozen BK804.out 0; have hfz77_1 := blk_frozen BK804.out 1; have hfz77_2 := blk_frozen BK804.out 2; obtain ⟨Ao78, co78, eo78⟩ := Kd.R_slice HO799.out; subst eo78; obtain ⟨Ao79, co79, eo79⟩ := Kd.R_slice HO802.out; subst eo79))
   (try simp only [Act.put, List.setIfInBounds_toArray, List.set_cons_zero, List.set_cons_succ])
   go_cut [53] (fun v53 wc => ∃ (kq : Nat) (x53_24 : Bool), v53 = .bool x53_24 ∧ Aside0 (laws_FnExactMulRat.j0 kq t778 t803 x53_24 a0_0 l0_1 l0_2 a1_0 l1_1 l1_2 t771 t772 t775 t780 t781 t784 t788 t789 t792 t796 t797 t800 = some r) ∧ Aside0 (kq ≤ k) ∧ Aside0 (Kd.R (Kd.int .i64) 3 wc w.heap.size (fun k_ => nO k_ (.slice Ao46 t775.length co46) ∧ nO k_ (.slice Ao56 t781.length co56) ∧ nO k_ (.slice Ao57 t784.length co57) ∧ nO k_ (.slice Ao67 t789.length co67) ∧ nO k_ (.slice Ao68 t792.length co68) ∧ nO k_ (.slice Ao78 t797.length co78) ∧ nO k_ (.slice Ao79 t800.length co79)) (.slice Ao44 t772.length co44) t772) ∧ Aside0 (Kd.R (Kd.int .i64) 3 wc w.heap.size (fun k_ => nO k_ (.slice Ao44 t772.length co44) ∧ nO k_ (.slice Ao56 t781.length co56) ∧ nO k_ (.slice Ao57 t784.length co57) ∧ nO k_ (.slice Ao67 t789.length co67) ∧ nO k_ (.slice Ao68 t792.length co68) ∧ nO k_ (.slice Ao78 t797.length co78) ∧ nO k_ (.slice Ao79 t800.length co79)) (.slice Ao46 t775.length co46) t775) ∧ Aside0 (Kd.R (Kd.int .i64) 3 wc w.heap.size (fun k_ => nO k_ (.slice Ao44 t772.length co44) ∧ nO k_ (.slice Ao46 t775.length co46) ∧ nO k_ (.slice Ao57 t784.length co57) ∧ nO k_ (.slice Ao67 t789.length co67) ∧ nO k_ (.slice Ao68 t792.length co68) ∧ nO k_ (.slice Ao78 t797.length co78) ∧ nO k_ (.slice Ao79 t800.length co79)) (.slice Ao56 t781.length co56) t781) ∧ Aside0 (Kd.R (Kd.int .i64) 3 wc w.heap.size (fun k_ => nO k_ (.slice Ao44 t772.length co44) ∧ nO k_ (.slice Ao46 t775.length co46) ∧ nO k_ (.slice Ao56 t781.length co56) ∧ nO k_ (.slice Ao67 t789.length co67) ∧ nO k_ (.slice Ao68 t792.length co68) ∧ nO k_ (.slice Ao78 t797.length co78) ∧ nO k_ (.slice Ao79 t800.length co79)) (.slice Ao57 t784.length co57) t784) ∧ Aside0 (Kd.R (Kd.int .i64) 3 wc w.heap.size (fun k_ => nO k_ (.slice Ao44 t772.length co44) ∧ nO k_ (.slice Ao46 t775.length co46) ∧ nO k_ (.slice Ao56 t781.length co56) ∧ nO k_ (.slice Ao57 t784.length co57) ∧ nO k_ (.slice Ao68 t792.length co68) ∧ nO k_ (.slice Ao78 t797.length co78) ∧ nO k_ (.slice Ao79 t800.length co79)) (.slice Ao67 t789.length co67) t789) ∧ Aside0 (Kd.R (Kd.int .i64) 3 wc w.heap.size (fun k_ => nO k_ (.slice Ao44 t772.length co44) ∧ nO k_ (.slice Ao46 t775.length co46) ∧ nO k_ (.slice Ao56 t781.length co56) ∧ nO k_ (.slice Ao57 t784.length co57) ∧ nO k_ (.slice Ao67 t789.length co67) ∧ nO k_ (.slice Ao78 t797.length co78) ∧ nO k_ (.slice Ao79 t800.length co79)) (.slice Ao68 t792.length co68) t792) ∧ Aside0 (Kd.R (Kd.int .i64) 3 wc w.heap.size (fun k_ => nO k_ (.slice Ao44 t772.length co44) ∧ nO k_ (.slice Ao46 t775.length co46) ∧ nO k_ (.slice Ao56 t781.length co56) ∧ nO k_ (.slice Ao57 t784.length co57) ∧ nO k_ (.slice Ao67 t789.length co67) ∧ nO k_ (.slice Ao68 t792.length co68) ∧ nO k_ (.slice Ao79 t800.length co79)) (.slice Ao78 t797.length co78) t797) ∧ Aside0 (Kd.R (Kd.int .i64) 3 wc w.heap.size (fun k_ => nO k_ (.slice Ao44 t772.length co44) ∧ nO k_ (.slice Ao46 t775.length co46) ∧ nO k_ (.slice Ao56 t781.length co56) ∧ nO k_ (.slice Ao57 t784.length co57) ∧ nO k_ (.slice Ao67 t789.length co67) ∧ nO k_ (.slice Ao68 t792.length co68) ∧ nO k_ (.slice Ao78 t797.length co78)) (.slice Ao79 t800.length co79) t800) ∧ Aside0 (wc.heap[gb753]? = some (.cells #[.bool a0_0, (.slice A0_1 l0_1.length c0_1), (.slice A0_2 l0_2.length c0_2)] 30 (0, 0))) ∧ Aside0 (wc.heap[gb754]? = some (.cells #[.bool a1_0, (.slice A1_1 l1_1.length c1_1), (.slice A1_2 l1_2.length c1_2)] 30 (0, 0))) ∧ Aside0 (wc.heap[gb779]? = some (.cells #[.bool t771, (.slice Ao44 t772.length co44), (.slice Ao46 t775.length co46)] 24 (0, 0))) ∧ Aside0 (wc.heap[gb787]? = some (.cells #[.bool t780, (.slice Ao56 t781.length co56), (.slice Ao57 t784.length co57)] 24 (0, 0))) ∧ Aside0 (wc.heap[gb795]? = some (.cells #[.bool t788, (.slice Ao67 t789.length co67), (.slice Ao68 t792.length co68)] 24 (0, 0))) ∧ Aside0 (wc.heap[gb804]? = some (.cells #[.bool t796, (.slice Ao78 t797.length co78), (.slice Ao79 t800.length co79)] 24 (0, 0))) ∧ Aside0 (Below w.heap.size w wc))
   case first =>
    have H := HC25.out
    clear HC25
    replace H := Option.bind_eq_some_iff.mp H
    obtain ⟨t805, A800, H⟩ := H
    replace H : (if t805 = true then (laws_FnExactMulRat.j0 k t778 t803 (t803 != t778) a0_0 l0_1 l0_2 a1_0 l1_1 l1_2 t771 t772 t775 t780 t781 t784 t788 t789 t792 t796 t797 t800) else (laws_FnExactMulRat.j0 k t778 t803 true a0_0 l0_1 l0_2 a1_0 l1_1 l1_2 t771 t772 t775 t780 t781 t784 t788 t789 t792 t796 t797 t800)) = some r := H
    have A80 := Aside0.mk A800
    clear A800
    by_cases c81 : t805 = true
    ·
     subst c81
     have H1 : (laws_FnExactMulRat.j0 k t778 t803 (t803 != t778) a0_0 l0_1 l0_2 a1_0 l1_1 l1_2 t771 t772 t775 t780 t781 t784 t788 t789 t792 t796 t797 t800) = some r := by rw [if_pos rfl] at H; exact H
     clear H
     have H := H1
     clear H1
     have H' := Aside0.mk H
     clear H
     have hnb82 := NB804_753.out
     have hnc82 := NB753_804.out
     have hnb83 := NB804_754.out
     have hnc83 := NB754_804.out
     have hnb84 := NB804_779.out
     have hnc84 := NB779_804.out
     have hnb85 := NB804_787.out
     have hnc85 := NB787_804.out
     have hnb86 := NB804_795.out
     have hnc86 := NB795_804.out
     have hcz87_0 := bce BK804 0 (.bool false)
     have hcz87_1 := bce BK804 1 (.slice none 0 0)
     have hcz87_2 := bce BK804 2 (.slice none 0 0)
     have hfz87_0 := blk_frozen BK804.out 0
     have hfz87_1 := blk_frozen BK804.out 1
     have hfz87_2 := blk_frozen BK804.out 2
     have hnb88 := NB779_753.out
     have hnc88 := NB753_779.out
     have hnb89 := NB779_754.out
     have hnc89 := NB754_779.out
     have hnb90 := NB779_787.out
     have hnc90 := NB787_779.out
     have hnb91 := NB779_795.out
     have hnc91 := NB795_779.out
     have hcz92_0 := bce BK779 0 (.bool t771)
     have hcz92_1 := bce BK779 1 (.slice Ao44 t772.length co44)
     have hcz92_2 := bce BK779 2 (.slice Ao46 t775.length co46)
     have hfz92_0 := blk_frozen BK779.out 0
     have hfz92_1 := blk_frozen BK779.out 1
     have hfz92_2 := blk_frozen BK779.out 2
     go_wp2_with (first | ((with_reducible refine gate_callee (f := 17) rfl ?_); refine goesL_ (some 47) rfl rfl Try.func17 (by kernel_rfl) rfl #[.agg #[.bool t796, .slice Ao78 t797.length co78, .slice Ao79 t800.length co79], .agg #[.bool t771, .slice Ao44 t772.length co44, .slice Ao46 t775.length co46]] rfl (by (try simp only [List.map_toArray, List.map_cons, List.map_nil]); first | done | rfl | (simp only [List.length_drop, List.length_take]; rfl)) ?_; (with_reducible refine (laws_eqRat.calls k t796 _ _ t797 _ _ t800 t771 _ _ t772 _ _ t775 true _ ?side1 ?side2 ?side3 ?side4 ?side5 ?side6 ?side7 ?side8 A80.out).mono ?_); (case side1 => refine (Kd.R_reads' (e := 3) (base := w.heap.size) (ok := fun k_ => ((((((((((nO k_ (.slice Ao79 t800.length co79) ∧ nO k_ v759) ∧ nO k_ v762) ∧ nO k_ v766) ∧ nO k_ v769) ∧ nO k_ (.slice Ao44 t772.length co44)) ∧ nO k_ (.slice Ao46 t775.length co46)) ∧ nO k_ (.slice Ao56 t781.length co56)) ∧ nO k_ (.slice Ao57 t784.length co57)) ∧ nO k_ (.slice Ao67 t789.length co67)) ∧ nO k_ (.slice Ao68 t792.length co68))) (n := t797.length) (c := co78) ?_).2.2; exact (crF HO799 BK804)); (case side2 => exact (Kd.R_reads' HO799.out).2.1); (case side3 => refine (Kd.R_reads' (e := 3) (base := w.heap.size) (ok := fun k_ => ((((((((((nO k_ (.slice Ao78 t797.length co78) ∧ nO k_ v759) ∧ nO k_ v762) ∧ nO k_ v766) ∧ nO k_ v769) ∧ nO k_ (.slice Ao44 t772.length co44)) ∧ nO k_ (.slice Ao46 t775.length co46)) ∧ nO k_ (.slice Ao56 t781.length co56)) ∧ nO k_ (.slice Ao57 t784.length co57)) ∧ nO k_ (.slice Ao67 t789.length co67)) ∧ nO k_ (.slice Ao68 t792.length co68))) (n := t800.length) (c := co79) ?_).2.2; exact (crF HO802 BK804)); (case side4 => exact (Kd.R_reads' HO802.out).2.1); (case side5 => refine (Kd.R_reads' (e := 3) (base := w.heap.size) (ok := fun k_ => (((((((nO k_ v759 ∧ (nO k_ v762 ∧ (nO k_ v766 ∧ (nO k_ v769 ∧ nO k_ (.slice Ao46 t775.length co46))))) ∧ nO k_ (.slice Ao56 t781.length co56)) ∧ nO k_ (.slice Ao57 t784.length co57)) ∧ nO k_ (.slice Ao67 t789.length co67)) ∧ nO k_ (.slice Ao68 t792.length co68)) ∧ nO k_ (.slice Ao78 t797.length co78)) ∧ nO k_ (.slice Ao79 t800.length co79))) (n := t772.length) (c := co44) ?_).2.2; exact (crF HO774 BK804)); (case side6 => exact (Kd.R_reads' HO774.out).2.1); (case side7 => refine (Kd.R_reads' (e := 3) (base := w.heap.size) (ok := fun k_ => (((((((nO k_ v759 ∧ (nO k_ v762 ∧ (nO k_ v766 ∧ (nO k_ v769 ∧ nO k_ (.slice Ao44 t772.length co44))))) ∧ nO k_ (.slice Ao56 t781.length co56)) ∧ nO k_ (.slice Ao57 t784.length co57)) ∧ nO k_ (.slice Ao67 t789.length co67)) ∧ nO k_ (.slice Ao68 t792.length co68)) ∧ nO k_ (.slice Ao78 t797.length co78)) ∧ nO k_ (.slice Ao79 t800.length co79))) (n := t775.length) (c := co46) ?_).2.2; exact (crF HO777 BK804)); (case side8 => exact (Kd.R_reads' HO777.out).2.1); rintro e w93 ⟨rfl, hb⟩; refine ⟨_, rfl, ?_⟩; replace HO760 := rblF HO760 BK804 hb; replace HO763 := rblF HO763 BK804 hb; replace HO767 := rblF HO767 BK804 hb; replace HO770 := rblF HO770 BK804 hb; replace HO774 := rblF HO774 BK804 hb; replace HO777 := rblF HO777 BK804 hb; replace HO783 := rblF HO783 BK804 hb; replace HO786 := rblF HO786 BK804 hb; replace HO791 := rblF HO791 BK804 hb; replace HO794 := rblF HO794 BK804 hb; replace HO799 := rblF HO799 BK804 hb; replace HO802 := rblF HO802 BK804 hb; replace BK753 := bkf BK753 hb; replace BK754 := bkf BK754 hb; replace BK779 := bkf BK779 hb; replace BK787 := bkf BK787 hb; replace BK795 := bkf BK795 hb; replace BK804 := bkp BK804 (.bool t796) (.slice Ao78 t797.length co78) (.slice Ao79 t800.length co79) hb; replace HB := bst HB hb; (try clear hb); (try clear hb2); (try clear hk); (try clear hi)))
     go_meet
     case rel => exact ⟨_, ((t803 != t778)), (by first | rfl | (simp; done) | (simp [*]; done)), H', ⟨by first | omega | exact Nat.le_refl _⟩, ⟨crM HO774 fun _ hk => ⟨hk.1.1.1.1.1.1.2.2.2.2, hk.1.1.1.1.1.2, hk.1.1.1.1.2, hk.1.1.1.2, hk.1.1.2, hk.1.2, hk.2⟩⟩, ⟨crM HO777 fun _ hk => ⟨hk.1.1.1.1.1.1.2.2.2.2, hk.1.1.1.1.1.2, hk.1.1.1.1.2, hk.1.1.1.2, hk.1.1.2, hk.1.2, hk.2⟩⟩, ⟨crM HO783 fun _ hk => ⟨hk.1.1.1.1.1.2, hk.1.1.1.1.2, hk.1.1.1.1.1.1.1.1.1.1, hk.1.1.1.2, hk.1.1.2, hk.1.2, hk.2⟩⟩, ⟨crM HO786 fun _ hk => ⟨hk.1.1.1.1.1.2, hk.1.1.1.1.2, hk.1.1.1.1.1.1.1.1.1.1, hk.1.1.1.2, hk.1.1.2, hk.1.2, hk.2⟩⟩, ⟨crM HO791 fun _ hk => ⟨hk.1.1.1.1.1.2, hk.1.1.1.1.2, hk.1.1.1.2, hk.1.1.2, hk.1.1.1.1.1.1.1.1.1.1, hk.1.2, hk.2⟩⟩, ⟨crM HO794 fun _ hk => ⟨hk.1.1.1.1.1.2, hk.1.1.1.1.2, hk.1.1.1.2, hk.1.1.2, hk.1.1.1.1.1.1.1.1.1.1, hk.1.2, hk.2⟩⟩, ⟨crM HO799 fun _ hk => ⟨hk.1.1.1.1.1.2, hk.1.1.1.1.2, hk.1.1.1.2, hk.1.1.2, hk.1.2, hk.2, hk.1.1.1.1.1.1.1.1.1.1⟩⟩, ⟨crM HO802 fun _ hk => ⟨hk.1.1.1.1.1.2, hk.1.1.1.1.2, hk.1.1.1.2, hk.1.1.2, hk.1.2, hk.2, hk.1.1.1.1.1.1.1.1.1.1⟩⟩, ⟨crb BK753⟩, ⟨crb BK754⟩, ⟨crb BK779⟩, ⟨crb BK787⟩, ⟨crb BK795⟩, ⟨crb BK804⟩, ⟨blw HB⟩⟩
    ·
     replace c81 := Bool.eq_false_iff.mpr c81
     subst c81
     have H1 : (laws_FnExactMulRat.j0 k t778 t803 true a0_0 l0_1 l0_2 a1_0 l1_1 l1_2 t771 t772 t775 t780 t781 t784 t788 t789 t792 t796 t797 t800) = some r := by rw [if_neg (show ¬ (false = true) by decide)] at H; exact H
     clear H
     have H := H1
     clear H1
     have H' := Aside0.mk H
     clear H
     have hnb94 := NB804_753.out
     have hnc94 := NB753_804.out
     have hnb95 := NB804_754.out
     have hnc95 := NB754_804.out
     have hnb96 := NB804_779.out
     have hnc96 := NB779_804.out
     have hnb97 := NB804_787.out
     have hnc97 := NB787_804.out
     have hnb98 := NB804_795.out
     have hnc98 := NB795_804.out
     have hcz99_0 := bce BK804 0 (.bool false)
     have hcz99_1 := bce BK804 1 (.slice none 0 0)
     have hcz99_2 := bce BK804 2 (.slice none 0 0)
     have hfz99_0 := blk_frozen BK804.out 0
     have hfz99_1 := blk_frozen BK804.out 1
     have hfz99_2 := blk_frozen BK804.out 2
     have hnb100 := NB779_753.out
     have hnc100 := NB753_779.out
     have hnb101 := NB779_754.out
     have hnc101 := NB754_779.out
     have hnb102 := NB779_787.out
     have hnc102 := NB787_779.out
     have hnb103 := NB779_795.out
     have hnc103 := NB795_779.out
     have hcz104_0 := bce BK779 0 (.bool t771)
     have hcz104_1 := bce BK779 1 (.slice Ao44 t772.length co44)
     have hcz104_2 := bce BK779 2 (.slice Ao46 t775.length co46)
     have hfz104_0 := blk_frozen BK779.out 0
     have hfz104_1 := blk_frozen BK779.out 1
     have hfz104_2 := blk_frozen BK779.out 2
     go_wp2_with (first | ((with_reducible refine gate_callee (f := 17) rfl ?_); refine goesL_ (some 47) rfl rfl Try.func17 (by kernel_rfl) rfl #[.agg #[.bool t796, .slice Ao78 t797.length co78, .slice Ao79 t800.length co79], .agg #[.bool t771, .slice Ao44 t772.length co44, .slice Ao46 t775.length co46]] rfl (by (try simp only [List.map_toArray, List.map_cons, List.map_nil]); first | done | rfl | (simp only [List.length_drop, List.length_take]; rfl)) ?_; (with_reducible refine (laws_eqRat.calls k t796 _ _ t797 _ _ t800 t771 _ _ t772 _ _ t775 false _ ?side1 ?side2 ?side3 ?side4 ?side5 ?side6 ?side7 ?side8 A80.out).mono ?_); (case side1 => refine (Kd.R_reads' (e := 3) (base := w.heap.size) (ok := fun k_ => ((((((((((nO k_ (.slice Ao79 t800.length co79) ∧ nO k_ v759) ∧ nO k_ v762) ∧ nO k_ v766) ∧ nO k_ v769) ∧ nO k_ (.slice Ao44 t772.length co44)) ∧ nO k_ (.slice Ao46 t775.length co46)) ∧ nO k_ (.slice Ao56 t781.length co56)) ∧ nO k_ (.slice Ao57 t784.length co57)) ∧ nO k_ (.slice Ao67 t789.length co67)) ∧ nO k_ (.slice Ao68 t792.length co68))) (n := t797.length) (c := co78) ?_).2.2; exact (crF HO799 BK804)); (case side2 => exact (Kd.R_reads' HO799.out).2.1); (case side3 => refine (Kd.R_reads' (e := 3) (base := w.heap.size) (ok := fun k_ => ((((((((((nO k_ (.slice Ao78 t797.length co78) ∧ nO k_ v759) ∧ nO k_ v762) ∧ nO k_ v766) ∧ nO k_ v769) ∧ nO k_ (.slice Ao44 t772.length co44)) ∧ nO k_ (.slice Ao46 t775.length co46)) ∧ nO k_ (.slice Ao56 t781.length co56)) ∧ nO k_ (.slice Ao57 t784.length co57)) ∧ nO k_ (.slice Ao67 t789.length co67)) ∧ nO k_ (.slice Ao68 t792.length co68))) (n := t800.length) (c := co79) ?_).2.2; exact (crF HO802 BK804)); (case side4 => exact (Kd.R_reads' HO802.out).2.1); (case side5 => refine (Kd.R_reads' (e := 3) (base := w.heap.size) (ok := fun k_ => (((((((nO k_ v759 ∧ (nO k_ v762 ∧ (nO k_ v766 ∧ (nO k_ v769 ∧ nO k_ (.slice Ao46 t775.length co46))))) ∧ nO k_ (.slice Ao56 t781.length co56)) ∧ nO k_ (.slice Ao57 t784.length co57)) ∧ nO k_ (.slice Ao67 t789.length co67)) ∧ nO k_ (.slice Ao68 t792.length co68)) ∧ nO k_ (.slice Ao78 t797.length co78)) ∧ nO k_ (.slice Ao79 t800.length co79))) (n := t772.length) (c := co44) ?_).2.2; exact (crF HO774 BK804)); (case side6 => exact (Kd.R_reads' HO774.out).2.1); (case side7 => refine (Kd.R_reads' (e := 3) (base := w.heap.size) (ok := fun k_ => (((((((nO k_ v759 ∧ (nO k_ v762 ∧ (nO k_ v766 ∧ (nO k_ v769 ∧ nO k_ (.slice Ao44 t772.length co44))))) ∧ nO k_ (.slice Ao56 t781.length co56)) ∧ nO k_ (.slice Ao57 t784.length co57)) ∧ nO k_ (.slice Ao67 t789.length co67)) ∧ nO k_ (.slice Ao68 t792.length co68)) ∧ nO k_ (.slice Ao78 t797.length co78)) ∧ nO k_ (.slice Ao79 t800.length co79))) (n := t775.length) (c := co46) ?_).2.2; exact (crF HO777 BK804)); (case side8 => exact (Kd.R_reads' HO777.out).2.1); rintro e w105 ⟨rfl, hb⟩; refine ⟨_, rfl, ?_⟩; replace HO760 := rblF HO760 BK804 hb; replace HO763 := rblF HO763 BK804 hb; replace HO767 := rblF HO767 BK804 hb; replace HO770 := rblF HO770 BK804 hb; replace HO774 := rblF HO774 BK804 hb; replace HO777 := rblF HO777 BK804 hb; replace HO783 := rblF HO783 BK804 hb; replace HO786 := rblF HO786 BK804 hb; replace HO791 := rblF HO791 BK804 hb; replace HO794 := rblF HO794 BK804 hb; replace HO799 := rblF HO799 BK804 hb; replace HO802 := rblF HO802 BK804 hb; replace BK753 := bkf BK753 hb; replace BK754 := bkf BK754 hb; replace BK779 := bkf BK779 hb; replace BK787 := bkf BK787 hb; replace BK795 := bkf BK795 hb; replace BK804 := bkp BK804 (.bool t796) (.slice Ao78 t797.length co78) (.slice Ao79 t800.length co79) hb; replace HB := bst HB hb; (try clear hb); (try clear hb2); (try clear hk); (try clear hi)))
     go_meet
     case rel => exact ⟨_, (true), (by first | rfl | (simp; done) | (simp [*]; done)), H', ⟨by first | omega | exact Nat.le_refl _⟩, ⟨crM HO774 fun _ hk => ⟨hk.1.1.1.1.1.1.2.2.2.2, hk.1.1.1.1.1.2, hk.1.1.1.1.2, hk.1.1.1.2, hk.1.1.2, hk.1.2, hk.2⟩⟩, ⟨crM HO777 fun _ hk => ⟨hk.1.1.1.1.1.1.2.2.2.2, hk.1.1.1.1.1.2, hk.1.1.1.1.2, hk.1.1.1.2, hk.1.1.2, hk.1.2, hk.2⟩⟩, ⟨crM HO783 fun _ hk => ⟨hk.1.1.1.1.1.2, hk.1.1.1.1.2, hk.1.1.1.1.1.1.1.1.1.1, hk.1.1.1.2, hk.1.1.2, hk.1.2, hk.2⟩⟩, ⟨crM HO786 fun _ hk => ⟨hk.1.1.1.1.1.2, hk.1.1.1.1.2, hk.1.1.1.1.1.1.1.1.1.1, hk.1.1.1.2, hk.1.1.2, hk.1.2, hk.2⟩⟩, ⟨crM HO791 fun _ hk => ⟨hk.1.1.1.1.1.2, hk.1.1.1.1.2, hk.1.1.1.2, hk.1.1.2, hk.1.1.1.1.1.1.1.1.1.1, hk.1.2, hk.2⟩⟩, ⟨crM HO794 fun _ hk => ⟨hk.1.1.1.1.1.2, hk.1.1.1.1.2, hk.1.1.1.2, hk.1.1.2, hk.1.1.1.1.1.1.1.1.1.1, hk.1.2, hk.2⟩⟩, ⟨crM HO799 fun _ hk => ⟨hk.1.1.1.1.1.2, hk.1.1.1.1.2, hk.1.1.1.2, hk.1.1.2, hk.1.2, hk.2, hk.1.1.1.1.1.1.1.1.1.1⟩⟩, ⟨crM HO802 fun _ hk => ⟨hk.1.1.1.1.1.2, hk.1.1.1.1.2, hk.1.1.1.2, hk.1.1.2, hk.1.2, hk.2, hk.1.1.1.1.1.1.1.1.1.1⟩⟩, ⟨crb BK753⟩, ⟨crb BK754⟩, ⟨crb BK779⟩, ⟨crb BK787⟩, ⟨crb BK795⟩, ⟨crb BK804⟩, ⟨blw HB⟩⟩
   case rest =>
    clear HC25
    try clear c1
    try clear c2
    try clear p2
    try clear c4
    try clear c5
    try clear c6
    try clear c7
    try clear c8
    try clear c9
    try clear c10
    try clear c17
    try clear c22
    try clear c28
    try clear c29
    try clear c48
    try clear c52
    try clear c53
    try clear c54
    try clear c58
    try clear c62
    try clear c63
    try clear c64
    try clear c65
    try clear c72
    try clear c73
    try clear c74
    try clear c75
    try clear c76
    try clear c81
    try clear c82
    try clear c83
    try clear c84
    try clear c85
    try clear c86
    try clear c88
    try clear c89
    try clear c90
    try clear c91
    try clear c94
    try clear c95
    try clear c96
    try clear c97
    try clear c98
    try clear c100
    try clear c101
    try clear c102
    try clear c103
    try clear hcz104_0
    try clear hcz104_1
    try clear hcz104_2
    try clear hcz49_0
    try clear hcz49_1
    try clear hcz49_2
    try clear hcz55_0
    try clear hcz55_1
    try clear hcz55_2
    try clear hcz59_0
    try clear hcz59_1
    try clear hcz59_2
    try clear hcz66_0
    try clear hcz66_1
    try clear hcz66_2
    try clear hcz69_0
    try clear hcz69_1
    try clear hcz69_2
    try clear hcz77_0
    try clear hcz77_1
    try clear hcz77_2
    try clear hcz87_0
    try clear hcz87_1
    try clear hcz87_2
    try clear hcz92_0
    try clear hcz92_1
    try clear hcz92_2
    try clear hcz99_0
    try clear hcz99_1
    try clear hcz99_2
    try clear hfz104_0
    try clear hfz104_1
    try clear hfz104_2
    try clear hfz49_0
    try clear hfz49_1
    try clear hfz49_2
    try clear hfz55_0
    try clear hfz55_1
    try clear hfz55_2
    try clear hfz59_0
    try clear hfz59_1
    try clear hfz59_2
    try clear hfz66_0
    try clear hfz66_1
    try clear hfz66_2
    try clear hfz69_0
    try clear hfz69_1
    try clear hfz69_2
    try clear hfz77_0
    try clear hfz77_1
    try clear hfz77_2
    try clear hfz87_0
    try clear hfz87_1
    try clear hfz87_2
    try clear hfz92_0
    try clear hfz92_1
    try clear hfz92_2
    try clear hfz99_0
    try clear hfz99_1
    try clear hfz99_2
    obtain ⟨kq, x53_24, rfl, HA, HJ24, HO_780001, HO_780002, HO_788001, HO_788002, HO_796001, HO_796002, HO_805001, HO_805002, BK753, BK754, BK779, BK787, BK795, BK804, HB⟩ := hcut
    cases kq with
    | zero => exact absurd HA.out (by simp [laws_FnExactMulRat.j0])
    | succ kj24 =>
     have H := HA.out
     clear HA
     simp only [laws_FnExactMulRat.j0] at H
     by_cases c106 : x53_24 = true
     ·
      subst c106
      have H1 : (some false) = some r := by rw [if_pos rfl] at H; exact H
      clear H
      have H := H1
      clear H1
      obtain rfl := Option.some.inj H
      exact absurd hr_ (by decide)
     ·
      replace c106 := Bool.eq_false_iff.mpr c106
      subst c106
      have H1 : ((laws_toRat.f kj24 a0_0 l0_1 l0_2).bind fun bt806 => ((laws_eqRat.f kj24 t780 t781 t784 bt806.1 bt806.2.1 bt806.2.2).bind fun t813 => (if t813 = true then ((laws_toRat.f kj24 a1_0 l1_1 l1_2).bind fun bt814 => ((laws_eqRat.f kj24 t788 t789 t792 bt814.1 bt814.2.1 bt814.2.2).bind fun t821 => (if t821 = true then ((laws_markRat.f kj24 t780 t781 t784 1).bind fun bt822 => ((laws_markRat.f kj24 t788 t789 t792 bt822.1).bind fun bt825 => (if bt825.1 < 0 then (laws_FnExactMulRat.j1 kj24 t778 true a0_0 l0_1 l0_2 a1_0 l1_1 l1_2 t771 t772 t775 t796 t797 t800) else ((laws_eqRat.f kj24 t796 t797 t800 t771 t772 t775).bind fun t828 => (if t828 = true then (laws_FnExactMulRat.j1 kj24 t778 (t803 != t778) a0_0 l0_1 l0_2 a1_0 l1_1 l1_2 t771 t772 t775 t796 t797 t800) else (laws_FnExactMulRat.j1 kj24 t778 true a0_0 l0_1 l0_2 a1_0 l1_1 l1_2 t771 t772 t775 t796 t797 t800)))))) else (some false)))) else (some false)))) = some r := by rw [if_neg (show ¬ (false = true) by decide)] at H; exact H
      clear H
      have H := H1
      clear H1
      replace H := Option.bind_eq_some_iff.mp H
      obtain ⟨⟨t806, t807, t810⟩, A1070, H⟩ := H
      replace H : ((laws_eqRat.f kj24 t780 t781 t784 t806 t807 t810).bind fun t813 => (if t813 = true then ((laws_toRat.f kj24 a1_0 l1_1 l1_2).bind fun bt814 => ((laws_eqRat.f kj24 t788 t789 t792 bt814.1 bt814.2.1 bt814.2.2).bind fun t821 => (if t821 = true then ((laws_markRat.f kj24 t780 t781 t784 1).bind fun bt822 => ((laws_markRat.f kj24 t788 t789 t792 bt822.1).bind fun bt825 => (if bt825.1 < 0 then (laws_FnExactMulRat.j1 kj24 t778 true a0_0 l0_1 l0_2 a1_0 l1_1 l1_2 t771 t772 t775 t796 t797 t800) else ((laws_eqRat.f kj24 t796 t797 t800 t771 t772 t775).bind fun t828 => (if t828 = true then (laws_FnExactMulRat.j1 kj24 t778 (t803 != t778) a0_0 l0_1 l0_2 a1_0 l1_1 l1_2 t771 t772 t775 t796 t797 t800) else (laws_FnExactMulRat.j1 kj24 t778 true a0_0 l0_1 l0_2 a1_0 l1_1 l1_2 t771 t772 t775 t796 t797 t800)))))) else (some false)))) else (some false))) = some r := H
      have A107 := Aside0.mk A1070
      clear A1070
      replace H := Option.bind_eq_some_iff.mp H
      obtain ⟨t813, A1080, H⟩ := H
      replace H : (if t813 = true then ((laws_toRat.f kj24 a1_0 l1_1 l1_2).bind fun bt814 => ((laws_eqRat.f kj24 t788 t789 t792 bt814.1 bt814.2.1 bt814.2.2).bind fun t821 => (if t821 = true then ((laws_markRat.f kj24 t780 t781 t784 1).bind fun bt822 => ((laws_markRat.f kj24 t788 t789 t792 bt822.1).bind fun bt825 => (if bt825.1 < 0 then (laws_FnExactMulRat.j1 kj24 t778 true a0_0 l0_1 l0_2 a1_0 l1_1 l1_2 t771 t772 t775 t796 t797 t800) else ((laws_eqRat.f kj24 t796 t797 t800 t771 t772 t775).bind fun t828 => (if t828 = true then (laws_FnExactMulRat.j1 kj24 t778 (t803 != t778) a0_0 l0_1 l0_2 a1_0 l1_1 l1_2 t771 t772 t775 t796 t797 t800) else (laws_FnExactMulRat.j1 kj24 t778 true a0_0 l0_1 l0_2 a1_0 l1_1 l1_2 t771 t772 t775 t796 t797 t800)))))) else (some false)))) else (some false)) = some r := H
      have A108 := Aside0.mk A1080
      clear A1080
      by_cases c109 : t813 = true
      ·
       subst c109
       have H1 : ((laws_toRat.f kj24 a1_0 l1_1 l1_2).bind fun bt814 => ((laws_eqRat.f kj24 t788 t789 t792 bt814.1 bt814.2.1 bt814.2.2).bind fun t821 => (if t821 = true then ((laws_markRat.f kj24 t780 t781 t784 1).bind fun bt822 => ((laws_markRat.f kj24 t788 t789 t792 bt822.1).bind fun bt825 => (if bt825.1 < 0 then (laws_FnExactMulRat.j1 kj24 t778 true a0_0 l0_1 l0_2 a1_0 l1_1 l1_2 t771 t772 t775 t796 t797 t800) else ((laws_eqRat.f kj24 t796 t797 t800 t771 t772 t775).bind fun t828 => (if t828 = true then (laws_FnExactMulRat.j1 kj24 t778 (t803 != t778) a0_0 l0_1 l0_2 a1_0 l1_1 l1_2 t771 t772 t775 t796 t797 t800) else (laws_FnExactMulRat.j1 kj24 t778 true a0_0 l0_1 l0_2 a1_0 l1_1 l1_2 t771 t772 t775 t796 t797 t800)))))) else (some false)))) = some r := by rw [if_pos rfl] at H; exact H
       clear H
       have H := H1
       clear H1
       replace H := Option.bind_eq_some_iff.mp H
       obtain ⟨⟨t814, t815, t818⟩, A1100, H⟩ := H
       replace H : ((laws_eqRat.f kj24 t788 t789 t792 t814 t815 t818).bind fun t821 => (if t821 = true then ((laws_markRat.f kj24 t780 t781 t784 1).bind fun bt822 => ((laws_markRat.f kj24 t788 t789 t792 bt822.1).bind fun bt825 => (if bt825.1 < 0 then (laws_FnExactMulRat.j1 kj24 t778 true a0_0 l0_1 l0_2 a1_0 l1_1 l1_2 t771 t772 t775 t796 t797 t800) else ((laws_eqRat.f kj24 t796 t797 t800 t771 t772 t775).bind fun t828 => (if t828 = true then (laws_FnExactMulRat.j1 kj24 t778 (t803 != t778) a0_0 l0_1 l0_2 a1_0 l1_1 l1_2 t771 t772 t775 t796 t797 t800) else (laws_FnExactMulRat.j1 kj24 t778 true a0_0 l0_1 l0_2 a1_0 l1_1 l1_2 t771 t772 t775 t796 t797 t800)))))) else (some false))) = some r := H
       have A110 := Aside0.mk A1100
       clear A1100
       replace H := Option.bind_eq_some_iff.mp H
       obtain ⟨t821, A1110, H⟩ := H
       replace H : (if t821 = true then ((laws_markRat.f kj24 t780 t781 t784 1).bind fun bt822 => ((laws_markRat.f kj24 t788 t789 t792 bt822.1).bind fun bt825 => (if bt825.1 < 0 then (laws_FnExactMulRat.j1 kj24 t778 true a0_0 l0_1 l0_2 a1_0 l1_1 l1_2 t771 t772 t775 t796 t797 t800) else ((laws_eqRat.f kj24 t796 t797 t800 t771 t772 t775).bind fun t828 => (if t828 = true then (laws_FnExactMulRat.j1 kj24 t778 (t803 != t778) a0_0 l0_1 l0_2 a1_0 l1_1 l1_2 t771 t772 t775 t796 t797 t800) else (laws_FnExactMulRat.j1 kj24 t778 true a0_0 l0_1 l0_2 a1_0 l1_1 l1_2 t771 t772 t775 t796 t797 t800)))))) else (some false)) = some r := H
       have A111 := Aside0.mk A1110
       clear A1110
       by_cases c112 : t821 = true
       ·
        subst c112
        have H1 : ((laws_markRat.f kj24 t780 t781 t784 1).bind fun bt822 => ((laws_markRat.f kj24 t788 t789 t792 bt822.1).bind fun bt825 => (if bt825.1 < 0 then (laws_FnExactMulRat.j1 kj24 t778 true a0_0 l0_1 l0_2 a1_0 l1_1 l1_2 t771 t772 t775 t796 t797 t800) else ((laws_eqRat.f kj24 t796 t797 t800 t771 t772 t775).bind fun t828 => (if t828 = true then (laws_FnExactMulRat.j1 kj24 t778 (t803 != t778) a0_0 l0_1 l0_2 a1_0 l1_1 l1_2 t771 t772 t775 t796 t797 t800) else (laws_FnExactMulRat.j1 kj24 t778 true a0_0 l0_1 l0_2 a1_0 l1_1 l1_2 t771 t772 t775 t796 t797 t800)))))) = some r := by rw [if_pos rfl] at H; exact H
        clear H
        have H := H1
        clear H1
        replace H := Option.bind_eq_some_iff.mp H
        obtain ⟨⟨t822, t823, t824⟩, A1130, H⟩ := H
        replace H : ((laws_markRat.f kj24 t788 t789 t792 t822).bind fun bt825 => (if bt825.1 < 0 then (laws_FnExactMulRat.j1 kj24 t778 true a0_0 l0_1 l0_2 a1_0 l1_1 l1_2 t771 t772 t775 t796 t797 t800) else ((laws_eqRat.f kj24 t796 t797 t800 t771 t772 t775).bind fun t828 => (if t828 = true then (laws_FnExactMulRat.j1 kj24 t778 (t803 != t778) a0_0 l0_1 l0_2 a1_0 l1_1 l1_2 t771 t772 t775 t796 t797 t800) else (laws_FnExactMulRat.j1 kj24 t778 true a0_0 l0_1 l0_2 a1_0 l1_1 l1_2 t771 t772 t775 t796 t797 t800))))) = some r := H
        have A113 := Aside0.mk A1130
        clear A1130
        replace H := Option.bind_eq_some_iff.mp H
        obtain ⟨⟨t825, t826, t827⟩, A1140, H⟩ := H
        replace H : (if t825 < 0 then (laws_FnExactMulRat.j1 kj24 t778 true a0_0 l0_1 l0_2 a1_0 l1_1 l1_2 t771 t772 t775 t796 t797 t800) else ((laws_eqRat.f kj24 t796 t797 t800 t771 t772 t775).bind fun t828 => (if t828 = true then (laws_FnExactMulRat.j1 kj24 t778 (t803 != t778) a0_0 l0_1 l0_2 a1_0 l1_1 l1_2 t771 t772 t775 t796 t797 t800) else (laws_FnExactMulRat.j1 kj24 t778 true a0_0 l0_1 l0_2 a1_0 l1_1 l1_2 t771 t772 t775 t796 t797 t800)))) = some r := H
        have A114 := Aside0.mk A1140
        clear A1140
        have HC115 := Aside0.mk H
        clear H
        try go_wp2
        replace HO_780001 := Aside0.mk (Kd.R_drew HO_780001.out)
        replace HO_780002 := Aside0.mk (Kd.R_drew HO_780002.out)
        replace HO_788001 := Aside0.mk (Kd.R_drew HO_788001.out)
        replace HO_788002 := Aside0.mk (Kd.R_drew HO_788002.out)
        replace HO_796001 := Aside0.mk (Kd.R_drew HO_796001.out)
        replace HO_796002 := Aside0.mk (Kd.R_drew HO_796002.out)
        replace HO_805001 := Aside0.mk (Kd.R_drew HO_805001.out)
        replace HO_805002 := Aside0.mk (Kd.R_drew HO_805002.out)
        replace BK753 := Aside0.mk (blk_drew BK753.out)
        replace BK754 := Aside0.mk (blk_drew BK754.out)
        replace BK779 := Aside0.mk (blk_drew BK779.out)
        replace BK787 := Aside0.mk (blk_drew BK787.out)
        replace BK795 := Aside0.mk (blk_drew BK795.out)
        replace BK804 := Aside0.mk (blk_drew BK804.out)
        replace HB := Aside0.mk (below_drew1 HB.out)
        refine start_ (n := 5) (S := fun w' => w'.cell? ⟨gb787, 0, none⟩ = some (.bool t780) ∧ w'.cell? ⟨gb787, 1, none⟩ = some (.slice Ao56 t781.length co56) ∧ w'.cell? ⟨gb787, 2, none⟩ = some (.slice Ao57 t784.length co57) ∧ w'.cell? ⟨gb753, 0, none⟩ = some (.bool a0_0) ∧ w'.cell? ⟨gb753, 1, none⟩ = some (.slice A0_1 l0_1.length c0_1) ∧ w'.cell? ⟨gb753, 2, none⟩ = some (.slice A0_2 l0_2.length c0_2)) (ds := []) #[false, false, false, false, false] (by kernel_rfl) rfl rfl ⟨bce BK787 0 _, bce BK787 1 _, bce BK787 2 _, bce BK753 0 _, bce BK753 1 _, bce BK753 2 _⟩ (fun hHeld => ?_)
        generalize wc.drew = w116 at HO_780001 HO_780002 HO_788001 HO_788002 HO_796001 HO_796002 HO_805001 HO_805002 BK753 BK754 BK779 BK787 BK795 BK804 HB hHeld ⊢
        refine take_ (i := 0) (N := some 54) (v := ?_) (a' := ?_) #[true, false, false, false, false] rfl rfl (by kernel_rfl) (fun _ _ _ h => h) (Or.inl ⟨by rfl, ?_⟩) hHeld ?_ ?_
        rotate_left
        ·
         rintro w' ⟨s0, s1, s2, s3, s4, s5⟩
         go_simp
         with_reducible rfl
        rotate_left
        ·
         simp only [Act.put, List.setIfInBounds_toArray, List.set_cons_zero, List.set_cons_succ, i64_w, i32_w]
         rfl
        refine take_ (i := 1) (N := some 55) (v := ?_) (a' := ?_) #[true, true, false, false, false] rfl rfl (by kernel_rfl) (fun _ _ _ h => h) (Or.inl ⟨by rfl, ?_⟩) hHeld ?_ ?_
        rotate_left
        ·
         rintro w' ⟨s0, s1, s2, s3, s4, s5⟩
         go_simp
         with_reducible rfl
        rotate_left
        ·
         simp only [Act.put, List.setIfInBounds_toArray, List.set_cons_zero, List.set_cons_succ, i64_w, i32_w]
         rfl
        refine one_ (i := 2) (N := some 56) #[true, true, true, false, false] rfl rfl (by kernel_rfl) (by decide) (fun K hK => ?_)
        refine goes_ Try.func22 (by kernel_rfl) rfl #[.agg #[.bool a0_0, .slice A0_1 l0_1.length c0_1, .slice A0_2 l0_2.length c0_2]] (by rfl) rfl rfl (by (try simp only [List.map_toArray, List.map_cons, List.map_nil]); first | done | rfl | (simp only [List.length_drop, List.length_take]; rfl)) ?_
        with_reducible refine (laws_toRat.calls kj24 a0_0 _ _ l0_1 _ _ l0_2 t806 t807 t810 _ ?side1 ?side2 ?side3 ?side4 A107.out).mono ?_
        (case side1 => exact crC (Kd.C_below HR0_1.out HB.out))
        (case side2 => exact HC0_1.out)
        (case side3 => exact crC (Kd.C_below HR0_2.out HB.out))
        (case side4 => exact HC0_2.out)
        rintro e w117 ⟨v808, v811, rfl, ho0, ho1, hb⟩
        refine ⟨_, rfl, ?_⟩
        have HO809 := lwR (nwR (nwR (nwR (nwR (nwR (nwR (nwR (nwR ho0 HO_780001) HO_780002) HO_788001) HO_788002) HO_796001) HO_796002) HO_805001) HO_805002) HB
        have HO812 := lwR (nwR (nwR (nwR (nwR (nwR (nwR (nwR (nwR ho1 HO_780001) HO_780002) HO_788001) HO_788002) HO_796001) HO_796002) HO_805001) HO_805002) HB
        replace HO_780001 := tldR HO_780001 hb (Kd.R_base ho0) (Kd.R_base ho1)
        replace HO_780002 := tldR HO_780002 hb (Kd.R_base ho0) (Kd.R_base ho1)
        replace HO_788001 := tldR HO_788001 hb (Kd.R_base ho0) (Kd.R_base ho1)
        replace HO_788002 := tldR HO_788002 hb (Kd.R_base ho0) (Kd.R_base ho1)
        replace HO_796001 := tldR HO_796001 hb (Kd.R_base ho0) (Kd.R_base ho1)
        replace HO_796002 := tldR HO_796002 hb (Kd.R_base ho0) (Kd.R_base ho1)
        replace HO_805001 := tldR HO_805001 hb (Kd.R_base ho0) (Kd.R_base ho1)
        replace HO_805002 := tldR HO_805002 hb (Kd.R_base ho0) (Kd.R_base ho1)
        replace BK753 := bkb BK753 hb
        replace BK754 := bkb BK754 hb
        replace BK779 := bkb BK779 hb
        replace BK787 := bkb BK787 hb
        replace BK795 := bkb BK795 hb
        replace BK804 := bkb BK804 hb
        replace HB := bst HB hb
        (try clear hb)
        (try clear hb2)
        (try clear hk)
        (try clear hi)
        (try clear ho0)
        (try clear ho1)
        obtain ⟨Ao118, co118, eo118⟩ := Kd.R_slice HO809.out
        (first | subst eo118 | (injection eo118 with f1_ f2_ f3_; have f4_ := f1_.symm; have f5_ := f3_.symm; clear f1_ f2_ f3_; subst f4_; subst f5_))
        obtain ⟨Ao119, co119, eo119⟩ := Kd.R_slice HO812.out
        (first | subst eo119 | (injection eo119 with f1_ f2_ f3_; have f4_ := f1_.symm; have f5_ := f3_.symm; clear f1_ f2_ f3_; subst f4_; subst f5_))
        refine hK.out _ _ ⟨bce BK787 0 _, bce BK787 1 _, bce BK787 2 _, bce BK753 0 _, bce BK753 1 _, bce BK753 2 _⟩ (fun hHeld => ?_)
        clear hK K
        refine norm_ (a' := ?_) ?_ ?_
        rotate_left
        ·
         show Act.put _ (some 56) _ = _
         simp only [Act.put, List.setIfInBounds_toArray, List.set_cons_zero, List.set_cons_succ, i64_w, i32_w]
         rfl
        refine one_ (i := 3) (N := some 57) #[true, true, true, true, false] rfl rfl (by kernel_rfl) (by decide) (fun K hK => ?_)
        refine goes_ Try.func17 (by kernel_rfl) rfl #[.agg #[.bool t780, .slice Ao56 t781.length co56, .slice Ao57 t784.length co57], .agg #[.bool t806, .slice Ao118 t807.length co118, .slice Ao119 t810.length co119]] (by rfl) rfl rfl (by (try simp only [List.map_toArray, List.map_cons, List.map_nil]); first | done | rfl | (simp only [List.length_drop, List.length_take]; rfl)) ?_
        with_reducible refine (laws_eqRat.calls kj24 t780 _ _ t781 _ _ t784 t806 _ _ t807 _ _ t810 true _ ?side1 ?side2 ?side3 ?side4 ?side5 ?side6 ?side7 ?side8 A108.out).mono ?_
        (case side1 => exact crC (Kd.R_reads' HO_788001.out).2.2)
        (case side2 => exact (Kd.R_reads' HO_788001.out).2.1)
        (case side3 => exact crC (Kd.R_reads' HO_788002.out).2.2)
        (case side4 => exact (Kd.R_reads' HO_788002.out).2.1)
        (case side5 => exact crC (Kd.R_reads' HO809.out).2.2)
        (case side6 => exact (Kd.R_reads' HO809.out).2.1)
        (case side7 => exact crC (Kd.R_reads' HO812.out).2.2)
        (case side8 => exact (Kd.R_reads' HO812.out).2.1)
        rintro e w120 ⟨rfl, hb⟩
        refine ⟨_, rfl, ?_⟩
        replace HO_780001 := rblR HO_780001 hb
        replace HO_780002 := rblR HO_780002 hb
        replace HO_788001 := rblR HO_788001 hb
        replace HO_788002 := rblR HO_788002 hb
        replace HO_796001 := rblR HO_796001 hb
        replace HO_796002 := rblR HO_796002 hb
        replace HO_805001 := rblR HO_805001 hb
        replace HO_805002 := rblR HO_805002 hb
        replace HO809 := rblR HO809 hb
        replace HO812 := rblR HO812 hb
        replace BK753 := bkb BK753 hb
        replace BK754 := bkb BK754 hb
        replace BK779 := bkb BK779 hb
        replace BK787 := bkb BK787 hb
        replace BK795 := bkb BK795 hb
        replace BK804 := bkb BK804 hb
        replace HB := bst HB hb
        (try clear hb)
        (try clear hb2)
        (try clear hk)
        (try clear hi)
        refine hK.out _ _ ⟨bce BK787 0 _, bce BK787 1 _, bce BK787 2 _, bce BK753 0 _, bce BK753 1 _, bce BK753 2 _⟩ (fun hHeld => ?_)
        clear hK K
        refine norm_ (a' := ?_) ?_ ?_
        rotate_left
        ·
         show Act.put _ (some 57) _ = _
         simp only [Act.put, List.setIfInBounds_toArray, List.set_cons_zero, List.set_cons_succ, i64_w, i32_w]
         rfl
        refine pure_ (i := 4) (N := some 58) (v := ?_) (a' := ?_) #[true, true, true, true, true] rfl rfl (by kernel_rfl) (fun _ _ _ h => h) (Or.inl ⟨by rfl, ?_⟩) ?_ ?_
        rotate_left
        ·
         intro w'
         go_simp
         with_reducible rfl
        rotate_left
        ·
         simp only [Act.put, List.setIfInBounds_toArray, List.set_cons_zero, List.set_cons_succ, i64_w, i32_w]
         rfl
        refine done_ (by kernel_rfl) ?_
        try go_wp2
        replace HO_780001 := Aside0.mk (Kd.R_drew HO_780001.out)
        replace HO_780002 := Aside0.mk (Kd.R_drew HO_780002.out)
        replace HO_788001 := Aside0.mk (Kd.R_drew HO_788001.out)
        replace HO_788002 := Aside0.mk (Kd.R_drew HO_788002.out)
        replace HO_796001 := Aside0.mk (Kd.R_drew HO_796001.out)
        replace HO_796002 := Aside0.mk (Kd.R_drew HO_796002.out)
        replace HO_805001 := Aside0.mk (Kd.R_drew HO_805001.out)
        replace HO_805002 := Aside0.mk (Kd.R_drew HO_805002.out)
        replace HO809 := Aside0.mk (Kd.R_drew HO809.out)
        replace HO812 := Aside0.mk (Kd.R_drew HO812.out)
        replace BK753 := Aside0.mk (blk_drew BK753.out)
        replace BK754 := Aside0.mk (blk_drew BK754.out)
        replace BK779 := Aside0.mk (blk_drew BK779.out)
        replace BK787 := Aside0.mk (blk_drew BK787.out)
        replace BK795 := Aside0.mk (blk_drew BK795.out)
        replace BK804 := Aside0.mk (blk_drew BK804.out)
        replace HB := Aside0.mk (below_drew1 HB.out)
        refine start_ (n := 5) (S := fun w' => w'.cell? ⟨gb795, 0, none⟩ = some (.bool t788) ∧ w'.cell? ⟨gb795, 1, none⟩ = some (.slice Ao67 t789.length co67) ∧ w'.cell? ⟨gb795, 2, none⟩ = some (.slice Ao68 t792.length co68) ∧ w'.cell? ⟨gb754, 0, none⟩ = some (.bool a1_0) ∧ w'.cell? ⟨gb754, 1, none⟩ = some (.slice A1_1 l1_1.length c1_1) ∧ w'.cell? ⟨gb754, 2, none⟩ = some (.slice A1_2 l1_2.length c1_2)) (ds := []) #[false, false, false, false, false] (by kernel_rfl) rfl rfl ⟨bce BK795 0 _, bce BK795 1 _, bce BK795 2 _, bce BK754 0 _, bce BK754 1 _, bce BK754 2 _⟩ (fun hHeld => ?_)
        generalize w120.drew = w121 at HO_780001 HO_780002 HO_788001 HO_788002 HO_796001 HO_796002 HO_805001 HO_805002 HO809 HO812 BK753 BK754 BK779 BK787 BK795 BK804 HB hHeld ⊢
        refine take_ (i := 0) (N := some 59) (v := ?_) (a' := ?_) #[true, false, false, false, false] rfl rfl (by kernel_rfl) (fun _ _ _ h => h) (Or.inl ⟨by rfl, ?_⟩) hHeld ?_ ?_
        rotate_left
        ·
         rintro w' ⟨s0, s1, s2, s3, s4, s5⟩
         go_simp
         with_reducible rfl
        rotate_left
        ·
         simp only [Act.put, List.setIfInBounds_toArray, List.set_cons_zero, List.set_cons_succ, i64_w, i32_w]
         rfl
        refine take_ (i := 1) (N := some 60) (v := ?_) (a' := ?_) #[true, true, false, false, false] rfl rfl (by kernel_rfl) (fun _ _ _ h => h) (Or.inl ⟨by rfl, ?_⟩) hHeld ?_ ?_
        rotate_left
        ·
         rintro w' ⟨s0, s1, s2, s3, s4, s5⟩
         go_simp
         with_reducible rfl
        rotate_left
        ·
         simp only [Act.put, List.setIfInBounds_toArray, List.set_cons_zero, List.set_cons_succ, i64_w, i32_w]
         rfl
        refine one_ (i := 2) (N := some 61) #[true, true, true, false, false] rfl rfl (by kernel_rfl) (by decide) (fun K hK => ?_)
        refine goes_ Try.func22 (by kernel_rfl) rfl #[.agg #[.bool a1_0, .slice A1_1 l1_1.length c1_1, .slice A1_2 l1_2.length c1_2]] (by rfl) rfl rfl (by (try simp only [List.map_toArray, List.map_cons, List.map_nil]); first | done | rfl | (simp only [List.length_drop, List.length_take]; rfl)) ?_
        with_reducible refine (laws_toRat.calls kj24 a1_0 _ _ l1_1 _ _ l1_2 t814 t815 t818 _ ?side1 ?side2 ?side3 ?side4 A110.out).mono ?_
        (case side1 => exact crC (Kd.C_below HR1_1.out HB.out))
        (case side2 => exact HC1_1.out)
        (case side3 => exact crC (Kd.C_below HR1_2.out HB.out))
        (case side4 => exact HC1_2.out)
        rintro e w122 ⟨v816, v819, rfl, ho0, ho1, hb⟩
        refine ⟨_, rfl, ?_⟩
        have HO817 := lwR (nwR (nwR (nwR (nwR (nwR (nwR (nwR (nwR (nwR (nwR ho0 HO_780001) HO_780002) HO_788001) HO_788002) HO_796001) HO_796002) HO_805001) HO_805002) HO809) HO812) HB
        have HO820 := lwR (nwR (nwR (nwR (nwR (nwR (nwR (nwR (nwR (nwR (nwR ho1 HO_780001) HO_780002) HO_788001) HO_788002) HO_796001) HO_796002) HO_805001) HO_805002) HO809) HO812) HB
        replace HO_780001 := tldR HO_780001 hb (Kd.R_base ho0) (Kd.R_base ho1)
        replace HO_780002 := tldR HO_780002 hb (Kd.R_base ho0) (Kd.R_base ho1)
        replace HO_788001 := tldR HO_788001 hb (Kd.R_base ho0) (Kd.R_base ho1)
        replace HO_788002 := tldR HO_788002 hb (Kd.R_base ho0) (Kd.R_base ho1)
        replace HO_796001 := tldR HO_796001 hb (Kd.R_base ho0) (Kd.R_base ho1)
        replace HO_796002 := tldR HO_796002 hb (Kd.R_base ho0) (Kd.R_base ho1)
        replace HO_805001 := tldR HO_805001 hb (Kd.R_base ho0) (Kd.R_base ho1)
        replace HO_805002 := tldR HO_805002 hb (Kd.R_base ho0) (Kd.R_base ho1)
        replace HO809 := tldR HO809 hb (Kd.R_base ho0) (Kd.R_base ho1)
        replace HO812 := tldR HO812 hb (Kd.R_base ho0) (Kd.R_base ho1)
        replace BK753 := bkb BK753 hb
        replace BK754 := bkb BK754 hb
        replace BK779 := bkb BK779 hb
        replace BK787 := bkb BK787 hb
        replace BK795 := bkb BK795 hb
        replace BK804 := bkb BK804 hb
        replace HB := bst HB hb
        (try clear hb)
        (try clear hb2)
        (try clear hk)
        (try clear hi)
        (try clear ho0)
        (try clear ho1)
        obtain ⟨Ao123, co123, eo123⟩ := Kd.R_slice HO817.out
        (first | subst eo123 | (injection eo123 with f1_ f2_ f3_; have f4_ := f1_.symm; have f5_ := f3_.symm; clear f1_ f2_ f3_; subst f4_; subst f5_))
        obtain ⟨Ao124, co124, eo124⟩ := Kd.R_slice HO820.out
        (first | subst eo124 | (injection eo124 with f1_ f2_ f3_; have f4_ := f1_.symm; have f5_ := f3_.symm; clear f1_ f2_ f3_; subst f4_; subst f5_))
        refine hK.out _ _ ⟨bce BK795 0 _, bce BK795 1 _, bce BK795 2 _, bce BK754 0 _, bce BK754 1 _, bce BK754 2 _⟩ (fun hHeld => ?_)
        clear hK K
        refine norm_ (a' := ?_) ?_ ?_
        rotate_left
        ·
         show Act.put _ (some 61) _ = _
         simp only [Act.put, List.setIfInBounds_toArray, List.set_cons_zero, List.set_cons_succ, i64_w, i32_w]
         rfl
        refine one_ (i := 3) (N := some 62) #[true, true, true, true, false] rfl rfl (by kernel_rfl) (by decide) (fun K hK => ?_)
        refine goes_ Try.func17 (by kernel_rfl) rfl #[.agg #[.bool t788, .slice Ao67 t789.length co67, .slice Ao68 t792.length co68], .agg #[.bool t814, .slice Ao123 t815.length co123, .slice Ao124 t818.length co124]] (by rfl) rfl rfl (by (try simp only [List.map_toArray, List.map_cons, List.map_nil]); first | done | rfl | (simp only [List.length_drop, List.length_take]; rfl)) ?_
        with_reducible refine (laws_eqRat.calls kj24 t788 _ _ t789 _ _ t792 t814 _ _ t815 _ _ t818 true _ ?side1 ?side2 ?side3 ?side4 ?side5 ?side6 ?side7 ?side8 A111.out).mono ?_
        (case side1 => exact crC (Kd.R_reads' HO_796001.out).2.2)
        (case side2 => exact (Kd.R_reads' HO_796001.out).2.1)
        (case side3 => exact crC (Kd.R_reads' HO_796002.out).2.2)
        (case side4 => exact (Kd.R_reads' HO_796002.out).2.1)
        (case side5 => exact crC (Kd.R_reads' HO817.out).2.2)
        (case side6 => exact (Kd.R_reads' HO817.out).2.1)
        (case side7 => exact crC (Kd.R_reads' HO820.out).2.2)
        (case side8 => exact (Kd.R_reads' HO820.out).2.1)
        rintro e w125 ⟨rfl, hb⟩
        refine ⟨_, rfl, ?_⟩
        replace HO_780001 := rblR HO_780001 hb
        replace HO_780002 := rblR HO_780002 hb
        replace HO_788001 := rblR HO_788001 hb
        replace HO_788002 := rblR HO_788002 hb
        replace HO_796001 := rblR HO_796001 hb
        replace HO_796002 := rblR HO_796002 hb
        replace HO_805001 := rblR HO_805001 hb
        replace HO_805002 := rblR HO_805002 hb
        replace HO809 := rblR HO809 hb
        replace HO812 := rblR HO812 hb
        replace HO817 := rblR HO817 hb
        replace HO820 := rblR HO820 hb
        replace BK753 := bkb BK753 hb
        replace BK754 := bkb BK754 hb
        replace BK779 := bkb BK779 hb
        replace BK787 := bkb BK787 hb
        replace BK795 := bkb BK795 hb
        replace BK804 := bkb BK804 hb
        replace HB := bst HB hb
        (try clear hb)
        (try clear hb2)
        (try clear hk)
        (try clear hi)
        refine hK.out _ _ ⟨bce BK795 0 _, bce BK795 1 _, bce BK795 2 _, bce BK754 0 _, bce BK754 1 _, bce BK754 2 _⟩ (fun hHeld => ?_)
        clear hK K
        refine norm_ (a' := ?_) ?_ ?_
        rotate_left
        ·
         show Act.put _ (some 62) _ = _
         simp only [Act.put, List.setIfInBounds_toArray, List.set_cons_zero, List.set_cons_succ, i64_w, i32_w]
         rfl
        refine pure_ (i := 4) (N := some 63) (v := ?_) (a' := ?_) #[true, true, true, true, true] rfl rfl (by kernel_rfl) (fun _ _ _ h => h) (Or.inl ⟨by rfl, ?_⟩) ?_ ?_
        rotate_left
        ·
         intro w'
         go_simp
         with_reducible rfl
        rotate_left
        ·
         simp only [Act.put, List.setIfInBounds_toArray, List.set_cons_zero, List.set_cons_succ, i64_w, i32_w]
         rfl
        refine done_ (by kernel_rfl) ?_
        have hnb126 := NB787_753.out
        have hnc126 := NB753_787.out
        have hnb127 := NB787_754.out
        have hnc127 := NB754_787.out
        have hnb128 := NB787_779.out
        have hnc128 := NB779_787.out
        have hnb129 := NB787_795.out
        have hnc129 := NB795_787.out
        have hnb130 := NB787_804.out
        have hnc130 := NB804_787.out
        have hcz131_0 := bce BK787 0 (.bool t780)
        have hcz131_1 := bce BK787 1 (.slice Ao56 t781.length co56)
        have hcz131_2 := bce BK787 2 (.slice Ao57 t784.length co57)
        have hfz131_0 := blk_frozen BK787.out 0
        have hfz131_1 := blk_frozen BK787.out 1
        have hfz131_2 := blk_frozen BK787.out 2
        go_upto_region 21 with (first | ((with_reducible refine gate_callee (f := 18) rfl ?_); refine goesL_ (some 66) rfl rfl Try.func18 (by kernel_rfl) rfl #[.agg #[.bool t780, .slice Ao56 t781.length co56, .slice Ao57 t784.length co57], .int .i64 1] rfl (by (try simp only [List.map_toArray, List.map_cons, List.map_nil]); first | done | rfl | (simp only [List.length_drop, List.length_take]; rfl)) ?_; (with_reducible refine (laws_markRat.calls kj24 t780 (fun k_ => some k_ = (.slice Ao56 t781.length co56 : Value).ownBlock) (.slice Ao56 t781.length co56) t781 (fun k_ => some k_ = (.slice Ao57 t784.length co57 : Value).ownBlock) (.slice Ao57 t784.length co57) t784 1 t822 t823 t824 w _ ?side1 ?side2 ?side3 ?side4 ?side5 A113.out).mono ?_); (case side1 => repeat (first | (with_reducible first | exact HB.out | apply below_alloc | apply pw_below_drewN | apply below_drew1 | refine below_set ?_ GE753.out | refine below_set ?_ GE754.out | refine below_set ?_ GE779.out | refine below_set ?_ GE787.out | refine below_set ?_ GE795.out | refine below_set ?_ GE804.out) | exact HB.out)); (case side2 => exact Kd.R_tight rfl HO_788001.out); (case side3 => exact fun k_ e_ => (HO_788001.out.1 k_ e_.symm).1.1.1.1.2.2.1); (case side4 => exact Kd.R_tight rfl HO_788002.out); (case side5 => exact fun k_ e_ => (HO_788002.out.1 k_ e_.symm).1.1.1.1.2.2.1); rintro e w132 ⟨rfl, hy0, hy1, hb, hkp⟩; refine ⟨_, rfl, ?_⟩; replace HO_780001 := Aside0.mk (Kd.R_mono (ok' := fun k_ => nO k_ (.slice Ao46 t775.length co46) ∧ nO k_ (.slice Ao56 t781.length co56) ∧ nO k_ (.slice Ao57 t784.length co57) ∧ nO k_ (.slice Ao67 t789.length co67) ∧ nO k_ (.slice Ao68 t792.length co68) ∧ nO k_ (.slice Ao78 t797.length co78) ∧ nO k_ (.slice Ao79 t800.length co79) ∧ nO k_ (.slice Ao118 t807.length co118) ∧ nO k_ (.slice Ao119 t810.length co119) ∧ nO k_ (.slice Ao123 t815.length co123) ∧ nO k_ (.slice Ao124 t818.length co124)) (Kd.R_keptB (HO_780001.out) hkp (fun k_ hk_ hs_ => Or.elim hs_ (fun e_ => (hk_.1.1.1.1.2.1) e_) (fun e_ => (hk_.1.1.1.1.2.2.1) e_))) (fun k_ hk_ => ⟨hk_.1.1.1.1.1.1, hk_.1.1.1.1.1.2.1, hk_.1.1.1.1.1.2.2.1, hk_.1.1.1.1.1.2.2.2.1, hk_.1.1.1.1.1.2.2.2.2.1, hk_.1.1.1.1.1.2.2.2.2.2.1, hk_.1.1.1.1.1.2.2.2.2.2.2, hk_.1.1.1.1.2, hk_.1.1.1.2, hk_.1.1.2, hk_.1.2⟩)); replace HO_780002 := Aside0.mk (Kd.R_mono (ok' := fun k_ => nO k_ (.slice Ao44 t772.length co44) ∧ nO k_ (.slice Ao56 t781.length co56) ∧ nO k_ (.slice Ao57 t784.length co57) ∧ nO k_ (.slice Ao67 t789.length co67) ∧ nO k_ (.slice Ao68 t792.length co68) ∧ nO k_ (.slice Ao78 t797.length co78) ∧ nO k_ (.slice Ao79 t800.length co79) ∧ nO k_ (.slice Ao118 t807.length co118) ∧ nO k_ (.slice Ao119 t810.length co119) ∧ nO k_ (.slice Ao123 t815.length co123) ∧ nO k_ (.slice Ao124 t818.length co124)) (Kd.R_keptB (HO_780002.out) hkp (fun k_ hk_ hs_ => Or.elim hs_ (fun e_ => (hk_.1.1.1.1.2.1) e_) (fun e_ => (hk_.1.1.1.1.2.2.1) e_))) (fun k_ hk_ => ⟨hk_.1.1.1.1.1.1, hk_.1.1.1.1.1.2.1, hk_.1.1.1.1.1.2.2.1, hk_.1.1.1.1.1.2.2.2.1, hk_.1.1.1.1.1.2.2.2.2.1, hk_.1.1.1.1.1.2.2.2.2.2.1, hk_.1.1.1.1.1.2.2.2.2.2.2, hk_.1.1.1.1.2, hk_.1.1.1.2, hk_.1.1.2, hk_.1.2⟩)); replace HO_796001 := Aside0.mk (Kd.R_mono (ok' := fun k_ => nO k_ (.slice Ao44 t772.length co44) ∧ nO k_ (.slice Ao46 t775.length co46) ∧ nO k_ (.slice Ao56 t781.length co56) ∧ nO k_ (.slice Ao57 t784.length co57) ∧ nO k_ (.slice Ao68 t792.length co68) ∧ nO k_ (.slice Ao78 t797.length co78) ∧ nO k_ (.slice Ao79 t800.length co79) ∧ nO k_ (.slice Ao118 t807.length co118) ∧ nO k_ (.slice Ao119 t810.length co119) ∧ nO k_ (.slice Ao123 t815.length co123) ∧ nO k_ (.slice Ao124 t818.length co124)) (Kd.R_keptB (HO_796001.out) hkp (fun k_ hk_ hs_ => Or.elim hs_ (fun e_ => (hk_.1.1.1.1.2.2.1) e_) (fun e_ => (hk_.1.1.1.1.2.2.2.1) e_))) (fun k_ hk_ => ⟨hk_.1.1.1.1.1.1, hk_.1.1.1.1.1.2.1, hk_.1.1.1.1.1.2.2.1, hk_.1.1.1.1.1.2.2.2.1, hk_.1.1.1.1.1.2.2.2.2.1, hk_.1.1.1.1.1.2.2.2.2.2.1, hk_.1.1.1.1.1.2.2.2.2.2.2, hk_.1.1.1.1.2, hk_.1.1.1.2, hk_.1.1.2, hk_.1.2⟩)); replace HO_796002 := Aside0.mk (Kd.R_mono (ok' := fun k_ => nO k_ (.slice Ao44 t772.length co44) ∧ nO k_ (.slice Ao46 t775.length co46) ∧ nO k_ (.slice Ao56 t781.length co56) ∧ nO k_ (.slice Ao57 t784.length co57) ∧ nO k_ (.slice Ao67 t789.length co67) ∧ nO k_ (.slice Ao78 t797.length co78) ∧ nO k_ (.slice Ao79 t800.length co79) ∧ nO k_ (.slice Ao118 t807.length co118) ∧ nO k_ (.slice Ao119 t810.length co119) ∧ nO k_ (.slice Ao123 t815.length co123) ∧ nO k_ (.slice Ao124 t818.length co124)) (Kd.R_keptB (HO_796002.out) hkp (fun k_ hk_ hs_ => Or.elim hs_ (fun e_ => (hk_.1.1.1.1.2.2.1) e_) (fun e_ => (hk_.1.1.1.1.2.2.2.1) e_))) (fun k_ hk_ => ⟨hk_.1.1.1.1.1.1, hk_.1.1.1.1.1.2.1, hk_.1.1.1.1.1.2.2.1, hk_.1.1.1.1.1.2.2.2.1, hk_.1.1.1.1.1.2.2.2.2.1, hk_.1.1.1.1.1.2.2.2.2.2.1, hk_.1.1.1.1.1.2.2.2.2.2.2, hk_.1.1.1.1.2, hk_.1.1.1.2, hk_.1.1.2, hk_.1.2⟩)); replace HO_805001 := Aside0.mk (Kd.R_mono (ok' := fun k_ => nO k_ (.slice Ao44 t772.length co44) ∧ nO k_ (.slice Ao46 t775.length co46) ∧ nO k_ (.slice Ao56 t781.length co56) ∧ nO k_ (.slice Ao57 t784.length co57) ∧ nO k_ (.slice Ao67 t789.length co67) ∧ nO k_ (.slice Ao68 t792.length co68) ∧ nO k_ (.slice Ao79 t800.length co79) ∧ nO k_ (.slice Ao118 t807.length co118) ∧ nO k_ (.slice Ao119 t810.length co119) ∧ nO k_ (.slice Ao123 t815.length co123) ∧ nO k_ (.slice Ao124 t818.length co124)) (Kd.R_keptB (HO_805001.out) hkp (fun k_ hk_ hs_ => Or.elim hs_ (fun e_ => (hk_.1.1.1.1.2.2.1) e_) (fun e_ => (hk_.1.1.1.1.2.2.2.1) e_))) (fun k_ hk_ => ⟨hk_.1.1.1.1.1.1, hk_.1.1.1.1.1.2.1, hk_.1.1.1.1.1.2.2.1, hk_.1.1.1.1.1.2.2.2.1, hk_.1.1.1.1.1.2.2.2.2.1, hk_.1.1.1.1.1.2.2.2.2.2.1, hk_.1.1.1.1.1.2.2.2.2.2.2, hk_.1.1.1.1.2, hk_.1.1.1.2, hk_.1.1.2, hk_.1.2⟩)); replace HO_805002 := Aside0.mk (Kd.R_mono (ok' := fun k_ => nO k_ (.slice Ao44 t772.length co44) ∧ nO k_ (.slice Ao46 t775.length co46) ∧ nO k_ (.slice Ao56 t781.length co56) ∧ nO k_ (.slice Ao57 t784.length co57) ∧ nO k_ (.slice Ao67 t789.length co67) ∧ nO k_ (.slice Ao68 t792.length co68) ∧ nO k_ (.slice Ao78 t797.length co78) ∧ nO k_ (.slice Ao118 t807.length co118) ∧ nO k_ (.slice Ao119 t810.length co119) ∧ nO k_ (.slice Ao123 t815.length co123) ∧ nO k_ (.slice Ao124 t818.length co124)) (Kd.R_keptB (HO_805002.out) hkp (fun k_ hk_ hs_ => Or.elim hs_ (fun e_ => (hk_.1.1.1.1.2.2.1) e_) (fun e_ => (hk_.1.1.1.1.2.2.2.1) e_))) (fun k_ hk_ => ⟨hk_.1.1.1.1.1.1, hk_.1.1.1.1.1.2.1, hk_.1.1.1.1.1.2.2.1, hk_.1.1.1.1.1.2.2.2.1, hk_.1.1.1.1.1.2.2.2.2.1, hk_.1.1.1.1.1.2.2.2.2.2.1, hk_.1.1.1.1.1.2.2.2.2.2.2, hk_.1.1.1.1.2, hk_.1.1.1.2, hk_.1.1.2, hk_.1.2⟩)); replace BK753 := Aside0.mk (blk_kept (crb BK753) hkp (fun hs_ => Or.elim hs_ (fun e_ => (fun e_ => (Kd.R_ne HO_788001.out BK753.out (by decide)) e_) e_) (fun e_ => (fun e_ => (Kd.R_ne HO_788002.out BK753.out (by decide)) e_) e_))); replace BK754 := Aside0.mk (blk_kept (crb BK754) hkp (fun hs_ => Or.elim hs_ (fun e_ => (fun e_ => (Kd.R_ne HO_788001.out BK754.out (by decide)) e_) e_) (fun e_ => (fun e_ => (Kd.R_ne HO_788002.out BK754.out (by decide)) e_) e_))); replace BK779 := Aside0.mk (blk_kept (crb BK779) hkp (fun hs_ => Or.elim hs_ (fun e_ => (fun e_ => (Kd.R_ne HO_788001.out BK779.out (by decide)) e_) e_) (fun e_ => (fun e_ => (Kd.R_ne HO_788002.out BK779.out (by decide)) e_) e_))); replace BK787 := Aside0.mk (blk_kept (crb BK787) hkp (fun hs_ => Or.elim hs_ (fun e_ => (fun e_ => (Kd.R_ne HO_788001.out BK787.out (by decide)) e_) e_) (fun e_ => (fun e_ => (Kd.R_ne HO_788002.out BK787.out (by decide)) e_) e_))); replace BK795 := Aside0.mk (blk_kept (crb BK795) hkp (fun hs_ => Or.elim hs_ (fun e_ => (fun e_ => (Kd.R_ne HO_788001.out BK795.out (by decide)) e_) e_) (fun e_ => (fun e_ => (Kd.R_ne HO_788002.out BK795.out (by decide)) e_) e_))); replace BK804 := Aside0.mk (blk_kept (crb BK804) hkp (fun hs_ => Or.elim hs_ (fun e_ => (fun e_ => (Kd.R_ne HO_788001.out BK804.out (by decide)) e_) e_) (fun e_ => (fun e_ => (Kd.R_ne HO_788002.out BK804.out (by decide)) e_) e_))); replace HO_788001 := Aside0.mk (Kd.R_reok rfl hy0 (fun k_ e_ => HO_788001.out.1 k_ e_)); replace HO_788002 := Aside0.mk (Kd.R_reok rfl hy1 (fun k_ e_ => HO_788002.out.1 k_ e_)); replace HO809 := Aside0.mk (Kd.R_mono (ok' := fun k_ => nO k_ (.slice Ao44 t772.length co44) ∧ nO k_ (.slice Ao46 t775.length co46) ∧ nO k_ (.slice Ao56 t781.length co56) ∧ nO k_ (.slice Ao57 t784.length co57) ∧ nO k_ (.slice Ao67 t789.length co67) ∧ nO k_ (.slice Ao68 t792.length co68) ∧ nO k_ (.slice Ao78 t797.length co78) ∧ nO k_ (.slice Ao79 t800.length co79) ∧ nO k_ (.slice Ao119 t810.length co119) ∧ nO k_ (.slice Ao123 t815.length co123) ∧ nO k_ (.slice Ao124 t818.length co124)) (Kd.R_keptB (HO809.out) hkp (fun k_ hk_ hs_ => Or.elim hs_ (fun e_ => (hk_.1.1.1.1.1.1.1.2) e_) (fun e_ => (hk_.1.1.1.1.1.1.2) e_))) (fun k_ hk_ => ⟨hk_.1.1.1.1.1.1.1.1.1.1.2, hk_.1.1.1.1.1.1.1.1.1.2, hk_.1.1.1.1.1.1.1.1.2, hk_.1.1.1.1.1.1.1.2, hk_.1.1.1.1.1.1.2, hk_.1.1.1.1.1.2, hk_.1.1.1.1.2, hk_.1.1.1.2, hk_.1.1.1.1.1.1.1.1.1.1.1, hk_.1.1.2, hk_.1.2⟩)); replace HO812 := Aside0.mk (Kd.R_mono (ok' := fun k_ => nO k_ (.slice Ao44 t772.length co44) ∧ nO k_ (.slice Ao46 t775.length co46) ∧ nO k_ (.slice Ao56 t781.length co56) ∧ nO k_ (.slice Ao57 t784.length co57) ∧ nO k_ (.slice Ao67 t789.length co67) ∧ nO k_ (.slice Ao68 t792.length co68) ∧ nO k_ (.slice Ao78 t797.length co78) ∧ nO k_ (.slice Ao79 t800.length co79) ∧ nO k_ (.slice Ao118 t807.length co118) ∧ nO k_ (.slice Ao123 t815.length co123) ∧ nO k_ (.slice Ao124 t818.length co124)) (Kd.R_keptB (HO812.out) hkp (fun k_ hk_ hs_ => Or.elim hs_ (fun e_ => (hk_.1.1.1.1.1.1.1.2) e_) (fun e_ => (hk_.1.1.1.1.1.1.2) e_))) (fun k_ hk_ => ⟨hk_.1.1.1.1.1.1.1.1.1.1.2, hk_.1.1.1.1.1.1.1.1.1.2, hk_.1.1.1.1.1.1.1.1.2, hk_.1.1.1.1.1.1.1.2, hk_.1.1.1.1.1.1.2, hk_.1.1.1.1.1.2, hk_.1.1.1.1.2, hk_.1.1.1.2, hk_.1.1.1.1.1.1.1.1.1.1.1, hk_.1.1.2, hk_.1.2⟩)); replace HO817 := Aside0.mk (Kd.R_mono (ok' := fun k_ => nO k_ (.slice Ao44 t772.length co44) ∧ nO k_ (.slice Ao46 t775.length co46) ∧ nO k_ (.slice Ao56 t781.length co56) ∧ nO k_ (.slice Ao57 t784.length co57) ∧ nO k_ (.slice Ao67 t789.length co67) ∧ nO k_ (.slice Ao68 t792.length co68) ∧ nO k_ (.slice Ao78 t797.length co78) ∧ nO k_ (.slice Ao79 t800.length co79) ∧ nO k_ (.slice Ao118 t807.length co118) ∧ nO k_ (.slice Ao119 t810.length co119) ∧ nO k_ (.slice Ao124 t818.length co124)) (Kd.R_keptB (HO817.out) hkp (fun k_ hk_ hs_ => Or.elim hs_ (fun e_ => (hk_.1.1.1.1.1.1.1.2) e_) (fun e_ => (hk_.1.1.1.1.1.1.2) e_))) (fun k_ hk_ => ⟨hk_.1.1.1.1.1.1.1.1.1.1.2, hk_.1.1.1.1.1.1.1.1.1.2, hk_.1.1.1.1.1.1.1.1.2, hk_.1.1.1.1.1.1.1.2, hk_.1.1.1.1.1.1.2, hk_.1.1.1.1.1.2, hk_.1.1.1.1.2, hk_.1.1.1.2, hk_.1.1.2, hk_.1.2, hk_.1.1.1.1.1.1.1.1.1.1.1⟩)); replace HO820 := Aside0.mk (Kd.R_mono (ok' := fun k_ => nO k_ (.slice Ao44 t772.length co44) ∧ nO k_ (.slice Ao46 t775.length co46) ∧ nO k_ (.slice Ao56 t781.length co56) ∧ nO k_ (.slice Ao57 t784.length co57) ∧ nO k_ (.slice Ao67 t789.length co67) ∧ nO k_ (.slice Ao68 t792.length co68) ∧ nO k_ (.slice Ao78 t797.length co78) ∧ nO k_ (.slice Ao79 t800.length co79) ∧ nO k_ (.slice Ao118 t807.length co118) ∧ nO k_ (.slice Ao119 t810.length co119) ∧ nO k_ (.slice Ao123 t815.length co123)) (Kd.R_keptB (HO820.out) hkp (fun k_ hk_ hs_ => Or.elim hs_ (fun e_ => (hk_.1.1.1.1.1.1.1.2) e_) (fun e_ => (hk_.1.1.1.1.1.1.2) e_))) (fun k_ hk_ => ⟨hk_.1.1.1.1.1.1.1.1.1.1.2, hk_.1.1.1.1.1.1.1.1.1.2, hk_.1.1.1.1.1.1.1.1.2, hk_.1.1.1.1.1.1.1.2, hk_.1.1.1.1.1.1.2, hk_.1.1.1.1.1.2, hk_.1.1.1.1.2, hk_.1.1.1.2, hk_.1.1.2, hk_.1.2, hk_.1.1.1.1.1.1.1.1.1.1.1⟩)); replace HB := Aside0.mk (hb); (try clear hb); (try clear hkp); (try clear hy0); (try clear hy1); have hnb133 := NB795_753.out; have hnc133 := NB753_795.out; have hnb134 := NB795_754.out; have hnc134 := NB754_795.out; have hnb135 := NB795_779.out; have hnc135 := NB779_795.out; have hnb136 := NB795_804.out; have hnc136 := NB804_795.out; have hcz137_0 := bce BK795 0 (.bool t788); have hcz137_1 := bce BK795 1 (.slice Ao67 t789.length co67); have hcz137_2 := bce BK795 2 (.slice Ao68 t792.length co68); have hfz137_0 := blk_frozen BK795.out 0; have hfz137_1 := blk_frozen BK795.out 1; have hfz137_2 := blk_frozen BK795.out 2) | ((with_reducible refine gate_callee (f := 18) rfl ?_); refine goesL_ (some 69) rfl rfl Try.func18 (by kernel_rfl) rfl #[.agg #[.bool t788, .slice Ao67 t789.length co67, .slice Ao68 t792.length co68], .int .i64 t822] rfl (by (try simp only [List.map_toArray, List.map_cons, List.map_nil]); first | done | rfl | (simp only [List.length_drop, List.length_take]; rfl)) ?_; (with_reducible refine (laws_markRat.calls kj24 t788 (fun k_ => some k_ = (.slice Ao67 t789.length co67 : Value).ownBlock) (.slice Ao67 t789.length co67) t789 (fun k_ => some k_ = (.slice Ao68 t792.length co68 : Value).ownBlock) (.slice Ao68 t792.length co68) t792 t822 t825 t826 t827 w _ ?side1 ?side2 ?side3 ?side4 ?side5 A114.out).mono ?_); (case side1 => repeat (first | (with_reducible first | exact HB.out | apply below_alloc | apply pw_below_drewN | apply below_drew1 | refine below_set ?_ GE753.out | refine below_set ?_ GE754.out | refine below_set ?_ GE779.out | refine below_set ?_ GE787.out | refine below_set ?_ GE795.out | refine below_set ?_ GE804.out) | exact HB.out)); (case side2 => exact Kd.R_tight rfl HO_796001.out); (case side3 => exact fun k_ e_ => (HO_796001.out.1 k_ e_.symm).2.2.2.2.1); (case side4 => exact Kd.R_tight rfl HO_796002.out); (case side5 => exact fun k_ e_ => (HO_796002.out.1 k_ e_.symm).2.2.2.2.1); rintro e w138 ⟨rfl, hy0, hy1, hb, hkp⟩; refine ⟨_, rfl, ?_⟩; replace HO_780001 := Aside0.mk (Kd.R_mono (ok' := fun k_ => nO k_ (.slice Ao46 t775.length co46) ∧ nO k_ (.slice Ao56 t781.length co56) ∧ nO k_ (.slice Ao57 t784.length co57) ∧ nO k_ (.slice Ao67 t789.length co67) ∧ nO k_ (.slice Ao68 t792.length co68) ∧ nO k_ (.slice Ao78 t797.length co78) ∧ nO k_ (.slice Ao79 t800.length co79) ∧ nO k_ (.slice Ao118 t807.length co118) ∧ nO k_ (.slice Ao119 t810.length co119) ∧ nO k_ (.slice Ao123 t815.length co123) ∧ nO k_ (.slice Ao124 t818.length co124)) (Kd.R_keptB (HO_780001.out) hkp (fun k_ hk_ hs_ => Or.elim hs_ (fun e_ => (hk_.2.2.2.1) e_) (fun e_ => (hk_.2.2.2.2.1) e_))) (fun k_ hk_ => ⟨hk_.1.1, hk_.1.2.1, hk_.1.2.2.1, hk_.1.2.2.2.1, hk_.1.2.2.2.2.1, hk_.1.2.2.2.2.2.1, hk_.1.2.2.2.2.2.2.1, hk_.1.2.2.2.2.2.2.2.1, hk_.1.2.2.2.2.2.2.2.2.1, hk_.1.2.2.2.2.2.2.2.2.2.1, hk_.1.2.2.2.2.2.2.2.2.2.2⟩)); replace HO_780002 := Aside0.mk (Kd.R_mono (ok' := fun k_ => nO k_ (.slice Ao44 t772.length co44) ∧ nO k_ (.slice Ao56 t781.length co56) ∧ nO k_ (.slice Ao57 t784.length co57) ∧ nO k_ (.slice Ao67 t789.length co67) ∧ nO k_ (.slice Ao68 t792.length co68) ∧ nO k_ (.slice Ao78 t797.length co78) ∧ nO k_ (.slice Ao79 t800.length co79) ∧ nO k_ (.slice Ao118 t807.length co118) ∧ nO k_ (.slice Ao119 t810.length co119) ∧ nO k_ (.slice Ao123 t815.length co123) ∧ nO k_ (.slice Ao124 t818.length co124)) (Kd.R_keptB (HO_780002.out) hkp (fun k_ hk_ hs_ => Or.elim hs_ (fun e_ => (hk_.2.2.2.1) e_) (fun e_ => (hk_.2.2.2.2.1) e_))) (fun k_ hk_ => ⟨hk_.1.1, hk_.1.2.1, hk_.1.2.2.1, hk_.1.2.2.2.1, hk_.1.2.2.2.2.1, hk_.1.2.2.2.2.2.1, hk_.1.2.2.2.2.2.2.1, hk_.1.2.2.2.2.2.2.2.1, hk_.1.2.2.2.2.2.2.2.2.1, hk_.1.2.2.2.2.2.2.2.2.2.1, hk_.1.2.2.2.2.2.2.2.2.2.2⟩)); replace HO_788001 := Aside0.mk (Kd.R_mono (ok' := fun k_ => nO k_ (.slice Ao44 t772.length co44) ∧ nO k_ (.slice Ao46 t775.length co46) ∧ nO k_ (.slice Ao57 t784.length co57) ∧ nO k_ (.slice Ao67 t789.length co67) ∧ nO k_ (.slice Ao68 t792.length co68) ∧ nO k_ (.slice Ao78 t797.length co78) ∧ nO k_ (.slice Ao79 t800.length co79) ∧ nO k_ (.slice Ao118 t807.length co118) ∧ nO k_ (.slice Ao119 t810.length co119) ∧ nO k_ (.slice Ao123 t815.length co123) ∧ nO k_ (.slice Ao124 t818.length co124)) (Kd.R_keptB (HO_788001.out) hkp (fun k_ hk_ hs_ => Or.elim hs_ (fun e_ => (hk_.1.1.1.1.2.2.2.1) e_) (fun e_ => (hk_.1.1.1.1.2.2.2.2.1) e_))) (fun k_ hk_ => ⟨hk_.1.1.1.1.1.1, hk_.1.1.1.1.1.2.1, hk_.1.1.1.1.1.2.2.1, hk_.1.1.1.1.1.2.2.2.1, hk_.1.1.1.1.1.2.2.2.2.1, hk_.1.1.1.1.1.2.2.2.2.2.1, hk_.1.1.1.1.1.2.2.2.2.2.2, hk_.1.1.1.1.2, hk_.1.1.1.2, hk_.1.1.2, hk_.1.2⟩)); replace HO_788002 := Aside0.mk (Kd.R_mono (ok' := fun k_ => nO k_ (.slice Ao44 t772.length co44) ∧ nO k_ (.slice Ao46 t775.length co46) ∧ nO k_ (.slice Ao56 t781.length co56) ∧ nO k_ (.slice Ao67 t789.length co67) ∧ nO k_ (.slice Ao68 t792.length co68) ∧ nO k_ (.slice Ao78 t797.length co78) ∧ nO k_ (.slice Ao79 t800.length co79) ∧ nO k_ (.slice Ao118 t807.length co118) ∧ nO k_ (.slice Ao119 t810.length co119) ∧ nO k_ (.slice Ao123 t815.length co123) ∧ nO k_ (.slice Ao124 t818.length co124)) (Kd.R_keptB (HO_788002.out) hkp (fun k_ hk_ hs_ => Or.elim hs_ (fun e_ => (hk_.1.1.1.1.2.2.2.1) e_) (fun e_ => (hk_.1.1.1.1.2.2.2.2.1) e_))) (fun k_ hk_ => ⟨hk_.1.1.1.1.1.1, hk_.1.1.1.1.1.2.1, hk_.1.1.1.1.1.2.2.1, hk_.1.1.1.1.1.2.2.2.1, hk_.1.1.1.1.1.2.2.2.2.1, hk_.1.1.1.1.1.2.2.2.2.2.1, hk_.1.1.1.1.1.2.2.2.2.2.2, hk_.1.1.1.1.2, hk_.1.1.1.2, hk_.1.1.2, hk_.1.2⟩)); replace HO_805001 := Aside0.mk (Kd.R_mono (ok' := fun k_ => nO k_ (.slice Ao44 t772.length co44) ∧ nO k_ (.slice Ao46 t775.length co46) ∧ nO k_ (.slice Ao56 t781.length co56) ∧ nO k_ (.slice Ao57 t784.length co57) ∧ nO k_ (.slice Ao67 t789.length co67) ∧ nO k_ (.slice Ao68 t792.length co68) ∧ nO k_ (.slice Ao79 t800.length co79) ∧ nO k_ (.slice Ao118 t807.length co118) ∧ nO k_ (.slice Ao119 t810.length co119) ∧ nO k_ (.slice Ao123 t815.length co123) ∧ nO k_ (.slice Ao124 t818.length co124)) (Kd.R_keptB (HO_805001.out) hkp (fun k_ hk_ hs_ => Or.elim hs_ (fun e_ => (hk_.2.2.2.2.1) e_) (fun e_ => (hk_.2.2.2.2.2.1) e_))) (fun k_ hk_ => ⟨hk_.1.1, hk_.1.2.1, hk_.1.2.2.1, hk_.1.2.2.2.1, hk_.1.2.2.2.2.1, hk_.1.2.2.2.2.2.1, hk_.1.2.2.2.2.2.2.1, hk_.1.2.2.2.2.2.2.2.1, hk_.1.2.2.2.2.2.2.2.2.1, hk_.1.2.2.2.2.2.2.2.2.2.1, hk_.1.2.2.2.2.2.2.2.2.2.2⟩)); replace HO_805002 := Aside0.mk (Kd.R_mono (ok' := fun k_ => nO k_ (.slice Ao44 t772.length co44) ∧ nO k_ (.slice Ao46 t775.length co46) ∧ nO k_ (.slice Ao56 t781.length co56) ∧ nO k_ (.slice Ao57 t784.length co57) ∧ nO k_ (.slice Ao67 t789.length co67) ∧ nO k_ (.slice Ao68 t792.length co68) ∧ nO k_ (.slice Ao78 t797.length co78) ∧ nO k_ (.slice Ao118 t807.length co118) ∧ nO k_ (.slice Ao119 t810.length co119) ∧ nO k_ (.slice Ao123 t815.length co123) ∧ nO k_ (.slice Ao124 t818.length co124)) (Kd.R_keptB (HO_805002.out) hkp (fun k_ hk_ hs_ => Or.elim hs_ (fun e_ => (hk_.2.2.2.2.1) e_) (fun e_ => (hk_.2.2.2.2.2.1) e_))) (fun k_ hk_ => ⟨hk_.1.1, hk_.1.2.1, hk_.1.2.2.1, hk_.1.2.2.2.1, hk_.1.2.2.2.2.1, hk_.1.2.2.2.2.2.1, hk_.1.2.2.2.2.2.2.1, hk_.1.2.2.2.2.2.2.2.1, hk_.1.2.2.2.2.2.2.2.2.1, hk_.1.2.2.2.2.2.2.2.2.2.1, hk_.1.2.2.2.2.2.2.2.2.2.2⟩)); replace BK753 := Aside0.mk (blk_kept (crb BK753) hkp (fun hs_ => Or.elim hs_ (fun e_ => (fun e_ => (Kd.R_ne HO_796001.out BK753.out (by decide)) e_) e_) (fun e_ => (fun e_ => (Kd.R_ne HO_796002.out BK753.out (by decide)) e_) e_))); replace BK754 := Aside0.mk (blk_kept (crb BK754) hkp (fun hs_ => Or.elim hs_ (fun e_ => (fun e_ => (Kd.R_ne HO_796001.out BK754.out (by decide)) e_) e_) (fun e_ => (fun e_ => (Kd.R_ne HO_796002.out BK754.out (by decide)) e_) e_))); replace BK779 := Aside0.mk (blk_kept (crb BK779) hkp (fun hs_ => Or.elim hs_ (fun e_ => (fun e_ => (Kd.R_ne HO_796001.out BK779.out (by decide)) e_) e_) (fun e_ => (fun e_ => (Kd.R_ne HO_796002.out BK779.out (by decide)) e_) e_))); replace BK787 := Aside0.mk (blk_kept (crb BK787) hkp (fun hs_ => Or.elim hs_ (fun e_ => (fun e_ => (Kd.R_ne HO_796001.out BK787.out (by decide)) e_) e_) (fun e_ => (fun e_ => (Kd.R_ne HO_796002.out BK787.out (by decide)) e_) e_))); replace BK795 := Aside0.mk (blk_kept (crb BK795) hkp (fun hs_ => Or.elim hs_ (fun e_ => (fun e_ => (Kd.R_ne HO_796001.out BK795.out (by decide)) e_) e_) (fun e_ => (fun e_ => (Kd.R_ne HO_796002.out BK795.out (by decide)) e_) e_))); replace BK804 := Aside0.mk (blk_kept (crb BK804) hkp (fun hs_ => Or.elim hs_ (fun e_ => (fun e_ => (Kd.R_ne HO_796001.out BK804.out (by decide)) e_) e_) (fun e_ => (fun e_ => (Kd.R_ne HO_796002.out BK804.out (by decide)) e_) e_))); replace HO_796001 := Aside0.mk (Kd.R_reok rfl hy0 (fun k_ e_ => HO_796001.out.1 k_ e_)); replace HO_796002 := Aside0.mk (Kd.R_reok rfl hy1 (fun k_ e_ => HO_796002.out.1 k_ e_)); replace HO809 := Aside0.mk (Kd.R_mono (ok' := fun k_ => nO k_ (.slice Ao44 t772.length co44) ∧ nO k_ (.slice Ao46 t775.length co46) ∧ nO k_ (.slice Ao56 t781.length co56) ∧ nO k_ (.slice Ao57 t784.length co57) ∧ nO k_ (.slice Ao67 t789.length co67) ∧ nO k_ (.slice Ao68 t792.length co68) ∧ nO k_ (.slice Ao78 t797.length co78) ∧ nO k_ (.slice Ao79 t800.length co79) ∧ nO k_ (.slice Ao119 t810.length co119) ∧ nO k_ (.slice Ao123 t815.length co123) ∧ nO k_ (.slice Ao124 t818.length co124)) (Kd.R_keptB (HO809.out) hkp (fun k_ hk_ hs_ => Or.elim hs_ (fun e_ => (hk_.2.2.2.2.1) e_) (fun e_ => (hk_.2.2.2.2.2.1) e_))) (fun k_ hk_ => ⟨hk_.1.1, hk_.1.2.1, hk_.1.2.2.1, hk_.1.2.2.2.1, hk_.1.2.2.2.2.1, hk_.1.2.2.2.2.2.1, hk_.1.2.2.2.2.2.2.1, hk_.1.2.2.2.2.2.2.2.1, hk_.1.2.2.2.2.2.2.2.2.1, hk_.1.2.2.2.2.2.2.2.2.2.1, hk_.1.2.2.2.2.2.2.2.2.2.2⟩)); replace HO812 := Aside0.mk (Kd.R_mono (ok' := fun k_ => nO k_ (.slice Ao44 t772.length co44) ∧ nO k_ (.slice Ao46 t775.length co46) ∧ nO k_ (.slice Ao56 t781.length co56) ∧ nO k_ (.slice Ao57 t784.length co57) ∧ nO k_ (.slice Ao67 t789.length co67) ∧ nO k_ (.slice Ao68 t792.length co68) ∧ nO k_ (.slice Ao78 t797.length co78) ∧ nO k_ (.slice Ao79 t800.length co79) ∧ nO k_ (.slice Ao118 t807.length co118) ∧ nO k_ (.slice Ao123 t815.length co123) ∧ nO k_ (.slice Ao124 t818.length co124)) (Kd.R_keptB (HO812.out) hkp (fun k_ hk_ hs_ => Or.elim hs_ (fun e_ => (hk_.2.2.2.2.1) e_) (fun e_ => (hk_.2.2.2.2.2.1) e_))) (fun k_ hk_ => ⟨hk_.1.1, hk_.1.2.1, hk_.1.2.2.1, hk_.1.2.2.2.1, hk_.1.2.2.2.2.1, hk_.1.2.2.2.2.2.1, hk_.1.2.2.2.2.2.2.1, hk_.1.2.2.2.2.2.2.2.1, hk_.1.2.2.2.2.2.2.2.2.1, hk_.1.2.2.2.2.2.2.2.2.2.1, hk_.1.2.2.2.2.2.2.2.2.2.2⟩)); replace HO817 := Aside0.mk (Kd.R_mono (ok' := fun k_ => nO k_ (.slice Ao44 t772.length co44) ∧ nO k_ (.slice Ao46 t775.length co46) ∧ nO k_ (.slice Ao56 t781.length co56) ∧ nO k_ (.slice Ao57 t784.length co57) ∧ nO k_ (.slice Ao67 t789.length co67) ∧ nO k_ (.slice Ao68 t792.length co68) ∧ nO k_ (.slice Ao78 t797.length co78) ∧ nO k_ (.slice Ao79 t800.length co79) ∧ nO k_ (.slice Ao118 t807.length co118) ∧ nO k_ (.slice Ao119 t810.length co119) ∧ nO k_ (.slice Ao124 t818.length co124)) (Kd.R_keptB (HO817.out) hkp (fun k_ hk_ hs_ => Or.elim hs_ (fun e_ => (hk_.2.2.2.2.1) e_) (fun e_ => (hk_.2.2.2.2.2.1) e_))) (fun k_ hk_ => ⟨hk_.1.1, hk_.1.2.1, hk_.1.2.2.1, hk_.1.2.2.2.1, hk_.1.2.2.2.2.1, hk_.1.2.2.2.2.2.1, hk_.1.2.2.2.2.2.2.1, hk_.1.2.2.2.2.2.2.2.1, hk_.1.2.2.2.2.2.2.2.2.1, hk_.1.2.2.2.2.2.2.2.2.2.1, hk_.1.2.2.2.2.2.2.2.2.2.2⟩)); replace HO820 := Aside0.mk (Kd.R_mono (ok' := fun k_ => nO k_ (.slice Ao44 t772.length co44) ∧ nO k_ (.slice Ao46 t775.length co46) ∧ nO k_ (.slice Ao56 t781.length co56) ∧ nO k_ (.slice Ao57 t784.length co57) ∧ nO k_ (.slice Ao67 t789.length co67) ∧ nO k_ (.slice Ao68 t792.length co68) ∧ nO k_ (.slice Ao78 t797.length co78) ∧ nO k_ (.slice Ao79 t800.length co79) ∧ nO k_ (.slice Ao118 t807.length co118) ∧ nO k_ (.slice Ao119 t810.length co119) ∧ nO k_ (.slice Ao123 t815.length co123)) (Kd.R_keptB (HO820.out) hkp (fun k_ hk_ hs_ => Or.elim hs_ (fun e_ => (hk_.2.2.2.2.1) e_) (fun e_ => (hk_.2.2.2.2.2.1) e_))) (fun k_ hk_ => ⟨hk_.1.1, hk_.1.2.1, hk_.1.2.2.1, hk_.1.2.2.2.1, hk_.1.2.2.2.2.1, hk_.1.2.2.2.2.2.1, hk_.1.2.2.2.2.2.2.1, hk_.1.2.2.2.2.2.2.2.1, hk_.1.2.2.2.2.2.2.2.2.1, hk_.1.2.2.2.2.2.2.2.2.2.1, hk_.1.2.2.2.2.2.2.2.2.2.2⟩)); replace HB := Aside0.mk (hb); (try clear hb); (try clear hkp); (try clear hy0); (try clear hy1)))
        (try simp only [Act.put, List.setIfInBounds_toArray, List.set_cons_zero, List.set_cons_succ])
        go_cut [82] (fun v82 wc => ∃ (kq : Nat) (x82_114 : Bool), v82 = .bool x82_114 ∧ Aside0 (laws_FnExactMulRat.j1 kq t778 x82_114 a0_0 l0_1 l0_2 a1_0 l1_1 l1_2 t771 t772 t775 t796 t797 t800 = some r) ∧ Aside0 (kq ≤ kj24) ∧ Aside0 (Kd.R (Kd.int .i64) 3 wc w.heap.size (fun k_ => nO k_ (.slice Ao46 t775.length co46) ∧ nO k_ (.slice Ao78 t797.length co78) ∧ nO k_ (.slice Ao79 t800.length co79)) (.slice Ao44 t772.length co44) t772) ∧ Aside0 (Kd.R (Kd.int .i64) 3 wc w.heap.size (fun k_ => nO k_ (.slice Ao44 t772.length co44) ∧ nO k_ (.slice Ao78 t797.length co78) ∧ nO k_ (.slice Ao79 t800.length co79)) (.slice Ao46 t775.length co46) t775) ∧ Aside0 (Kd.R (Kd.int .i64) 3 wc w.heap.size (fun k_ => nO k_ (.slice Ao44 t772.length co44) ∧ nO k_ (.slice Ao46 t775.length co46) ∧ nO k_ (.slice Ao79 t800.length co79)) (.slice Ao78 t797.length co78) t797) ∧ Aside0 (Kd.R (Kd.int .i64) 3 wc w.heap.size (fun k_ => nO k_ (.slice Ao44 t772.length co44) ∧ nO k_ (.slice Ao46 t775.length co46) ∧ nO k_ (.slice Ao78 t797.length co78)) (.slice Ao79 t800.length co79) t800) ∧ Aside0 (wc.heap[gb753]? = some (.cells #[.bool a0_0, (.slice A0_1 l0_1.length c0_1), (.slice A0_2 l0_2.length c0_2)] 30 (0, 0))) ∧ Aside0 (wc.heap[gb754]? = some (.cells #[.bool a1_0, (.slice A1_1 l1_1.length c1_1), (.slice A1_2 l1_2.length c1_2)] 30 (0, 0))) ∧ Aside0 (wc.heap[gb779]? = some (.cells #[.bool t771, (.slice Ao44 t772.length co44), (.slice Ao46 t775.length co46)] 24 (0, 0))) ∧ Aside0 (wc.heap[gb804]? = some (.cells #[.bool t796, (.slice Ao78 t797.length co78), (.slice Ao79 t800.length co79)] 24 (0, 0))) ∧ Aside0 (Below w.heap.size w wc))
        case first =>
         have H := HC115.out
         clear HC115
         by_cases c139 : t825 < 0
         ·
          rw [if_pos c139] at H
          have c139b0 : decide (t825 < 0) = true := decide_eq_true c139
          clear c139
          (first | rw [c139b0] | (simp only [i64_w, i32_w]; rw [c139b0]) | skip)
          have H' := Aside0.mk H
          clear H
          go_wp2
          go_meet
          case rel => exact ⟨_, (true), (by first | rfl | (simp; done) | (simp [*]; done)), H', ⟨by have := HJ24.out; first | omega | exact Nat.le_refl _⟩, ⟨crM HO_780001 fun _ hk => ⟨hk.1, hk.2.2.2.2.2.1, hk.2.2.2.2.2.2.1⟩⟩, ⟨crM HO_780002 fun _ hk => ⟨hk.1, hk.2.2.2.2.2.1, hk.2.2.2.2.2.2.1⟩⟩, ⟨crM HO_805001 fun _ hk => ⟨hk.1, hk.2.1, hk.2.2.2.2.2.2.1⟩⟩, ⟨crM HO_805002 fun _ hk => ⟨hk.1, hk.2.1, hk.2.2.2.2.2.2.1⟩⟩, ⟨crb BK753⟩, ⟨crb BK754⟩, ⟨crb BK779⟩, ⟨crb BK804⟩, ⟨blw HB⟩⟩
         ·
          rw [if_neg c139] at H
          have c139b0 : decide (t825 < 0) = false := decide_eq_false c139
          clear c139
          (first | rw [c139b0] | (simp only [i64_w, i32_w]; rw [c139b0]) | skip)
          replace H := Option.bind_eq_some_iff.mp H
          obtain ⟨t828, A1400, H⟩ := H
          replace H : (if t828 = true then (laws_FnExactMulRat.j1 kj24 t778 (t803 != t778) a0_0 l0_1 l0_2 a1_0 l1_1 l1_2 t771 t772 t775 t796 t797 t800) else (laws_FnExactMulRat.j1 kj24 t778 true a0_0 l0_1 l0_2 a1_0 l1_1 l1_2 t771 t772 t775 t796 t797 t800)) = some r := H
          have A140 := Aside0.mk A1400
          clear A1400
          by_cases c141 : t828 = true
          ·
           subst c141
           have H1 : (laws_FnExactMulRat.j1 kj24 t778 (t803 != t778) a0_0 l0_1 l0_2 a1_0 l1_1 l1_2 t771 t772 t775 t796 t797 t800) = some r := by rw [if_pos rfl] at H; exact H
           clear H
           have H := H1
           clear H1
           have H' := Aside0.mk H
           clear H
           have hnb142 := NB804_753.out
           have hnc142 := NB753_804.out
           have hnb143 := NB804_754.out
           have hnc143 := NB754_804.out
           have hnb144 := NB804_779.out
           have hnc144 := NB779_804.out
           have hnb145 := NB804_787.out
           have hnc145 := NB787_804.out
           have hnb146 := NB804_795.out
           have hnc146 := NB795_804.out
           have hcz147_0 := bce BK804 0 (.bool t796)
           have hcz147_1 := bce BK804 1 (.slice Ao78 t797.length co78)
           have hcz147_2 := bce BK804 2 (.slice Ao79 t800.length co79)
           have hfz147_0 := blk_frozen BK804.out 0
           have hfz147_1 := blk_frozen BK804.out 1
           have hfz147_2 := blk_frozen BK804.out 2
           have hnb148 := NB779_753.out
           have hnc148 := NB753_779.out
           have hnb149 := NB779_754.out
           have hnc149 := NB754_779.out
           have hnb150 := NB779_787.out
           have hnc150 := NB787_779.out
           have hnb151 := NB779_795.out
           have hnc151 := NB795_779.out
           have hcz152_0 := bce BK779 0 (.bool t771)
           have hcz152_1 := bce BK779 1 (.slice Ao44 t772.length co44)
           have hcz152_2 := bce BK779 2 (.slice Ao46 t775.length co46)
           have hfz152_0 := blk_frozen BK779.out 0
           have hfz152_1 := blk_frozen BK779.out 1
           have hfz152_2 := blk_frozen BK779.out 2
           go_wp2_with (first | (go_at_call 17; (with_reducible refine (laws_eqRat.calls kj24 t796 _ _ t797 _ _ t800 t771 _ _ t772 _ _ t775 true _ ?side1 ?side2 ?side3 ?side4 ?side5 ?side6 ?side7 ?side8 A140.out).mono ?_); (case side1 => exact crC (Kd.R_reads' HO_805001.out).2.2); (case side2 => exact (Kd.R_reads' HO_805001.out).2.1); (case side3 => exact crC (Kd.R_reads' HO_805002.out).2.2); (case side4 => exact (Kd.R_reads' HO_805002.out).2.1); (case side5 => exact crC (Kd.R_reads' HO_780001.out).2.2); (case side6 => exact (Kd.R_reads' HO_780001.out).2.1); (case side7 => exact crC (Kd.R_reads' HO_780002.out).2.2); (case side8 => exact (Kd.R_reads' HO_780002.out).2.1); rintro e w153 ⟨rfl, hb⟩; replace HO_780001 := rblR HO_780001 hb; replace HO_780002 := rblR HO_780002 hb; replace HO_788001 := rblR HO_788001 hb; replace HO_788002 := rblR HO_788002 hb; replace HO_796001 := rblR HO_796001 hb; replace HO_796002 := rblR HO_796002 hb; replace HO_805001 := rblR HO_805001 hb; replace HO_805002 := rblR HO_805002 hb; replace HO809 := rblR HO809 hb; replace HO812 := rblR HO812 hb; replace HO817 := rblR HO817 hb; replace HO820 := rblR HO820 hb; replace BK753 := bkb BK753 hb; replace BK754 := bkb BK754 hb; replace BK779 := bkb BK779 hb; replace BK787 := bkb BK787 hb; replace BK795 := bkb BK795 hb; replace BK804 := bkb BK804 hb; replace HB := bst HB hb; (try clear hb); (try clear hb2); (try clear hk); (try clear hi)))
           go_meet
           case rel => exact ⟨_, ((t803 != t778)), (by first | rfl | (simp; done) | (simp [*]; done)), H', ⟨by have := HJ24.out; first | omega | exact Nat.le_refl _⟩, ⟨crM HO_780001 fun _ hk => ⟨hk.1, hk.2.2.2.2.2.1, hk.2.2.2.2.2.2.1⟩⟩, ⟨crM HO_780002 fun _ hk => ⟨hk.1, hk.2.2.2.2.2.1, hk.2.2.2.2.2.2.1⟩⟩, ⟨crM HO_805001 fun _ hk => ⟨hk.1, hk.2.1, hk.2.2.2.2.2.2.1⟩⟩, ⟨crM HO_805002 fun _ hk => ⟨hk.1, hk.2.1, hk.2.2.2.2.2.2.1⟩⟩, ⟨crb BK753⟩, ⟨crb BK754⟩, ⟨crb BK779⟩, ⟨crb BK804⟩, ⟨blw HB⟩⟩
          ·
           replace c141 := Bool.eq_false_iff.mpr c141
           subst c141
           have H1 : (laws_FnExactMulRat.j1 kj24 t778 true a0_0 l0_1 l0_2 a1_0 l1_1 l1_2 t771 t772 t775 t796 t797 t800) = some r := by rw [if_neg (show ¬ (false = true) by decide)] at H; exact H
           clear H
           have H := H1
           clear H1
           have H' := Aside0.mk H
           clear H
           have hnb154 := NB804_753.out
           have hnc154 := NB753_804.out
           have hnb155 := NB804_754.out
           have hnc155 := NB754_804.out
           have hnb156 := NB804_779.out
           have hnc156 := NB779_804.out
           have hnb157 := NB804_787.out
           have hnc157 := NB787_804.out
           have hnb158 := NB804_795.out
           have hnc158 := NB795_804.out
           have hcz159_0 := bce BK804 0 (.bool t796)
           have hcz159_1 := bce BK804 1 (.slice Ao78 t797.length co78)
           have hcz159_2 := bce BK804 2 (.slice Ao79 t800.length co79)
           have hfz159_0 := blk_frozen BK804.out 0
           have hfz159_1 := blk_frozen BK804.out 1
           have hfz159_2 := blk_frozen BK804.out 2
           have hnb160 := NB779_753.out
           have hnc160 := NB753_779.out
           have hnb161 := NB779_754.out
           have hnc161 := NB754_779.out
           have hnb162 := NB779_787.out
           have hnc162 := NB787_779.out
           have hnb163 := NB779_795.out
           have hnc163 := NB795_779.out
           have hcz164_0 := bce BK779 0 (.bool t771)
           have hcz164_1 := bce BK779 1 (.slice Ao44 t772.length co44)
           have hcz164_2 := bce BK779 2 (.slice Ao46 t775.length co46)
           have hfz164_0 := blk_frozen BK779.out 0
           have hfz164_1 := blk_frozen BK779.out 1
           have hfz164_2 := blk_frozen BK779.out 2
           go_wp2_with (first | (go_at_call 17; (with_reducible refine (laws_eqRat.calls kj24 t796 _ _ t797 _ _ t800 t771 _ _ t772 _ _ t775 false _ ?side1 ?side2 ?side3 ?side4 ?side5 ?side6 ?side7 ?side8 A140.out).mono ?_); (case side1 => exact crC (Kd.R_reads' HO_805001.out).2.2); (case side2 => exact (Kd.R_reads' HO_805001.out).2.1); (case side3 => exact crC (Kd.R_reads' HO_805002.out).2.2); (case side4 => exact (Kd.R_reads' HO_805002.out).2.1); (case side5 => exact crC (Kd.R_reads' HO_780001.out).2.2); (case side6 => exact (Kd.R_reads' HO_780001.out).2.1); (case side7 => exact crC (Kd.R_reads' HO_780002.out).2.2); (case side8 => exact (Kd.R_reads' HO_780002.out).2.1); rintro e w165 ⟨rfl, hb⟩; replace HO_780001 := rblR HO_780001 hb; replace HO_780002 := rblR HO_780002 hb; replace HO_788001 := rblR HO_788001 hb; replace HO_788002 := rblR HO_788002 hb; replace HO_796001 := rblR HO_796001 hb; replace HO_796002 := rblR HO_796002 hb; replace HO_805001 := rblR HO_805001 hb; replace HO_805002 := rblR HO_805002 hb; replace HO809 := rblR HO809 hb; replace HO812 := rblR HO812 hb; replace HO817 := rblR HO817 hb; replace HO820 := rblR HO820 hb; replace BK753 := bkb BK753 hb; replace BK754 := bkb BK754 hb; replace BK779 := bkb BK779 hb; replace BK787 := bkb BK787 hb; replace BK795 := bkb BK795 hb; replace BK804 := bkb BK804 hb; replace HB := bst HB hb; (try clear hb); (try clear hb2); (try clear hk); (try clear hi)))
           go_meet
           case rel => exact ⟨_, (true), (by first | rfl | (simp; done) | (simp [*]; done)), H', ⟨by have := HJ24.out; first | omega | exact Nat.le_refl _⟩, ⟨crM HO_780001 fun _ hk => ⟨hk.1, hk.2.2.2.2.2.1, hk.2.2.2.2.2.2.1⟩⟩, ⟨crM HO_780002 fun _ hk => ⟨hk.1, hk.2.2.2.2.2.1, hk.2.2.2.2.2.2.1⟩⟩, ⟨crM HO_805001 fun _ hk => ⟨hk.1, hk.2.1, hk.2.2.2.2.2.2.1⟩⟩, ⟨crM HO_805002 fun _ hk => ⟨hk.1, hk.2.1, hk.2.2.2.2.2.2.1⟩⟩, ⟨crb BK753⟩, ⟨crb BK754⟩, ⟨crb BK779⟩, ⟨crb BK804⟩, ⟨blw HB⟩⟩
        case rest =>
         clear HC115
         try clear c1
         try clear c2
         try clear p2
         try clear c12
         try clear c13
         try clear c14
         try clear c15
         try clear c16
         try clear c17
         try clear c18
         try clear c22
         try clear c126
         try clear c127
         try clear c128
         try clear c129
         try clear c130
         try clear c133
         try clear c134
         try clear c135
         try clear c136
         try clear c139
         try clear c139b0
         try clear c141
         try clear c142
         try clear c143
         try clear c144
         try clear c145
         try clear c146
         try clear c148
         try clear c149
         try clear c150
         try clear c151
         try clear c154
         try clear c155
         try clear c156
         try clear c157
         try clear c158
         try clear c160
         try clear c161
         try clear c162
         try clear c163
         try clear hcz131_0
         try clear hcz131_1
         try clear hcz131_2
         try clear hcz137_0
         try clear hcz137_1
         try clear hcz137_2
         try clear hcz147_0
         try clear hcz147_1
         try clear hcz147_2
         try clear hcz152_0
         try clear hcz152_1
         try clear hcz152_2
         try clear hcz159_0
         try clear hcz159_1
         try clear hcz159_2
         try clear hcz164_0
         try clear hcz164_1
         try clear hcz164_2
         try clear hfz131_0
         try clear hfz131_1
         try clear hfz131_2
         try clear hfz137_0
         try clear hfz137_1
         try clear hfz137_2
         try clear hfz147_0
         try clear hfz147_1
         try clear hfz147_2
         try clear hfz152_0
         try clear hfz152_1
         try clear hfz152_2
         try clear hfz159_0
         try clear hfz159_1
         try clear hfz159_2
         try clear hfz164_0
         try clear hfz164_1
         try clear hfz164_2
         obtain ⟨kq, x82_114, rfl, HA, HJ114, HO_780001, HO_780002, HO_805001, HO_805002, BK753, BK754, BK779, BK804, HB⟩ := hcut
         cases kq with
         | zero => exact absurd HA.out (by simp [laws_FnExactMulRat.j1])
         | succ kj114 =>
          have H := HA.out
          clear HA
          simp only [laws_FnExactMulRat.j1] at H
          by_cases c166 : x82_114 = true
          ·
           subst c166
           have H1 : (some false) = some r := by rw [if_pos rfl] at H; exact H
           clear H
           have H := H1
           clear H1
           obtain rfl := Option.some.inj H
           exact absurd hr_ (by decide)
          ·
           replace c166 := Bool.eq_false_iff.mpr c166
           subst c166
           have H1 : ((laws_markRat.f kj114 t796 t797 t800 1).bind fun bt829 => ((laws_heldRat.f kj114 t796 bt829.2.1 bt829.2.2 1).bind fun t832 => (if t832 < 0 then (some false) else (if t832 = bt829.1 then ((laws_toRat.f kj114 a0_0 l0_1 l0_2).bind fun bt833 => ((laws_toRat.f kj114 a1_0 l1_1 l1_2).bind fun bt840 => ((impl_MulRat.f kj114 bt833.1 bt833.2.1 bt833.2.2 bt840.1 bt840.2.1 bt840.2.2).bind fun bt847 => ((laws_eqRat.f kj114 bt847.1 bt847.2.1 bt847.2.2.1 t771 t772 t775).bind fun t856 => (if t856 = true then (laws_FnExactMulRat.j2 kj114 bt829.1 (bt847.2.2.2 != t778) t796 bt829.2.1 bt829.2.2) else (laws_FnExactMulRat.j2 kj114 bt829.1 true t796 bt829.2.1 bt829.2.2)))))) else (some false))))) = some r := by rw [if_neg (show ¬ (false = true) by decide)] at H; exact H
           clear H
           have H := H1
           clear H1
           replace H := Option.bind_eq_some_iff.mp H
           obtain ⟨⟨t829, t830, t831⟩, A1670, H⟩ := H
           replace H : ((laws_heldRat.f kj114 t796 t830 t831 1).bind fun t832 => (if t832 < 0 then (some false) else (if t832 = t829 then ((laws_toRat.f kj114 a0_0 l0_1 l0_2).bind fun bt833 => ((laws_toRat.f kj114 a1_0 l1_1 l1_2).bind fun bt840 => ((impl_MulRat.f kj114 bt833.1 bt833.2.1 bt833.2.2 bt840.1 bt840.2.1 bt840.2.2).bind fun bt847 => ((laws_eqRat.f kj114 bt847.1 bt847.2.1 bt847.2.2.1 t771 t772 t775).bind fun t856 => (if t856 = true then (laws_FnExactMulRat.j2 kj114 t829 (bt847.2.2.2 != t778) t796 t830 t831) else (laws_FnExactMulRat.j2 kj114 t829 true t796 t830 t831)))))) else (some false)))) = some r := H
           have A167 := Aside0.mk A1670
           clear A1670
           replace H := Option.bind_eq_some_iff.mp H
           obtain ⟨t832, A1680, H⟩ := H
           replace H : (if t832 < 0 then (some false) else (if t832 = t829 then ((laws_toRat.f kj114 a0_0 l0_1 l0_2).bind fun bt833 => ((laws_toRat.f kj114 a1_0 l1_1 l1_2).bind fun bt840 => ((impl_MulRat.f kj114 bt833.1 bt833.2.1 bt833.2.2 bt840.1 bt840.2.1 bt840.2.2).bind fun bt847 => ((laws_eqRat.f kj114 bt847.1 bt847.2.1 bt847.2.2.1 t771 t772 t775).bind fun t856 => (if t856 = true then (laws_FnExactMulRat.j2 kj114 t829 (bt847.2.2.2 != t778) t796 t830 t831) else (laws_FnExactMulRat.j2 kj114 t829 true t796 t830 t831)))))) else (some false))) = some r := H
           have A168 := Aside0.mk A1680
           clear A1680
           by_cases c169 : t832 < 0
           ·
            rw [if_pos c169] at H
            have c169b0 : decide (t832 < 0) = true := decide_eq_true c169
            clear c169
            obtain rfl := Option.some.inj H
            exact absurd hr_ (by decide)
           ·
            rw [if_neg c169] at H
            have c169b0 : decide (t832 < 0) = false := decide_eq_false c169
            clear c169
            by_cases c177 : t832 = t829
            ·
             rw [if_pos c177] at H
             have c177b0 : (t832 == t829) = true := beq_iff_eq.mpr c177
             have c177b1 : (t832 != t829) = false := bne_eq_false_iff_eq.mpr c177
             clear c177
             replace H := Option.bind_eq_some_iff.mp H
             obtain ⟨⟨t833, t834, t837⟩, A1780, H⟩ := H
             replace H : ((laws_toRat.f kj114 a1_0 l1_1 l1_2).bind fun bt840 => ((impl_MulRat.f kj114 t833 t834 t837 bt840.1 bt840.2.1 bt840.2.2).bind fun bt847 => ((laws_eqRat.f kj114 bt847.1 bt847.2.1 bt847.2.2.1 t771 t772 t775).bind fun t856 => (if t856 = true then (laws_FnExactMulRat.j2 kj114 t829 (bt847.2.2.2 != t778) t796 t830 t831) else (laws_FnExactMulRat.j2 kj114 t829 true t796 t830 t831))))) = some r := H
             have A178 := Aside0.mk A1780
             clear A1780
             replace H := Option.bind_eq_some_iff.mp H
             obtain ⟨⟨t840, t841, t844⟩, A1790, H⟩ := H
             replace H : ((impl_MulRat.f kj114 t833 t834 t837 t840 t841 t844).bind fun bt847 => ((laws_eqRat.f kj114 bt847.1 bt847.2.1 bt847.2.2.1 t771 t772 t775).bind fun t856 => (if t856 = true then (laws_FnExactMulRat.j2 kj114 t829 (bt847.2.2.2 != t778) t796 t830 t831) else (laws_FnExactMulRat.j2 kj114 t829 true t796 t830 t831)))) = some r := H
             have A179 := Aside0.mk A1790
             clear A1790
             replace H := Option.bind_eq_some_iff.mp H
             obtain ⟨⟨t847, t848, t851, t854⟩, A1800, H⟩ := H
             replace H : ((laws_eqRat.f kj114 t847 t848 t851 t771 t772 t775).bind fun t856 => (if t856 = true then (laws_FnExactMulRat.j2 kj114 t829 (t854 != t778) t796 t830 t831) else (laws_FnExactMulRat.j2 kj114 t829 true t796 t830 t831))) = some r := H
             have A180 := Aside0.mk A1800
             clear A1800
             have HC181 := Aside0.mk H
             clear H
             have hnb182 := NB804_753.out
             have hnc182 := NB753_804.out
             have hnb183 := NB804_754.out
             have hnc183 := NB754_804.out
             have hnb184 := NB804_779.out
             have hnc184 := NB779_804.out
             have hcz185_0 := bce BK804 0 (.bool t796)
             have hcz185_1 := bce BK804 1 (.slice Ao78 t797.length co78)
             have hcz185_2 := bce BK804 2 (.slice Ao79 t800.length co79)
             have hfz185_0 := blk_frozen BK804.out 0
             have hfz185_1 := blk_frozen BK804.out 1
             have hfz185_2 := blk_frozen BK804.out 2
             try go_wp2_with (first | ((with_reducible refine gate_callee (f := 18) rfl ?_); refine goesL_ (some 85) rfl rfl Try.func18 (by kernel_rfl) rfl #[.agg #[.bool t796, .slice Ao78 t797.length co78, .slice Ao79 t800.length co79], .int .i64 1] rfl (by (try simp only [List.map_toArray, List.map_cons, List.map_nil]); first | done | rfl | (simp only [List.length_drop, List.length_take]; rfl)) ?_; (with_reducible refine (laws_markRat.calls kj114 t796 (fun k_ => some k_ = (.slice Ao78 t797.length co78 : Value).ownBlock) (.slice Ao78 t797.length co78) t797 (fun k_ => some k_ = (.slice Ao79 t800.length co79 : Value).ownBlock) (.slice Ao79 t800.length co79) t800 1 t829 t830 t831 w _ ?side1 ?side2 ?side3 ?side4 ?side5 A167.out).mono ?_); (case side1 => repeat (first | (with_reducible first | exact HB.out | apply below_alloc | apply pw_below_drewN | apply below_drew1 | refine below_set ?_ GE753.out | refine below_set ?_ GE754.out | refine below_set ?_ GE779.out | refine below_set ?_ GE804.out) | exact HB.out)); (case side2 => exact Kd.R_tight rfl HO_805001.out); (case side3 => exact fun k_ e_ => (HO_805001.out.1 k_ e_.symm).2.2); (case side4 => exact Kd.R_tight rfl HO_805002.out); (case side5 => exact fun k_ e_ => (HO_805002.out.1 k_ e_.symm).2.2); rintro e w186 ⟨rfl, hy0, hy1, hb, hkp⟩; refine ⟨_, rfl, ?_⟩; replace HO_780001 := Aside0.mk (Kd.R_mono (ok' := fun k_ => nO k_ (.slice Ao46 t775.length co46) ∧ nO k_ (.slice Ao78 t797.length co78) ∧ nO k_ (.slice Ao79 t800.length co79)) (Kd.R_keptB (HO_780001.out) hkp (fun k_ hk_ hs_ => Or.elim hs_ (fun e_ => (hk_.2.1) e_) (fun e_ => (hk_.2.2) e_))) (fun k_ hk_ => ⟨hk_.1.1, hk_.1.2.1, hk_.1.2.2⟩)); replace HO_780002 := Aside0.mk (Kd.R_mono (ok' := fun k_ => nO k_ (.slice Ao44 t772.length co44) ∧ nO k_ (.slice Ao78 t797.length co78) ∧ nO k_ (.slice Ao79 t800.length co79)) (Kd.R_keptB (HO_780002.out) hkp (fun k_ hk_ hs_ => Or.elim hs_ (fun e_ => (hk_.2.1) e_) (fun e_ => (hk_.2.2) e_))) (fun k_ hk_ => ⟨hk_.1.1, hk_.1.2.1, hk_.1.2.2⟩)); replace BK753 := Aside0.mk (blk_kept (crb BK753) hkp (fun hs_ => Or.elim hs_ (fun e_ => (fun e_ => (Kd.R_ne HO_805001.out BK753.out (by decide)) e_) e_) (fun e_ => (fun e_ => (Kd.R_ne HO_805002.out BK753.out (by decide)) e_) e_))); replace BK754 := Aside0.mk (blk_kept (crb BK754) hkp (fun hs_ => Or.elim hs_ (fun e_ => (fun e_ => (Kd.R_ne HO_805001.out BK754.out (by decide)) e_) e_) (fun e_ => (fun e_ => (Kd.R_ne HO_805002.out BK754.out (by decide)) e_) e_))); replace BK779 := Aside0.mk (blk_kept (crb BK779) hkp (fun hs_ => Or.elim hs_ (fun e_ => (fun e_ => (Kd.R_ne HO_805001.out BK779.out (by decide)) e_) e_) (fun e_ => (fun e_ => (Kd.R_ne HO_805002.out BK779.out (by decide)) e_) e_))); replace BK804 := Aside0.mk (blk_kept (crb BK804) hkp (fun hs_ => Or.elim hs_ (fun e_ => (fun e_ => (Kd.R_ne HO_805001.out BK804.out (by decide)) e_) e_) (fun e_ => (fun e_ => (Kd.R_ne HO_805002.out BK804.out (by decide)) e_) e_))); replace HO_805001 := Aside0.mk (Kd.R_reok rfl hy0 (fun k_ e_ => HO_805001.out.1 k_ e_)); replace HO_805002 := Aside0.mk (Kd.R_reok rfl hy1 (fun k_ e_ => HO_805002.out.1 k_ e_)); replace HB := Aside0.mk (hb); (try clear hb); (try clear hkp); (try clear hy0); (try clear hy1); have hcz187_0 := bce BK804 0 (.bool t796); have hcz187_1 := bce BK804 1 (.slice Ao78 t797.length co78); have hcz187_2 := bce BK804 2 (.slice Ao79 t800.length co79); have hfz187_0 := blk_frozen BK804.out 0; have hfz187_1 := blk_frozen BK804.out 1; have hfz187_2 := blk_frozen BK804.out 2) | ((with_reducible refine gate_callee (f := 19) rfl ?_); refine goesL_ (some 88) rfl rfl Try.func19 (by kernel_rfl) rfl #[.agg #[.bool t796, .slice Ao78 t830.length co78, .slice Ao79 t831.length co79], .int .i64 1] rfl (by (try simp only [List.map_toArray, List.map_cons, List.map_nil]); first | done | (rw [show t830.length = t797.length from (Kd.R_reads' HO_805001.out).1.symm, show t831.length = t800.length from (Kd.R_reads' HO_805002.out).1.symm] <;> rfl) | rfl | (simp only [List.length_drop, List.length_take]; rfl)) ?_; (with_reducible refine (laws_heldRat.calls kj114 t796 _ _ t830 _ _ t831 1 t832 _ ?side1 ?side2 ?side3 ?side4 A168.out).mono ?_); (case side1 => exact crC (Kd.R_reads' HO_805001.out).2.2); (case side2 => rw [show t830.length = t797.length from (Kd.R_reads' HO_805001.out).1.symm]; exact (Kd.R_reads' HO_805001.out).2.1); (case side3 => exact crC (Kd.R_reads' HO_805002.out).2.2); (case side4 => rw [show t831.length = t800.length from (Kd.R_reads' HO_805002.out).1.symm]; exact (Kd.R_reads' HO_805002.out).2.1); rintro e w188 ⟨rfl, hb⟩; refine ⟨_, rfl, ?_⟩; replace HO_780001 := rblR HO_780001 hb; replace HO_780002 := rblR HO_780002 hb; replace HO_805001 := rblR HO_805001 hb; replace HO_805002 := rblR HO_805002 hb; replace BK753 := bkb BK753 hb; replace BK754 := bkb BK754 hb; replace BK779 := bkb BK779 hb; replace BK804 := bkb BK804 hb; replace HB := bst HB hb; (try clear hb); (try clear hb2); (try clear hk); (try clear hi)))
             replace HO_780001 := Aside0.mk (Kd.R_drew HO_780001.out)
             replace HO_780002 := Aside0.mk (Kd.R_drew HO_780002.out)
             replace HO_805001 := Aside0.mk (Kd.R_drew HO_805001.out)
             replace HO_805002 := Aside0.mk (Kd.R_drew HO_805002.out)
             replace BK753 := Aside0.mk (blk_drew BK753.out)
             replace BK754 := Aside0.mk (blk_drew BK754.out)
             replace BK779 := Aside0.mk (blk_drew BK779.out)
             replace BK804 := Aside0.mk (blk_drew BK804.out)
             replace HB := Aside0.mk (below_drew1 HB.out)
             refine start_ (n := 11) (S := fun w' => w'.cell? ⟨gb753, 0, none⟩ = some (.bool a0_0) ∧ w'.cell? ⟨gb753, 1, none⟩ = some (.slice A0_1 l0_1.length c0_1) ∧ w'.cell? ⟨gb753, 2, none⟩ = some (.slice A0_2 l0_2.length c0_2) ∧ w'.cell? ⟨gb754, 0, none⟩ = some (.bool a1_0) ∧ w'.cell? ⟨gb754, 1, none⟩ = some (.slice A1_1 l1_1.length c1_1) ∧ w'.cell? ⟨gb754, 2, none⟩ = some (.slice A1_2 l1_2.length c1_2)) (ds := []) #[false, false, false, false, false, false, false, false, false, false, false] (by kernel_rfl) rfl rfl ⟨bce BK753 0 _, bce BK753 1 _, bce BK753 2 _, bce BK754 0 _, bce BK754 1 _, bce BK754 2 _⟩ (fun hHeld => ?_); refine with_tabW laws_FnExactMulRat.tab31 laws_FnExactMulRat.bits31 (fun HT_ HW_ => ?_)
             generalize w188.drew = w189 at HO_780001 HO_780002 HO_805001 HO_805002 BK753 BK754 BK779 BK804 HB hHeld ⊢
             refine take_ (i := 0) (N := some 95) (v := ?_) (a' := ?_) #[true, false, false, false, false, false, false, false, false, false, false] rfl rfl (take_ofW HT_.out HW_.out (by kernel_rfl)) (fun _ _ _ h => h) (Or.inl ⟨by rfl, ?_⟩) hHeld ?_ ?_
             rotate_left
             ·
              rintro w' ⟨s0, s1, s2, s3, s4, s5⟩
              go_simp
              with_reducible rfl
             rotate_left
             ·
              simp only [Act.put, List.setIfInBounds_toArray, List.set_cons_zero, List.set_cons_succ, i64_w, i32_w]
              rfl
             refine take_ (i := 2) (N := some 97) (v := ?_) (a' := ?_) #[true, false, true, false, false, false, false, false, false, false, false] rfl rfl (take_ofW HT_.out HW_.out (by kernel_rfl)) (fun _ _ _ h => h) (Or.inl ⟨by rfl, ?_⟩) hHeld ?_ ?_
             rotate_left
             ·
              rintro w' ⟨s0, s1, s2, s3, s4, s5⟩
              go_simp
              with_reducible rfl
             rotate_left
             ·
              simp only [Act.put, List.setIfInBounds_toArray, List.set_cons_zero, List.set_cons_succ, i64_w, i32_w]
              rfl
             refine join_ (σ := Value × Value × Value × Value × Value × Value × Nat) 2 #[true, true, true, true, true, true, true, true, true, false, false] (fun s_ => [(96, .agg #[.bool t833, s_.1, s_.2.1]), (98, .agg #[.bool t840, s_.2.2.1, s_.2.2.2.1]), (99, .tuple #[.agg #[.bool t847, s_.2.2.2.2.1, s_.2.2.2.2.2.1], .int .i64 t854]), (15, .pointer (some ⟨s_.2.2.2.2.2.2, 0, none⟩)), (94, .tuple #[.agg #[.bool t847, s_.2.2.2.2.1, s_.2.2.2.2.2.1], .int .i64 t854]), (100, .agg #[.bool t847, s_.2.2.2.2.1, s_.2.2.2.2.2.1]), (101, .int .i64 t854)]) (fun s_ w' => (w'.cell? ⟨gb753, 0, none⟩ = some (.bool a0_0) ∧ w'.cell? ⟨gb753, 1, none⟩ = some (.slice A0_1 l0_1.length c0_1) ∧ w'.cell? ⟨gb753, 2, none⟩ = some (.slice A0_2 l0_2.length c0_2) ∧ w'.cell? ⟨gb754, 0, none⟩ = some (.bool a1_0) ∧ w'.cell? ⟨gb754, 1, none⟩ = some (.slice A1_1 l1_1.length c1_1) ∧ w'.cell? ⟨gb754, 2, none⟩ = some (.slice A1_2 l1_2.length c1_2)) ∧ (Kd.R (Kd.int .i64) 3 w' w.heap.size (fun k_ => nO k_ s_.2.1 ∧ nO k_ s_.2.2.1 ∧ nO k_ s_.2.2.2.1 ∧ nO k_ s_.2.2.2.2.1 ∧ nO k_ s_.2.2.2.2.2.1 ∧ nO k_ (.slice Ao44 t772.length co44) ∧ nO k_ (.slice Ao46 t775.length co46) ∧ nO k_ (.slice Ao78 t797.length co78) ∧ nO k_ (.slice Ao79 t800.length co79)) s_.1 t834) ∧ (Kd.R (Kd.int .i64) 3 w' w.heap.size (fun k_ => nO k_ s_.1 ∧ nO k_ s_.2.2.1 ∧ nO k_ s_.2.2.2.1 ∧ nO k_ s_.2.2.2.2.1 ∧ nO k_ s_.2.2.2.2.2.1 ∧ nO k_ (.slice Ao44 t772.length co44) ∧ nO k_ (.slice Ao46 t775.length co46) ∧ nO k_ (.slice Ao78 t797.length co78) ∧ nO k_ (.slice Ao79 t800.length co79)) s_.2.1 t837) ∧ (Kd.R (Kd.int .i64) 3 w' w.heap.size (fun k_ => nO k_ s_.1 ∧ nO k_ s_.2.1 ∧ nO k_ s_.2.2.2.1 ∧ nO k_ s_.2.2.2.2.1 ∧ nO k_ s_.2.2.2.2.2.1 ∧ nO k_ (.slice Ao44 t772.length co44) ∧ nO k_ (.slice Ao46 t775.length co46) ∧ nO k_ (.slice Ao78 t797.length co78) ∧ nO k_ (.slice Ao79 t800.length co79)) s_.2.2.1 t841) ∧ (Kd.R (Kd.int .i64) 3 w' w.heap.size (fun k_ => nO k_ s_.1 ∧ nO k_ s_.2.1 ∧ nO k_ s_.2.2.1 ∧ nO k_ s_.2.2.2.2.1 ∧ nO k_ s_.2.2.2.2.2.1 ∧ nO k_ (.slice Ao44 t772.length co44) ∧ nO k_ (.slice Ao46 t775.length co46) ∧ nO k_ (.slice Ao78 t797.length co78) ∧ nO k_ (.slice Ao79 t800.length co79)) s_.2.2.2.1 t844) ∧ (Kd.R (Kd.int .i64) 3 w' w.heap.size (fun k_ => nO k_ s_.1 ∧ nO k_ s_.2.1 ∧ nO k_ s_.2.2.1 ∧ nO k_ s_.2.2.2.1 ∧ nO k_ s_.2.2.2.2.2.1 ∧ nO k_ (.slice Ao44 t772.length co44) ∧ nO k_ (.slice Ao46 t775.length co46) ∧ nO k_ (.slice Ao78 t797.length co78) ∧ nO k_ (.slice Ao79 t800.length co79)) s_.2.2.2.2.1 t848) ∧ (Kd.R (Kd.int .i64) 3 w' w.heap.size (fun k_ => nO k_ s_.1 ∧ nO k_ s_.2.1 ∧ nO k_ s_.2.2.1 ∧ nO k_ s_.2.2.2.1 ∧ nO k_ s_.2.2.2.2.1 ∧ nO k_ (.slice Ao44 t772.length co44) ∧ nO k_ (.slice Ao46 t775.length co46) ∧ nO k_ (.slice Ao78 t797.length co78) ∧ nO k_ (.slice Ao79 t800.length co79)) s_.2.2.2.2.2.1 t851) ∧ (Kd.R (Kd.int .i64) 3 w' w.heap.size (fun k_ => nO k_ s_.1 ∧ nO k_ s_.2.1 ∧ nO k_ s_.2.2.1 ∧ nO k_ s_.2.2.2.1 ∧ nO k_ s_.2.2.2.2.1 ∧ nO k_ s_.2.2.2.2.2.1 ∧ nO k_ (.slice Ao46 t775.length co46) ∧ nO k_ (.slice Ao78 t797.length co78) ∧ nO k_ (.slice Ao79 t800.length co79)) (.slice Ao44 t772.length co44) t772) ∧ (Kd.R (Kd.int .i64) 3 w' w.heap.size (fun k_ => nO k_ s_.1 ∧ nO k_ s_.2.1 ∧ nO k_ s_.2.2.1 ∧ nO k_ s_.2.2.2.1 ∧ nO k_ s_.2.2.2.2.1 ∧ nO k_ s_.2.2.2.2.2.1 ∧ nO k_ (.slice Ao44 t772.length co44) ∧ nO k_ (.slice Ao78 t797.length co78) ∧ nO k_ (.slice Ao79 t800.length co79)) (.slice Ao46 t775.length co46) t775) ∧ (Kd.R (Kd.int .i64) 3 w' w.heap.size (fun k_ => nO k_ s_.1 ∧ nO k_ s_.2.1 ∧ nO k_ s_.2.2.1 ∧ nO k_ s_.2.2.2.1 ∧ nO k_ s_.2.2.2.2.1 ∧ nO k_ s_.2.2.2.2.2.1 ∧ nO k_ (.slice Ao44 t772.length co44) ∧ nO k_ (.slice Ao46 t775.length co46) ∧ nO k_ (.slice Ao79 t800.length co79)) (.slice Ao78 t797.length co78) t830) ∧ (Kd.R (Kd.int .i64) 3 w' w.heap.size (fun k_ => nO k_ s_.1 ∧ nO k_ s_.2.1 ∧ nO k_ s_.2.2.1 ∧ nO k_ s_.2.2.2.1 ∧ nO k_ s_.2.2.2.2.1 ∧ nO k_ s_.2.2.2.2.2.1 ∧ nO k_ (.slice Ao44 t772.length co44) ∧ nO k_ (.slice Ao46 t775.length co46) ∧ nO k_ (.slice Ao78 t797.length co78)) (.slice Ao79 t800.length co79) t831) ∧ (w'.heap[gb753]? = some (.cells #[.bool a0_0, .slice A0_1 l0_1.length c0_1, .slice A0_2 l0_2.length c0_2] 30 (0, 0))) ∧ (w'.heap[gb754]? = some (.cells #[.bool a1_0, .slice A1_1 l1_1.length c1_1, .slice A1_2 l1_2.length c1_2] 30 (0, 0))) ∧ (w'.heap[gb779]? = some (.cells #[.bool t771, .slice Ao44 t772.length co44, .slice Ao46 t775.length co46] 24 (0, 0))) ∧ (w'.heap[gb804]? = some (.cells #[.bool t796, .slice Ao78 t797.length co78, .slice Ao79 t800.length co79] 24 (0, 0))) ∧ (w'.heap[s_.2.2.2.2.2.2]? = some (.cells #[.bool false, .slice none 0 0, .slice none 0 0] 24 (0, 0))) ∧ (w.heap.size ≤ s_.2.2.2.2.2.2) ∧ (w.heap.size ≤ s_.2.2.2.2.2.2) ∧ (gb753 ≠ s_.2.2.2.2.2.2) ∧ (s_.2.2.2.2.2.2 ≠ gb753) ∧ (gb754 ≠ s_.2.2.2.2.2.2) ∧ (s_.2.2.2.2.2.2 ≠ gb754) ∧ (gb779 ≠ s_.2.2.2.2.2.2) ∧ (s_.2.2.2.2.2.2 ≠ gb779) ∧ (gb804 ≠ s_.2.2.2.2.2.2) ∧ (s_.2.2.2.2.2.2 ≠ gb804) ∧ (Below w.heap.size w w')) ?_ ?_
             rotate_left
             ·
              intro hCont
              refine two_ (i := 1) (j := 8) (Ni := some 96) (Nj := some 15) #[true, true, true, false, false, false, false, false, false, false, false] #[true, false, true, false, false, false, false, false, true, false, false] rfl rfl rfl rfl (two_of HT_.out (by kernel_rfl)) (by decide) (by decide) (fun K hK => ?_) (fun K hK => ?_)
              ·
               skip
               refine goes_ Try.func22 (by kernel_rfl) rfl #[.agg #[.bool a0_0, .slice A0_1 l0_1.length c0_1, .slice A0_2 l0_2.length c0_2]] (by rfl) rfl rfl (by (try simp only [List.map_toArray, List.map_cons, List.map_nil]); first | done | rfl | (simp only [List.length_drop, List.length_take]; rfl)) ?_
               with_reducible refine (laws_toRat.calls kj114 a0_0 _ _ l0_1 _ _ l0_2 t833 t834 t837 _ ?side1 ?side2 ?side3 ?side4 A178.out).mono ?_
               (case side1 => exact crC (Kd.C_below HR0_1.out HB.out))
               (case side2 => exact HC0_1.out)
               (case side3 => exact crC (Kd.C_below HR0_2.out HB.out))
               (case side4 => exact HC0_2.out)
               rintro e w190 ⟨v835, v838, rfl, ho0, ho1, hb⟩
               refine ⟨_, rfl, ?_⟩
               have HO836 := lwR (nwR (nwR (nwR (nwR ho0 HO_780001) HO_780002) HO_805001) HO_805002) HB
               have HO839 := lwR (nwR (nwR (nwR (nwR ho1 HO_780001) HO_780002) HO_805001) HO_805002) HB
               replace HO_780001 := tldR HO_780001 hb (Kd.R_base ho0) (Kd.R_base ho1)
               replace HO_780002 := tldR HO_780002 hb (Kd.R_base ho0) (Kd.R_base ho1)
               replace HO_805001 := tldR HO_805001 hb (Kd.R_base ho0) (Kd.R_base ho1)
               replace HO_805002 := tldR HO_805002 hb (Kd.R_base ho0) (Kd.R_base ho1)
               replace BK753 := bkb BK753 hb
               replace BK754 := bkb BK754 hb
               replace BK779 := bkb BK779 hb
               replace BK804 := bkb BK804 hb
               replace HB := bst HB hb
               (try clear hb)
               (try clear hb2)
               (try clear hk)
               (try clear hi)
               (try clear ho0)
               (try clear ho1)
               refine hK.out _ _ ⟨bce BK753 0 _, bce BK753 1 _, bce BK753 2 _, bce BK754 0 _, bce BK754 1 _, bce BK754 2 _⟩ (fun hHeld => ?_)
               clear hK K
               refine norm_ (a' := ?_) ?_ ?_
               rotate_left
               ·
                show Act.put _ (some 96) _ = _
                simp only [Act.put, List.setIfInBounds_toArray, List.set_cons_zero, List.set_cons_succ, i64_w, i32_w]
                rfl
               refine two_ (i := 3) (j := 8) (Ni := some 98) (Nj := some 15) #[true, true, true, true, false, false, false, false, false, false, false] #[true, true, true, false, false, false, false, false, true, false, false] rfl rfl rfl rfl (two_of HT_.out (by kernel_rfl)) (by decide) (by decide) (fun K hK => ?_) (fun K hK => ?_)
               ·
                skip
                refine goes_ Try.func22 (by kernel_rfl) rfl #[.agg #[.bool a1_0, .slice A1_1 l1_1.length c1_1, .slice A1_2 l1_2.length c1_2]] (by rfl) rfl rfl (by (try simp only [List.map_toArray, List.map_cons, List.map_nil]); first | done | rfl | (simp only [List.length_drop, List.length_take]; rfl)) ?_
                with_reducible refine (laws_toRat.calls kj114 a1_0 _ _ l1_1 _ _ l1_2 t840 t841 t844 _ ?side1 ?side2 ?side3 ?side4 A179.out).mono ?_
                (case side1 => exact crC (Kd.C_below HR1_1.out HB.out))
                (case side2 => exact HC1_1.out)
                (case side3 => exact crC (Kd.C_below HR1_2.out HB.out))
                (case side4 => exact HC1_2.out)
                rintro e w191 ⟨v842, v845, rfl, ho0, ho1, hb⟩
                refine ⟨_, rfl, ?_⟩
                have HO843 := lwR (nwR (nwR (nwR (nwR (nwR (nwR ho0 HO_780001) HO_780002) HO_805001) HO_805002) HO836) HO839) HB
                have HO846 := lwR (nwR (nwR (nwR (nwR (nwR (nwR ho1 HO_780001) HO_780002) HO_805001) HO_805002) HO836) HO839) HB
                replace HO_780001 := tldR HO_780001 hb (Kd.R_base ho0) (Kd.R_base ho1)
                replace HO_780002 := tldR HO_780002 hb (Kd.R_base ho0) (Kd.R_base ho1)
                replace HO_805001 := tldR HO_805001 hb (Kd.R_base ho0) (Kd.R_base ho1)
                replace HO_805002 := tldR HO_805002 hb (Kd.R_base ho0) (Kd.R_base ho1)
                replace HO836 := tldR HO836 hb (Kd.R_base ho0) (Kd.R_base ho1)
                replace HO839 := tldR HO839 hb (Kd.R_base ho0) (Kd.R_base ho1)
                replace BK753 := bkb BK753 hb
                replace BK754 := bkb BK754 hb
                replace BK779 := bkb BK779 hb
                replace BK804 := bkb BK804 hb
                replace HB := bst HB hb
                (try clear hb)
                (try clear hb2)
                (try clear hk)
                (try clear hi)
                (try clear ho0)
                (try clear ho1)
                obtain ⟨Ao192, co192, eo192⟩ := Kd.R_slice HO836.out
                (first | subst eo192 | (injection eo192 with f1_ f2_ f3_; have f4_ := f1_.symm; have f5_ := f3_.symm; clear f1_ f2_ f3_; subst f4_; subst f5_))
                obtain ⟨Ao193, co193, eo193⟩ := Kd.R_slice HO839.out
                (first | subst eo193 | (injection eo193 with f1_ f2_ f3_; have f4_ := f1_.symm; have f5_ := f3_.symm; clear f1_ f2_ f3_; subst f4_; subst f5_))
                obtain ⟨Ao194, co194, eo194⟩ := Kd.R_slice HO843.out
                (first | subst eo194 | (injection eo194 with f1_ f2_ f3_; have f4_ := f1_.symm; have f5_ := f3_.symm; clear f1_ f2_ f3_; subst f4_; subst f5_))
                obtain ⟨Ao195, co195, eo195⟩ := Kd.R_slice HO846.out
                (first | subst eo195 | (injection eo195 with f1_ f2_ f3_; have f4_ := f1_.symm; have f5_ := f3_.symm; clear f1_ f2_ f3_; subst f4_; subst f5_))
                refine hK.out _ _ ⟨bce BK753 0 _, bce BK753 1 _, bce BK753 2 _, bce BK754 0 _, bce BK754 1 _, bce BK754 2 _⟩ (fun hHeld => ?_)
                clear hK K
                refine norm_ (a' := ?_) ?_ ?_
                rotate_left
                ·
                 show Act.put _ (some 98) _ = _
                 simp only [Act.put, List.setIfInBounds_toArray, List.set_cons_zero, List.set_cons_succ, i64_w, i32_w]
                 rfl
                refine two_ (i := 4) (j := 8) (Ni := some 99) (Nj := some 15) #[true, true, true, true, true, false, false, false, false, false, false] #[true, true, true, true, false, false, false, false, true, false, false] rfl rfl rfl rfl (two_of HT_.out (by kernel_rfl)) (by decide) (by decide) (fun K hK => ?_) (fun K hK => ?_)
                ·
                 skip
                 refine goes_ Try.func29 (by kernel_rfl) rfl #[.agg #[.bool t833, .slice Ao192 t834.length co192, .slice Ao193 t837.length co193], .agg #[.bool t840, .slice Ao194 t841.length co194, .slice Ao195 t844.length co195]] (by rfl) rfl rfl (by (try simp only [List.map_toArray, List.map_cons, List.map_nil]); first | done | rfl | (simp only [List.length_drop, List.length_take]; rfl)) ?_
                 with_reducible refine (impl_MulRat.calls kj114 t833 _ _ t834 _ _ t837 t840 _ _ t841 _ _ t844 t847 t848 t851 t854 _ ?side1 ?side2 ?side3 ?side4 ?side5 ?side6 ?side7 ?side8 A180.out).mono ?_
                 (case side1 => exact crC (Kd.R_reads' HO836.out).2.2)
                 (case side2 => exact (Kd.R_reads' HO836.out).2.1)
                 (case side3 => exact crC (Kd.R_reads' HO839.out).2.2)
                 (case side4 => exact (Kd.R_reads' HO839.out).2.1)
                 (case side5 => exact crC (Kd.R_reads' HO843.out).2.2)
                 (case side6 => exact (Kd.R_reads' HO843.out).2.1)
                 (case side7 => exact crC (Kd.R_reads' HO846.out).2.2)
                 (case side8 => exact (Kd.R_reads' HO846.out).2.1)
                 rintro e w196 ⟨v849, v852, rfl, ho0, ho1, hb⟩
                 refine ⟨_, rfl, ?_⟩
                 have HO850 := lwR (nwR (nwR (nwR (nwR (nwR (nwR (nwR (nwR ho0 HO_780001) HO_780002) HO_805001) HO_805002) HO836) HO839) HO843) HO846) HB
                 have HO853 := lwR (nwR (nwR (nwR (nwR (nwR (nwR (nwR (nwR ho1 HO_780001) HO_780002) HO_805001) HO_805002) HO836) HO839) HO843) HO846) HB
                 replace HO_780001 := tldR HO_780001 hb (Kd.R_base ho0) (Kd.R_base ho1)
                 replace HO_780002 := tldR HO_780002 hb (Kd.R_base ho0) (Kd.R_base ho1)
                 replace HO_805001 := tldR HO_805001 hb (Kd.R_base ho0) (Kd.R_base ho1)
                 replace HO_805002 := tldR HO_805002 hb (Kd.R_base ho0) (Kd.R_base ho1)
                 replace HO836 := tldR HO836 hb (Kd.R_base ho0) (Kd.R_base ho1)
                 replace HO839 := tldR HO839 hb (Kd.R_base ho0) (Kd.R_base ho1)
                 replace HO843 := tldR HO843 hb (Kd.R_base ho0) (Kd.R_base ho1)
                 replace HO846 := tldR HO846 hb (Kd.R_base ho0) (Kd.R_base ho1)
                 replace BK753 := bkb BK753 hb
                 replace BK754 := bkb BK754 hb
                 replace BK779 := bkb BK779 hb
                 replace BK804 := bkb BK804 hb
                 replace HB := bst HB hb
                 (try clear hb)
                 (try clear hb2)
                 (try clear hk)
                 (try clear hi)
                 (try clear ho0)
                 (try clear ho1)
                 refine hK.out _ _ ⟨bce BK753 0 _, bce BK753 1 _, bce BK753 2 _, bce BK754 0 _, bce BK754 1 _, bce BK754 2 _⟩ (fun hHeld => ?_)
                 clear hK K
                 refine norm_ (a' := ?_) ?_ ?_
                 rotate_left
                 ·
                  show Act.put _ (some 99) _ = _
                  simp only [Act.put, List.setIfInBounds_toArray, List.set_cons_zero, List.set_cons_succ, i64_w, i32_w]
                  rfl
                 refine pure_ (i := 5) (N := some 94) (v := ?_) (a' := ?_) #[true, true, true, true, true, true, false, false, false, false, false] rfl rfl (any_of HT_.out (by kernel_rfl)) (fun _ _ _ h => h) (Or.inl ⟨by rfl, ?_⟩) ?_ ?_
                 rotate_left
                 ·
                  intro w'
                  go_simp
                  with_reducible rfl
                 rotate_left
                 ·
                  simp only [Act.put, List.setIfInBounds_toArray, List.set_cons_zero, List.set_cons_succ, i64_w, i32_w]
                  rfl
                 refine pure_ (i := 6) (N := some 100) (v := ?_) (a' := ?_) #[true, true, true, true, true, true, true, false, false, false, false] rfl rfl (any_of HT_.out (by kernel_rfl)) (fun _ _ _ h => h) (Or.inl ⟨by rfl, ?_⟩) ?_ ?_
                 rotate_left
                 ·
                  intro w'
                  go_simp
                  with_reducible rfl
                 rotate_left
                 ·
                  simp only [Act.put, List.setIfInBounds_toArray, List.set_cons_zero, List.set_cons_succ, i64_w, i32_w]
                  rfl
                 refine pure_ (i := 7) (N := some 101) (v := ?_) (a' := ?_) #[true, true, true, true, true, true, true, true, false, false, false] rfl rfl (any_of HT_.out (by kernel_rfl)) (fun _ _ _ h => h) (Or.inl ⟨by rfl, ?_⟩) ?_ ?_
                 rotate_left
                 ·
                  intro w'
                  go_simp
                  with_reducible rfl
                 rotate_left
                 ·
                  simp only [Act.put, List.setIfInBounds_toArray, List.set_cons_zero, List.set_cons_succ, i64_w, i32_w]
                  rfl
                 refine one_ (i := 8) (N := some 15) #[true, true, true, true, true, true, true, true, true, false, false] rfl rfl (one_of HT_.out (by kernel_rfl)) (by decide) (fun K hK => ?_)
                 refine box_step ?hg (N := 15) ?hd (cs := #[.bool false, .slice none 0 0, .slice none 0 0]) (t := 24) ?hr ?_; (case hd => rfl); (case hg => rfl); (case hr => first | (go_simp; done) | (go_simp; rfl))
                 intro gb855 hg w197 hbox hb
                 replace HO_780001 := rblR HO_780001 hb
                 replace HO_780002 := rblR HO_780002 hb
                 replace HO_805001 := rblR HO_805001 hb
                 replace HO_805002 := rblR HO_805002 hb
                 replace HO836 := rblR HO836 hb
                 replace HO839 := rblR HO839 hb
                 replace HO843 := rblR HO843 hb
                 replace HO846 := rblR HO846 hb
                 replace HO850 := rblR HO850 hb
                 replace HO853 := rblR HO853 hb
                 have BK855 := Aside0.mk (hbox)
                 have GW855 := geh hg HB
                 have GE855 := geh hg HB
                 replace HB := bst HB hb
                 have NB753_855 := nlt hg BK753
                 have NB855_753 := ngt hg BK753
                 replace BK753 := bkb BK753 hb
                 have NB754_855 := nlt hg BK754
                 have NB855_754 := ngt hg BK754
                 replace BK754 := bkb BK754 hb
                 have NB779_855 := nlt hg BK779
                 have NB855_779 := ngt hg BK779
                 replace BK779 := bkb BK779 hb
                 have NB804_855 := nlt hg BK804
                 have NB855_804 := ngt hg BK804
                 replace BK804 := bkb BK804 hb
                 clear hb hbox hg
                 refine hK.out _ _ ⟨bce BK753 0 _, bce BK753 1 _, bce BK753 2 _, bce BK754 0 _, bce BK754 1 _, bce BK754 2 _⟩ (fun hHeld => ?_)
                 clear hK K
                 refine norm_ (a' := ?_) ?_ ?_
                 rotate_left
                 ·
                  show Act.put _ (some 15) _ = _
                  simp only [Act.put, List.setIfInBounds_toArray, List.set_cons_zero, List.set_cons_succ, i64_w, i32_w]
                  rfl
                 exact norm_ (by simp only [putAll, Act.put, List.setIfInBounds_toArray, List.set_cons_zero, List.set_cons_succ]) (hCont (.slice Ao192 t834.length co192, .slice Ao193 t837.length co193, .slice Ao194 t841.length co194, .slice Ao195 t844.length co195, v849, v852, gb855) _ ⟨hHeld, (crM HO836 fun _ hk => ⟨hk.1.1.1.1.1.1.1.1, hk.1.1.1.2, hk.1.1.2, hk.1.2, hk.2, hk.1.1.1.1.1.1.1.2, hk.1.1.1.1.1.1.2, hk.1.1.1.1.1.2, hk.1.1.1.1.2⟩), (crM HO839 fun _ hk => ⟨hk.1.1.1.1.1.1.1.1, hk.1.1.1.2, hk.1.1.2, hk.1.2, hk.2, hk.1.1.1.1.1.1.1.2, hk.1.1.1.1.1.1.2, hk.1.1.1.1.1.2, hk.1.1.1.1.2⟩), (crM HO843 fun _ hk => ⟨hk.1.1.1.2, hk.1.1.2, hk.1.1.1.1.1.1.1.1, hk.1.2, hk.2, hk.1.1.1.1.1.1.1.2, hk.1.1.1.1.1.1.2, hk.1.1.1.1.1.2, hk.1.1.1.1.2⟩), (crM HO846 fun _ hk => ⟨hk.1.1.1.2, hk.1.1.2, hk.1.1.1.1.1.1.1.1, hk.1.2, hk.2, hk.1.1.1.1.1.1.1.2, hk.1.1.1.1.1.1.2, hk.1.1.1.1.1.2, hk.1.1.1.1.2⟩), (crM HO850 fun _ hk => ⟨hk.1.1.1.2, hk.1.1.2, hk.1.2, hk.2, hk.1.1.1.1.1.1.1.1, hk.1.1.1.1.1.1.1.2, hk.1.1.1.1.1.1.2, hk.1.1.1.1.1.2, hk.1.1.1.1.2⟩), (crM HO853 fun _ hk => ⟨hk.1.1.1.2, hk.1.1.2, hk.1.2, hk.2, hk.1.1.1.1.1.1.1.1, hk.1.1.1.1.1.1.1.2, hk.1.1.1.1.1.1.2, hk.1.1.1.1.1.2, hk.1.1.1.1.2⟩), (crM HO_780001 fun _ hk => ⟨hk.1.1.1.1.1.2, hk.1.1.1.1.2, hk.1.1.1.2, hk.1.1.2, hk.1.2, hk.2, hk.1.1.1.1.1.1.1, hk.1.1.1.1.1.1.2.1, hk.1.1.1.1.1.1.2.2⟩), (crM HO_780002 fun _ hk => ⟨hk.1.1.1.1.1.2, hk.1.1.1.1.2, hk.1.1.1.2, hk.1.1.2, hk.1.2, hk.2, hk.1.1.1.1.1.1.1, hk.1.1.1.1.1.1.2.1, hk.1.1.1.1.1.1.2.2⟩), (crM HO_805001 fun _ hk => ⟨hk.1.1.1.1.1.2, hk.1.1.1.1.2, hk.1.1.1.2, hk.1.1.2, hk.1.2, hk.2, hk.1.1.1.1.1.1.1, hk.1.1.1.1.1.1.2.1, hk.1.1.1.1.1.1.2.2⟩), (crM HO_805002 fun _ hk => ⟨hk.1.1.1.1.1.2, hk.1.1.1.1.2, hk.1.1.1.2, hk.1.1.2, hk.1.2, hk.2, hk.1.1.1.1.1.1.1, hk.1.1.1.1.1.1.2.1, hk.1.1.1.1.1.1.2.2⟩), (crb BK753), (crb BK754), (crb BK779), (crb BK804), (crb BK855), GW855.out, GE855.out, NB753_855.out, NB855_753.out, NB754_855.out, NB855_754.out, NB779_855.out, NB855_779.out, NB804_855.out, NB855_804.out, (blw HB)⟩)
                ·
                 skip
                 refine box_step ?hg (N := 15) ?hd (cs := #[.bool false, .slice none 0 0, .slice none 0 0]) (t := 24) ?hr ?_; (case hd => rfl); (case hg => rfl); (case hr => first | (go_simp; done) | (go_simp; rfl))
                 intro gb855 hg w192 hbox hb
                 replace HO_780001 := rblR HO_780001 hb
                 replace HO_780002 := rblR HO_780002 hb
                 replace HO_805001 := rblR HO_805001 hb
                 replace HO_805002 := rblR HO_805002 hb
                 replace HO836 := rblR HO836 hb
                 replace HO839 := rblR HO839 hb
                 replace HO843 := rblR HO843 hb
                 replace HO846 := rblR HO846 hb
                 have BK855 := Aside0.mk (hbox)
                 have GW855 := geh hg HB
                 have GE855 := geh hg HB
                 replace HB := bst HB hb
                 have NB753_855 := nlt hg BK753
                 have NB855_753 := ngt hg BK753
                 replace BK753 := bkb BK753 hb
                 have NB754_855 := nlt hg BK754
                 have NB855_754 := ngt hg BK754
                 replace BK754 := bkb BK754 hb
                 have NB779_855 := nlt hg BK779
                 have NB855_779 := ngt hg BK779
                 replace BK779 := bkb BK779 hb
                 have NB804_855 := nlt hg BK804
                 have NB855_804 := ngt hg BK804
                 replace BK804 := bkb BK804 hb
                 clear hb hbox hg
                 obtain ⟨Ao193, co193, eo193⟩ := Kd.R_slice HO836.out
                 (first | subst eo193 | (injection eo193 with f1_ f2_ f3_; have f4_ := f1_.symm; have f5_ := f3_.symm; clear f1_ f2_ f3_; subst f4_; subst f5_))
                 obtain ⟨Ao194, co194, eo194⟩ := Kd.R_slice HO839.out
                 (first | subst eo194 | (injection eo194 with f1_ f2_ f3_; have f4_ := f1_.symm; have f5_ := f3_.symm; clear f1_ f2_ f3_; subst f4_; subst f5_))
                 obtain ⟨Ao195, co195, eo195⟩ := Kd.R_slice HO843.out
                 (first | subst eo195 | (injection eo195 with f1_ f2_ f3_; have f4_ := f1_.symm; have f5_ := f3_.symm; clear f1_ f2_ f3_; subst f4_; subst f5_))
                 obtain ⟨Ao196, co196, eo196⟩ := Kd.R_slice HO846.out
                 (first | subst eo196 | (injection eo196 with f1_ f2_ f3_; have f4_ := f1_.symm; have f5_ := f3_.symm; clear f1_ f2_ f3_; subst f4_; subst f5_))
                 refine hK.out _ _ ⟨bce BK753 0 _, bce BK753 1 _, bce BK753 2 _, bce BK754 0 _, bce BK754 1 _, bce BK754 2 _⟩ (fun hHeld => ?_)
                 clear hK K
                 refine norm_ (a' := ?_) ?_ ?_
                 rotate_left
                 ·
                  show Act.put _ (some 15) _ = _
                  simp only [Act.put, List.setIfInBounds_toArray, List.set_cons_zero, List.set_cons_succ, i64_w, i32_w]
                  rfl
                 refine one_ (i := 4) (N := some 99) #[true, true, true, true, true, false, false, false, true, false, false] rfl rfl (one_of HT_.out (by kernel_rfl)) (by decide) (fun K hK => ?_)
                 refine goes_ Try.func29 (by kernel_rfl) rfl #[.agg #[.bool t833, .slice Ao193 t834.length co193, .slice Ao194 t837.length co194], .agg #[.bool t840, .slice Ao195 t841.length co195, .slice Ao196 t844.length co196]] (by rfl) rfl rfl (by (try simp only [List.map_toArray, List.map_cons, List.map_nil]); first | done | rfl | (simp only [List.length_drop, List.length_take]; rfl)) ?_
                 with_reducible refine (impl_MulRat.calls kj114 t833 _ _ t834 _ _ t837 t840 _ _ t841 _ _ t844 t847 t848 t851 t854 _ ?side1 ?side2 ?side3 ?side4 ?side5 ?side6 ?side7 ?side8 A180.out).mono ?_
                 (case side1 => exact crC (Kd.R_reads' HO836.out).2.2)
                 (case side2 => exact (Kd.R_reads' HO836.out).2.1)
                 (case side3 => exact crC (Kd.R_reads' HO839.out).2.2)
                 (case side4 => exact (Kd.R_reads' HO839.out).2.1)
                 (case side5 => exact crC (Kd.R_reads' HO843.out).2.2)
                 (case side6 => exact (Kd.R_reads' HO843.out).2.1)
                 (case side7 => exact crC (Kd.R_reads' HO846.out).2.2)
                 (case side8 => exact (Kd.R_reads' HO846.out).2.1)
                 rintro e w197 ⟨v849, v852, rfl, ho0, ho1, hb⟩
                 refine ⟨_, rfl, ?_⟩
                 have HO850 := lwR (nwR (nwR (nwR (nwR (nwR (nwR (nwR (nwR ho0 HO_780001) HO_780002) HO_805001) HO_805002) HO836) HO839) HO843) HO846) HB
                 have HO853 := lwR (nwR (nwR (nwR (nwR (nwR (nwR (nwR (nwR ho1 HO_780001) HO_780002) HO_805001) HO_805002) HO836) HO839) HO843) HO846) HB
                 replace HO_780001 := tldR HO_780001 hb (Kd.R_base ho0) (Kd.R_base ho1)
                 replace HO_780002 := tldR HO_780002 hb (Kd.R_base ho0) (Kd.R_base ho1)
                 replace HO_805001 := tldR HO_805001 hb (Kd.R_base ho0) (Kd.R_base ho1)
                 replace HO_805002 := tldR HO_805002 hb (Kd.R_base ho0) (Kd.R_base ho1)
                 replace HO836 := tldR HO836 hb (Kd.R_base ho0) (Kd.R_base ho1)
                 replace HO839 := tldR HO839 hb (Kd.R_base ho0) (Kd.R_base ho1)
                 replace HO843 := tldR HO843 hb (Kd.R_base ho0) (Kd.R_base ho1)
                 replace HO846 := tldR HO846 hb (Kd.R_base ho0) (Kd.R_base ho1)
                 replace BK753 := bkb BK753 hb
                 replace BK754 := bkb BK754 hb
                 replace BK779 := bkb BK779 hb
                 replace BK804 := bkb BK804 hb
                 replace BK855 := bkb BK855 hb
                 replace HB := bst HB hb
                 (try clear hb)
                 (try clear hb2)
                 (try clear hk)
                 (try clear hi)
                 (try clear ho0)
                 (try clear ho1)
                 refine hK.out _ _ ⟨bce BK753 0 _, bce BK753 1 _, bce BK753 2 _, bce BK754 0 _, bce BK754 1 _, bce BK754 2 _⟩ (fun hHeld => ?_)
                 clear hK K
                 refine norm_ (a' := ?_) ?_ ?_
                 rotate_left
                 ·
                  show Act.put _ (some 99) _ = _
                  simp only [Act.put, List.setIfInBounds_toArray, List.set_cons_zero, List.set_cons_succ, i64_w, i32_w]
                  rfl
                 refine pure_ (i := 5) (N := some 94) (v := ?_) (a' := ?_) #[true, true, true, true, true, true, false, false, true, false, false] rfl rfl (any_of HT_.out (by kernel_rfl)) (fun _ _ _ h => h) (Or.inl ⟨by rfl, ?_⟩) ?_ ?_
                 rotate_left
                 ·
                  intro w'
                  go_simp
                  with_reducible rfl
                 rotate_left
                 ·
                  simp only [Act.put, List.setIfInBounds_toArray, List.set_cons_zero, List.set_cons_succ, i64_w, i32_w]
                  rfl
                 refine pure_ (i := 6) (N := some 100) (v := ?_) (a' := ?_) #[true, true, true, true, true, true, true, false, true, false, false] rfl rfl (any_of HT_.out (by kernel_rfl)) (fun _ _ _ h => h) (Or.inl ⟨by rfl, ?_⟩) ?_ ?_
                 rotate_left
                 ·
                  intro w'
                  go_simp
                  with_reducible rfl
                 rotate_left
                 ·
                  simp only [Act.put, List.setIfInBounds_toArray, List.set_cons_zero, List.set_cons_succ, i64_w, i32_w]
                  rfl
                 refine pure_ (i := 7) (N := some 101) (v := ?_) (a' := ?_) #[true, true, true, true, true, true, true, true, true, false, false] rfl rfl (any_of HT_.out (by kernel_rfl)) (fun _ _ _ h => h) (Or.inl ⟨by rfl, ?_⟩) ?_ ?_
                 rotate_left
                 ·
                  intro w'
                  go_simp
                  with_reducible rfl
                 rotate_left
                 ·
                  simp only [Act.put, List.setIfInBounds_toArray, List.set_cons_zero, List.set_cons_succ, i64_w, i32_w]
                  rfl
                 exact norm_ (by simp only [putAll, Act.put, List.setIfInBounds_toArray, List.set_cons_zero, List.set_cons_succ]) (hCont (.slice Ao193 t834.length co193, .slice Ao194 t837.length co194, .slice Ao195 t841.length co195, .slice Ao196 t844.length co196, v849, v852, gb855) _ ⟨hHeld, (crM HO836 fun _ hk => ⟨hk.1.1.1.1.1.1.1.1, hk.1.1.1.2, hk.1.1.2, hk.1.2, hk.2, hk.1.1.1.1.1.1.1.2, hk.1.1.1.1.1.1.2, hk.1.1.1.1.1.2, hk.1.1.1.1.2⟩), (crM HO839 fun _ hk => ⟨hk.1.1.1.1.1.1.1.1, hk.1.1.1.2, hk.1.1.2, hk.1.2, hk.2, hk.1.1.1.1.1.1.1.2, hk.1.1.1.1.1.1.2, hk.1.1.1.1.1.2, hk.1.1.1.1.2⟩), (crM HO843 fun _ hk => ⟨hk.1.1.1.2, hk.1.1.2, hk.1.1.1.1.1.1.1.1, hk.1.2, hk.2, hk.1.1.1.1.1.1.1.2, hk.1.1.1.1.1.1.2, hk.1.1.1.1.1.2, hk.1.1.1.1.2⟩), (crM HO846 fun _ hk => ⟨hk.1.1.1.2, hk.1.1.2, hk.1.1.1.1.1.1.1.1, hk.1.2, hk.2, hk.1.1.1.1.1.1.1.2, hk.1.1.1.1.1.1.2, hk.1.1.1.1.1.2, hk.1.1.1.1.2⟩), (crM HO850 fun _ hk => ⟨hk.1.1.1.2, hk.1.1.2, hk.1.2, hk.2, hk.1.1.1.1.1.1.1.1, hk.1.1.1.1.1.1.1.2, hk.1.1.1.1.1.1.2, hk.1.1.1.1.1.2, hk.1.1.1.1.2⟩), (crM HO853 fun _ hk => ⟨hk.1.1.1.2, hk.1.1.2, hk.1.2, hk.2, hk.1.1.1.1.1.1.1.1, hk.1.1.1.1.1.1.1.2, hk.1.1.1.1.1.1.2, hk.1.1.1.1.1.2, hk.1.1.1.1.2⟩), (crM HO_780001 fun _ hk => ⟨hk.1.1.1.1.1.2, hk.1.1.1.1.2, hk.1.1.1.2, hk.1.1.2, hk.1.2, hk.2, hk.1.1.1.1.1.1.1, hk.1.1.1.1.1.1.2.1, hk.1.1.1.1.1.1.2.2⟩), (crM HO_780002 fun _ hk => ⟨hk.1.1.1.1.1.2, hk.1.1.1.1.2, hk.1.1.1.2, hk.1.1.2, hk.1.2, hk.2, hk.1.1.1.1.1.1.1, hk.1.1.1.1.1.1.2.1, hk.1.1.1.1.1.1.2.2⟩), (crM HO_805001 fun _ hk => ⟨hk.1.1.1.1.1.2, hk.1.1.1.1.2, hk.1.1.1.2, hk.1.1.2, hk.1.2, hk.2, hk.1.1.1.1.1.1.1, hk.1.1.1.1.1.1.2.1, hk.1.1.1.1.1.1.2.2⟩), (crM HO_805002 fun _ hk => ⟨hk.1.1.1.1.1.2, hk.1.1.1.1.2, hk.1.1.1.2, hk.1.1.2, hk.1.2, hk.2, hk.1.1.1.1.1.1.1, hk.1.1.1.1.1.1.2.1, hk.1.1.1.1.1.1.2.2⟩), (crb BK753), (crb BK754), (crb BK779), (crb BK804), (crb BK855), GW855.out, GE855.out, NB753_855.out, NB855_753.out, NB754_855.out, NB855_754.out, NB779_855.out, NB855_779.out, NB804_855.out, NB855_804.out, (blw HB)⟩)
               ·
                skip
                refine box_step ?hg (N := 15) ?hd (cs := #[.bool false, .slice none 0 0, .slice none 0 0]) (t := 24) ?hr ?_; (case hd => rfl); (case hg => rfl); (case hr => first | (go_simp; done) | (go_simp; rfl))
                intro gb855 hg w191 hbox hb
                replace HO_780001 := rblR HO_780001 hb
                replace HO_780002 := rblR HO_780002 hb
                replace HO_805001 := rblR HO_805001 hb
                replace HO_805002 := rblR HO_805002 hb
                replace HO836 := rblR HO836 hb
                replace HO839 := rblR HO839 hb
                have BK855 := Aside0.mk (hbox)
                have GW855 := geh hg HB
                have GE855 := geh hg HB
                replace HB := bst HB hb
                have NB753_855 := nlt hg BK753
                have NB855_753 := ngt hg BK753
                replace BK753 := bkb BK753 hb
                have NB754_855 := nlt hg BK754
                have NB855_754 := ngt hg BK754
                replace BK754 := bkb BK754 hb
                have NB779_855 := nlt hg BK779
                have NB855_779 := ngt hg BK779
                replace BK779 := bkb BK779 hb
                have NB804_855 := nlt hg BK804
                have NB855_804 := ngt hg BK804
                replace BK804 := bkb BK804 hb
                clear hb hbox hg
                refine hK.out _ _ ⟨bce BK753 0 _, bce BK753 1 _, bce BK753 2 _, bce BK754 0 _, bce BK754 1 _, bce BK754 2 _⟩ (fun hHeld => ?_)
                clear hK K
                refine norm_ (a' := ?_) ?_ ?_
                rotate_left
                ·
                 show Act.put _ (some 15) _ = _
                 simp only [Act.put, List.setIfInBounds_toArray, List.set_cons_zero, List.set_cons_succ, i64_w, i32_w]
                 rfl
                refine one_ (i := 3) (N := some 98) #[true, true, true, true, false, false, false, false, true, false, false] rfl rfl (one_of HT_.out (by kernel_rfl)) (by decide) (fun K hK => ?_)
                refine goes_ Try.func22 (by kernel_rfl) rfl #[.agg #[.bool a1_0, .slice A1_1 l1_1.length c1_1, .slice A1_2 l1_2.length c1_2]] (by rfl) rfl rfl (by (try simp only [List.map_toArray, List.map_cons, List.map_nil]); first | done | rfl | (simp only [List.length_drop, List.length_take]; rfl)) ?_
                with_reducible refine (laws_toRat.calls kj114 a1_0 _ _ l1_1 _ _ l1_2 t840 t841 t844 _ ?side1 ?side2 ?side3 ?side4 A179.out).mono ?_
                (case side1 => exact crC (Kd.C_below HR1_1.out HB.out))
                (case side2 => exact HC1_1.out)
                (case side3 => exact crC (Kd.C_below HR1_2.out HB.out))
                (case side4 => exact HC1_2.out)
                rintro e w192 ⟨v842, v845, rfl, ho0, ho1, hb⟩
                refine ⟨_, rfl, ?_⟩
                have HO843 := lwR (nwR (nwR (nwR (nwR (nwR (nwR ho0 HO_780001) HO_780002) HO_805001) HO_805002) HO836) HO839) HB
                have HO846 := lwR (nwR (nwR (nwR (nwR (nwR (nwR ho1 HO_780001) HO_780002) HO_805001) HO_805002) HO836) HO839) HB
                replace HO_780001 := tldR HO_780001 hb (Kd.R_base ho0) (Kd.R_base ho1)
                replace HO_780002 := tldR HO_780002 hb (Kd.R_base ho0) (Kd.R_base ho1)
                replace HO_805001 := tldR HO_805001 hb (Kd.R_base ho0) (Kd.R_base ho1)
                replace HO_805002 := tldR HO_805002 hb (Kd.R_base ho0) (Kd.R_base ho1)
                replace HO836 := tldR HO836 hb (Kd.R_base ho0) (Kd.R_base ho1)
                replace HO839 := tldR HO839 hb (Kd.R_base ho0) (Kd.R_base ho1)
                replace BK753 := bkb BK753 hb
                replace BK754 := bkb BK754 hb
                replace BK779 := bkb BK779 hb
                replace BK804 := bkb BK804 hb
                replace BK855 := bkb BK855 hb
                replace HB := bst HB hb
                (try clear hb)
                (try clear hb2)
                (try clear hk)
                (try clear hi)
                (try clear ho0)
                (try clear ho1)
                obtain ⟨Ao193, co193, eo193⟩ := Kd.R_slice HO836.out
                (first | subst eo193 | (injection eo193 with f1_ f2_ f3_; have f4_ := f1_.symm; have f5_ := f3_.symm; clear f1_ f2_ f3_; subst f4_; subst f5_))
                obtain ⟨Ao194, co194, eo194⟩ := Kd.R_slice HO839.out
                (first | subst eo194 | (injection eo194 with f1_ f2_ f3_; have f4_ := f1_.symm; have f5_ := f3_.symm; clear f1_ f2_ f3_; subst f4_; subst f5_))
                obtain ⟨Ao195, co195, eo195⟩ := Kd.R_slice HO843.out
                (first | subst eo195 | (injection eo195 with f1_ f2_ f3_; have f4_ := f1_.symm; have f5_ := f3_.symm; clear f1_ f2_ f3_; subst f4_; subst f5_))
                obtain ⟨Ao196, co196, eo196⟩ := Kd.R_slice HO846.out
                (first | subst eo196 | (injection eo196 with f1_ f2_ f3_; have f4_ := f1_.symm; have f5_ := f3_.symm; clear f1_ f2_ f3_; subst f4_; subst f5_))
                refine hK.out _ _ ⟨bce BK753 0 _, bce BK753 1 _, bce BK753 2 _, bce BK754 0 _, bce BK754 1 _, bce BK754 2 _⟩ (fun hHeld => ?_)
                clear hK K
                refine norm_ (a' := ?_) ?_ ?_
                rotate_left
                ·
                 show Act.put _ (some 98) _ = _
                 simp only [Act.put, List.setIfInBounds_toArray, List.set_cons_zero, List.set_cons_succ, i64_w, i32_w]
                 rfl
                refine one_ (i := 4) (N := some 99) #[true, true, true, true, true, false, false, false, true, false, false] rfl rfl (one_of HT_.out (by kernel_rfl)) (by decide) (fun K hK => ?_)
                refine goes_ Try.func29 (by kernel_rfl) rfl #[.agg #[.bool t833, .slice Ao193 t834.length co193, .slice Ao194 t837.length co194], .agg #[.bool t840, .slice Ao195 t841.length co195, .slice Ao196 t844.length co196]] (by rfl) rfl rfl (by (try simp only [List.map_toArray, List.map_cons, List.map_nil]); first | done | rfl | (simp only [List.length_drop, List.length_take]; rfl)) ?_
                with_reducible refine (impl_MulRat.calls kj114 t833 _ _ t834 _ _ t837 t840 _ _ t841 _ _ t844 t847 t848 t851 t854 _ ?side1 ?side2 ?side3 ?side4 ?side5 ?side6 ?side7 ?side8 A180.out).mono ?_
                (case side1 => exact crC (Kd.R_reads' HO836.out).2.2)
                (case side2 => exact (Kd.R_reads' HO836.out).2.1)
                (case side3 => exact crC (Kd.R_reads' HO839.out).2.2)
                (case side4 => exact (Kd.R_reads' HO839.out).2.1)
                (case side5 => exact crC (Kd.R_reads' HO843.out).2.2)
                (case side6 => exact (Kd.R_reads' HO843.out).2.1)
                (case side7 => exact crC (Kd.R_reads' HO846.out).2.2)
                (case side8 => exact (Kd.R_reads' HO846.out).2.1)
                rintro e w197 ⟨v849, v852, rfl, ho0, ho1, hb⟩
                refine ⟨_, rfl, ?_⟩
                have HO850 := lwR (nwR (nwR (nwR (nwR (nwR (nwR (nwR (nwR ho0 HO_780001) HO_780002) HO_805001) HO_805002) HO836) HO839) HO843) HO846) HB
                have HO853 := lwR (nwR (nwR (nwR (nwR (nwR (nwR (nwR (nwR ho1 HO_780001) HO_780002) HO_805001) HO_805002) HO836) HO839) HO843) HO846) HB
                replace HO_780001 := tldR HO_780001 hb (Kd.R_base ho0) (Kd.R_base ho1)
                replace HO_780002 := tldR HO_780002 hb (Kd.R_base ho0) (Kd.R_base ho1)
                replace HO_805001 := tldR HO_805001 hb (Kd.R_base ho0) (Kd.R_base ho1)
                replace HO_805002 := tldR HO_805002 hb (Kd.R_base ho0) (Kd.R_base ho1)
                replace HO836 := tldR HO836 hb (Kd.R_base ho0) (Kd.R_base ho1)
                replace HO839 := tldR HO839 hb (Kd.R_base ho0) (Kd.R_base ho1)
                replace HO843 := tldR HO843 hb (Kd.R_base ho0) (Kd.R_base ho1)
                replace HO846 := tldR HO846 hb (Kd.R_base ho0) (Kd.R_base ho1)
                replace BK753 := bkb BK753 hb
                replace BK754 := bkb BK754 hb
                replace BK779 := bkb BK779 hb
                replace BK804 := bkb BK804 hb
                replace BK855 := bkb BK855 hb
                replace HB := bst HB hb
                (try clear hb)
                (try clear hb2)
                (try clear hk)
                (try clear hi)
                (try clear ho0)
                (try clear ho1)
                refine hK.out _ _ ⟨bce BK753 0 _, bce BK753 1 _, bce BK753 2 _, bce BK754 0 _, bce BK754 1 _, bce BK754 2 _⟩ (fun hHeld => ?_)
                clear hK K
                refine norm_ (a' := ?_) ?_ ?_
                rotate_left
                ·
                 show Act.put _ (some 99) _ = _
                 simp only [Act.put, List.setIfInBounds_toArray, List.set_cons_zero, List.set_cons_succ, i64_w, i32_w]
                 rfl
                refine pure_ (i := 5) (N := some 94) (v := ?_) (a' := ?_) #[true, true, true, true, true, true, false, false, true, false, false] rfl rfl (any_of HT_.out (by kernel_rfl)) (fun _ _ _ h => h) (Or.inl ⟨by rfl, ?_⟩) ?_ ?_
                rotate_left
                ·
                 intro w'
                 go_simp
                 with_reducible rfl
                rotate_left
                ·
                 simp only [Act.put, List.setIfInBounds_toArray, List.set_cons_zero, List.set_cons_succ, i64_w, i32_w]
                 rfl
                refine pure_ (i := 6) (N := some 100) (v := ?_) (a' := ?_) #[true, true, true, true, true, true, true, false, true, false, false] rfl rfl (any_of HT_.out (by kernel_rfl)) (fun _ _ _ h => h) (Or.inl ⟨by rfl, ?_⟩) ?_ ?_
                rotate_left
                ·
                 intro w'
                 go_simp
                 with_reducible rfl
                rotate_left
                ·
                 simp only [Act.put, List.setIfInBounds_toArray, List.set_cons_zero, List.set_cons_succ, i64_w, i32_w]
                 rfl
                refine pure_ (i := 7) (N := some 101) (v := ?_) (a' := ?_) #[true, true, true, true, true, true, true, true, true, false, false] rfl rfl (any_of HT_.out (by kernel_rfl)) (fun _ _ _ h => h) (Or.inl ⟨by rfl, ?_⟩) ?_ ?_
                rotate_left
                ·
                 intro w'
                 go_simp
                 with_reducible rfl
                rotate_left
                ·
                 simp only [Act.put, List.setIfInBounds_toArray, List.set_cons_zero, List.set_cons_succ, i64_w, i32_w]
                 rfl
                exact norm_ (by simp only [putAll, Act.put, List.setIfInBounds_toArray, List.set_cons_zero, List.set_cons_succ]) (hCont (.slice Ao193 t834.length co193, .slice Ao194 t837.length co194, .slice Ao195 t841.length co195, .slice Ao196 t844.length co196, v849, v852, gb855) _ ⟨hHeld, (crM HO836 fun _ hk => ⟨hk.1.1.1.1.1.1.1.1, hk.1.1.1.2, hk.1.1.2, hk.1.2, hk.2, hk.1.1.1.1.1.1.1.2, hk.1.1.1.1.1.1.2, hk.1.1.1.1.1.2, hk.1.1.1.1.2⟩), (crM HO839 fun _ hk => ⟨hk.1.1.1.1.1.1.1.1, hk.1.1.1.2, hk.1.1.2, hk.1.2, hk.2, hk.1.1.1.1.1.1.1.2, hk.1.1.1.1.1.1.2, hk.1.1.1.1.1.2, hk.1.1.1.1.2⟩), (crM HO843 fun _ hk => ⟨hk.1.1.1.2, hk.1.1.2, hk.1.1.1.1.1.1.1.1, hk.1.2, hk.2, hk.1.1.1.1.1.1.1.2, hk.1.1.1.1.1.1.2, hk.1.1.1.1.1.2, hk.1.1.1.1.2⟩), (crM HO846 fun _ hk => ⟨hk.1.1.1.2, hk.1.1.2, hk.1.1.1.1.1.1.1.1, hk.1.2, hk.2, hk.1.1.1.1.1.1.1.2, hk.1.1.1.1.1.1.2, hk.1.1.1.1.1.2, hk.1.1.1.1.2⟩), (crM HO850 fun _ hk => ⟨hk.1.1.1.2, hk.1.1.2, hk.1.2, hk.2, hk.1.1.1.1.1.1.1.1, hk.1.1.1.1.1.1.1.2, hk.1.1.1.1.1.1.2, hk.1.1.1.1.1.2, hk.1.1.1.1.2⟩), (crM HO853 fun _ hk => ⟨hk.1.1.1.2, hk.1.1.2, hk.1.2, hk.2, hk.1.1.1.1.1.1.1.1, hk.1.1.1.1.1.1.1.2, hk.1.1.1.1.1.1.2, hk.1.1.1.1.1.2, hk.1.1.1.1.2⟩), (crM HO_780001 fun _ hk => ⟨hk.1.1.1.1.1.2, hk.1.1.1.1.2, hk.1.1.1.2, hk.1.1.2, hk.1.2, hk.2, hk.1.1.1.1.1.1.1, hk.1.1.1.1.1.1.2.1, hk.1.1.1.1.1.1.2.2⟩), (crM HO_780002 fun _ hk => ⟨hk.1.1.1.1.1.2, hk.1.1.1.1.2, hk.1.1.1.2, hk.1.1.2, hk.1.2, hk.2, hk.1.1.1.1.1.1.1, hk.1.1.1.1.1.1.2.1, hk.1.1.1.1.1.1.2.2⟩), (crM HO_805001 fun _ hk => ⟨hk.1.1.1.1.1.2, hk.1.1.1.1.2, hk.1.1.1.2, hk.1.1.2, hk.1.2, hk.2, hk.1.1.1.1.1.1.1, hk.1.1.1.1.1.1.2.1, hk.1.1.1.1.1.1.2.2⟩), (crM HO_805002 fun _ hk => ⟨hk.1.1.1.1.1.2, hk.1.1.1.1.2, hk.1.1.1.2, hk.1.1.2, hk.1.2, hk.2, hk.1.1.1.1.1.1.1, hk.1.1.1.1.1.1.2.1, hk.1.1.1.1.1.1.2.2⟩), (crb BK753), (crb BK754), (crb BK779), (crb BK804), (crb BK855), GW855.out, GE855.out, NB753_855.out, NB855_753.out, NB754_855.out, NB855_754.out, NB779_855.out, NB855_779.out, NB804_855.out, NB855_804.out, (blw HB)⟩)
              ·
               skip
               refine box_step ?hg (N := 15) ?hd (cs := #[.bool false, .slice none 0 0, .slice none 0 0]) (t := 24) ?hr ?_; (case hd => rfl); (case hg => rfl); (case hr => first | (go_simp; done) | (go_simp; rfl))
               intro gb855 hg w190 hbox hb
               replace HO_780001 := rblR HO_780001 hb
               replace HO_780002 := rblR HO_780002 hb
               replace HO_805001 := rblR HO_805001 hb
               replace HO_805002 := rblR HO_805002 hb
               have BK855 := Aside0.mk (hbox)
               have GW855 := geh hg HB
               have GE855 := geh hg HB
               replace HB := bst HB hb
               have NB753_855 := nlt hg BK753
               have NB855_753 := ngt hg BK753
               replace BK753 := bkb BK753 hb
               have NB754_855 := nlt hg BK754
               have NB855_754 := ngt hg BK754
               replace BK754 := bkb BK754 hb
               have NB779_855 := nlt hg BK779
               have NB855_779 := ngt hg BK779
               replace BK779 := bkb BK779 hb
               have NB804_855 := nlt hg BK804
               have NB855_804 := ngt hg BK804
               replace BK804 := bkb BK804 hb
               clear hb hbox hg
               refine hK.out _ _ ⟨bce BK753 0 _, bce BK753 1 _, bce BK753 2 _, bce BK754 0 _, bce BK754 1 _, bce BK754 2 _⟩ (fun hHeld => ?_)
               clear hK K
               refine norm_ (a' := ?_) ?_ ?_
               rotate_left
               ·
                show Act.put _ (some 15) _ = _
                simp only [Act.put, List.setIfInBounds_toArray, List.set_cons_zero, List.set_cons_succ, i64_w, i32_w]
                rfl
               refine one_ (i := 1) (N := some 96) #[true, true, true, false, false, false, false, false, true, false, false] rfl rfl (one_of HT_.out (by kernel_rfl)) (by decide) (fun K hK => ?_)
               refine goes_ Try.func22 (by kernel_rfl) rfl #[.agg #[.bool a0_0, .slice A0_1 l0_1.length c0_1, .slice A0_2 l0_2.length c0_2]] (by rfl) rfl rfl (by (try simp only [List.map_toArray, List.map_cons, List.map_nil]); first | done | rfl | (simp only [List.length_drop, List.length_take]; rfl)) ?_
               with_reducible refine (laws_toRat.calls kj114 a0_0 _ _ l0_1 _ _ l0_2 t833 t834 t837 _ ?side1 ?side2 ?side3 ?side4 A178.out).mono ?_
               (case side1 => exact crC (Kd.C_below HR0_1.out HB.out))
               (case side2 => exact HC0_1.out)
               (case side3 => exact crC (Kd.C_below HR0_2.out HB.out))
               (case side4 => exact HC0_2.out)
               rintro e w191 ⟨v835, v838, rfl, ho0, ho1, hb⟩
               refine ⟨_, rfl, ?_⟩
               have HO836 := lwR (nwR (nwR (nwR (nwR ho0 HO_780001) HO_780002) HO_805001) HO_805002) HB
               have HO839 := lwR (nwR (nwR (nwR (nwR ho1 HO_780001) HO_780002) HO_805001) HO_805002) HB
               replace HO_780001 := tldR HO_780001 hb (Kd.R_base ho0) (Kd.R_base ho1)
               replace HO_780002 := tldR HO_780002 hb (Kd.R_base ho0) (Kd.R_base ho1)
               replace HO_805001 := tldR HO_805001 hb (Kd.R_base ho0) (Kd.R_base ho1)
               replace HO_805002 := tldR HO_805002 hb (Kd.R_base ho0) (Kd.R_base ho1)
               replace BK753 := bkb BK753 hb
               replace BK754 := bkb BK754 hb
               replace BK779 := bkb BK779 hb
               replace BK804 := bkb BK804 hb
               replace BK855 := bkb BK855 hb
               replace HB := bst HB hb
               (try clear hb)
               (try clear hb2)
               (try clear hk)
               (try clear hi)
               (try clear ho0)
               (try clear ho1)
               refine hK.out _ _ ⟨bce BK753 0 _, bce BK753 1 _, bce BK753 2 _, bce BK754 0 _, bce BK754 1 _, bce BK754 2 _⟩ (fun hHeld => ?_)
               clear hK K
               refine norm_ (a' := ?_) ?_ ?_
               rotate_left
               ·
                show Act.put _ (some 96) _ = _
                simp only [Act.put, List.setIfInBounds_toArray, List.set_cons_zero, List.set_cons_succ, i64_w, i32_w]
                rfl
               refine one_ (i := 3) (N := some 98) #[true, true, true, true, false, false, false, false, true, false, false] rfl rfl (one_of HT_.out (by kernel_rfl)) (by decide) (fun K hK => ?_)
               refine goes_ Try.func22 (by kernel_rfl) rfl #[.agg #[.bool a1_0, .slice A1_1 l1_1.length c1_1, .slice A1_2 l1_2.length c1_2]] (by rfl) rfl rfl (by (try simp only [List.map_toArray, List.map_cons, List.map_nil]); first | done | rfl | (simp only [List.length_drop, List.length_take]; rfl)) ?_
               with_reducible refine (laws_toRat.calls kj114 a1_0 _ _ l1_1 _ _ l1_2 t840 t841 t844 _ ?side1 ?side2 ?side3 ?side4 A179.out).mono ?_
               (case side1 => exact crC (Kd.C_below HR1_1.out HB.out))
               (case side2 => exact HC1_1.out)
               (case side3 => exact crC (Kd.C_below HR1_2.out HB.out))
               (case side4 => exact HC1_2.out)
               rintro e w192 ⟨v842, v845, rfl, ho0, ho1, hb⟩
               refine ⟨_, rfl, ?_⟩
               have HO843 := lwR (nwR (nwR (nwR (nwR (nwR (nwR ho0 HO_780001) HO_780002) HO_805001) HO_805002) HO836) HO839) HB
               have HO846 := lwR (nwR (nwR (nwR (nwR (nwR (nwR ho1 HO_780001) HO_780002) HO_805001) HO_805002) HO836) HO839) HB
               replace HO_780001 := tldR HO_780001 hb (Kd.R_base ho0) (Kd.R_base ho1)
               replace HO_780002 := tldR HO_780002 hb (Kd.R_base ho0) (Kd.R_base ho1)
               replace HO_805001 := tldR HO_805001 hb (Kd.R_base ho0) (Kd.R_base ho1)
               replace HO_805002 := tldR HO_805002 hb (Kd.R_base ho0) (Kd.R_base ho1)
               replace HO836 := tldR HO836 hb (Kd.R_base ho0) (Kd.R_base ho1)
               replace HO839 := tldR HO839 hb (Kd.R_base ho0) (Kd.R_base ho1)
               replace BK753 := bkb BK753 hb
               replace BK754 := bkb BK754 hb
               replace BK779 := bkb BK779 hb
               replace BK804 := bkb BK804 hb
               replace BK855 := bkb BK855 hb
               replace HB := bst HB hb
               (try clear hb)
               (try clear hb2)
               (try clear hk)
               (try clear hi)
               (try clear ho0)
               (try clear ho1)
               obtain ⟨Ao193, co193, eo193⟩ := Kd.R_slice HO836.out
               (first | subst eo193 | (injection eo193 with f1_ f2_ f3_; have f4_ := f1_.symm; have f5_ := f3_.symm; clear f1_ f2_ f3_; subst f4_; subst f5_))
               obtain ⟨Ao194, co194, eo194⟩ := Kd.R_slice HO839.out
               (first | subst eo194 | (injection eo194 with f1_ f2_ f3_; have f4_ := f1_.symm; have f5_ := f3_.symm; clear f1_ f2_ f3_; subst f4_; subst f5_))
               obtain ⟨Ao195, co195, eo195⟩ := Kd.R_slice HO843.out
               (first | subst eo195 | (injection eo195 with f1_ f2_ f3_; have f4_ := f1_.symm; have f5_ := f3_.symm; clear f1_ f2_ f3_; subst f4_; subst f5_))
               obtain ⟨Ao196, co196, eo196⟩ := Kd.R_slice HO846.out
               (first | subst eo196 | (injection eo196 with f1_ f2_ f3_; have f4_ := f1_.symm; have f5_ := f3_.symm; clear f1_ f2_ f3_; subst f4_; subst f5_))
               refine hK.out _ _ ⟨bce BK753 0 _, bce BK753 1 _, bce BK753 2 _, bce BK754 0 _, bce BK754 1 _, bce BK754 2 _⟩ (fun hHeld => ?_)
               clear hK K
               refine norm_ (a' := ?_) ?_ ?_
               rotate_left
               ·
                show Act.put _ (some 98) _ = _
                simp only [Act.put, List.setIfInBounds_toArray, List.set_cons_zero, List.set_cons_succ, i64_w, i32_w]
                rfl
               refine one_ (i := 4) (N := some 99) #[true, true, true, true, true, false, false, false, true, false, false] rfl rfl (one_of HT_.out (by kernel_rfl)) (by decide) (fun K hK => ?_)
               refine goes_ Try.func29 (by kernel_rfl) rfl #[.agg #[.bool t833, .slice Ao193 t834.length co193, .slice Ao194 t837.length co194], .agg #[.bool t840, .slice Ao195 t841.length co195, .slice Ao196 t844.length co196]] (by rfl) rfl rfl (by (try simp only [List.map_toArray, List.map_cons, List.map_nil]); first | done | rfl | (simp only [List.length_drop, List.length_take]; rfl)) ?_
               with_reducible refine (impl_MulRat.calls kj114 t833 _ _ t834 _ _ t837 t840 _ _ t841 _ _ t844 t847 t848 t851 t854 _ ?side1 ?side2 ?side3 ?side4 ?side5 ?side6 ?side7 ?side8 A180.out).mono ?_
               (case side1 => exact crC (Kd.R_reads' HO836.out).2.2)
               (case side2 => exact (Kd.R_reads' HO836.out).2.1)
               (case side3 => exact crC (Kd.R_reads' HO839.out).2.2)
               (case side4 => exact (Kd.R_reads' HO839.out).2.1)
               (case side5 => exact crC (Kd.R_reads' HO843.out).2.2)
               (case side6 => exact (Kd.R_reads' HO843.out).2.1)
               (case side7 => exact crC (Kd.R_reads' HO846.out).2.2)
               (case side8 => exact (Kd.R_reads' HO846.out).2.1)
               rintro e w197 ⟨v849, v852, rfl, ho0, ho1, hb⟩
               refine ⟨_, rfl, ?_⟩
               have HO850 := lwR (nwR (nwR (nwR (nwR (nwR (nwR (nwR (nwR ho0 HO_780001) HO_780002) HO_805001) HO_805002) HO836) HO839) HO843) HO846) HB
               have HO853 := lwR (nwR (nwR (nwR (nwR (nwR (nwR (nwR (nwR ho1 HO_780001) HO_780002) HO_805001) HO_805002) HO836) HO839) HO843) HO846) HB
               replace HO_780001 := tldR HO_780001 hb (Kd.R_base ho0) (Kd.R_base ho1)
               replace HO_780002 := tldR HO_780002 hb (Kd.R_base ho0) (Kd.R_base ho1)
               replace HO_805001 := tldR HO_805001 hb (Kd.R_base ho0) (Kd.R_base ho1)
               replace HO_805002 := tldR HO_805002 hb (Kd.R_base ho0) (Kd.R_base ho1)
               replace HO836 := tldR HO836 hb (Kd.R_base ho0) (Kd.R_base ho1)
               replace HO839 := tldR HO839 hb (Kd.R_base ho0) (Kd.R_base ho1)
               replace HO843 := tldR HO843 hb (Kd.R_base ho0) (Kd.R_base ho1)
               replace HO846 := tldR HO846 hb (Kd.R_base ho0) (Kd.R_base ho1)
               replace BK753 := bkb BK753 hb
               replace BK754 := bkb BK754 hb
               replace BK779 := bkb BK779 hb
               replace BK804 := bkb BK804 hb
               replace BK855 := bkb BK855 hb
               replace HB := bst HB hb
               (try clear hb)
               (try clear hb2)
               (try clear hk)
               (try clear hi)
               (try clear ho0)
               (try clear ho1)
               refine hK.out _ _ ⟨bce BK753 0 _, bce BK753 1 _, bce BK753 2 _, bce BK754 0 _, bce BK754 1 _, bce BK754 2 _⟩ (fun hHeld => ?_)
               clear hK K
               refine norm_ (a' := ?_) ?_ ?_
               rotate_left
               ·
                show Act.put _ (some 99) _ = _
                simp only [Act.put, List.setIfInBounds_toArray, List.set_cons_zero, List.set_cons_succ, i64_w, i32_w]
                rfl
               refine pure_ (i := 5) (N := some 94) (v := ?_) (a' := ?_) #[true, true, true, true, true, true, false, false, true, false, false] rfl rfl (any_of HT_.out (by kernel_rfl)) (fun _ _ _ h => h) (Or.inl ⟨by rfl, ?_⟩) ?_ ?_
               rotate_left
               ·
                intro w'
                go_simp
                with_reducible rfl
               rotate_left
               ·
                simp only [Act.put, List.setIfInBounds_toArray, List.set_cons_zero, List.set_cons_succ, i64_w, i32_w]
                rfl
               refine pure_ (i := 6) (N := some 100) (v := ?_) (a' := ?_) #[true, true, true, true, true, true, true, false, true, false, false] rfl rfl (any_of HT_.out (by kernel_rfl)) (fun _ _ _ h => h) (Or.inl ⟨by rfl, ?_⟩) ?_ ?_
               rotate_left
               ·
                intro w'
                go_simp
                with_reducible rfl
               rotate_left
               ·
                simp only [Act.put, List.setIfInBounds_toArray, List.set_cons_zero, List.set_cons_succ, i64_w, i32_w]
                rfl
               refine pure_ (i := 7) (N := some 101) (v := ?_) (a' := ?_) #[true, true, true, true, true, true, true, true, true, false, false] rfl rfl (any_of HT_.out (by kernel_rfl)) (fun _ _ _ h => h) (Or.inl ⟨by rfl, ?_⟩) ?_ ?_
               rotate_left
               ·
                intro w'
                go_simp
                with_reducible rfl
               rotate_left
               ·
                simp only [Act.put, List.setIfInBounds_toArray, List.set_cons_zero, List.set_cons_succ, i64_w, i32_w]
                rfl
               exact norm_ (by simp only [putAll, Act.put, List.setIfInBounds_toArray, List.set_cons_zero, List.set_cons_succ]) (hCont (.slice Ao193 t834.length co193, .slice Ao194 t837.length co194, .slice Ao195 t841.length co195, .slice Ao196 t844.length co196, v849, v852, gb855) _ ⟨hHeld, (crM HO836 fun _ hk => ⟨hk.1.1.1.1.1.1.1.1, hk.1.1.1.2, hk.1.1.2, hk.1.2, hk.2, hk.1.1.1.1.1.1.1.2, hk.1.1.1.1.1.1.2, hk.1.1.1.1.1.2, hk.1.1.1.1.2⟩), (crM HO839 fun _ hk => ⟨hk.1.1.1.1.1.1.1.1, hk.1.1.1.2, hk.1.1.2, hk.1.2, hk.2, hk.1.1.1.1.1.1.1.2, hk.1.1.1.1.1.1.2, hk.1.1.1.1.1.2, hk.1.1.1.1.2⟩), (crM HO843 fun _ hk => ⟨hk.1.1.1.2, hk.1.1.2, hk.1.1.1.1.1.1.1.1, hk.1.2, hk.2, hk.1.1.1.1.1.1.1.2, hk.1.1.1.1.1.1.2, hk.1.1.1.1.1.2, hk.1.1.1.1.2⟩), (crM HO846 fun _ hk => ⟨hk.1.1.1.2, hk.1.1.2, hk.1.1.1.1.1.1.1.1, hk.1.2, hk.2, hk.1.1.1.1.1.1.1.2, hk.1.1.1.1.1.1.2, hk.1.1.1.1.1.2, hk.1.1.1.1.2⟩), (crM HO850 fun _ hk => ⟨hk.1.1.1.2, hk.1.1.2, hk.1.2, hk.2, hk.1.1.1.1.1.1.1.1, hk.1.1.1.1.1.1.1.2, hk.1.1.1.1.1.1.2, hk.1.1.1.1.1.2, hk.1.1.1.1.2⟩), (crM HO853 fun _ hk => ⟨hk.1.1.1.2, hk.1.1.2, hk.1.2, hk.2, hk.1.1.1.1.1.1.1.1, hk.1.1.1.1.1.1.1.2, hk.1.1.1.1.1.1.2, hk.1.1.1.1.1.2, hk.1.1.1.1.2⟩), (crM HO_780001 fun _ hk => ⟨hk.1.1.1.1.1.2, hk.1.1.1.1.2, hk.1.1.1.2, hk.1.1.2, hk.1.2, hk.2, hk.1.1.1.1.1.1.1, hk.1.1.1.1.1.1.2.1, hk.1.1.1.1.1.1.2.2⟩), (crM HO_780002 fun _ hk => ⟨hk.1.1.1.1.1.2, hk.1.1.1.1.2, hk.1.1.1.2, hk.1.1.2, hk.1.2, hk.2, hk.1.1.1.1.1.1.1, hk.1.1.1.1.1.1.2.1, hk.1.1.1.1.1.1.2.2⟩), (crM HO_805001 fun _ hk => ⟨hk.1.1.1.1.1.2, hk.1.1.1.1.2, hk.1.1.1.2, hk.1.1.2, hk.1.2, hk.2, hk.1.1.1.1.1.1.1, hk.1.1.1.1.1.1.2.1, hk.1.1.1.1.1.1.2.2⟩), (crM HO_805002 fun _ hk => ⟨hk.1.1.1.1.1.2, hk.1.1.1.1.2, hk.1.1.1.2, hk.1.1.2, hk.1.2, hk.2, hk.1.1.1.1.1.1.1, hk.1.1.1.1.1.1.2.1, hk.1.1.1.1.1.1.2.2⟩), (crb BK753), (crb BK754), (crb BK779), (crb BK804), (crb BK855), GW855.out, GE855.out, NB753_855.out, NB855_753.out, NB754_855.out, NB855_754.out, NB779_855.out, NB855_779.out, NB804_855.out, NB855_804.out, (blw HB)⟩)
             rintro ⟨v835, v838, v842, v845, v849, v852, gb855⟩ w198 ⟨hS_, h0_, h1_, h2_, h3_, h4_, h5_, h6_, h7_, h8_, h9_, h10_, h11_, h12_, h13_, h14_, h15_, h16_, h17_, h18_, h19_, h20_, h21_, h22_, h23_, h24_, h25_⟩
             have HO836 : Aside0 (Kd.R (Kd.int .i64) 3 w198 w.heap.size (fun k_ => nO k_ v838 ∧ nO k_ v842 ∧ nO k_ v845 ∧ nO k_ v849 ∧ nO k_ v852 ∧ nO k_ (.slice Ao44 t772.length co44) ∧ nO k_ (.slice Ao46 t775.length co46) ∧ nO k_ (.slice Ao78 t797.length co78) ∧ nO k_ (.slice Ao79 t800.length co79)) v835 t834) := ⟨h0_⟩
             have HO839 : Aside0 (Kd.R (Kd.int .i64) 3 w198 w.heap.size (fun k_ => nO k_ v835 ∧ nO k_ v842 ∧ nO k_ v845 ∧ nO k_ v849 ∧ nO k_ v852 ∧ nO k_ (.slice Ao44 t772.length co44) ∧ nO k_ (.slice Ao46 t775.length co46) ∧ nO k_ (.slice Ao78 t797.length co78) ∧ nO k_ (.slice Ao79 t800.length co79)) v838 t837) := ⟨h1_⟩
             have HO843 : Aside0 (Kd.R (Kd.int .i64) 3 w198 w.heap.size (fun k_ => nO k_ v835 ∧ nO k_ v838 ∧ nO k_ v845 ∧ nO k_ v849 ∧ nO k_ v852 ∧ nO k_ (.slice Ao44 t772.length co44) ∧ nO k_ (.slice Ao46 t775.length co46) ∧ nO k_ (.slice Ao78 t797.length co78) ∧ nO k_ (.slice Ao79 t800.length co79)) v842 t841) := ⟨h2_⟩
             have HO846 : Aside0 (Kd.R (Kd.int .i64) 3 w198 w.heap.size (fun k_ => nO k_ v835 ∧ nO k_ v838 ∧ nO k_ v842 ∧ nO k_ v849 ∧ nO k_ v852 ∧ nO k_ (.slice Ao44 t772.length co44) ∧ nO k_ (.slice Ao46 t775.length co46) ∧ nO k_ (.slice Ao78 t797.length co78) ∧ nO k_ (.slice Ao79 t800.length co79)) v845 t844) := ⟨h3_⟩
             have HO850 : Aside0 (Kd.R (Kd.int .i64) 3 w198 w.heap.size (fun k_ => nO k_ v835 ∧ nO k_ v838 ∧ nO k_ v842 ∧ nO k_ v845 ∧ nO k_ v852 ∧ nO k_ (.slice Ao44 t772.length co44) ∧ nO k_ (.slice Ao46 t775.length co46) ∧ nO k_ (.slice Ao78 t797.length co78) ∧ nO k_ (.slice Ao79 t800.length co79)) v849 t848) := ⟨h4_⟩
             have HO853 : Aside0 (Kd.R (Kd.int .i64) 3 w198 w.heap.size (fun k_ => nO k_ v835 ∧ nO k_ v838 ∧ nO k_ v842 ∧ nO k_ v845 ∧ nO k_ v849 ∧ nO k_ (.slice Ao44 t772.length co44) ∧ nO k_ (.slice Ao46 t775.length co46) ∧ nO k_ (.slice Ao78 t797.length co78) ∧ nO k_ (.slice Ao79 t800.length co79)) v852 t851) := ⟨h5_⟩
             replace HO_780001 : Aside0 (Kd.R (Kd.int .i64) 3 w198 w.heap.size (fun k_ => nO k_ v835 ∧ nO k_ v838 ∧ nO k_ v842 ∧ nO k_ v845 ∧ nO k_ v849 ∧ nO k_ v852 ∧ nO k_ (.slice Ao46 t775.length co46) ∧ nO k_ (.slice Ao78 t797.length co78) ∧ nO k_ (.slice Ao79 t800.length co79)) (.slice Ao44 t772.length co44) t772) := ⟨h6_⟩
             replace HO_780002 : Aside0 (Kd.R (Kd.int .i64) 3 w198 w.heap.size (fun k_ => nO k_ v835 ∧ nO k_ v838 ∧ nO k_ v842 ∧ nO k_ v845 ∧ nO k_ v849 ∧ nO k_ v852 ∧ nO k_ (.slice Ao44 t772.length co44) ∧ nO k_ (.slice Ao78 t797.length co78) ∧ nO k_ (.slice Ao79 t800.length co79)) (.slice Ao46 t775.length co46) t775) := ⟨h7_⟩
             replace HO_805001 : Aside0 (Kd.R (Kd.int .i64) 3 w198 w.heap.size (fun k_ => nO k_ v835 ∧ nO k_ v838 ∧ nO k_ v842 ∧ nO k_ v845 ∧ nO k_ v849 ∧ nO k_ v852 ∧ nO k_ (.slice Ao44 t772.length co44) ∧ nO k_ (.slice Ao46 t775.length co46) ∧ nO k_ (.slice Ao79 t800.length co79)) (.slice Ao78 t797.length co78) t830) := ⟨h8_⟩
             replace HO_805002 : Aside0 (Kd.R (Kd.int .i64) 3 w198 w.heap.size (fun k_ => nO k_ v835 ∧ nO k_ v838 ∧ nO k_ v842 ∧ nO k_ v845 ∧ nO k_ v849 ∧ nO k_ v852 ∧ nO k_ (.slice Ao44 t772.length co44) ∧ nO k_ (.slice Ao46 t775.length co46) ∧ nO k_ (.slice Ao78 t797.length co78)) (.slice Ao79 t800.length co79) t831) := ⟨h9_⟩
             replace BK753 : Aside0 (w198.heap[gb753]? = some (.cells #[.bool a0_0, .slice A0_1 l0_1.length c0_1, .slice A0_2 l0_2.length c0_2] 30 (0, 0))) := ⟨h10_⟩
             replace BK754 : Aside0 (w198.heap[gb754]? = some (.cells #[.bool a1_0, .slice A1_1 l1_1.length c1_1, .slice A1_2 l1_2.length c1_2] 30 (0, 0))) := ⟨h11_⟩
             replace BK779 : Aside0 (w198.heap[gb779]? = some (.cells #[.bool t771, .slice Ao44 t772.length co44, .slice Ao46 t775.length co46] 24 (0, 0))) := ⟨h12_⟩
             replace BK804 : Aside0 (w198.heap[gb804]? = some (.cells #[.bool t796, .slice Ao78 t797.length co78, .slice Ao79 t800.length co79] 24 (0, 0))) := ⟨h13_⟩
             have BK855 : Aside0 (w198.heap[gb855]? = some (.cells #[.bool false, .slice none 0 0, .slice none 0 0] 24 (0, 0))) := ⟨h14_⟩
             have GW855 : Aside0 (w.heap.size ≤ gb855) := ⟨h15_⟩
             have GE855 : Aside0 (w.heap.size ≤ gb855) := ⟨h16_⟩
             have NB753_855 : Aside0 (gb753 ≠ gb855) := ⟨h17_⟩
             have NB855_753 : Aside0 (gb855 ≠ gb753) := ⟨h18_⟩
             have NB754_855 : Aside0 (gb754 ≠ gb855) := ⟨h19_⟩
             have NB855_754 : Aside0 (gb855 ≠ gb754) := ⟨h20_⟩
             have NB779_855 : Aside0 (gb779 ≠ gb855) := ⟨h21_⟩
             have NB855_779 : Aside0 (gb855 ≠ gb779) := ⟨h22_⟩
             have NB804_855 : Aside0 (gb804 ≠ gb855) := ⟨h23_⟩
             have NB855_804 : Aside0 (gb855 ≠ gb804) := ⟨h24_⟩
             replace HB : Aside0 (Below w.heap.size w w198) := ⟨h25_⟩
             clear h0_ h1_ h2_ h3_ h4_ h5_ h6_ h7_ h8_ h9_ h10_ h11_ h12_ h13_ h14_ h15_ h16_ h17_ h18_ h19_ h20_ h21_ h22_ h23_ h24_ h25_
             have hHeld : w198.cell? ⟨gb753, 0, none⟩ = some (.bool a0_0) ∧ w198.cell? ⟨gb753, 1, none⟩ = some (.slice A0_1 l0_1.length c0_1) ∧ w198.cell? ⟨gb753, 2, none⟩ = some (.slice A0_2 l0_2.length c0_2) ∧ w198.cell? ⟨gb754, 0, none⟩ = some (.bool a1_0) ∧ w198.cell? ⟨gb754, 1, none⟩ = some (.slice A1_1 l1_1.length c1_1) ∧ w198.cell? ⟨gb754, 2, none⟩ = some (.slice A1_2 l1_2.length c1_2) := hS_
             obtain ⟨Ao200, co200, eo200⟩ := Kd.R_slice HO850.out
             (first | subst eo200 | (injection eo200 with f1_ f2_ f3_; have f4_ := f1_.symm; have f5_ := f3_.symm; clear f1_ f2_ f3_; subst f4_; subst f5_))
             obtain ⟨Ao202, co202, eo202⟩ := Kd.R_slice HO853.out
             (first | subst eo202 | (injection eo202 with f1_ f2_ f3_; have f4_ := f1_.symm; have f5_ := f3_.symm; clear f1_ f2_ f3_; subst f4_; subst f5_))
             refine norm_ (a' := ?_) ?_ ?_
             rotate_left
             ·
              simp only [putAll, Act.put, List.setIfInBounds_toArray, List.set_cons_zero, List.set_cons_succ]
              rfl
             refine one_ (i := 9) (N := none) #[true, true, true, true, true, true, true, true, true, true, false] rfl rfl (one_of HT_.out (by kernel_rfl)) (by decide) (fun K hK => ?_)
             have hs199 : w198.cell? ⟨gb855, 0, none⟩ = some (.bool false) := bce BK855 0 _
             have hfs199 := blk_frozen BK855.out 0
             have hns199_0 := NB753_855.out
             have hns199_1 := NB754_855.out
             have hns199_2 := NB779_855.out
             have hns199_3 := NB804_855.out
             have hms199_0 := NB855_753.out
             have hms199_1 := NB855_754.out
             have hms199_2 := NB855_779.out
             have hms199_3 := NB855_804.out
             have hs201 : w198.cell? ⟨gb855, 1, none⟩ = some (.slice none 0 0) := bce BK855 1 _
             have hfs201 := blk_frozen BK855.out 1
             have hns201_0 := NB753_855.out
             have hns201_1 := NB754_855.out
             have hns201_2 := NB779_855.out
             have hns201_3 := NB804_855.out
             have hms201_0 := NB855_753.out
             have hms201_1 := NB855_754.out
             have hms201_2 := NB855_779.out
             have hms201_3 := NB855_804.out
             have hs203 : w198.cell? ⟨gb855, 2, none⟩ = some (.slice none 0 0) := bce BK855 2 _
             have hfs203 := blk_frozen BK855.out 2
             have hns203_0 := NB753_855.out
             have hns203_1 := NB754_855.out
             have hns203_2 := NB779_855.out
             have hns203_3 := NB804_855.out
             have hms203_0 := NB855_753.out
             have hms203_1 := NB855_754.out
             have hms203_2 := NB855_779.out
             have hms203_3 := NB855_804.out
             refine skip_ (w1 := ?_) (by rfl) rfl ?_ ?_
             rotate_left
             ·
              go_simp
              rfl
             refine hK.out _ _ ⟨((cell_far (p := ⟨gb855, _, none⟩) NB753_855.out _).trans (((cell_far (p := ⟨gb855, _, none⟩) NB753_855.out _).trans (((cell_far (p := ⟨gb855, _, none⟩) NB753_855.out _).trans (hHeld.1)))))), ((cell_far (p := ⟨gb855, _, none⟩) NB753_855.out _).trans (((cell_far (p := ⟨gb855, _, none⟩) NB753_855.out _).trans (((cell_far (p := ⟨gb855, _, none⟩) NB753_855.out _).trans (hHeld.2.1)))))), ((cell_far (p := ⟨gb855, _, none⟩) NB753_855.out _).trans (((cell_far (p := ⟨gb855, _, none⟩) NB753_855.out _).trans (((cell_far (p := ⟨gb855, _, none⟩) NB753_855.out _).trans (hHeld.2.2.1)))))), ((cell_far (p := ⟨gb855, _, none⟩) NB754_855.out _).trans (((cell_far (p := ⟨gb855, _, none⟩) NB754_855.out _).trans (((cell_far (p := ⟨gb855, _, none⟩) NB754_855.out _).trans (hHeld.2.2.2.1)))))), ((cell_far (p := ⟨gb855, _, none⟩) NB754_855.out _).trans (((cell_far (p := ⟨gb855, _, none⟩) NB754_855.out _).trans (((cell_far (p := ⟨gb855, _, none⟩) NB754_855.out _).trans (hHeld.2.2.2.2.1)))))), ((cell_far (p := ⟨gb855, _, none⟩) NB754_855.out _).trans (((cell_far (p := ⟨gb855, _, none⟩) NB754_855.out _).trans (((cell_far (p := ⟨gb855, _, none⟩) NB754_855.out _).trans (hHeld.2.2.2.2.2))))))⟩ (fun hHeld => ?_)
             clear hK K
             refine pure_ (i := 10) (N := some 16) (v := ?_) (a' := ?_) #[true, true, true, true, true, true, true, true, true, true, true] rfl rfl (any_of HT_.out (by kernel_rfl)) (fun _ _ _ h => h) (Or.inl ⟨by rfl, ?_⟩) ?_ ?_
             rotate_left
             ·
              intro w'
              go_simp
              with_reducible rfl
             rotate_left
             ·
              simp only [Act.put, List.setIfInBounds_toArray, List.set_cons_zero, List.set_cons_succ, i64_w, i32_w]
              rfl
             refine done_ (done_of HT_.out (by kernel_rfl)) ?_
             go_upto_region 32 with (fail)
             go_cut [110] (fun v110 wc => ∃ (kq : Nat) (x110_180 : Bool), v110 = .bool x110_180 ∧ Aside0 (laws_FnExactMulRat.j2 kq t829 x110_180 t796 t830 t831 = some r) ∧ Aside0 (kq ≤ kj114) ∧ Aside0 (Kd.R (Kd.int .i64) 3 wc w.heap.size (fun k_ => nO k_ (.slice Ao79 t800.length co79)) (.slice Ao78 t797.length co78) t830) ∧ Aside0 (Kd.R (Kd.int .i64) 3 wc w.heap.size (fun k_ => nO k_ (.slice Ao78 t797.length co78)) (.slice Ao79 t800.length co79) t831) ∧ Aside0 (wc.heap[gb804]? = some (.cells #[.bool t796, (.slice Ao78 t797.length co78), (.slice Ao79 t800.length co79)] 24 (0, 0))) ∧ Aside0 (Below w.heap.size w wc))
             case first =>
              have H := HC181.out
              clear HC181
              replace H := Option.bind_eq_some_iff.mp H
              obtain ⟨t856, A2040, H⟩ := H
              replace H : (if t856 = true then (laws_FnExactMulRat.j2 kj114 t829 (t854 != t778) t796 t830 t831) else (laws_FnExactMulRat.j2 kj114 t829 true t796 t830 t831)) = some r := H
              have A204 := Aside0.mk A2040
              clear A2040
              by_cases c205 : t856 = true
              ·
               subst c205
               have H1 : (laws_FnExactMulRat.j2 kj114 t829 (t854 != t778) t796 t830 t831) = some r := by rw [if_pos rfl] at H; exact H
               clear H
               have H := H1
               clear H1
               have H' := Aside0.mk H
               clear H
               have hnb206 := NB855_753.out
               have hnc206 := NB753_855.out
               have hnb207 := NB855_754.out
               have hnc207 := NB754_855.out
               have hnb208 := NB855_779.out
               have hnc208 := NB779_855.out
               have hnb209 := NB855_804.out
               have hnc209 := NB804_855.out
               have hcz210_0 := bce BK855 0 (.bool false)
               have hcz210_1 := bce BK855 1 (.slice none 0 0)
               have hcz210_2 := bce BK855 2 (.slice none 0 0)
               have hfz210_0 := blk_frozen BK855.out 0
               have hfz210_1 := blk_frozen BK855.out 1
               have hfz210_2 := blk_frozen BK855.out 2
               have hnb211 := NB779_753.out
               have hnc211 := NB753_779.out
               have hnb212 := NB779_754.out
               have hnc212 := NB754_779.out
               have hnb213 := NB779_804.out
               have hnc213 := NB804_779.out
               have hcz214_0 := bce BK779 0 (.bool t771)
               have hcz214_1 := bce BK779 1 (.slice Ao44 t772.length co44)
               have hcz214_2 := bce BK779 2 (.slice Ao46 t775.length co46)
               have hfz214_0 := blk_frozen BK779.out 0
               have hfz214_1 := blk_frozen BK779.out 1
               have hfz214_2 := blk_frozen BK779.out 2
               go_wp2_with (first | ((with_reducible refine gate_callee (f := 17) rfl ?_); refine goesL_ (some 104) rfl rfl Try.func17 (by kernel_rfl) rfl #[.agg #[.bool t847, .slice Ao200 t848.length co200, .slice Ao202 t851.length co202], .agg #[.bool t771, .slice Ao44 t772.length co44, .slice Ao46 t775.length co46]] rfl (by (try simp only [List.map_toArray, List.map_cons, List.map_nil]); first | done | rfl | (simp only [List.length_drop, List.length_take]; rfl)) ?_; (with_reducible refine (laws_eqRat.calls kj114 t847 _ _ t848 _ _ t851 t771 _ _ t772 _ _ t775 true _ ?side1 ?side2 ?side3 ?side4 ?side5 ?side6 ?side7 ?side8 A204.out).mono ?_); (case side1 => refine (Kd.R_reads' (e := 3) (base := w.heap.size) (ok := fun k_ => (nO k_ v835 ∧ (nO k_ v838 ∧ (nO k_ v842 ∧ (nO k_ v845 ∧ (nO k_ (.slice Ao202 t851.length co202) ∧ (nO k_ (.slice Ao44 t772.length co44) ∧ (nO k_ (.slice Ao46 t775.length co46) ∧ (nO k_ (.slice Ao78 t797.length co78) ∧ nO k_ (.slice Ao79 t800.length co79)))))))))) (n := t848.length) (c := co200) ?_).2.2; exact (crF HO850 BK855)); (case side2 => exact (Kd.R_reads' HO850.out).2.1); (case side3 => refine (Kd.R_reads' (e := 3) (base := w.heap.size) (ok := fun k_ => (nO k_ v835 ∧ (nO k_ v838 ∧ (nO k_ v842 ∧ (nO k_ v845 ∧ (nO k_ (.slice Ao200 t848.length co200) ∧ (nO k_ (.slice Ao44 t772.length co44) ∧ (nO k_ (.slice Ao46 t775.length co46) ∧ (nO k_ (.slice Ao78 t797.length co78) ∧ nO k_ (.slice Ao79 t800.length co79)))))))))) (n := t851.length) (c := co202) ?_).2.2; exact (crF HO853 BK855)); (case side4 => exact (Kd.R_reads' HO853.out).2.1); (case side5 => refine (Kd.R_reads' (e := 3) (base := w.heap.size) (ok := fun k_ => (nO k_ v835 ∧ (nO k_ v838 ∧ (nO k_ v842 ∧ (nO k_ v845 ∧ (nO k_ (.slice Ao200 t848.length co200) ∧ (nO k_ (.slice Ao202 t851.length co202) ∧ (nO k_ (.slice Ao46 t775.length co46) ∧ (nO k_ (.slice Ao78 t797.length co78) ∧ nO k_ (.slice Ao79 t800.length co79)))))))))) (n := t772.length) (c := co44) ?_).2.2; exact (crF HO_780001 BK855)); (case side6 => exact (Kd.R_reads' HO_780001.out).2.1); (case side7 => refine (Kd.R_reads' (e := 3) (base := w.heap.size) (ok := fun k_ => (nO k_ v835 ∧ (nO k_ v838 ∧ (nO k_ v842 ∧ (nO k_ v845 ∧ (nO k_ (.slice Ao200 t848.length co200) ∧ (nO k_ (.slice Ao202 t851.length co202) ∧ (nO k_ (.slice Ao44 t772.length co44) ∧ (nO k_ (.slice Ao78 t797.length co78) ∧ nO k_ (.slice Ao79 t800.length co79)))))))))) (n := t775.length) (c := co46) ?_).2.2; exact (crF HO_780002 BK855)); (case side8 => exact (Kd.R_reads' HO_780002.out).2.1); rintro e w215 ⟨rfl, hb⟩; refine ⟨_, rfl, ?_⟩; replace HO_780001 := rblF HO_780001 BK855 hb; replace HO_780002 := rblF HO_780002 BK855 hb; replace HO_805001 := rblF HO_805001 BK855 hb; replace HO_805002 := rblF HO_805002 BK855 hb; replace HO836 := rblF HO836 BK855 hb; replace HO839 := rblF HO839 BK855 hb; replace HO843 := rblF HO843 BK855 hb; replace HO846 := rblF HO846 BK855 hb; replace HO850 := rblF HO850 BK855 hb; replace HO853 := rblF HO853 BK855 hb; replace BK753 := bkf BK753 hb; replace BK754 := bkf BK754 hb; replace BK779 := bkf BK779 hb; replace BK804 := bkf BK804 hb; replace BK855 := bkp BK855 (.bool t847) (.slice Ao200 t848.length co200) (.slice Ao202 t851.length co202) hb; replace HB := bst HB hb; (try clear hb); (try clear hb2); (try clear hk); (try clear hi)))
               go_meet
               case rel => exact ⟨_, ((t854 != t778)), (by first | rfl | (simp; done) | (simp [*]; done)), H', ⟨by have := HJ24.out; have := HJ114.out; first | omega | exact Nat.le_refl _⟩, ⟨crM HO_805001 fun _ hk => hk.2.2.2.2.2.2.2.2⟩, ⟨crM HO_805002 fun _ hk => hk.2.2.2.2.2.2.2.2⟩, ⟨crb BK804⟩, ⟨blw HB⟩⟩
              ·
               replace c205 := Bool.eq_false_iff.mpr c205
               subst c205
               have H1 : (laws_FnExactMulRat.j2 kj114 t829 true t796 t830 t831) = some r := by rw [if_neg (show ¬ (false = true) by decide)] at H; exact H
               clear H
               have H := H1
               clear H1
               have H' := Aside0.mk H
               clear H
               have hnb216 := NB855_753.out
               have hnc216 := NB753_855.out
               have hnb217 := NB855_754.out
               have hnc217 := NB754_855.out
               have hnb218 := NB855_779.out
               have hnc218 := NB779_855.out
               have hnb219 := NB855_804.out
               have hnc219 := NB804_855.out
               have hcz220_0 := bce BK855 0 (.bool false)
               have hcz220_1 := bce BK855 1 (.slice none 0 0)
               have hcz220_2 := bce BK855 2 (.slice none 0 0)
               have hfz220_0 := blk_frozen BK855.out 0
               have hfz220_1 := blk_frozen BK855.out 1
               have hfz220_2 := blk_frozen BK855.out 2
               have hnb221 := NB779_753.out
               have hnc221 := NB753_779.out
               have hnb222 := NB779_754.out
               have hnc222 := NB754_779.out
               have hnb223 := NB779_804.out
               have hnc223 := NB804_779.out
               have hcz224_0 := bce BK779 0 (.bool t771)
               have hcz224_1 := bce BK779 1 (.slice Ao44 t772.length co44)
               have hcz224_2 := bce BK779 2 (.slice Ao46 t775.length co46)
               have hfz224_0 := blk_frozen BK779.out 0
               have hfz224_1 := blk_frozen BK779.out 1
               have hfz224_2 := blk_frozen BK779.out 2
               go_wp2_with (first | ((with_reducible refine gate_callee (f := 17) rfl ?_); refine goesL_ (some 104) rfl rfl Try.func17 (by kernel_rfl) rfl #[.agg #[.bool t847, .slice Ao200 t848.length co200, .slice Ao202 t851.length co202], .agg #[.bool t771, .slice Ao44 t772.length co44, .slice Ao46 t775.length co46]] rfl (by (try simp only [List.map_toArray, List.map_cons, List.map_nil]); first | done | rfl | (simp only [List.length_drop, List.length_take]; rfl)) ?_; (with_reducible refine (laws_eqRat.calls kj114 t847 _ _ t848 _ _ t851 t771 _ _ t772 _ _ t775 false _ ?side1 ?side2 ?side3 ?side4 ?side5 ?side6 ?side7 ?side8 A204.out).mono ?_); (case side1 => refine (Kd.R_reads' (e := 3) (base := w.heap.size) (ok := fun k_ => (nO k_ v835 ∧ (nO k_ v838 ∧ (nO k_ v842 ∧ (nO k_ v845 ∧ (nO k_ (.slice Ao202 t851.length co202) ∧ (nO k_ (.slice Ao44 t772.length co44) ∧ (nO k_ (.slice Ao46 t775.length co46) ∧ (nO k_ (.slice Ao78 t797.length co78) ∧ nO k_ (.slice Ao79 t800.length co79)))))))))) (n := t848.length) (c := co200) ?_).2.2; exact (crF HO850 BK855)); (case side2 => exact (Kd.R_reads' HO850.out).2.1); (case side3 => refine (Kd.R_reads' (e := 3) (base := w.heap.size) (ok := fun k_ => (nO k_ v835 ∧ (nO k_ v838 ∧ (nO k_ v842 ∧ (nO k_ v845 ∧ (nO k_ (.slice Ao200 t848.length co200) ∧ (nO k_ (.slice Ao44 t772.length co44) ∧ (nO k_ (.slice Ao46 t775.length co46) ∧ (nO k_ (.slice Ao78 t797.length co78) ∧ nO k_ (.slice Ao79 t800.length co79)))))))))) (n := t851.length) (c := co202) ?_).2.2; exact (crF HO853 BK855)); (case side4 => exact (Kd.R_reads' HO853.out).2.1); (case side5 => refine (Kd.R_reads' (e := 3) (base := w.heap.size) (ok := fun k_ => (nO k_ v835 ∧ (nO k_ v838 ∧ (nO k_ v842 ∧ (nO k_ v845 ∧ (nO k_ (.slice Ao200 t848.length co200) ∧ (nO k_ (.slice Ao202 t851.length co202) ∧ (nO k_ (.slice Ao46 t775.length co46) ∧ (nO k_ (.slice Ao78 t797.length co78) ∧ nO k_ (.slice Ao79 t800.length co79)))))))))) (n := t772.length) (c := co44) ?_).2.2; exact (crF HO_780001 BK855)); (case side6 => exact (Kd.R_reads' HO_780001.out).2.1); (case side7 => refine (Kd.R_reads' (e := 3) (base := w.heap.size) (ok := fun k_ => (nO k_ v835 ∧ (nO k_ v838 ∧ (nO k_ v842 ∧ (nO k_ v845 ∧ (nO k_ (.slice Ao200 t848.length co200) ∧ (nO k_ (.slice Ao202 t851.length co202) ∧ (nO k_ (.slice Ao44 t772.length co44) ∧ (nO k_ (.slice Ao78 t797.length co78) ∧ nO k_ (.slice Ao79 t800.length co79)))))))))) (n := t775.length) (c := co46) ?_).2.2; exact (crF HO_780002 BK855)); (case side8 => exact (Kd.R_reads' HO_780002.out).2.1); rintro e w225 ⟨rfl, hb⟩; refine ⟨_, rfl, ?_⟩; replace HO_780001 := rblF HO_780001 BK855 hb; replace HO_780002 := rblF HO_780002 BK855 hb; replace HO_805001 := rblF HO_805001 BK855 hb; replace HO_805002 := rblF HO_805002 BK855 hb; replace HO836 := rblF HO836 BK855 hb; replace HO839 := rblF HO839 BK855 hb; replace HO843 := rblF HO843 BK855 hb; replace HO846 := rblF HO846 BK855 hb; replace HO850 := rblF HO850 BK855 hb; replace HO853 := rblF HO853 BK855 hb; replace BK753 := bkf BK753 hb; replace BK754 := bkf BK754 hb; replace BK779 := bkf BK779 hb; replace BK804 := bkf BK804 hb; replace BK855 := bkp BK855 (.bool t847) (.slice Ao200 t848.length co200) (.slice Ao202 t851.length co202) hb; replace HB := bst HB hb; (try clear hb); (try clear hb2); (try clear hk); (try clear hi)))
               go_meet
               case rel => exact ⟨_, (true), (by first | rfl | (simp; done) | (simp [*]; done)), H', ⟨by have := HJ24.out; have := HJ114.out; first | omega | exact Nat.le_refl _⟩, ⟨crM HO_805001 fun _ hk => hk.2.2.2.2.2.2.2.2⟩, ⟨crM HO_805002 fun _ hk => hk.2.2.2.2.2.2.2.2⟩, ⟨crb BK804⟩, ⟨blw HB⟩⟩
             case rest =>
              clear HC181
              try clear c1
              try clear c2
              try clear p2
              try clear c17
              try clear c20
              try clear c21
              try clear c22
              try clear c29
              try clear c205
              try clear c206
              try clear c207
              try clear c208
              try clear c209
              try clear c211
              try clear c212
              try clear c213
              try clear c216
              try clear c217
              try clear c218
              try clear c219
              try clear c221
              try clear c222
              try clear c223
              try clear hcz210_0
              try clear hcz210_1
              try clear hcz210_2
              try clear hcz214_0
              try clear hcz214_1
              try clear hcz214_2
              try clear hcz220_0
              try clear hcz220_1
              try clear hcz220_2
              try clear hcz224_0
              try clear hcz224_1
              try clear hcz224_2
              try clear hfz210_0
              try clear hfz210_1
              try clear hfz210_2
              try clear hfz214_0
              try clear hfz214_1
              try clear hfz214_2
              try clear hfz220_0
              try clear hfz220_1
              try clear hfz220_2
              try clear hfz224_0
              try clear hfz224_1
              try clear hfz224_2
              obtain ⟨kq, x110_180, rfl, HA, HJ180, HO_805001, HO_805002, BK804, HB⟩ := hcut
              have hl805001_180 := (Kd.R_reads' HO_805001.out).1
              rw [hl805001_180] at HO_805001
              (try simp only [hl805001_180])
              (try simp only [hl805001_180] at BK804)
              (try simp only [hl805001_180] at HO_805002)
              have hl805002_180 := (Kd.R_reads' HO_805002.out).1
              rw [hl805002_180] at HO_805002
              (try simp only [hl805002_180])
              (try simp only [hl805002_180] at BK804)
              (try simp only [hl805002_180] at HO_805001)
              cases kq with
              | zero => exact absurd HA.out (by simp [laws_FnExactMulRat.j2])
              | succ kj180 =>
               have H := HA.out
               clear HA
               simp only [laws_FnExactMulRat.j2] at H
               by_cases c226 : x110_180 = true
               ·
                subst c226
                have H1 : (some false) = some r := by rw [if_pos rfl] at H; exact H
                clear H
                have H := H1
                clear H1
                obtain rfl := Option.some.inj H
                exact absurd hr_ (by decide)
               ·
                replace c226 := Bool.eq_false_iff.mpr c226
                subst c226
                have H1 : ((laws_heldRat.f kj180 t796 t830 t831 1).bind fun t857 => (if t857 < 0 then (some false) else (if t857 = t829 then (some true) else (some false)))) = some r := by rw [if_neg (show ¬ (false = true) by decide)] at H; exact H
                clear H
                have H := H1
                clear H1
                replace H := Option.bind_eq_some_iff.mp H
                obtain ⟨t857, A2270, H⟩ := H
                replace H : (if t857 < 0 then (some false) else (if t857 = t829 then (some true) else (some false))) = some r := H
                have A227 := Aside0.mk A2270
                clear A2270
                by_cases c228 : t857 < 0
                ·
                 rw [if_pos c228] at H
                 have c228b0 : decide (t857 < 0) = true := decide_eq_true c228
                 clear c228
                 obtain rfl := Option.some.inj H
                 exact absurd hr_ (by decide)
                ·
                 rw [if_neg c228] at H
                 have c228b0 : decide (t857 < 0) = false := decide_eq_false c228
                 clear c228
                 by_cases c231 : t857 = t829
                 ·
                  rw [if_pos c231] at H
                  have c231b0 : (t857 == t829) = true := beq_iff_eq.mpr c231
                  have c231b1 : (t857 != t829) = false := bne_eq_false_iff_eq.mpr c231
                  clear c231
                  obtain rfl := Option.some.inj H
                  have hcz232_0 := bce BK804 0 (.bool t796)
                  have hcz232_1 := bce BK804 1 (.slice Ao78 t830.length co78)
                  have hcz232_2 := bce BK804 2 (.slice Ao79 t831.length co79)
                  have hfz232_0 := blk_frozen BK804.out 0
                  have hfz232_1 := blk_frozen BK804.out 1
                  have hfz232_2 := blk_frozen BK804.out 2
                  go_wp2_with (first | ((with_reducible refine gate_callee (f := 19) rfl ?_); refine goesL_ (some 113) rfl rfl Try.func19 (by kernel_rfl) rfl #[.agg #[.bool t796, .slice Ao78 t830.length co78, .slice Ao79 t831.length co79], .int .i64 1] rfl (by (try simp only [List.map_toArray, List.map_cons, List.map_nil]); first | done | rfl | (simp only [List.length_drop, List.length_take]; rfl)) ?_; (with_reducible refine (laws_heldRat.calls kj180 t796 _ _ t830 _ _ t831 1 t857 _ ?side1 ?side2 ?side3 ?side4 A227.out).mono ?_); (case side1 => exact crC (Kd.R_reads' HO_805001.out).2.2); (case side2 => exact (Kd.R_reads' HO_805001.out).2.1); (case side3 => exact crC (Kd.R_reads' HO_805002.out).2.2); (case side4 => exact (Kd.R_reads' HO_805002.out).2.1); rintro e w233 ⟨rfl, hb⟩; refine ⟨_, rfl, ?_⟩; replace HO_805001 := rblR HO_805001 hb; replace HO_805002 := rblR HO_805002 hb; replace BK804 := bkb BK804 hb; replace HB := bst HB hb; (try clear hb); (try clear hb2); (try clear hk); (try clear hi)))
                  go_ret
                  exact ⟨by first | rfl | (simp [errW_none, errW_some] <;> rfl) | (simp [*, errW_none, errW_some] <;> rfl), blw HB⟩
                 ·
                  rw [if_neg c231] at H
                  have c231b0 : (t857 == t829) = false := beq_eq_false_iff_ne.mpr c231
                  have c231b1 : (t857 != t829) = true := bne_iff_ne.mpr c231
                  obtain rfl := Option.some.inj H
                  exact absurd hr_ (by decide)
            ·
             rw [if_neg c177] at H
             have c177b0 : (t832 == t829) = false := beq_eq_false_iff_ne.mpr c177
             have c177b1 : (t832 != t829) = true := bne_iff_ne.mpr c177
             obtain rfl := Option.some.inj H
             exact absurd hr_ (by decide)
       ·
        replace c112 := Bool.eq_false_iff.mpr c112
        subst c112
        have H1 : (some false) = some r := by rw [if_neg (show ¬ (false = true) by decide)] at H; exact H
        clear H
        have H := H1
        clear H1
        obtain rfl := Option.some.inj H
        exact absurd hr_ (by decide)
      ·
       replace c109 := Bool.eq_false_iff.mpr c109
       subst c109
       have H1 : (some false) = some r := by rw [if_neg (show ¬ (false = true) by decide)] at H; exact H
       clear H
       have H := H1
       clear H1
       obtain rfl := Option.some.inj H
       exact absurd hr_ (by decide)

/-- THE ONE PURE STATEMENT of laws_FnExactMulRat: yours. -/
def laws_FnExactMulRat.Pure : Prop := ∀ (a0_0 : Bool) (l0_1 : List Int) (l0_2 : List Int) (a1_0 : Bool) (l1_1 : List Int) (l1_2 : List Int), (True ∧ (l0_1.length ≤ maxLen ∧ ∀ y0_ ∈ l0_1, (Lit.int .i64 y0_).wf = true) ∧ (l0_2.length ≤ maxLen ∧ ∀ y0_ ∈ l0_2, (Lit.int .i64 y0_).wf = true)) → (True ∧ (l1_1.length ≤ maxLen ∧ ∀ y0_ ∈ l1_1, (Lit.int .i64 y0_).wf = true) ∧ (l1_2.length ≤ maxLen ∧ ∀ y0_ ∈ l1_2, (Lit.int .i64 y0_).wf = true)) → ∃ k, laws_FnExactMulRat.f k a0_0 l0_1 l0_2 a1_0 l1_1 l1_2 = some true

end Go.Proofs.Ytacdaijalkkogaa.Q
