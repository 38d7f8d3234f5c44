-- written by a program of this claim's session (myprint.py) out of the translation; Lean checks it.
import Derived.Test.YtacdaijalkkogaaQx0
import Derived.Test.YtacdaijalkkogaaSq
import Derived.Test.YtacdaijalkkogaaQxrlaw
import Derived.Test.YtacdaijalkkogaaQxAddRat
namespace Go.Proofs.Ytacdaijalkkogaa.Q
open Go.RowKit Go.Proofs.YtacdaijalkkogaaW.PrintWords Go.Proofs.YtacdaijalkkogaaW.PrintLast Go.Proofs.YtacdaijalkkogaaW.PrintMore
attribute [local go_sem] max2_int min2_int max_two min_two max_three min_three max_four min_four   -- for this text's walks alone
set_option linter.unusedVariables false
set_option linter.unusedSimpArgs false

mutual
def laws_FnExactAddRat.j0 : Nat → Int → Int → Bool → Bool → List Int → List Int → Bool → List Int → List Int → Bool → List Int → List Int → Bool → List Int → List Int → Bool → List Int → List Int → Bool → List Int → List Int → Option (Bool)
 | 0, _, _, _, _, _, _, _, _, _, _, _, _, _, _, _, _, _, _, _, _, _ => none
 | k + 1, x7, x11, x53, x921000, x921001, x921002, x922000, x922001, x922002, x947000, x947001, x947002, x955000, x955001, x955002, x963000, x963001, x963002, x972000, x972001, x972002 => if x53 = true then (some false) else ((laws_toRat.f k x921000 x921001 x921002).bind fun bt973 => ((laws_eqRat.f k x955000 x955001 x955002 bt973.1 bt973.2.1 bt973.2.2).bind fun t980 => (if t980 = true then ((laws_toRat.f k x922000 x922001 x922002).bind fun bt981 => ((laws_eqRat.f k x963000 x963001 x963002 bt981.1 bt981.2.1 bt981.2.2).bind fun t988 => (if t988 = true then ((laws_markRat.f k x955000 x955001 x955002 1).bind fun bt989 => ((laws_markRat.f k x963000 x963001 x963002 bt989.1).bind fun bt992 => (if bt992.1 < 0 then (laws_FnExactAddRat.j1 k x7 true x921000 x921001 x921002 x922000 x922001 x922002 x947000 x947001 x947002 x972000 x972001 x972002) else ((laws_eqRat.f k x972000 x972001 x972002 x947000 x947001 x947002).bind fun t995 => (if t995 = true then (laws_FnExactAddRat.j1 k x7 (x11 != x7) x921000 x921001 x921002 x922000 x922001 x922002 x947000 x947001 x947002 x972000 x972001 x972002) else (laws_FnExactAddRat.j1 k x7 true x921000 x921001 x921002 x922000 x922001 x922002 x947000 x947001 x947002 x972000 x972001 x972002)))))) else (some false)))) else (some false))))
def laws_FnExactAddRat.j1 : Nat → Int → Bool → Bool → List Int → List Int → Bool → List Int → List Int → Bool → List Int → List Int → Bool → List Int → List Int → Option (Bool)
 | 0, _, _, _, _, _, _, _, _, _, _, _, _, _, _ => none
 | k + 1, x7, x82, x921000, x921001, x921002, x922000, x922001, x922002, x947000, x947001, x947002, x972000, x972001, x972002 => if x82 = true then (some false) else ((laws_markRat.f k x972000 x972001 x972002 1).bind fun bt996 => ((laws_heldRat.f k x972000 bt996.2.1 bt996.2.2 1).bind fun t999 => (if t999 < 0 then (some false) else (if t999 = bt996.1 then ((laws_toRat.f k x921000 x921001 x921002).bind fun bt1000 => ((laws_toRat.f k x922000 x922001 x922002).bind fun bt1007 => ((impl_AddRat.f k bt1000.1 bt1000.2.1 bt1000.2.2 bt1007.1 bt1007.2.1 bt1007.2.2).bind fun bt1014 => ((laws_eqRat.f k bt1014.1 bt1014.2.1 bt1014.2.2.1 x947000 x947001 x947002).bind fun t1023 => (if t1023 = true then (laws_FnExactAddRat.j2 k bt996.1 (bt1014.2.2.2 != x7) x972000 bt996.2.1 bt996.2.2) else (laws_FnExactAddRat.j2 k bt996.1 true x972000 bt996.2.1 bt996.2.2)))))) else (some false)))))
def laws_FnExactAddRat.j2 : Nat → Int → Bool → Bool → List Int → List Int → Option (Bool)
 | 0, _, _, _, _, _ => none
 | k + 1, x13, x110, x972000, x972001, x972002 => if x110 = true then (some false) else ((laws_heldRat.f k x972000 x972001 x972002 1).bind fun t1024 => (if t1024 < 0 then (some false) else (if t1024 = x13 then (some true) else (some false))))
end
def laws_FnExactAddRat.f (k : Nat) (a0_0 : Bool) (l0_1 : List Int) (l0_2 : List Int) (a1_0 : Bool) (l1_1 : List Int) (l1_2 : List Int) : Option (Bool) := (laws_szRat.f a0_0 l0_1 l0_2 1048576).bind fun t922 => (if t922 < 0 then (some true) else ((laws_szRat.f a1_0 l1_1 l1_2 t922).bind fun t923 => (if t923 < 0 then (some true) else ((laws_toRat.f k a0_0 l0_1 l0_2).bind fun bt924 => ((laws_toRat.f k a1_0 l1_1 l1_2).bind fun bt931 => ((spec_AddRat.f k bt924.1 bt924.2.1 bt924.2.2 bt931.1 bt931.2.1 bt931.2.2).bind fun bt938 => ((laws_toRat.f k a0_0 l0_1 l0_2).bind fun bt947 => ((laws_toRat.f k a1_0 l1_1 l1_2).bind fun bt955 => ((impl_AddRat.f k bt947.1 bt947.2.1 bt947.2.2 bt955.1 bt955.2.1 bt955.2.2).bind fun bt963 => ((laws_eqRat.f k bt963.1 bt963.2.1 bt963.2.2.1 bt938.1 bt938.2.1 bt938.2.2.1).bind fun t972 => (if t972 = true then (laws_FnExactAddRat.j0 k bt938.2.2.2 bt963.2.2.2 (bt963.2.2.2 != bt938.2.2.2) a0_0 l0_1 l0_2 a1_0 l1_1 l1_2 bt938.1 bt938.2.1 bt938.2.2.1 bt947.1 bt947.2.1 bt947.2.2 bt955.1 bt955.2.1 bt955.2.2 bt963.1 bt963.2.1 bt963.2.2.1) else (laws_FnExactAddRat.j0 k bt938.2.2.2 bt963.2.2.2 true a0_0 l0_1 l0_2 a1_0 l1_1 l1_2 bt938.1 bt938.2.1 bt938.2.2.1 bt947.1 bt947.2.1 bt947.2.2 bt955.1 bt955.2.1 bt955.2.2 bt963.1 bt963.2.1 bt963.2.2.1))))))))))))
theorem laws_FnExactAddRat.mono_l : ∀ k, (∀ y0 y1 y2 y3 y4 y5 y6 y7 y8 y9 y10 y11 y12 y13 y14 y15 y16 y17 y18 y19 y20, LeO (laws_FnExactAddRat.j0 k y0 y1 y2 y3 y4 y5 y6 y7 y8 y9 y10 y11 y12 y13 y14 y15 y16 y17 y18 y19 y20) (laws_FnExactAddRat.j0 (k + 1) y0 y1 y2 y3 y4 y5 y6 y7 y8 y9 y10 y11 y12 y13 y14 y15 y16 y17 y18 y19 y20)) ∧ (∀ y0 y1 y2 y3 y4 y5 y6 y7 y8 y9 y10 y11 y12 y13, LeO (laws_FnExactAddRat.j1 k y0 y1 y2 y3 y4 y5 y6 y7 y8 y9 y10 y11 y12 y13) (laws_FnExactAddRat.j1 (k + 1) y0 y1 y2 y3 y4 y5 y6 y7 y8 y9 y10 y11 y12 y13)) ∧ (∀ y0 y1 y2 y3 y4, LeO (laws_FnExactAddRat.j2 k y0 y1 y2 y3 y4) (laws_FnExactAddRat.j2 (k + 1) y0 y1 y2 y3 y4))
 | 0 => ⟨fun _ _ _ _ _ _ _ _ _ _ _ _ _ _ _ _ _ _ _ _ _ r h => by simp [laws_FnExactAddRat.j0] at h, fun _ _ _ _ _ _ _ _ _ _ _ _ _ _ r h => by simp [laws_FnExactAddRat.j1] at h, fun _ _ _ _ _ r h => by simp [laws_FnExactAddRat.j2] at h⟩
 | k + 1 => by
  obtain ⟨ih0, ih1, ih2⟩ := laws_FnExactAddRat.mono_l k
  refine ⟨?_, ?_, ?_⟩
  ·
   intro y0 y1 y2 y3 y4 y5 y6 y7 y8 y9 y10 y11 y12 y13 y14 y15 y16 y17 y18 y19 y20
   unfold laws_FnExactAddRat.j0
   repeat' first
   | (with_reducible exact ih0 _ _ _ _ _ _ _ _ _ _ _ _ _ _ _ _ _ _ _ _ _)
   | (with_reducible exact ih1 _ _ _ _ _ _ _ _ _ _ _ _ _ _)
   | (with_reducible exact ih2 _ _ _ _ _)
   | (with_reducible exact impl_AddRat.mono _ _ _ _ _ _ _)
   | (with_reducible exact laws_eqRat.mono _ _ _ _ _ _ _)
   | (with_reducible exact laws_heldRat.mono _ _ _ _ _)
   | (with_reducible exact laws_markRat.mono _ _ _ _ _)
   | (with_reducible exact laws_toRat.mono _ _ _ _)
   | (with_reducible exact spec_AddRat.mono _ _ _ _ _ _ _)
   | (with_reducible exact LeO.refl _)
   | (with_reducible exact LeO.none _)
   | (with_reducible refine LeO.ite ?_ ?_)
   | (with_reducible refine LeO.bind ?_ (fun _ => ?_))
   | exact ih0 _ _ _ _ _ _ _ _ _ _ _ _ _ _ _ _ _ _ _ _ _
   | exact ih1 _ _ _ _ _ _ _ _ _ _ _ _ _ _
   | exact ih2 _ _ _ _ _
   | exact impl_AddRat.mono _ _ _ _ _ _ _
   | exact laws_eqRat.mono _ _ _ _ _ _ _
   | exact laws_heldRat.mono _ _ _ _ _
   | exact laws_markRat.mono _ _ _ _ _
   | exact laws_toRat.mono _ _ _ _
   | exact spec_AddRat.mono _ _ _ _ _ _ _
   | exact LeO.none _
   | refine LeO.ite ?_ ?_
   | refine LeO.bind ?_ (fun _ => ?_)
  ·
   intro y0 y1 y2 y3 y4 y5 y6 y7 y8 y9 y10 y11 y12 y13
   unfold laws_FnExactAddRat.j1
   repeat' first
   | (with_reducible exact ih0 _ _ _ _ _ _ _ _ _ _ _ _ _ _ _ _ _ _ _ _ _)
   | (with_reducible exact ih1 _ _ _ _ _ _ _ _ _ _ _ _ _ _)
   | (with_reducible exact ih2 _ _ _ _ _)
   | (with_reducible exact impl_AddRat.mono _ _ _ _ _ _ _)
   | (with_reducible exact laws_eqRat.mono _ _ _ _ _ _ _)
   | (with_reducible exact laws_heldRat.mono _ _ _ _ _)
   | (with_reducible exact laws_markRat.mono _ _ _ _ _)
   | (with_reducible exact laws_toRat.mono _ _ _ _)
   | (with_reducible exact spec_AddRat.mono _ _ _ _ _ _ _)
   | (with_reducible exact LeO.refl _)
   | (with_reducible exact LeO.none _)
   | (with_reducible refine LeO.ite ?_ ?_)
   | (with_reducible refine LeO.bind ?_ (fun _ => ?_))
   | exact ih0 _ _ _ _ _ _ _ _ _ _ _ _ _ _ _ _ _ _ _ _ _
   | exact ih1 _ _ _ _ _ _ _ _ _ _ _ _ _ _
   | exact ih2 _ _ _ _ _
   | exact impl_AddRat.mono _ _ _ _ _ _ _
   | exact laws_eqRat.mono _ _ _ _ _ _ _
   | exact laws_heldRat.mono _ _ _ _ _
   | exact laws_markRat.mono _ _ _ _ _
   | exact laws_toRat.mono _ _ _ _
   | exact spec_AddRat.mono _ _ _ _ _ _ _
   | exact LeO.none _
   | refine LeO.ite ?_ ?_
   | refine LeO.bind ?_ (fun _ => ?_)
  ·
   intro y0 y1 y2 y3 y4
   unfold laws_FnExactAddRat.j2
   repeat' first
   | (with_reducible exact ih0 _ _ _ _ _ _ _ _ _ _ _ _ _ _ _ _ _ _ _ _ _)
   | (with_reducible exact ih1 _ _ _ _ _ _ _ _ _ _ _ _ _ _)
   | (with_reducible exact ih2 _ _ _ _ _)
   | (with_reducible exact impl_AddRat.mono _ _ _ _ _ _ _)
   | (with_reducible exact laws_eqRat.mono _ _ _ _ _ _ _)
   | (with_reducible exact laws_heldRat.mono _ _ _ _ _)
   | (with_reducible exact laws_markRat.mono _ _ _ _ _)
   | (with_reducible exact laws_toRat.mono _ _ _ _)
   | (with_reducible exact spec_AddRat.mono _ _ _ _ _ _ _)
   | (with_reducible exact LeO.refl _)
   | (with_reducible exact LeO.none _)
   | (with_reducible refine LeO.ite ?_ ?_)
   | (with_reducible refine LeO.bind ?_ (fun _ => ?_))
   | exact ih0 _ _ _ _ _ _ _ _ _ _ _ _ _ _ _ _ _ _ _ _ _
   | exact ih1 _ _ _ _ _ _ _ _ _ _ _ _ _ _
   | exact ih2 _ _ _ _ _
   | exact impl_AddRat.mono _ _ _ _ _ _ _
   | exact laws_eqRat.mono _ _ _ _ _ _ _
   | exact laws_heldRat.mono _ _ _ _ _
   | exact laws_markRat.mono _ _ _ _ _
   | exact laws_toRat.mono _ _ _ _
   | exact spec_AddRat.mono _ _ _ _ _ _ _
   | exact LeO.none _
   | refine LeO.ite ?_ ?_
   | refine LeO.bind ?_ (fun _ => ?_)
theorem laws_FnExactAddRat.mono : ∀ a0 a1 a2 a3 a4 a5 k, LeO (laws_FnExactAddRat.f k a0 a1 a2 a3 a4 a5) (laws_FnExactAddRat.f (k + 1) a0 a1 a2 a3 a4 a5) := by
 intro a0 a1 a2 a3 a4 a5 k
 obtain ⟨ih0, ih1, ih2⟩ := laws_FnExactAddRat.mono_l k
 unfold laws_FnExactAddRat.f
 repeat' first
   | (with_reducible exact ih0 _ _ _ _ _ _ _ _ _ _ _ _ _ _ _ _ _ _ _ _ _)
   | (with_reducible exact ih1 _ _ _ _ _ _ _ _ _ _ _ _ _ _)
   | (with_reducible exact ih2 _ _ _ _ _)
   | (with_reducible exact impl_AddRat.mono _ _ _ _ _ _ _)
   | (with_reducible exact laws_eqRat.mono _ _ _ _ _ _ _)
   | (with_reducible exact laws_heldRat.mono _ _ _ _ _)
   | (with_reducible exact laws_markRat.mono _ _ _ _ _)
   | (with_reducible exact laws_toRat.mono _ _ _ _)
   | (with_reducible exact spec_AddRat.mono _ _ _ _ _ _ _)
   | (with_reducible exact LeO.refl _)
   | (with_reducible exact LeO.none _)
   | (with_reducible refine LeO.ite ?_ ?_)
   | (with_reducible refine LeO.bind ?_ (fun _ => ?_))
   | exact ih0 _ _ _ _ _ _ _ _ _ _ _ _ _ _ _ _ _ _ _ _ _
   | exact ih1 _ _ _ _ _ _ _ _ _ _ _ _ _ _
   | exact ih2 _ _ _ _ _
   | exact impl_AddRat.mono _ _ _ _ _ _ _
   | exact laws_eqRat.mono _ _ _ _ _ _ _
   | exact laws_heldRat.mono _ _ _ _ _
   | exact laws_markRat.mono _ _ _ _ _
   | exact laws_toRat.mono _ _ _ _
   | exact spec_AddRat.mono _ _ _ _ _ _ _
   | exact LeO.none _
   | refine LeO.ite ?_ ?_
   | refine LeO.bind ?_ (fun _ => ?_)
def laws_FnExactAddRat.T8 : Bool × List (List Nat × List Nat) := (true, [([], []), ([0], [0]), ([], []), ([2, 1], [2]), ([1, 3, 3], [1, 3]), ([4], [4]), ([5], [5]), ([5], [5]), ([], []), ([8, 6, 4, 0, 1, 2, 3, 4, 5, 6, 8], [6, 8]), ([7, 9, 0, 1, 2, 3, 4, 5, 6, 7, 8, 9], [7])])
def laws_FnExactAddRat.B8 : List Nat := [0, 1, 0, 7, 15, 31, 63, 63, 0, 383, 1023]
theorem laws_FnExactAddRat.tab8 : rtab .any (opsOf Try.f11 8) = laws_FnExactAddRat.T8 := by kernel_rfl
theorem laws_FnExactAddRat.bits8 : waitsOk laws_FnExactAddRat.T8.2 laws_FnExactAddRat.B8 = true := by kernel_rfl
def laws_FnExactAddRat.T31 : Bool × List (List Nat × List Nat) := (true, [([], []), ([0], [0]), ([], []), ([2, 1], [2]), ([1, 3, 3], [1, 3]), ([4], [4]), ([5], [5]), ([5], [5]), ([], []), ([8, 6, 4, 0, 1, 2, 3, 4, 5, 6, 8], [6, 8]), ([7, 9, 0, 1, 2, 3, 4, 5, 6, 7, 8, 9], [7])])
def laws_FnExactAddRat.B31 : List Nat := [0, 1, 0, 7, 15, 31, 63, 63, 0, 383, 1023]
theorem laws_FnExactAddRat.tab31 : rtab .any (opsOf Try.f11 31) = laws_FnExactAddRat.T31 := by kernel_rfl
theorem laws_FnExactAddRat.bits31 : waitsOk laws_FnExactAddRat.T31.2 laws_FnExactAddRat.B31 = true := by kernel_rfl
set_option maxHeartbeats 8000000 in
set_option maxRecDepth 100000 in
theorem laws_FnExactAddRat.calls (k : Nat) (a0_0 : Bool) (A0_1 : Option Addr) (c0_1 : Nat) (l0_1 : List Int) (A0_2 : Option Addr) (c0_2 : Nat) (l0_2 : List Int) (a1_0 : Bool) (A1_1 : Option Addr) (c1_1 : Nat) (l1_1 : List Int) (A1_2 : Option Addr) (c1_2 : Nat) (l1_2 : List Int) (r : Bool) (w : World) (hr0_1 : Kd.C (Kd.int .i64) w A0_1 l0_1.length l0_1) (hc0_1 : l0_1.length ≤ c0_1) (hr0_2 : Kd.C (Kd.int .i64) w A0_2 l0_2.length l0_2) (hc0_2 : l0_2.length ≤ c0_2) (hr1_1 : Kd.C (Kd.int .i64) w A1_1 l1_1.length l1_1) (hc1_1 : l1_1.length ≤ c1_1) (hr1_2 : Kd.C (Kd.int .i64) w A1_2 l1_2.length l1_2) (hc1_2 : l1_2.length ≤ c1_2) (h : laws_FnExactAddRat.f k a0_0 l0_1 l0_2 a1_0 l1_1 l1_2 = some r) (hr_ : r = true) :
  Calls Try.prog 11 #[.agg #[.bool a0_0, .slice A0_1 l0_1.length c0_1, .slice A0_2 l0_2.length c0_2], .agg #[.bool a1_0, .slice A1_1 l1_1.length c1_1, .slice A1_2 l1_2.length c1_2]] w fun e w' => e = .returned (.bool r) ∧ Below w.heap.size w w' := by
 have hu30 := Try.underlying30
 have hu24 := Try.underlying24
 have HR0_1 := Aside0.mk hr0_1
 have HC0_1 := Aside0.mk hc0_1
 clear hr0_1 hc0_1
 have HR0_2 := Aside0.mk hr0_2
 have HC0_2 := Aside0.mk hc0_2
 clear hr0_2 hc0_2
 have HR1_1 := Aside0.mk hr1_1
 have HC1_1 := Aside0.mk hc1_1
 clear hr1_1 hc1_1
 have HR1_2 := Aside0.mk hr1_2
 have HC1_2 := Aside0.mk hc1_2
 clear hr1_2 hc1_2
 have HB := Aside0.mk (Below.refl w.heap.size w)
 have H : ((laws_szRat.f a0_0 l0_1 l0_2 1048576).bind fun t922 => (if t922 < 0 then (some true) else ((laws_szRat.f a1_0 l1_1 l1_2 t922).bind fun t923 => (if t923 < 0 then (some true) else ((laws_toRat.f k a0_0 l0_1 l0_2).bind fun bt924 => ((laws_toRat.f k a1_0 l1_1 l1_2).bind fun bt931 => ((spec_AddRat.f k bt924.1 bt924.2.1 bt924.2.2 bt931.1 bt931.2.1 bt931.2.2).bind fun bt938 => ((laws_toRat.f k a0_0 l0_1 l0_2).bind fun bt947 => ((laws_toRat.f k a1_0 l1_1 l1_2).bind fun bt955 => ((impl_AddRat.f k bt947.1 bt947.2.1 bt947.2.2 bt955.1 bt955.2.1 bt955.2.2).bind fun bt963 => ((laws_eqRat.f k bt963.1 bt963.2.1 bt963.2.2.1 bt938.1 bt938.2.1 bt938.2.2.1).bind fun t972 => (if t972 = true then (laws_FnExactAddRat.j0 k bt938.2.2.2 bt963.2.2.2 (bt963.2.2.2 != bt938.2.2.2) a0_0 l0_1 l0_2 a1_0 l1_1 l1_2 bt938.1 bt938.2.1 bt938.2.2.1 bt947.1 bt947.2.1 bt947.2.2 bt955.1 bt955.2.1 bt955.2.2 bt963.1 bt963.2.1 bt963.2.2.1) else (laws_FnExactAddRat.j0 k bt938.2.2.2 bt963.2.2.2 true a0_0 l0_1 l0_2 a1_0 l1_1 l1_2 bt938.1 bt938.2.1 bt938.2.2.1 bt947.1 bt947.2.1 bt947.2.2 bt955.1 bt955.2.1 bt955.2.2 bt963.1 bt963.2.1 bt963.2.2.1))))))))))))) = some r := h
 clear h
 replace H := Option.bind_eq_some_iff.mp H
 obtain ⟨t922, A30, H⟩ := H
 replace H : (if t922 < 0 then (some true) else ((laws_szRat.f a1_0 l1_1 l1_2 t922).bind fun t923 => (if t923 < 0 then (some true) else ((laws_toRat.f k a0_0 l0_1 l0_2).bind fun bt924 => ((laws_toRat.f k a1_0 l1_1 l1_2).bind fun bt931 => ((spec_AddRat.f k bt924.1 bt924.2.1 bt924.2.2 bt931.1 bt931.2.1 bt931.2.2).bind fun bt938 => ((laws_toRat.f k a0_0 l0_1 l0_2).bind fun bt947 => ((laws_toRat.f k a1_0 l1_1 l1_2).bind fun bt955 => ((impl_AddRat.f k bt947.1 bt947.2.1 bt947.2.2 bt955.1 bt955.2.1 bt955.2.2).bind fun bt963 => ((laws_eqRat.f k bt963.1 bt963.2.1 bt963.2.2.1 bt938.1 bt938.2.1 bt938.2.2.1).bind fun t972 => (if t972 = true then (laws_FnExactAddRat.j0 k bt938.2.2.2 bt963.2.2.2 (bt963.2.2.2 != bt938.2.2.2) a0_0 l0_1 l0_2 a1_0 l1_1 l1_2 bt938.1 bt938.2.1 bt938.2.2.1 bt947.1 bt947.2.1 bt947.2.2 bt955.1 bt955.2.1 bt955.2.2 bt963.1 bt963.2.1 bt963.2.2.1) else (laws_FnExactAddRat.j0 k bt938.2.2.2 bt963.2.2.2 true a0_0 l0_1 l0_2 a1_0 l1_1 l1_2 bt938.1 bt938.2.1 bt938.2.2.1 bt947.1 bt947.2.1 bt947.2.2 bt955.1 bt955.2.1 bt955.2.2 bt963.1 bt963.2.1 bt963.2.2.1)))))))))))) = some r := H
 have A3 := Aside0.mk A30
 clear A30
 by_cases c4 : t922 < 0
 ·
  rw [if_pos c4] at H
  have c4b0 : decide (t922 < 0) = true := decide_eq_true c4
  clear c4
  obtain rfl := Option.some.inj H
  go_enter Try.func11, Try.ntmps11
  go_wp2_with (first | ((with_reducible refine gate_dst (N := 2) rfl ?_); refine bx_ (N := 2) (cs := #[.bool a0_0, .slice A0_1 l0_1.length c0_1, .slice A0_2 l0_2.length c0_2]) (t := 30) ?_; intro gb920 hg w5 hbox hb; have BK920 := Aside0.mk (hbox); have GW920 := geh hg HB; have GE920 := geh hg HB; replace HB := bst HB hb; clear hb hbox hg) | ((with_reducible refine gate_dst (N := 3) rfl ?_); refine bx_ (N := 3) (cs := #[.bool a1_0, .slice A1_1 l1_1.length c1_1, .slice A1_2 l1_2.length c1_2]) (t := 30) ?_; intro gb921 hg w6 hbox hb; have BK921 := Aside0.mk (hbox); have GW921 := geh hg HB; have GE921 := geh hg HB; replace HB := bst HB hb; have NB920_921 := nlt hg BK920; have NB921_920 := ngt hg BK920; replace BK920 := bkb BK920 hb; clear hb hbox hg; have hnb7 := NB920_921.out; have hnc7 := NB921_920.out; obtain ⟨hcz8_0, hcz8_1, hcz8_2, hfz8_0, hfz8_1, hfz8_2⟩ := bc3 BK920) | ((with_reducible refine gate_callee (f := 20) rfl ?_); refine gL_ (some 19) Try.func20 #[.agg #[.bool a0_0, .slice A0_1 l0_1.length c0_1, .slice A0_2 l0_2.length c0_2], .int .i64 1048576] ?_; (with_reducible refine (laws_szRat.calls a0_0 _ _ l0_1 _ _ l0_2 1048576 t922 _ ?side1 ?side2 ?side3 ?side4 A3.out).mono ?_); (case side1 => exact crC (Kd.C_below HR0_1.out HB.out)); (case side2 => exact HC0_1.out); (case side3 => exact crC (Kd.C_below HR0_2.out HB.out)); (case side4 => exact HC0_2.out); rintro e w9 ⟨rfl, hb⟩; refine ⟨_, rfl, ?_⟩; replace BK920 := bkb BK920 hb; replace BK921 := bkb BK921 hb; replace HB := bst HB hb; (try clear hb); (try clear hb2); (try clear hk); (try clear hi)))
  go_ret
  exact ⟨er_, blw HB⟩
 ·
  rw [if_neg c4] at H
  have c4b0 : decide (t922 < 0) = false := decide_eq_false c4
  clear c4
  replace H := Option.bind_eq_some_iff.mp H
  obtain ⟨t923, A100, H⟩ := H
  replace H : (if t923 < 0 then (some true) else ((laws_toRat.f k a0_0 l0_1 l0_2).bind fun bt924 => ((laws_toRat.f k a1_0 l1_1 l1_2).bind fun bt931 => ((spec_AddRat.f k bt924.1 bt924.2.1 bt924.2.2 bt931.1 bt931.2.1 bt931.2.2).bind fun bt938 => ((laws_toRat.f k a0_0 l0_1 l0_2).bind fun bt947 => ((laws_toRat.f k a1_0 l1_1 l1_2).bind fun bt955 => ((impl_AddRat.f k bt947.1 bt947.2.1 bt947.2.2 bt955.1 bt955.2.1 bt955.2.2).bind fun bt963 => ((laws_eqRat.f k bt963.1 bt963.2.1 bt963.2.2.1 bt938.1 bt938.2.1 bt938.2.2.1).bind fun t972 => (if t972 = true then (laws_FnExactAddRat.j0 k bt938.2.2.2 bt963.2.2.2 (bt963.2.2.2 != bt938.2.2.2) a0_0 l0_1 l0_2 a1_0 l1_1 l1_2 bt938.1 bt938.2.1 bt938.2.2.1 bt947.1 bt947.2.1 bt947.2.2 bt955.1 bt955.2.1 bt955.2.2 bt963.1 bt963.2.1 bt963.2.2.1) else (laws_FnExactAddRat.j0 k bt938.2.2.2 bt963.2.2.2 true a0_0 l0_1 l0_2 a1_0 l1_1 l1_2 bt938.1 bt938.2.1 bt938.2.2.1 bt947.1 bt947.2.1 bt947.2.2 bt955.1 bt955.2.1 bt955.2.2 bt963.1 bt963.2.1 bt963.2.2.1)))))))))) = some r := H
  have A10 := Aside0.mk A100
  clear A100
  by_cases c11 : t923 < 0
  ·
   rw [if_pos c11] at H
   have c11b0 : decide (t923 < 0) = true := decide_eq_true c11
   clear c11
   obtain rfl := Option.some.inj H
   go_enter Try.func11, Try.ntmps11
   go_wp2_with (first | ((with_reducible refine gate_dst (N := 2) rfl ?_); refine bx_ (N := 2) (cs := #[.bool a0_0, .slice A0_1 l0_1.length c0_1, .slice A0_2 l0_2.length c0_2]) (t := 30) ?_; intro gb920 hg w12 hbox hb; have BK920 := Aside0.mk (hbox); have GW920 := geh hg HB; have GE920 := geh hg HB; replace HB := bst HB hb; clear hb hbox hg) | ((with_reducible refine gate_dst (N := 3) rfl ?_); refine bx_ (N := 3) (cs := #[.bool a1_0, .slice A1_1 l1_1.length c1_1, .slice A1_2 l1_2.length c1_2]) (t := 30) ?_; intro gb921 hg w13 hbox hb; have BK921 := Aside0.mk (hbox); have GW921 := geh hg HB; have GE921 := geh hg HB; replace HB := bst HB hb; have NB920_921 := nlt hg BK920; have NB921_920 := ngt hg BK920; replace BK920 := bkb BK920 hb; clear hb hbox hg; have hnb14 := NB920_921.out; have hnc14 := NB921_920.out; obtain ⟨hcz15_0, hcz15_1, hcz15_2, hfz15_0, hfz15_1, hfz15_2⟩ := bc3 BK920) | ((with_reducible refine gate_callee (f := 20) rfl ?_); refine gL_ (some 19) Try.func20 #[.agg #[.bool a0_0, .slice A0_1 l0_1.length c0_1, .slice A0_2 l0_2.length c0_2], .int .i64 1048576] ?_; (with_reducible refine (laws_szRat.calls a0_0 _ _ l0_1 _ _ l0_2 1048576 t922 _ ?side1 ?side2 ?side3 ?side4 A3.out).mono ?_); (case side1 => exact crC (Kd.C_below HR0_1.out HB.out)); (case side2 => exact HC0_1.out); (case side3 => exact crC (Kd.C_below HR0_2.out HB.out)); (case side4 => exact HC0_2.out); rintro e w16 ⟨rfl, hb⟩; refine ⟨_, rfl, ?_⟩; replace BK920 := bkb BK920 hb; replace BK921 := bkb BK921 hb; replace HB := bst HB hb; (try clear hb); (try clear hb2); (try clear hk); (try clear hi); obtain ⟨hcz17_0, hcz17_1, hcz17_2, hfz17_0, hfz17_1, hfz17_2⟩ := bc3 BK921) | ((with_reducible refine gate_callee (f := 20) rfl ?_); refine gL_ (some 24) Try.func20 #[.agg #[.bool a1_0, .slice A1_1 l1_1.length c1_1, .slice A1_2 l1_2.length c1_2], .int .i64 t922] ?_; (with_reducible refine (laws_szRat.calls a1_0 _ _ l1_1 _ _ l1_2 t922 t923 _ ?side1 ?side2 ?side3 ?side4 A10.out).mono ?_); (case side1 => exact crC (Kd.C_below HR1_1.out HB.out)); (case side2 => exact HC1_1.out); (case side3 => exact crC (Kd.C_below HR1_2.out HB.out)); (case side4 => exact HC1_2.out); rintro e w18 ⟨rfl, hb⟩; refine ⟨_, rfl, ?_⟩; replace BK920 := bkb BK920 hb; replace BK921 := bkb BK921 hb; replace HB := bst HB hb; (try clear hb); (try clear hb2); (try clear hk); (try clear hi)))
   go_ret
   exact ⟨er_, blw HB⟩
  ·
   rw [if_neg c11] at H
   have c11b0 : decide (t923 < 0) = false := decide_eq_false c11
   clear c11
   replace H := Option.bind_eq_some_iff.mp H
   obtain ⟨⟨t924, t925, t928⟩, A190, H⟩ := H
   replace H : ((laws_toRat.f k a1_0 l1_1 l1_2).bind fun bt931 => ((spec_AddRat.f k t924 t925 t928 bt931.1 bt931.2.1 bt931.2.2).bind fun bt938 => ((laws_toRat.f k a0_0 l0_1 l0_2).bind fun bt947 => ((laws_toRat.f k a1_0 l1_1 l1_2).bind fun bt955 => ((impl_AddRat.f k bt947.1 bt947.2.1 bt947.2.2 bt955.1 bt955.2.1 bt955.2.2).bind fun bt963 => ((laws_eqRat.f k bt963.1 bt963.2.1 bt963.2.2.1 bt938.1 bt938.2.1 bt938.2.2.1).bind fun t972 => (if t972 = true then (laws_FnExactAddRat.j0 k bt938.2.2.2 bt963.2.2.2 (bt963.2.2.2 != bt938.2.2.2) a0_0 l0_1 l0_2 a1_0 l1_1 l1_2 bt938.1 bt938.2.1 bt938.2.2.1 bt947.1 bt947.2.1 bt947.2.2 bt955.1 bt955.2.1 bt955.2.2 bt963.1 bt963.2.1 bt963.2.2.1) else (laws_FnExactAddRat.j0 k bt938.2.2.2 bt963.2.2.2 true a0_0 l0_1 l0_2 a1_0 l1_1 l1_2 bt938.1 bt938.2.1 bt938.2.2.1 bt947.1 bt947.2.1 bt947.2.2 bt955.1 bt955.2.1 bt955.2.2 bt963.1 bt963.2.1 bt963.2.2.1)))))))) = some r := H
   have A19 := Aside0.mk A190
   clear A190
   replace H := Option.bind_eq_some_iff.mp H
   obtain ⟨⟨t931, t932, t935⟩, A200, H⟩ := H
   replace H : ((spec_AddRat.f k t924 t925 t928 t931 t932 t935).bind fun bt938 => ((laws_toRat.f k a0_0 l0_1 l0_2).bind fun bt947 => ((laws_toRat.f k a1_0 l1_1 l1_2).bind fun bt955 => ((impl_AddRat.f k bt947.1 bt947.2.1 bt947.2.2 bt955.1 bt955.2.1 bt955.2.2).bind fun bt963 => ((laws_eqRat.f k bt963.1 bt963.2.1 bt963.2.2.1 bt938.1 bt938.2.1 bt938.2.2.1).bind fun t972 => (if t972 = true then (laws_FnExactAddRat.j0 k bt938.2.2.2 bt963.2.2.2 (bt963.2.2.2 != bt938.2.2.2) a0_0 l0_1 l0_2 a1_0 l1_1 l1_2 bt938.1 bt938.2.1 bt938.2.2.1 bt947.1 bt947.2.1 bt947.2.2 bt955.1 bt955.2.1 bt955.2.2 bt963.1 bt963.2.1 bt963.2.2.1) else (laws_FnExactAddRat.j0 k bt938.2.2.2 bt963.2.2.2 true a0_0 l0_1 l0_2 a1_0 l1_1 l1_2 bt938.1 bt938.2.1 bt938.2.2.1 bt947.1 bt947.2.1 bt947.2.2 bt955.1 bt955.2.1 bt955.2.2 bt963.1 bt963.2.1 bt963.2.2.1))))))) = some r := H
   have A20 := Aside0.mk A200
   clear A200
   replace H := Option.bind_eq_some_iff.mp H
   obtain ⟨⟨t938, t939, t942, t945⟩, A210, H⟩ := H
   replace H : ((laws_toRat.f k a0_0 l0_1 l0_2).bind fun bt947 => ((laws_toRat.f k a1_0 l1_1 l1_2).bind fun bt955 => ((impl_AddRat.f k bt947.1 bt947.2.1 bt947.2.2 bt955.1 bt955.2.1 bt955.2.2).bind fun bt963 => ((laws_eqRat.f k bt963.1 bt963.2.1 bt963.2.2.1 t938 t939 t942).bind fun t972 => (if t972 = true then (laws_FnExactAddRat.j0 k t945 bt963.2.2.2 (bt963.2.2.2 != t945) a0_0 l0_1 l0_2 a1_0 l1_1 l1_2 t938 t939 t942 bt947.1 bt947.2.1 bt947.2.2 bt955.1 bt955.2.1 bt955.2.2 bt963.1 bt963.2.1 bt963.2.2.1) else (laws_FnExactAddRat.j0 k t945 bt963.2.2.2 true a0_0 l0_1 l0_2 a1_0 l1_1 l1_2 t938 t939 t942 bt947.1 bt947.2.1 bt947.2.2 bt955.1 bt955.2.1 bt955.2.2 bt963.1 bt963.2.1 bt963.2.2.1)))))) = some r := H
   have A21 := Aside0.mk A210
   clear A210
   replace H := Option.bind_eq_some_iff.mp H
   obtain ⟨⟨t947, t948, t951⟩, A220, H⟩ := H
   replace H : ((laws_toRat.f k a1_0 l1_1 l1_2).bind fun bt955 => ((impl_AddRat.f k t947 t948 t951 bt955.1 bt955.2.1 bt955.2.2).bind fun bt963 => ((laws_eqRat.f k bt963.1 bt963.2.1 bt963.2.2.1 t938 t939 t942).bind fun t972 => (if t972 = true then (laws_FnExactAddRat.j0 k t945 bt963.2.2.2 (bt963.2.2.2 != t945) a0_0 l0_1 l0_2 a1_0 l1_1 l1_2 t938 t939 t942 t947 t948 t951 bt955.1 bt955.2.1 bt955.2.2 bt963.1 bt963.2.1 bt963.2.2.1) else (laws_FnExactAddRat.j0 k t945 bt963.2.2.2 true a0_0 l0_1 l0_2 a1_0 l1_1 l1_2 t938 t939 t942 t947 t948 t951 bt955.1 bt955.2.1 bt955.2.2 bt963.1 bt963.2.1 bt963.2.2.1))))) = some r := H
   have A22 := Aside0.mk A220
   clear A220
   replace H := Option.bind_eq_some_iff.mp H
   obtain ⟨⟨t955, t956, t959⟩, A230, H⟩ := H
   replace H : ((impl_AddRat.f k t947 t948 t951 t955 t956 t959).bind fun bt963 => ((laws_eqRat.f k bt963.1 bt963.2.1 bt963.2.2.1 t938 t939 t942).bind fun t972 => (if t972 = true then (laws_FnExactAddRat.j0 k t945 bt963.2.2.2 (bt963.2.2.2 != t945) a0_0 l0_1 l0_2 a1_0 l1_1 l1_2 t938 t939 t942 t947 t948 t951 t955 t956 t959 bt963.1 bt963.2.1 bt963.2.2.1) else (laws_FnExactAddRat.j0 k t945 bt963.2.2.2 true a0_0 l0_1 l0_2 a1_0 l1_1 l1_2 t938 t939 t942 t947 t948 t951 t955 t956 t959 bt963.1 bt963.2.1 bt963.2.2.1)))) = some r := H
   have A23 := Aside0.mk A230
   clear A230
   replace H := Option.bind_eq_some_iff.mp H
   obtain ⟨⟨t963, t964, t967, t970⟩, A240, H⟩ := H
   replace H : ((laws_eqRat.f k t963 t964 t967 t938 t939 t942).bind fun t972 => (if t972 = true then (laws_FnExactAddRat.j0 k t945 t970 (t970 != t945) a0_0 l0_1 l0_2 a1_0 l1_1 l1_2 t938 t939 t942 t947 t948 t951 t955 t956 t959 t963 t964 t967) else (laws_FnExactAddRat.j0 k t945 t970 true a0_0 l0_1 l0_2 a1_0 l1_1 l1_2 t938 t939 t942 t947 t948 t951 t955 t956 t959 t963 t964 t967))) = some r := H
   have A24 := Aside0.mk A240
   clear A240
   have HC25 := Aside0.mk H
   clear H
   go_enter Try.func11, Try.ntmps11
   try go_wp2_with (first | ((with_reducible refine gate_dst (N := 2) rfl ?_); refine bx_ (N := 2) (cs := #[.bool a0_0, .slice A0_1 l0_1.length c0_1, .slice A0_2 l0_2.length c0_2]) (t := 30) ?_; intro gb920 hg w26 hbox hb; have BK920 := Aside0.mk (hbox); have GW920 := geh hg HB; have GE920 := geh hg HB; replace HB := bst HB hb; clear hb hbox hg) | ((with_reducible refine gate_dst (N := 3) rfl ?_); refine bx_ (N := 3) (cs := #[.bool a1_0, .slice A1_1 l1_1.length c1_1, .slice A1_2 l1_2.length c1_2]) (t := 30) ?_; intro gb921 hg w27 hbox hb; have BK921 := Aside0.mk (hbox); have GW921 := geh hg HB; have GE921 := geh hg HB; replace HB := bst HB hb; have NB920_921 := nlt hg BK920; have NB921_920 := ngt hg BK920; replace BK920 := bkb BK920 hb; clear hb hbox hg; have hnb28 := NB920_921.out; have hnc28 := NB921_920.out; obtain ⟨hcz29_0, hcz29_1, hcz29_2, hfz29_0, hfz29_1, hfz29_2⟩ := bc3 BK920) | ((with_reducible refine gate_callee (f := 20) rfl ?_); refine gL_ (some 19) Try.func20 #[.agg #[.bool a0_0, .slice A0_1 l0_1.length c0_1, .slice A0_2 l0_2.length c0_2], .int .i64 1048576] ?_; (with_reducible refine (laws_szRat.calls a0_0 _ _ l0_1 _ _ l0_2 1048576 t922 _ ?side1 ?side2 ?side3 ?side4 A3.out).mono ?_); (case side1 => exact crC (Kd.C_below HR0_1.out HB.out)); (case side2 => exact HC0_1.out); (case side3 => exact crC (Kd.C_below HR0_2.out HB.out)); (case side4 => exact HC0_2.out); rintro e w30 ⟨rfl, hb⟩; refine ⟨_, rfl, ?_⟩; replace BK920 := bkb BK920 hb; replace BK921 := bkb BK921 hb; replace HB := bst HB hb; (try clear hb); (try clear hb2); (try clear hk); (try clear hi); obtain ⟨hcz31_0, hcz31_1, hcz31_2, hfz31_0, hfz31_1, hfz31_2⟩ := bc3 BK921) | ((with_reducible refine gate_callee (f := 20) rfl ?_); refine gL_ (some 24) Try.func20 #[.agg #[.bool a1_0, .slice A1_1 l1_1.length c1_1, .slice A1_2 l1_2.length c1_2], .int .i64 t922] ?_; (with_reducible refine (laws_szRat.calls a1_0 _ _ l1_1 _ _ l1_2 t922 t923 _ ?side1 ?side2 ?side3 ?side4 A10.out).mono ?_); (case side1 => exact crC (Kd.C_below HR1_1.out HB.out)); (case side2 => exact HC1_1.out); (case side3 => exact crC (Kd.C_below HR1_2.out HB.out)); (case side4 => exact HC1_2.out); rintro e w32 ⟨rfl, hb⟩; refine ⟨_, rfl, ?_⟩; replace BK920 := bkb BK920 hb; replace BK921 := bkb BK921 hb; replace HB := bst HB hb; (try clear hb); (try clear hb2); (try clear hk); (try clear hi)))
   replace BK920 := Aside0.mk (blk_drew BK920.out)
   replace BK921 := Aside0.mk (blk_drew BK921.out)
   replace HB := Aside0.mk (below_drew1 HB.out)
   refine start_ (n := 11) (S := fun w' => w'.cell? ⟨gb920, 0, none⟩ = some (.bool a0_0) ∧ w'.cell? ⟨gb920, 1, none⟩ = some (.slice A0_1 l0_1.length c0_1) ∧ w'.cell? ⟨gb920, 2, none⟩ = some (.slice A0_2 l0_2.length c0_2) ∧ w'.cell? ⟨gb921, 0, none⟩ = some (.bool a1_0) ∧ w'.cell? ⟨gb921, 1, none⟩ = some (.slice A1_1 l1_1.length c1_1) ∧ w'.cell? ⟨gb921, 2, none⟩ = some (.slice A1_2 l1_2.length c1_2)) (ds := []) (bm 11 0) (by kernel_rfl) rfl rfl ⟨bce BK920 0 _, bce BK920 1 _, bce BK920 2 _, bce BK921 0 _, bce BK921 1 _, bce BK921 2 _⟩ (fun hHeld => ?_); refine with_tabW laws_FnExactAddRat.tab8 laws_FnExactAddRat.bits8 (fun HT_ HW_ => ?_)
   generalize w32.drew = w33 at BK920 BK921 HB hHeld ⊢
   refine tk_ 0 (some 28) (bm 11 1) HT_.out HW_.out hHeld ?_
   refine tk_ 2 (some 30) (bm 11 5) HT_.out HW_.out hHeld ?_
   refine join_ (σ := Value × Value × Value × Value × Value × Value × Nat) 2 (bm 11 511) (fun s_ => [(29, .agg #[.bool t924, s_.1, s_.2.1]), (31, .agg #[.bool t931, s_.2.2.1, s_.2.2.2.1]), (32, .tuple #[.agg #[.bool t938, s_.2.2.2.2.1, s_.2.2.2.2.2.1], .int .i64 t945]), (6, .pointer (some ⟨s_.2.2.2.2.2.2, 0, none⟩)), (27, .tuple #[.agg #[.bool t938, s_.2.2.2.2.1, s_.2.2.2.2.2.1], .int .i64 t945]), (33, .agg #[.bool t938, s_.2.2.2.2.1, s_.2.2.2.2.2.1]), (34, .int .i64 t945)]) (fun s_ w' => (w'.cell? ⟨gb920, 0, none⟩ = some (.bool a0_0) ∧ w'.cell? ⟨gb920, 1, none⟩ = some (.slice A0_1 l0_1.length c0_1) ∧ w'.cell? ⟨gb920, 2, none⟩ = some (.slice A0_2 l0_2.length c0_2) ∧ w'.cell? ⟨gb921, 0, none⟩ = some (.bool a1_0) ∧ w'.cell? ⟨gb921, 1, none⟩ = some (.slice A1_1 l1_1.length c1_1) ∧ w'.cell? ⟨gb921, 2, none⟩ = some (.slice A1_2 l1_2.length c1_2)) ∧ (Kd.R (Kd.int .i64) 3 w' w.heap.size (fun k_ => nO k_ s_.2.1 ∧ nO k_ s_.2.2.1 ∧ nO k_ s_.2.2.2.1 ∧ nO k_ s_.2.2.2.2.1 ∧ nO k_ s_.2.2.2.2.2.1) s_.1 t925) ∧ (Kd.R (Kd.int .i64) 3 w' w.heap.size (fun k_ => nO k_ s_.1 ∧ nO k_ s_.2.2.1 ∧ nO k_ s_.2.2.2.1 ∧ nO k_ s_.2.2.2.2.1 ∧ nO k_ s_.2.2.2.2.2.1) s_.2.1 t928) ∧ (Kd.R (Kd.int .i64) 3 w' w.heap.size (fun k_ => nO k_ s_.1 ∧ nO k_ s_.2.1 ∧ nO k_ s_.2.2.2.1 ∧ nO k_ s_.2.2.2.2.1 ∧ nO k_ s_.2.2.2.2.2.1) s_.2.2.1 t932) ∧ (Kd.R (Kd.int .i64) 3 w' w.heap.size (fun k_ => nO k_ s_.1 ∧ nO k_ s_.2.1 ∧ nO k_ s_.2.2.1 ∧ nO k_ s_.2.2.2.2.1 ∧ nO k_ s_.2.2.2.2.2.1) s_.2.2.2.1 t935) ∧ (Kd.R (Kd.int .i64) 3 w' w.heap.size (fun k_ => nO k_ s_.1 ∧ nO k_ s_.2.1 ∧ nO k_ s_.2.2.1 ∧ nO k_ s_.2.2.2.1 ∧ nO k_ s_.2.2.2.2.2.1) s_.2.2.2.2.1 t939) ∧ (Kd.R (Kd.int .i64) 3 w' w.heap.size (fun k_ => nO k_ s_.1 ∧ nO k_ s_.2.1 ∧ nO k_ s_.2.2.1 ∧ nO k_ s_.2.2.2.1 ∧ nO k_ s_.2.2.2.2.1) s_.2.2.2.2.2.1 t942) ∧ (w'.heap[gb920]? = some (.cells #[.bool a0_0, .slice A0_1 l0_1.length c0_1, .slice A0_2 l0_2.length c0_2] 30 (0, 0))) ∧ (w'.heap[gb921]? = some (.cells #[.bool a1_0, .slice A1_1 l1_1.length c1_1, .slice A1_2 l1_2.length c1_2] 30 (0, 0))) ∧ (w'.heap[s_.2.2.2.2.2.2]? = some (.cells #[.bool false, .slice none 0 0, .slice none 0 0] 24 (0, 0))) ∧ (w.heap.size ≤ s_.2.2.2.2.2.2) ∧ (w.heap.size ≤ s_.2.2.2.2.2.2) ∧ (gb920 ≠ s_.2.2.2.2.2.2) ∧ (s_.2.2.2.2.2.2 ≠ gb920) ∧ (gb921 ≠ s_.2.2.2.2.2.2) ∧ (s_.2.2.2.2.2.2 ≠ gb921) ∧ (Below w.heap.size w w')) ?_ ?_
   rotate_left
   ·
    intro hCont
    refine two_ (i := 1) (j := 8) (Ni := some 29) (Nj := some 6) (bm 11 7) (bm 11 261) rfl rfl rfl rfl (two_of HT_.out (by kernel_rfl)) (by decide) (by decide) (fun K hK => ?_) (fun K hK => ?_)
    ·
     skip
     refine g_ Try.func22 #[.agg #[.bool a0_0, .slice A0_1 l0_1.length c0_1, .slice A0_2 l0_2.length c0_2]] ?_
     with_reducible refine (laws_toRat.calls k a0_0 _ _ l0_1 _ _ l0_2 t924 t925 t928 _ ?side1 ?side2 ?side3 ?side4 A19.out).mono ?_
     (case side1 => exact crC (Kd.C_below HR0_1.out HB.out))
     (case side2 => exact HC0_1.out)
     (case side3 => exact crC (Kd.C_below HR0_2.out HB.out))
     (case side4 => exact HC0_2.out)
     rintro e w34 ⟨v926, v929, rfl, ho0, ho1, hb⟩
     refine ⟨_, rfl, ?_⟩
     have HO927 := lwR ho0 HB
     have HO930 := lwR ho1 HB
     replace BK920 := bkb BK920 hb
     replace BK921 := bkb BK921 hb
     replace HB := bst HB hb
     (try clear hb)
     (try clear hb2)
     (try clear hk)
     (try clear hi)
     (try clear ho0)
     (try clear ho1)
     refine hK.out _ _ ⟨bce BK920 0 _, bce BK920 1 _, bce BK920 2 _, bce BK921 0 _, bce BK921 1 _, bce BK921 2 _⟩ (fun hHeld => ?_)
     clear hK K
     refine nm_ 29 ?_
     refine two_ (i := 3) (j := 8) (Ni := some 31) (Nj := some 6) (bm 11 15) (bm 11 263) rfl rfl rfl rfl (two_of HT_.out (by kernel_rfl)) (by decide) (by decide) (fun K hK => ?_) (fun K hK => ?_)
     ·
      skip
      refine g_ Try.func22 #[.agg #[.bool a1_0, .slice A1_1 l1_1.length c1_1, .slice A1_2 l1_2.length c1_2]] ?_
      with_reducible refine (laws_toRat.calls k a1_0 _ _ l1_1 _ _ l1_2 t931 t932 t935 _ ?side1 ?side2 ?side3 ?side4 A20.out).mono ?_
      (case side1 => exact crC (Kd.C_below HR1_1.out HB.out))
      (case side2 => exact HC1_1.out)
      (case side3 => exact crC (Kd.C_below HR1_2.out HB.out))
      (case side4 => exact HC1_2.out)
      rintro e w35 ⟨v933, v936, rfl, ho0, ho1, hb⟩
      refine ⟨_, rfl, ?_⟩
      have HO934 := lwR (nwR (nwR ho0 HO927) HO930) HB
      have HO937 := lwR (nwR (nwR ho1 HO927) HO930) HB
      replace HO927 := tldR HO927 hb (Kd.R_base ho0) (Kd.R_base ho1)
      replace HO930 := tldR HO930 hb (Kd.R_base ho0) (Kd.R_base ho1)
      replace BK920 := bkb BK920 hb
      replace BK921 := bkb BK921 hb
      replace HB := bst HB hb
      (try clear hb)
      (try clear hb2)
      (try clear hk)
      (try clear hi)
      (try clear ho0)
      (try clear ho1)
      obtain ⟨Ao36, co36, eo36⟩ := Kd.R_slice HO927.out
      (first | subst eo36 | (injection eo36 with f1_ f2_ f3_; have f4_ := f1_.symm; have f5_ := f3_.symm; clear f1_ f2_ f3_; subst f4_; subst f5_))
      obtain ⟨Ao37, co37, eo37⟩ := Kd.R_slice HO930.out
      (first | subst eo37 | (injection eo37 with f1_ f2_ f3_; have f4_ := f1_.symm; have f5_ := f3_.symm; clear f1_ f2_ f3_; subst f4_; subst f5_))
      obtain ⟨Ao38, co38, eo38⟩ := Kd.R_slice HO934.out
      (first | subst eo38 | (injection eo38 with f1_ f2_ f3_; have f4_ := f1_.symm; have f5_ := f3_.symm; clear f1_ f2_ f3_; subst f4_; subst f5_))
      obtain ⟨Ao39, co39, eo39⟩ := Kd.R_slice HO937.out
      (first | subst eo39 | (injection eo39 with f1_ f2_ f3_; have f4_ := f1_.symm; have f5_ := f3_.symm; clear f1_ f2_ f3_; subst f4_; subst f5_))
      refine hK.out _ _ ⟨bce BK920 0 _, bce BK920 1 _, bce BK920 2 _, bce BK921 0 _, bce BK921 1 _, bce BK921 2 _⟩ (fun hHeld => ?_)
      clear hK K
      refine nm_ 31 ?_
      refine two_ (i := 4) (j := 8) (Ni := some 32) (Nj := some 6) (bm 11 31) (bm 11 271) rfl rfl rfl rfl (two_of HT_.out (by kernel_rfl)) (by decide) (by decide) (fun K hK => ?_) (fun K hK => ?_)
      ·
       skip
       refine g_ Try.func36 #[.agg #[.bool t924, .slice Ao36 t925.length co36, .slice Ao37 t928.length co37], .agg #[.bool t931, .slice Ao38 t932.length co38, .slice Ao39 t935.length co39]] ?_
       with_reducible refine (spec_AddRat.calls k t924 _ _ t925 _ _ t928 t931 _ _ t932 _ _ t935 t938 t939 t942 t945 _ ?side1 ?side2 ?side3 ?side4 ?side5 ?side6 ?side7 ?side8 A21.out).mono ?_
       (case side1 => exact crC (Kd.R_reads' HO927.out).2.2)
       (case side2 => exact (Kd.R_reads' HO927.out).2.1)
       (case side3 => exact crC (Kd.R_reads' HO930.out).2.2)
       (case side4 => exact (Kd.R_reads' HO930.out).2.1)
       (case side5 => exact crC (Kd.R_reads' HO934.out).2.2)
       (case side6 => exact (Kd.R_reads' HO934.out).2.1)
       (case side7 => exact crC (Kd.R_reads' HO937.out).2.2)
       (case side8 => exact (Kd.R_reads' HO937.out).2.1)
       rintro e w40 ⟨v940, v943, rfl, ho0, ho1, hb⟩
       refine ⟨_, rfl, ?_⟩
       have HO941 := lwR (nwR (nwR (nwR (nwR ho0 HO927) HO930) HO934) HO937) HB
       have HO944 := lwR (nwR (nwR (nwR (nwR ho1 HO927) HO930) HO934) HO937) HB
       replace HO927 := tldR HO927 hb (Kd.R_base ho0) (Kd.R_base ho1)
       replace HO930 := tldR HO930 hb (Kd.R_base ho0) (Kd.R_base ho1)
       replace HO934 := tldR HO934 hb (Kd.R_base ho0) (Kd.R_base ho1)
       replace HO937 := tldR HO937 hb (Kd.R_base ho0) (Kd.R_base ho1)
       replace BK920 := bkb BK920 hb
       replace BK921 := bkb BK921 hb
       replace HB := bst HB hb
       (try clear hb)
       (try clear hb2)
       (try clear hk)
       (try clear hi)
       (try clear ho0)
       (try clear ho1)
       refine hK.out _ _ ⟨bce BK920 0 _, bce BK920 1 _, bce BK920 2 _, bce BK921 0 _, bce BK921 1 _, bce BK921 2 _⟩ (fun hHeld => ?_)
       clear hK K
       refine nm_ 32 ?_
       refine pu_ 5 (some 27) (bm 11 63) HT_.out ?_
       refine pu_ 6 (some 33) (bm 11 127) HT_.out ?_
       refine pu_ 7 (some 34) (bm 11 255) HT_.out ?_
       refine one_ (i := 8) (N := some 6) (bm 11 511) rfl rfl (one_of HT_.out (by kernel_rfl)) (by decide) (fun K hK => ?_)
       refine bs_ (N := 6) (cs := #[.bool false, .slice none 0 0, .slice none 0 0]) (t := 24) ?_
       intro gb946 hg w41 hbox hb
       replace HO927 := rblR HO927 hb
       replace HO930 := rblR HO930 hb
       replace HO934 := rblR HO934 hb
       replace HO937 := rblR HO937 hb
       replace HO941 := rblR HO941 hb
       replace HO944 := rblR HO944 hb
       have BK946 := Aside0.mk (hbox)
       have GW946 := geh hg HB
       have GE946 := geh hg HB
       replace HB := bst HB hb
       have NB920_946 := nlt hg BK920
       have NB946_920 := ngt hg BK920
       replace BK920 := bkb BK920 hb
       have NB921_946 := nlt hg BK921
       have NB946_921 := ngt hg BK921
       replace BK921 := bkb BK921 hb
       clear hb hbox hg
       refine hK.out _ _ ⟨bce BK920 0 _, bce BK920 1 _, bce BK920 2 _, bce BK921 0 _, bce BK921 1 _, bce BK921 2 _⟩ (fun hHeld => ?_)
       clear hK K
       refine nm_ 6 ?_
       exact nq_ (hCont (.slice Ao36 t925.length co36, .slice Ao37 t928.length co37, .slice Ao38 t932.length co38, .slice Ao39 t935.length co39, v940, v943, gb946) _ ⟨hHeld, (crM HO927 fun _ hk => ⟨hk.1.1.1.1, hk.1.1.1.2, hk.1.1.2, hk.1.2, hk.2⟩), (crM HO930 fun _ hk => ⟨hk.1.1.1.1, hk.1.1.1.2, hk.1.1.2, hk.1.2, hk.2⟩), (crM HO934 fun _ hk => ⟨hk.1.1.1.2, hk.1.1.2, hk.1.1.1.1, hk.1.2, hk.2⟩), (crM HO937 fun _ hk => ⟨hk.1.1.1.2, hk.1.1.2, hk.1.1.1.1, hk.1.2, hk.2⟩), (crM HO941 fun _ hk => ⟨hk.1.1.1.2, hk.1.1.2, hk.1.2, hk.2, hk.1.1.1.1⟩), (crM HO944 fun _ hk => ⟨hk.1.1.1.2, hk.1.1.2, hk.1.2, hk.2, hk.1.1.1.1⟩), (crb BK920), (crb BK921), (crb BK946), GW946.out, GE946.out, NB920_946.out, NB946_920.out, NB921_946.out, NB946_921.out, (blw HB)⟩)
      ·
       skip
       refine bs_ (N := 6) (cs := #[.bool false, .slice none 0 0, .slice none 0 0]) (t := 24) ?_
       intro gb946 hg w36 hbox hb
       replace HO927 := rblR HO927 hb
       replace HO930 := rblR HO930 hb
       replace HO934 := rblR HO934 hb
       replace HO937 := rblR HO937 hb
       have BK946 := Aside0.mk (hbox)
       have GW946 := geh hg HB
       have GE946 := geh hg HB
       replace HB := bst HB hb
       have NB920_946 := nlt hg BK920
       have NB946_920 := ngt hg BK920
       replace BK920 := bkb BK920 hb
       have NB921_946 := nlt hg BK921
       have NB946_921 := ngt hg BK921
       replace BK921 := bkb BK921 hb
       clear hb hbox hg
       obtain ⟨Ao37, co37, eo37⟩ := Kd.R_slice HO927.out
       (first | subst eo37 | (injection eo37 with f1_ f2_ f3_; have f4_ := f1_.symm; have f5_ := f3_.symm; clear f1_ f2_ f3_; subst f4_; subst f5_))
       obtain ⟨Ao38, co38, eo38⟩ := Kd.R_slice HO930.out
       (first | subst eo38 | (injection eo38 with f1_ f2_ f3_; have f4_ := f1_.symm; have f5_ := f3_.symm; clear f1_ f2_ f3_; subst f4_; subst f5_))
       obtain ⟨Ao39, co39, eo39⟩ := Kd.R_slice HO934.out
       (first | subst eo39 | (injection eo39 with f1_ f2_ f3_; have f4_ := f1_.symm; have f5_ := f3_.symm; clear f1_ f2_ f3_; subst f4_; subst f5_))
       obtain ⟨Ao40, co40, eo40⟩ := Kd.R_slice HO937.out
       (first | subst eo40 | (injection eo40 with f1_ f2_ f3_; have f4_ := f1_.symm; have f5_ := f3_.symm; clear f1_ f2_ f3_; subst f4_; subst f5_))
       refine hK.out _ _ ⟨bce BK920 0 _, bce BK920 1 _, bce BK920 2 _, bce BK921 0 _, bce BK921 1 _, bce BK921 2 _⟩ (fun hHeld => ?_)
       clear hK K
       refine nm_ 6 ?_
       refine one_ (i := 4) (N := some 32) (bm 11 287) rfl rfl (one_of HT_.out (by kernel_rfl)) (by decide) (fun K hK => ?_)
       refine g_ Try.func36 #[.agg #[.bool t924, .slice Ao37 t925.length co37, .slice Ao38 t928.length co38], .agg #[.bool t931, .slice Ao39 t932.length co39, .slice Ao40 t935.length co40]] ?_
       with_reducible refine (spec_AddRat.calls k t924 _ _ t925 _ _ t928 t931 _ _ t932 _ _ t935 t938 t939 t942 t945 _ ?side1 ?side2 ?side3 ?side4 ?side5 ?side6 ?side7 ?side8 A21.out).mono ?_
       (case side1 => exact crC (Kd.R_reads' HO927.out).2.2)
       (case side2 => exact (Kd.R_reads' HO927.out).2.1)
       (case side3 => exact crC (Kd.R_reads' HO930.out).2.2)
       (case side4 => exact (Kd.R_reads' HO930.out).2.1)
       (case side5 => exact crC (Kd.R_reads' HO934.out).2.2)
       (case side6 => exact (Kd.R_reads' HO934.out).2.1)
       (case side7 => exact crC (Kd.R_reads' HO937.out).2.2)
       (case side8 => exact (Kd.R_reads' HO937.out).2.1)
       rintro e w41 ⟨v940, v943, rfl, ho0, ho1, hb⟩
       refine ⟨_, rfl, ?_⟩
       have HO941 := lwR (nwR (nwR (nwR (nwR ho0 HO927) HO930) HO934) HO937) HB
       have HO944 := lwR (nwR (nwR (nwR (nwR ho1 HO927) HO930) HO934) HO937) HB
       replace HO927 := tldR HO927 hb (Kd.R_base ho0) (Kd.R_base ho1)
       replace HO930 := tldR HO930 hb (Kd.R_base ho0) (Kd.R_base ho1)
       replace HO934 := tldR HO934 hb (Kd.R_base ho0) (Kd.R_base ho1)
       replace HO937 := tldR HO937 hb (Kd.R_base ho0) (Kd.R_base ho1)
       replace BK920 := bkb BK920 hb
       replace BK921 := bkb BK921 hb
       replace BK946 := bkb BK946 hb
       replace HB := bst HB hb
       (try clear hb)
       (try clear hb2)
       (try clear hk)
       (try clear hi)
       (try clear ho0)
       (try clear ho1)
       refine hK.out _ _ ⟨bce BK920 0 _, bce BK920 1 _, bce BK920 2 _, bce BK921 0 _, bce BK921 1 _, bce BK921 2 _⟩ (fun hHeld => ?_)
       clear hK K
       refine nm_ 32 ?_
       refine pu_ 5 (some 27) (bm 11 319) HT_.out ?_
       refine pu_ 6 (some 33) (bm 11 383) HT_.out ?_
       refine pu_ 7 (some 34) (bm 11 511) HT_.out ?_
       exact nq_ (hCont (.slice Ao37 t925.length co37, .slice Ao38 t928.length co38, .slice Ao39 t932.length co39, .slice Ao40 t935.length co40, v940, v943, gb946) _ ⟨hHeld, (crM HO927 fun _ hk => ⟨hk.1.1.1.1, hk.1.1.1.2, hk.1.1.2, hk.1.2, hk.2⟩), (crM HO930 fun _ hk => ⟨hk.1.1.1.1, hk.1.1.1.2, hk.1.1.2, hk.1.2, hk.2⟩), (crM HO934 fun _ hk => ⟨hk.1.1.1.2, hk.1.1.2, hk.1.1.1.1, hk.1.2, hk.2⟩), (crM HO937 fun _ hk => ⟨hk.1.1.1.2, hk.1.1.2, hk.1.1.1.1, hk.1.2, hk.2⟩), (crM HO941 fun _ hk => ⟨hk.1.1.1.2, hk.1.1.2, hk.1.2, hk.2, hk.1.1.1.1⟩), (crM HO944 fun _ hk => ⟨hk.1.1.1.2, hk.1.1.2, hk.1.2, hk.2, hk.1.1.1.1⟩), (crb BK920), (crb BK921), (crb BK946), GW946.out, GE946.out, NB920_946.out, NB946_920.out, NB921_946.out, NB946_921.out, (blw HB)⟩)
     ·
      skip
      refine bs_ (N := 6) (cs := #[.bool false, .slice none 0 0, .slice none 0 0]) (t := 24) ?_
      intro gb946 hg w35 hbox hb
      replace HO927 := rblR HO927 hb
      replace HO930 := rblR HO930 hb
      have BK946 := Aside0.mk (hbox)
      have GW946 := geh hg HB
      have GE946 := geh hg HB
      replace HB := bst HB hb
      have NB920_946 := nlt hg BK920
      have NB946_920 := ngt hg BK920
      replace BK920 := bkb BK920 hb
      have NB921_946 := nlt hg BK921
      have NB946_921 := ngt hg BK921
      replace BK921 := bkb BK921 hb
      clear hb hbox hg
      refine hK.out _ _ ⟨bce BK920 0 _, bce BK920 1 _, bce BK920 2 _, bce BK921 0 _, bce BK921 1 _, bce BK921 2 _⟩ (fun hHeld => ?_)
      clear hK K
      refine nm_ 6 ?_
      refine one_ (i := 3) (N := some 31) (bm 11 271) rfl rfl (one_of HT_.out (by kernel_rfl)) (by decide) (fun K hK => ?_)
      refine g_ Try.func22 #[.agg #[.bool a1_0, .slice A1_1 l1_1.length c1_1, .slice A1_2 l1_2.length c1_2]] ?_
      with_reducible refine (laws_toRat.calls k a1_0 _ _ l1_1 _ _ l1_2 t931 t932 t935 _ ?side1 ?side2 ?side3 ?side4 A20.out).mono ?_
      (case side1 => exact crC (Kd.C_below HR1_1.out HB.out))
      (case side2 => exact HC1_1.out)
      (case side3 => exact crC (Kd.C_below HR1_2.out HB.out))
      (case side4 => exact HC1_2.out)
      rintro e w36 ⟨v933, v936, rfl, ho0, ho1, hb⟩
      refine ⟨_, rfl, ?_⟩
      have HO934 := lwR (nwR (nwR ho0 HO927) HO930) HB
      have HO937 := lwR (nwR (nwR ho1 HO927) HO930) HB
      replace HO927 := tldR HO927 hb (Kd.R_base ho0) (Kd.R_base ho1)
      replace HO930 := tldR HO930 hb (Kd.R_base ho0) (Kd.R_base ho1)
      replace BK920 := bkb BK920 hb
      replace BK921 := bkb BK921 hb
      replace BK946 := bkb BK946 hb
      replace HB := bst HB hb
      (try clear hb)
      (try clear hb2)
      (try clear hk)
      (try clear hi)
      (try clear ho0)
      (try clear ho1)
      obtain ⟨Ao37, co37, eo37⟩ := Kd.R_slice HO927.out
      (first | subst eo37 | (injection eo37 with f1_ f2_ f3_; have f4_ := f1_.symm; have f5_ := f3_.symm; clear f1_ f2_ f3_; subst f4_; subst f5_))
      obtain ⟨Ao38, co38, eo38⟩ := Kd.R_slice HO930.out
      (first | subst eo38 | (injection eo38 with f1_ f2_ f3_; have f4_ := f1_.symm; have f5_ := f3_.symm; clear f1_ f2_ f3_; subst f4_; subst f5_))
      obtain ⟨Ao39, co39, eo39⟩ := Kd.R_slice HO934.out
      (first | subst eo39 | (injection eo39 with f1_ f2_ f3_; have f4_ := f1_.symm; have f5_ := f3_.symm; clear f1_ f2_ f3_; subst f4_; subst f5_))
      obtain ⟨Ao40, co40, eo40⟩ := Kd.R_slice HO937.out
      (first | subst eo40 | (injection eo40 with f1_ f2_ f3_; have f4_ := f1_.symm; have f5_ := f3_.symm; clear f1_ f2_ f3_; subst f4_; subst f5_))
      refine hK.out _ _ ⟨bce BK920 0 _, bce BK920 1 _, bce BK920 2 _, bce BK921 0 _, bce BK921 1 _, bce BK921 2 _⟩ (fun hHeld => ?_)
      clear hK K
      refine nm_ 31 ?_
      refine one_ (i := 4) (N := some 32) (bm 11 287) rfl rfl (one_of HT_.out (by kernel_rfl)) (by decide) (fun K hK => ?_)
      refine g_ Try.func36 #[.agg #[.bool t924, .slice Ao37 t925.length co37, .slice Ao38 t928.length co38], .agg #[.bool t931, .slice Ao39 t932.length co39, .slice Ao40 t935.length co40]] ?_
      with_reducible refine (spec_AddRat.calls k t924 _ _ t925 _ _ t928 t931 _ _ t932 _ _ t935 t938 t939 t942 t945 _ ?side1 ?side2 ?side3 ?side4 ?side5 ?side6 ?side7 ?side8 A21.out).mono ?_
      (case side1 => exact crC (Kd.R_reads' HO927.out).2.2)
      (case side2 => exact (Kd.R_reads' HO927.out).2.1)
      (case side3 => exact crC (Kd.R_reads' HO930.out).2.2)
      (case side4 => exact (Kd.R_reads' HO930.out).2.1)
      (case side5 => exact crC (Kd.R_reads' HO934.out).2.2)
      (case side6 => exact (Kd.R_reads' HO934.out).2.1)
      (case side7 => exact crC (Kd.R_reads' HO937.out).2.2)
      (case side8 => exact (Kd.R_reads' HO937.out).2.1)
      rintro e w41 ⟨v940, v943, rfl, ho0, ho1, hb⟩
      refine ⟨_, rfl, ?_⟩
      have HO941 := lwR (nwR (nwR (nwR (nwR ho0 HO927) HO930) HO934) HO937) HB
      have HO944 := lwR (nwR (nwR (nwR (nwR ho1 HO927) HO930) HO934) HO937) HB
      replace HO927 := tldR HO927 hb (Kd.R_base ho0) (Kd.R_base ho1)
      replace HO930 := tldR HO930 hb (Kd.R_base ho0) (Kd.R_base ho1)
      replace HO934 := tldR HO934 hb (Kd.R_base ho0) (Kd.R_base ho1)
      replace HO937 := tldR HO937 hb (Kd.R_base ho0) (Kd.R_base ho1)
      replace BK920 := bkb BK920 hb
      replace BK921 := bkb BK921 hb
      replace BK946 := bkb BK946 hb
      replace HB := bst HB hb
      (try clear hb)
      (try clear hb2)
      (try clear hk)
      (try clear hi)
      (try clear ho0)
      (try clear ho1)
      refine hK.out _ _ ⟨bce BK920 0 _, bce BK920 1 _, bce BK920 2 _, bce BK921 0 _, bce BK921 1 _, bce BK921 2 _⟩ (fun hHeld => ?_)
      clear hK K
      refine nm_ 32 ?_
      refine pu_ 5 (some 27) (bm 11 319) HT_.out ?_
      refine pu_ 6 (some 33) (bm 11 383) HT_.out ?_
      refine pu_ 7 (some 34) (bm 11 511) HT_.out ?_
      exact nq_ (hCont (.slice Ao37 t925.length co37, .slice Ao38 t928.length co38, .slice Ao39 t932.length co39, .slice Ao40 t935.length co40, v940, v943, gb946) _ ⟨hHeld, (crM HO927 fun _ hk => ⟨hk.1.1.1.1, hk.1.1.1.2, hk.1.1.2, hk.1.2, hk.2⟩), (crM HO930 fun _ hk => ⟨hk.1.1.1.1, hk.1.1.1.2, hk.1.1.2, hk.1.2, hk.2⟩), (crM HO934 fun _ hk => ⟨hk.1.1.1.2, hk.1.1.2, hk.1.1.1.1, hk.1.2, hk.2⟩), (crM HO937 fun _ hk => ⟨hk.1.1.1.2, hk.1.1.2, hk.1.1.1.1, hk.1.2, hk.2⟩), (crM HO941 fun _ hk => ⟨hk.1.1.1.2, hk.1.1.2, hk.1.2, hk.2, hk.1.1.1.1⟩), (crM HO944 fun _ hk => ⟨hk.1.1.1.2, hk.1.1.2, hk.1.2, hk.2, hk.1.1.1.1⟩), (crb BK920), (crb BK921), (crb BK946), GW946.out, GE946.out, NB920_946.out, NB946_920.out, NB921_946.out, NB946_921.out, (blw HB)⟩)
    ·
     skip
     refine bs_ (N := 6) (cs := #[.bool false, .slice none 0 0, .slice none 0 0]) (t := 24) ?_
     intro gb946 hg w34 hbox hb
     have BK946 := Aside0.mk (hbox)
     have GW946 := geh hg HB
     have GE946 := geh hg HB
     replace HB := bst HB hb
     have NB920_946 := nlt hg BK920
     have NB946_920 := ngt hg BK920
     replace BK920 := bkb BK920 hb
     have NB921_946 := nlt hg BK921
     have NB946_921 := ngt hg BK921
     replace BK921 := bkb BK921 hb
     clear hb hbox hg
     refine hK.out _ _ ⟨bce BK920 0 _, bce BK920 1 _, bce BK920 2 _, bce BK921 0 _, bce BK921 1 _, bce BK921 2 _⟩ (fun hHeld => ?_)
     clear hK K
     refine nm_ 6 ?_
     refine one_ (i := 1) (N := some 29) (bm 11 263) rfl rfl (one_of HT_.out (by kernel_rfl)) (by decide) (fun K hK => ?_)
     refine g_ Try.func22 #[.agg #[.bool a0_0, .slice A0_1 l0_1.length c0_1, .slice A0_2 l0_2.length c0_2]] ?_
     with_reducible refine (laws_toRat.calls k a0_0 _ _ l0_1 _ _ l0_2 t924 t925 t928 _ ?side1 ?side2 ?side3 ?side4 A19.out).mono ?_
     (case side1 => exact crC (Kd.C_below HR0_1.out HB.out))
     (case side2 => exact HC0_1.out)
     (case side3 => exact crC (Kd.C_below HR0_2.out HB.out))
     (case side4 => exact HC0_2.out)
     rintro e w35 ⟨v926, v929, rfl, ho0, ho1, hb⟩
     refine ⟨_, rfl, ?_⟩
     have HO927 := lwR ho0 HB
     have HO930 := lwR ho1 HB
     replace BK920 := bkb BK920 hb
     replace BK921 := bkb BK921 hb
     replace BK946 := bkb BK946 hb
     replace HB := bst HB hb
     (try clear hb)
     (try clear hb2)
     (try clear hk)
     (try clear hi)
     (try clear ho0)
     (try clear ho1)
     refine hK.out _ _ ⟨bce BK920 0 _, bce BK920 1 _, bce BK920 2 _, bce BK921 0 _, bce BK921 1 _, bce BK921 2 _⟩ (fun hHeld => ?_)
     clear hK K
     refine nm_ 29 ?_
     refine one_ (i := 3) (N := some 31) (bm 11 271) rfl rfl (one_of HT_.out (by kernel_rfl)) (by decide) (fun K hK => ?_)
     refine g_ Try.func22 #[.agg #[.bool a1_0, .slice A1_1 l1_1.length c1_1, .slice A1_2 l1_2.length c1_2]] ?_
     with_reducible refine (laws_toRat.calls k a1_0 _ _ l1_1 _ _ l1_2 t931 t932 t935 _ ?side1 ?side2 ?side3 ?side4 A20.out).mono ?_
     (case side1 => exact crC (Kd.C_below HR1_1.out HB.out))
     (case side2 => exact HC1_1.out)
     (case side3 => exact crC (Kd.C_below HR1_2.out HB.out))
     (case side4 => exact HC1_2.out)
     rintro e w36 ⟨v933, v936, rfl, ho0, ho1, hb⟩
     refine ⟨_, rfl, ?_⟩
     have HO934 := lwR (nwR (nwR ho0 HO927) HO930) HB
     have HO937 := lwR (nwR (nwR ho1 HO927) HO930) HB
     replace HO927 := tldR HO927 hb (Kd.R_base ho0) (Kd.R_base ho1)
     replace HO930 := tldR HO930 hb (Kd.R_base ho0) (Kd.R_base ho1)
     replace BK920 := bkb BK920 hb
     replace BK921 := bkb BK921 hb
     replace BK946 := bkb BK946 hb
     replace HB := bst HB hb
     (try clear hb)
     (try clear hb2)
     (try clear hk)
     (try clear hi)
     (try clear ho0)
     (try clear ho1)
     obtain ⟨Ao37, co37, eo37⟩ := Kd.R_slice HO927.out
     (first | subst eo37 | (injection eo37 with f1_ f2_ f3_; have f4_ := f1_.symm; have f5_ := f3_.symm; clear f1_ f2_ f3_; subst f4_; subst f5_))
     obtain ⟨Ao38, co38, eo38⟩ := Kd.R_slice HO930.out
     (first | subst eo38 | (injection eo38 with f1_ f2_ f3_; have f4_ := f1_.symm; have f5_ := f3_.symm; clear f1_ f2_ f3_; subst f4_; subst f5_))
     obtain ⟨Ao39, co39, eo39⟩ := Kd.R_slice HO934.out
     (first | subst eo39 | (injection eo39 with f1_ f2_ f3_; have f4_ := f1_.symm; have f5_ := f3_.symm; clear f1_ f2_ f3_; subst f4_; subst f5_))
     obtain ⟨Ao40, co40, eo40⟩ := Kd.R_slice HO937.out
     (first | subst eo40 | (injection eo40 with f1_ f2_ f3_; have f4_ := f1_.symm; have f5_ := f3_.symm; clear f1_ f2_ f3_; subst f4_; subst f5_))
     refine hK.out _ _ ⟨bce BK920 0 _, bce BK920 1 _, bce BK920 2 _, bce BK921 0 _, bce BK921 1 _, bce BK921 2 _⟩ (fun hHeld => ?_)
     clear hK K
     refine nm_ 31 ?_
     refine one_ (i := 4) (N := some 32) (bm 11 287) rfl rfl (one_of HT_.out (by kernel_rfl)) (by decide) (fun K hK => ?_)
     refine g_ Try.func36 #[.agg #[.bool t924, .slice Ao37 t925.length co37, .slice Ao38 t928.length co38], .agg #[.bool t931, .slice Ao39 t932.length co39, .slice Ao40 t935.length co40]] ?_
     with_reducible refine (spec_AddRat.calls k t924 _ _ t925 _ _ t928 t931 _ _ t932 _ _ t935 t938 t939 t942 t945 _ ?side1 ?side2 ?side3 ?side4 ?side5 ?side6 ?side7 ?side8 A21.out).mono ?_
     (case side1 => exact crC (Kd.R_reads' HO927.out).2.2)
     (case side2 => exact (Kd.R_reads' HO927.out).2.1)
     (case side3 => exact crC (Kd.R_reads' HO930.out).2.2)
     (case side4 => exact (Kd.R_reads' HO930.out).2.1)
     (case side5 => exact crC (Kd.R_reads' HO934.out).2.2)
     (case side6 => exact (Kd.R_reads' HO934.out).2.1)
     (case side7 => exact crC (Kd.R_reads' HO937.out).2.2)
     (case side8 => exact (Kd.R_reads' HO937.out).2.1)
     rintro e w41 ⟨v940, v943, rfl, ho0, ho1, hb⟩
     refine ⟨_, rfl, ?_⟩
     have HO941 := lwR (nwR (nwR (nwR (nwR ho0 HO927) HO930) HO934) HO937) HB
     have HO944 := lwR (nwR (nwR (nwR (nwR ho1 HO927) HO930) HO934) HO937) HB
     replace HO927 := tldR HO927 hb (Kd.R_base ho0) (Kd.R_base ho1)
     replace HO930 := tldR HO930 hb (Kd.R_base ho0) (Kd.R_base ho1)
     replace HO934 := tldR HO934 hb (Kd.R_base ho0) (Kd.R_base ho1)
     replace HO937 := tldR HO937 hb (Kd.R_base ho0) (Kd.R_base ho1)
     replace BK920 := bkb BK920 hb
     replace BK921 := bkb BK921 hb
     replace BK946 := bkb BK946 hb
     replace HB := bst HB hb
     (try clear hb)
     (try clear hb2)
     (try clear hk)
     (try clear hi)
     (try clear ho0)
     (try clear ho1)
     refine hK.out _ _ ⟨bce BK920 0 _, bce BK920 1 _, bce BK920 2 _, bce BK921 0 _, bce BK921 1 _, bce BK921 2 _⟩ (fun hHeld => ?_)
     clear hK K
     refine nm_ 32 ?_
     refine pu_ 5 (some 27) (bm 11 319) HT_.out ?_
     refine pu_ 6 (some 33) (bm 11 383) HT_.out ?_
     refine pu_ 7 (some 34) (bm 11 511) HT_.out ?_
     exact nq_ (hCont (.slice Ao37 t925.length co37, .slice Ao38 t928.length co38, .slice Ao39 t932.length co39, .slice Ao40 t935.length co40, v940, v943, gb946) _ ⟨hHeld, (crM HO927 fun _ hk => ⟨hk.1.1.1.1, hk.1.1.1.2, hk.1.1.2, hk.1.2, hk.2⟩), (crM HO930 fun _ hk => ⟨hk.1.1.1.1, hk.1.1.1.2, hk.1.1.2, hk.1.2, hk.2⟩), (crM HO934 fun _ hk => ⟨hk.1.1.1.2, hk.1.1.2, hk.1.1.1.1, hk.1.2, hk.2⟩), (crM HO937 fun _ hk => ⟨hk.1.1.1.2, hk.1.1.2, hk.1.1.1.1, hk.1.2, hk.2⟩), (crM HO941 fun _ hk => ⟨hk.1.1.1.2, hk.1.1.2, hk.1.2, hk.2, hk.1.1.1.1⟩), (crM HO944 fun _ hk => ⟨hk.1.1.1.2, hk.1.1.2, hk.1.2, hk.2, hk.1.1.1.1⟩), (crb BK920), (crb BK921), (crb BK946), GW946.out, GE946.out, NB920_946.out, NB946_920.out, NB921_946.out, NB946_921.out, (blw HB)⟩)
   rintro ⟨v926, v929, v933, v936, v940, v943, gb946⟩ w42 ⟨hS_, h0_, h1_, h2_, h3_, h4_, h5_, h6_, h7_, h8_, h9_, h10_, h11_, h12_, h13_, h14_, h15_⟩
   have HO927 : Aside0 (Kd.R (Kd.int .i64) 3 w42 w.heap.size (fun k_ => nO k_ v929 ∧ nO k_ v933 ∧ nO k_ v936 ∧ nO k_ v940 ∧ nO k_ v943) v926 t925) := ⟨h0_⟩
   have HO930 : Aside0 (Kd.R (Kd.int .i64) 3 w42 w.heap.size (fun k_ => nO k_ v926 ∧ nO k_ v933 ∧ nO k_ v936 ∧ nO k_ v940 ∧ nO k_ v943) v929 t928) := ⟨h1_⟩
   have HO934 : Aside0 (Kd.R (Kd.int .i64) 3 w42 w.heap.size (fun k_ => nO k_ v926 ∧ nO k_ v929 ∧ nO k_ v936 ∧ nO k_ v940 ∧ nO k_ v943) v933 t932) := ⟨h2_⟩
   have HO937 : Aside0 (Kd.R (Kd.int .i64) 3 w42 w.heap.size (fun k_ => nO k_ v926 ∧ nO k_ v929 ∧ nO k_ v933 ∧ nO k_ v940 ∧ nO k_ v943) v936 t935) := ⟨h3_⟩
   have HO941 : Aside0 (Kd.R (Kd.int .i64) 3 w42 w.heap.size (fun k_ => nO k_ v926 ∧ nO k_ v929 ∧ nO k_ v933 ∧ nO k_ v936 ∧ nO k_ v943) v940 t939) := ⟨h4_⟩
   have HO944 : Aside0 (Kd.R (Kd.int .i64) 3 w42 w.heap.size (fun k_ => nO k_ v926 ∧ nO k_ v929 ∧ nO k_ v933 ∧ nO k_ v936 ∧ nO k_ v940) v943 t942) := ⟨h5_⟩
   replace BK920 : Aside0 (w42.heap[gb920]? = some (.cells #[.bool a0_0, .slice A0_1 l0_1.length c0_1, .slice A0_2 l0_2.length c0_2] 30 (0, 0))) := ⟨h6_⟩
   replace BK921 : Aside0 (w42.heap[gb921]? = some (.cells #[.bool a1_0, .slice A1_1 l1_1.length c1_1, .slice A1_2 l1_2.length c1_2] 30 (0, 0))) := ⟨h7_⟩
   have BK946 : Aside0 (w42.heap[gb946]? = some (.cells #[.bool false, .slice none 0 0, .slice none 0 0] 24 (0, 0))) := ⟨h8_⟩
   have GW946 : Aside0 (w.heap.size ≤ gb946) := ⟨h9_⟩
   have GE946 : Aside0 (w.heap.size ≤ gb946) := ⟨h10_⟩
   have NB920_946 : Aside0 (gb920 ≠ gb946) := ⟨h11_⟩
   have NB946_920 : Aside0 (gb946 ≠ gb920) := ⟨h12_⟩
   have NB921_946 : Aside0 (gb921 ≠ gb946) := ⟨h13_⟩
   have NB946_921 : Aside0 (gb946 ≠ gb921) := ⟨h14_⟩
   replace HB : Aside0 (Below w.heap.size w w42) := ⟨h15_⟩
   clear h0_ h1_ h2_ h3_ h4_ h5_ h6_ h7_ h8_ h9_ h10_ h11_ h12_ h13_ h14_ h15_
   have hHeld : w42.cell? ⟨gb920, 0, none⟩ = some (.bool a0_0) ∧ w42.cell? ⟨gb920, 1, none⟩ = some (.slice A0_1 l0_1.length c0_1) ∧ w42.cell? ⟨gb920, 2, none⟩ = some (.slice A0_2 l0_2.length c0_2) ∧ w42.cell? ⟨gb921, 0, none⟩ = some (.bool a1_0) ∧ w42.cell? ⟨gb921, 1, none⟩ = some (.slice A1_1 l1_1.length c1_1) ∧ w42.cell? ⟨gb921, 2, none⟩ = some (.slice A1_2 l1_2.length c1_2) := hS_
   obtain ⟨Ao44, co44, eo44⟩ := Kd.R_slice HO941.out
   (first | subst eo44 | (injection eo44 with f1_ f2_ f3_; have f4_ := f1_.symm; have f5_ := f3_.symm; clear f1_ f2_ f3_; subst f4_; subst f5_))
   obtain ⟨Ao46, co46, eo46⟩ := Kd.R_slice HO944.out
   (first | subst eo46 | (injection eo46 with f1_ f2_ f3_; have f4_ := f1_.symm; have f5_ := f3_.symm; clear f1_ f2_ f3_; subst f4_; subst f5_))
   refine np_ ?_
   refine one_ (i := 9) (N := none) (bm 11 1023) rfl rfl (one_of HT_.out (by kernel_rfl)) (by decide) (fun K hK => ?_)
   have hs43 : w42.cell? ⟨gb946, 0, none⟩ = some (.bool false) := bce BK946 0 _
   have hfs43 := blk_frozen BK946.out 0
   have hns43_0 := NB920_946.out
   have hns43_1 := NB921_946.out
   have hms43_0 := NB946_920.out
   have hms43_1 := NB946_921.out
   have hs45 : w42.cell? ⟨gb946, 1, none⟩ = some (.slice none 0 0) := bce BK946 1 _
   have hfs45 := blk_frozen BK946.out 1
   have hns45_0 := NB920_946.out
   have hns45_1 := NB921_946.out
   have hms45_0 := NB946_920.out
   have hms45_1 := NB946_921.out
   have hs47 : w42.cell? ⟨gb946, 2, none⟩ = some (.slice none 0 0) := bce BK946 2 _
   have hfs47 := blk_frozen BK946.out 2
   have hns47_0 := NB920_946.out
   have hns47_1 := NB921_946.out
   have hms47_0 := NB946_920.out
   have hms47_1 := NB946_921.out
   refine skip_ (w1 := ?_) (by rfl) rfl ?_ ?_
   rotate_left
   ·
    go_simp
    rfl
   refine hK.out _ _ ⟨((cell_far (p := ⟨gb946, _, none⟩) NB920_946.out _).trans (((cell_far (p := ⟨gb946, _, none⟩) NB920_946.out _).trans (((cell_far (p := ⟨gb946, _, none⟩) NB920_946.out _).trans (hHeld.1)))))), ((cell_far (p := ⟨gb946, _, none⟩) NB920_946.out _).trans (((cell_far (p := ⟨gb946, _, none⟩) NB920_946.out _).trans (((cell_far (p := ⟨gb946, _, none⟩) NB920_946.out _).trans (hHeld.2.1)))))), ((cell_far (p := ⟨gb946, _, none⟩) NB920_946.out _).trans (((cell_far (p := ⟨gb946, _, none⟩) NB920_946.out _).trans (((cell_far (p := ⟨gb946, _, none⟩) NB920_946.out _).trans (hHeld.2.2.1)))))), ((cell_far (p := ⟨gb946, _, none⟩) NB921_946.out _).trans (((cell_far (p := ⟨gb946, _, none⟩) NB921_946.out _).trans (((cell_far (p := ⟨gb946, _, none⟩) NB921_946.out _).trans (hHeld.2.2.2.1)))))), ((cell_far (p := ⟨gb946, _, none⟩) NB921_946.out _).trans (((cell_far (p := ⟨gb946, _, none⟩) NB921_946.out _).trans (((cell_far (p := ⟨gb946, _, none⟩) NB921_946.out _).trans (hHeld.2.2.2.2.1)))))), ((cell_far (p := ⟨gb946, _, none⟩) NB921_946.out _).trans (((cell_far (p := ⟨gb946, _, none⟩) NB921_946.out _).trans (((cell_far (p := ⟨gb946, _, none⟩) NB921_946.out _).trans (hHeld.2.2.2.2.2))))))⟩ (fun hHeld => ?_)
   clear hK K
   refine pu_ 10 (some 7) (bm 11 2047) HT_.out ?_
   refine done_ (done_of HT_.out (by kernel_rfl)) ?_
   have hnb48 := NB920_946.out
   have hnc48 := NB946_920.out
   obtain ⟨hcz49_0, hcz49_1, hcz49_2, hfz49_0, hfz49_1, hfz49_2⟩ := bc3 BK920
   go_upto_region 12 with (first | ((with_reducible refine gate_callee (f := 22) rfl ?_); refine gL_ (some 36) Try.func22 #[.agg #[.bool a0_0, .slice A0_1 l0_1.length c0_1, .slice A0_2 l0_2.length c0_2]] ?_; (with_reducible refine (laws_toRat.calls k a0_0 _ _ l0_1 _ _ l0_2 t947 t948 t951 _ ?side1 ?side2 ?side3 ?side4 A22.out).mono ?_); (case side1 => exact Kd.C_below HR0_1.out (blw HB)); (case side2 => exact HC0_1.out); (case side3 => exact Kd.C_below HR0_2.out (blw HB)); (case side4 => exact HC0_2.out); rintro e w50 ⟨v949, v952, rfl, ho0, ho1, hb⟩; refine ⟨_, rfl, ?_⟩; have HO950 := lwR (nwF (nwF (nwF (nwF (nwF (nwF ho0 HO927 BK946) HO930 BK946) HO934 BK946) HO937 BK946) HO941 BK946) HO944 BK946) HB; have HO953 := lwR (nwF (nwF (nwF (nwF (nwF (nwF ho1 HO927 BK946) HO930 BK946) HO934 BK946) HO937 BK946) HO941 BK946) HO944 BK946) HB; replace HO927 := tldF HO927 BK946 hb (Kd.R_base ho0) (Kd.R_base ho1); replace HO930 := tldF HO930 BK946 hb (Kd.R_base ho0) (Kd.R_base ho1); replace HO934 := tldF HO934 BK946 hb (Kd.R_base ho0) (Kd.R_base ho1); replace HO937 := tldF HO937 BK946 hb (Kd.R_base ho0) (Kd.R_base ho1); replace HO941 := tldF HO941 BK946 hb (Kd.R_base ho0) (Kd.R_base ho1); replace HO944 := tldF HO944 BK946 hb (Kd.R_base ho0) (Kd.R_base ho1); replace BK920 := bkf BK920 hb; replace BK921 := bkf BK921 hb; replace BK946 := bkp BK946 (.bool t938) (.slice Ao44 t939.length co44) (.slice Ao46 t942.length co46) hb; replace HB := bst HB hb; (try clear hb); (try clear hb2); (try clear hk); (try clear hi); (try clear ho0); (try clear ho1)) | ((with_reducible refine gate_dst (N := 8) rfl ?_); refine bx_ (N := 8) (cs := #[.bool false, .slice none 0 0, .slice none 0 0]) (t := 24) ?_; intro gb954 hg w51 hbox hb; replace HO927 := rblR HO927 hb; replace HO930 := rblR HO930 hb; replace HO934 := rblR HO934 hb; replace HO937 := rblR HO937 hb; replace HO941 := rblR HO941 hb; replace HO944 := rblR HO944 hb; replace HO950 := rblR HO950 hb; replace HO953 := rblR HO953 hb; have BK954 := Aside0.mk (hbox); have GW954 := geh hg HB; have GE954 := geh hg HB; replace HB := bst HB hb; have NB920_954 := nlt hg BK920; have NB954_920 := ngt hg BK920; replace BK920 := bkb BK920 hb; have NB921_954 := nlt hg BK921; have NB954_921 := ngt hg BK921; replace BK921 := bkb BK921 hb; have NB946_954 := nlt hg BK946; have NB954_946 := ngt hg BK946; replace BK946 := bkb BK946 hb; clear hb hbox hg; have hnb52 := NB954_920.out; have hnc52 := NB920_954.out; have hnb53 := NB954_921.out; have hnc53 := NB921_954.out; have hnb54 := NB954_946.out; have hnc54 := NB946_954.out; obtain ⟨hcz55_0, hcz55_1, hcz55_2, hfz55_0, hfz55_1, hfz55_2⟩ := bc3 BK954; obtain ⟨Ao56, co56, eo56⟩ := Kd.R_slice HO950.out; subst eo56; obtain ⟨Ao57, co57, eo57⟩ := Kd.R_slice HO953.out; subst eo57; have hnb58 := NB921_946.out; have hnc58 := NB946_921.out; obtain ⟨hcz59_0, hcz59_1, hcz59_2, hfz59_0, hfz59_1, hfz59_2⟩ := bc3 BK921) | ((with_reducible refine gate_callee (f := 22) rfl ?_); refine gL_ (some 38) Try.func22 #[.agg #[.bool a1_0, .slice A1_1 l1_1.length c1_1, .slice A1_2 l1_2.length c1_2]] ?_; (with_reducible refine (laws_toRat.calls k a1_0 _ _ l1_1 _ _ l1_2 t955 t956 t959 _ ?side1 ?side2 ?side3 ?side4 A23.out).mono ?_); (case side1 => exact Kd.C_below HR1_1.out (blw HB)); (case side2 => exact HC1_1.out); (case side3 => exact Kd.C_below HR1_2.out (blw HB)); (case side4 => exact HC1_2.out); rintro e w60 ⟨v957, v960, rfl, ho0, ho1, hb⟩; refine ⟨_, rfl, ?_⟩; have HO958 := lwR (nwF (nwF (nwF (nwF (nwF (nwF (nwF (nwF ho0 HO927 BK954) HO930 BK954) HO934 BK954) HO937 BK954) HO941 BK954) HO944 BK954) HO950 BK954) HO953 BK954) HB; have HO961 := lwR (nwF (nwF (nwF (nwF (nwF (nwF (nwF (nwF ho1 HO927 BK954) HO930 BK954) HO934 BK954) HO937 BK954) HO941 BK954) HO944 BK954) HO950 BK954) HO953 BK954) HB; replace HO927 := tldF HO927 BK954 hb (Kd.R_base ho0) (Kd.R_base ho1); replace HO930 := tldF HO930 BK954 hb (Kd.R_base ho0) (Kd.R_base ho1); replace HO934 := tldF HO934 BK954 hb (Kd.R_base ho0) (Kd.R_base ho1); replace HO937 := tldF HO937 BK954 hb (Kd.R_base ho0) (Kd.R_base ho1); replace HO941 := tldF HO941 BK954 hb (Kd.R_base ho0) (Kd.R_base ho1); replace HO944 := tldF HO944 BK954 hb (Kd.R_base ho0) (Kd.R_base ho1); replace HO950 := tldF HO950 BK954 hb (Kd.R_base ho0) (Kd.R_base ho1); replace HO953 := tldF HO953 BK954 hb (Kd.R_base ho0) (Kd.R_base ho1); replace BK920 := bkf BK920 hb; replace BK921 := bkf BK921 hb; replace BK946 := bkf BK946 hb; replace BK954 := bkp BK954 (.bool t947) (.slice Ao56 t948.length co56) (.slice Ao57 t951.length co57) hb; replace HB := bst HB hb; (try clear hb); (try clear hb2); (try clear hk); (try clear hi); (try clear ho0); (try clear ho1)) | ((with_reducible refine gate_dst (N := 9) rfl ?_); refine bx_ (N := 9) (cs := #[.bool false, .slice none 0 0, .slice none 0 0]) (t := 24) ?_; intro gb962 hg w61 hbox hb; replace HO927 := rblR HO927 hb; replace HO930 := rblR HO930 hb; replace HO934 := rblR HO934 hb; replace HO937 := rblR HO937 hb; replace HO941 := rblR HO941 hb; replace HO944 := rblR HO944 hb; replace HO950 := rblR HO950 hb; replace HO953 := rblR HO953 hb; replace HO958 := rblR HO958 hb; replace HO961 := rblR HO961 hb; have BK962 := Aside0.mk (hbox); have GW962 := geh hg HB; have GE962 := geh hg HB; replace HB := bst HB hb; have NB920_962 := nlt hg BK920; have NB962_920 := ngt hg BK920; replace BK920 := bkb BK920 hb; have NB921_962 := nlt hg BK921; have NB962_921 := ngt hg BK921; replace BK921 := bkb BK921 hb; have NB946_962 := nlt hg BK946; have NB962_946 := ngt hg BK946; replace BK946 := bkb BK946 hb; have NB954_962 := nlt hg BK954; have NB962_954 := ngt hg BK954; replace BK954 := bkb BK954 hb; clear hb hbox hg; have hnb62 := NB962_920.out; have hnc62 := NB920_962.out; have hnb63 := NB962_921.out; have hnc63 := NB921_962.out; have hnb64 := NB962_946.out; have hnc64 := NB946_962.out; have hnb65 := NB962_954.out; have hnc65 := NB954_962.out; obtain ⟨hcz66_0, hcz66_1, hcz66_2, hfz66_0, hfz66_1, hfz66_2⟩ := bc3 BK962; obtain ⟨Ao67, co67, eo67⟩ := Kd.R_slice HO958.out; subst eo67; obtain ⟨Ao68, co68, eo68⟩ := Kd.R_slice HO961.out; subst eo68; obtain ⟨hcz69_0, hcz69_1, hcz69_2, hfz69_0, hfz69_1, hfz69_2⟩ := bc3 BK954) | ((with_reducible refine gate_callee (f := 37) rfl ?_); refine gL_ (some 42) Try.func37 #[.agg #[.bool t947, .slice Ao56 t948.length co56, .slice Ao57 t951.length co57], .agg #[.bool t955, .slice Ao67 t956.length co67, .slice Ao68 t959.length co68]] ?_; (with_reducible refine (impl_AddRat.calls k t947 _ _ t948 _ _ t951 t955 _ _ t956 _ _ t959 t963 t964 t967 t970 _ ?side1 ?side2 ?side3 ?side4 ?side5 ?side6 ?side7 ?side8 A24.out).mono ?_); (case side1 => refine (Kd.R_reads' (e := 3) (base := w.heap.size) (ok := fun k_ => ((((((((nO k_ (.slice Ao57 t951.length co57) ∧ nO k_ v926) ∧ nO k_ v929) ∧ nO k_ v933) ∧ nO k_ v936) ∧ nO k_ (.slice Ao44 t939.length co44)) ∧ nO k_ (.slice Ao46 t942.length co46)) ∧ nO k_ (.slice Ao67 t956.length co67)) ∧ nO k_ (.slice Ao68 t959.length co68))) (n := t948.length) (c := co56) ?_).2.2; exact (crF HO950 BK962)); (case side2 => exact (Kd.R_reads' HO950.out).2.1); (case side3 => refine (Kd.R_reads' (e := 3) (base := w.heap.size) (ok := fun k_ => ((((((((nO k_ (.slice Ao56 t948.length co56) ∧ nO k_ v926) ∧ nO k_ v929) ∧ nO k_ v933) ∧ nO k_ v936) ∧ nO k_ (.slice Ao44 t939.length co44)) ∧ nO k_ (.slice Ao46 t942.length co46)) ∧ nO k_ (.slice Ao67 t956.length co67)) ∧ nO k_ (.slice Ao68 t959.length co68))) (n := t951.length) (c := co57) ?_).2.2; exact (crF HO953 BK962)); (case side4 => exact (Kd.R_reads' HO953.out).2.1); (case side5 => refine (Kd.R_reads' (e := 3) (base := w.heap.size) (ok := fun k_ => ((((((((nO k_ (.slice Ao68 t959.length co68) ∧ nO k_ v926) ∧ nO k_ v929) ∧ nO k_ v933) ∧ nO k_ v936) ∧ nO k_ (.slice Ao44 t939.length co44)) ∧ nO k_ (.slice Ao46 t942.length co46)) ∧ nO k_ (.slice Ao56 t948.length co56)) ∧ nO k_ (.slice Ao57 t951.length co57))) (n := t956.length) (c := co67) ?_).2.2; exact (crF HO958 BK962)); (case side6 => exact (Kd.R_reads' HO958.out).2.1); (case side7 => refine (Kd.R_reads' (e := 3) (base := w.heap.size) (ok := fun k_ => ((((((((nO k_ (.slice Ao67 t956.length co67) ∧ nO k_ v926) ∧ nO k_ v929) ∧ nO k_ v933) ∧ nO k_ v936) ∧ nO k_ (.slice Ao44 t939.length co44)) ∧ nO k_ (.slice Ao46 t942.length co46)) ∧ nO k_ (.slice Ao56 t948.length co56)) ∧ nO k_ (.slice Ao57 t951.length co57))) (n := t959.length) (c := co68) ?_).2.2; exact (crF HO961 BK962)); (case side8 => exact (Kd.R_reads' HO961.out).2.1); rintro e w70 ⟨v965, v968, rfl, ho0, ho1, hb⟩; refine ⟨_, rfl, ?_⟩; have HO966 := lwR (nwF (nwF (nwF (nwF (nwF (nwF (nwF (nwF (nwF (nwF ho0 HO927 BK962) HO930 BK962) HO934 BK962) HO937 BK962) HO941 BK962) HO944 BK962) HO950 BK962) HO953 BK962) HO958 BK962) HO961 BK962) HB; have HO969 := lwR (nwF (nwF (nwF (nwF (nwF (nwF (nwF (nwF (nwF (nwF ho1 HO927 BK962) HO930 BK962) HO934 BK962) HO937 BK962) HO941 BK962) HO944 BK962) HO950 BK962) HO953 BK962) HO958 BK962) HO961 BK962) HB; replace HO927 := tldF HO927 BK962 hb (Kd.R_base ho0) (Kd.R_base ho1); replace HO930 := tldF HO930 BK962 hb (Kd.R_base ho0) (Kd.R_base ho1); replace HO934 := tldF HO934 BK962 hb (Kd.R_base ho0) (Kd.R_base ho1); replace HO937 := tldF HO937 BK962 hb (Kd.R_base ho0) (Kd.R_base ho1); replace HO941 := tldF HO941 BK962 hb (Kd.R_base ho0) (Kd.R_base ho1); replace HO944 := tldF HO944 BK962 hb (Kd.R_base ho0) (Kd.R_base ho1); replace HO950 := tldF HO950 BK962 hb (Kd.R_base ho0) (Kd.R_base ho1); replace HO953 := tldF HO953 BK962 hb (Kd.R_base ho0) (Kd.R_base ho1); replace HO958 := tldF HO958 BK962 hb (Kd.R_base ho0) (Kd.R_base ho1); replace HO961 := tldF HO961 BK962 hb (Kd.R_base ho0) (Kd.R_base ho1); replace BK920 := bkf BK920 hb; replace BK921 := bkf BK921 hb; replace BK946 := bkf BK946 hb; replace BK954 := bkf BK954 hb; replace BK962 := bkp BK962 (.bool t955) (.slice Ao67 t956.length co67) (.slice Ao68 t959.length co68) hb; replace HB := bst HB hb; (try clear hb); (try clear hb2); (try clear hk); (try clear hi); (try clear ho0); (try clear ho1)) | ((with_reducible refine gate_dst (N := 10) rfl ?_); refine bx_ (N := 10) (cs := #[.bool false, .slice none 0 0, .slice none 0 0]) (t := 24) ?_; intro gb971 hg w71 hbox hb; replace HO927 := rblR HO927 hb; replace HO930 := rblR HO930 hb; replace HO934 := rblR HO934 hb; replace HO937 := rblR HO937 hb; replace HO941 := rblR HO941 hb; replace HO944 := rblR HO944 hb; replace HO950 := rblR HO950 hb; replace HO953 := rblR HO953 hb; replace HO958 := rblR HO958 hb; replace HO961 := rblR HO961 hb; replace HO966 := rblR HO966 hb; replace HO969 := rblR HO969 hb; have BK971 := Aside0.mk (hbox); have GW971 := geh hg HB; have GE971 := geh hg HB; replace HB := bst HB hb; have NB920_971 := nlt hg BK920; have NB971_920 := ngt hg BK920; replace BK920 := bkb BK920 hb; have NB921_971 := nlt hg BK921; have NB971_921 := ngt hg BK921; replace BK921 := bkb BK921 hb; have NB946_971 := nlt hg BK946; have NB971_946 := ngt hg BK946; replace BK946 := bkb BK946 hb; have NB954_971 := nlt hg BK954; have NB971_954 := ngt hg BK954; replace BK954 := bkb BK954 hb; have NB962_971 := nlt hg BK962; have NB971_962 := ngt hg BK962; replace BK962 := bkb BK962 hb; clear hb hbox hg; have hnb72 := NB971_920.out; have hnc72 := NB920_971.out; have hnb73 := NB971_921.out; have hnc73 := NB921_971.out; have hnb74 := NB971_946.out; have hnc74 := NB946_971.out; have hnb75 := NB971_954.out; have hnc75 := NB954_971.out; have hnb76 := NB971_962.out; have hnc76 := NB962_971.out; obtain ⟨hcz77_0, hcz77_1, hcz77_2, hfz77_0, hfz77_1, hfz77_2⟩ := bc3 BK971; obtain ⟨Ao78, co78, eo78⟩ := Kd.R_slice HO966.out; subst eo78; obtain ⟨Ao79, co79, eo79⟩ := Kd.R_slice HO969.out; subst eo79))
   (try simp only [Act.put, List.setIfInBounds_toArray, List.set_cons_zero, List.set_cons_succ])
   go_cut [53] (fun v53 wc => ∃ (kq : Nat) (x53_24 : Bool), v53 = .bool x53_24 ∧ Aside0 (laws_FnExactAddRat.j0 kq t945 t970 x53_24 a0_0 l0_1 l0_2 a1_0 l1_1 l1_2 t938 t939 t942 t947 t948 t951 t955 t956 t959 t963 t964 t967 = some r) ∧ Aside0 (kq ≤ k) ∧ Aside0 (Kd.R (Kd.int .i64) 3 wc w.heap.size (fun k_ => nO k_ (.slice Ao46 t942.length co46) ∧ nO k_ (.slice Ao56 t948.length co56) ∧ nO k_ (.slice Ao57 t951.length co57) ∧ nO k_ (.slice Ao67 t956.length co67) ∧ nO k_ (.slice Ao68 t959.length co68) ∧ nO k_ (.slice Ao78 t964.length co78) ∧ nO k_ (.slice Ao79 t967.length co79)) (.slice Ao44 t939.length co44) t939) ∧ Aside0 (Kd.R (Kd.int .i64) 3 wc w.heap.size (fun k_ => nO k_ (.slice Ao44 t939.length co44) ∧ nO k_ (.slice Ao56 t948.length co56) ∧ nO k_ (.slice Ao57 t951.length co57) ∧ nO k_ (.slice Ao67 t956.length co67) ∧ nO k_ (.slice Ao68 t959.length co68) ∧ nO k_ (.slice Ao78 t964.length co78) ∧ nO k_ (.slice Ao79 t967.length co79)) (.slice Ao46 t942.length co46) t942) ∧ Aside0 (Kd.R (Kd.int .i64) 3 wc w.heap.size (fun k_ => nO k_ (.slice Ao44 t939.length co44) ∧ nO k_ (.slice Ao46 t942.length co46) ∧ nO k_ (.slice Ao57 t951.length co57) ∧ nO k_ (.slice Ao67 t956.length co67) ∧ nO k_ (.slice Ao68 t959.length co68) ∧ nO k_ (.slice Ao78 t964.length co78) ∧ nO k_ (.slice Ao79 t967.length co79)) (.slice Ao56 t948.length co56) t948) ∧ Aside0 (Kd.R (Kd.int .i64) 3 wc w.heap.size (fun k_ => nO k_ (.slice Ao44 t939.length co44) ∧ nO k_ (.slice Ao46 t942.length co46) ∧ nO k_ (.slice Ao56 t948.length co56) ∧ nO k_ (.slice Ao67 t956.length co67) ∧ nO k_ (.slice Ao68 t959.length co68) ∧ nO k_ (.slice Ao78 t964.length co78) ∧ nO k_ (.slice Ao79 t967.length co79)) (.slice Ao57 t951.length co57) t951) ∧ Aside0 (Kd.R (Kd.int .i64) 3 wc w.heap.size (fun k_ => nO k_ (.slice Ao44 t939.length co44) ∧ nO k_ (.slice Ao46 t942.length co46) ∧ nO k_ (.slice Ao56 t948.length co56) ∧ nO k_ (.slice Ao57 t951.length co57) ∧ nO k_ (.slice Ao68 t959.length co68) ∧ nO k_ (.slice Ao78 t964.length co78) ∧ nO k_ (.slice Ao79 t967.length co79)) (.slice Ao67 t956.length co67) t956) ∧ Aside0 (Kd.R (Kd.int .i64) 3 wc w.heap.size (fun k_ => nO k_ (.slice Ao44 t939.length co44) ∧ nO k_ (.slice Ao46 t942.length co46) ∧ nO k_ (.slice Ao56 t948.length co56) ∧ nO k_ (.slice Ao57 t951.length co57) ∧ nO k_ (.slice Ao67 t956.length co67) ∧ nO k_ (.slice Ao78 t964.length co78) ∧ nO k_ (.slice Ao79 t967.length co79)) (.slice Ao68 t959.length co68) t959) ∧ Aside0 (Kd.R (Kd.int .i64) 3 wc w.heap.size (fun k_ => nO k_ (.slice Ao44 t939.length co44) ∧ nO k_ (.slice Ao46 t942.length co46) ∧ nO k_ (.slice Ao56 t948.length co56) ∧ nO k_ (.slice Ao57 t951.length co57) ∧ nO k_ (.slice Ao67 t956.length co67) ∧ nO k_ (.slice Ao68 t959.length co68) ∧ nO k_ (.slice Ao79 t967.length co79)) (.slice Ao78 t964.length co78) t964) ∧ Aside0 (Kd.R (Kd.int .i64) 3 wc w.heap.size (fun k_ => nO k_ (.slice Ao44 t939.length co44) ∧ nO k_ (.slice Ao46 t942.length co46) ∧ nO k_ (.slice Ao56 t948.length co56) ∧ nO k_ (.slice Ao57 t951.length co57) ∧ nO k_ (.slice Ao67 t956.length co67) ∧ nO k_ (.slice Ao68 t959.length co68) ∧ nO k_ (.slice Ao78 t964.length co78)) (.slice Ao79 t967.length co79) t967) ∧ Aside0 (wc.heap[gb920]? = some (.cells #[.bool a0_0, (.slice A0_1 l0_1.length c0_1), (.slice A0_2 l0_2.length c0_2)] 30 (0, 0))) ∧ Aside0 (wc.heap[gb921]? = some (.cells #[.bool a1_0, (.slice A1_1 l1_1.length c1_1), (.slice A1_2 l1_2.length c1_2)] 30 (0, 0))) ∧ Aside0 (wc.heap[gb946]? = some (.cells #[.bool t938, (.slice Ao44 t939.length co44), (.slice Ao46 t942.length co46)] 24 (0, 0))) ∧ Aside0 (wc.heap[gb954]? = some (.cells #[.bool t947, (.slice Ao56 t948.length co56), (.slice Ao57 t951.length co57)] 24 (0, 0))) ∧ Aside0 (wc.heap[gb962]? = some (.cells #[.bool t955, (.slice Ao67 t956.length co67), (.slice Ao68 t959.length co68)] 24 (0, 0))) ∧ Aside0 (wc.heap[gb971]? = some (.cells #[.bool t963, (.slice Ao78 t964.length co78), (.slice Ao79 t967.length co79)] 24 (0, 0))) ∧ Aside0 (Below w.heap.size w wc))
   case first =>
    have H := HC25.out
    clear HC25
    replace H := Option.bind_eq_some_iff.mp H
    obtain ⟨t972, A800, H⟩ := H
    replace H : (if t972 = true then (laws_FnExactAddRat.j0 k t945 t970 (t970 != t945) a0_0 l0_1 l0_2 a1_0 l1_1 l1_2 t938 t939 t942 t947 t948 t951 t955 t956 t959 t963 t964 t967) else (laws_FnExactAddRat.j0 k t945 t970 true a0_0 l0_1 l0_2 a1_0 l1_1 l1_2 t938 t939 t942 t947 t948 t951 t955 t956 t959 t963 t964 t967)) = some r := H
    have A80 := Aside0.mk A800
    clear A800
    by_cases c81 : t972 = true
    ·
     subst c81
     have H1 : (laws_FnExactAddRat.j0 k t945 t970 (t970 != t945) a0_0 l0_1 l0_2 a1_0 l1_1 l1_2 t938 t939 t942 t947 t948 t951 t955 t956 t959 t963 t964 t967) = some r := by rw [if_pos rfl] at H; exact H
     clear H
     have H := H1
     clear H1
     have H' := Aside0.mk H
     clear H
     have hnb82 := NB971_920.out
     have hnc82 := NB920_971.out
     have hnb83 := NB971_921.out
     have hnc83 := NB921_971.out
     have hnb84 := NB971_946.out
     have hnc84 := NB946_971.out
     have hnb85 := NB971_954.out
     have hnc85 := NB954_971.out
     have hnb86 := NB971_962.out
     have hnc86 := NB962_971.out
     obtain ⟨hcz87_0, hcz87_1, hcz87_2, hfz87_0, hfz87_1, hfz87_2⟩ := bc3 BK971
     have hnb88 := NB946_920.out
     have hnc88 := NB920_946.out
     have hnb89 := NB946_921.out
     have hnc89 := NB921_946.out
     have hnb90 := NB946_954.out
     have hnc90 := NB954_946.out
     have hnb91 := NB946_962.out
     have hnc91 := NB962_946.out
     obtain ⟨hcz92_0, hcz92_1, hcz92_2, hfz92_0, hfz92_1, hfz92_2⟩ := bc3 BK946
     go_wp2_with (first | ((with_reducible refine gate_callee (f := 17) rfl ?_); refine gL_ (some 47) Try.func17 #[.agg #[.bool t963, .slice Ao78 t964.length co78, .slice Ao79 t967.length co79], .agg #[.bool t938, .slice Ao44 t939.length co44, .slice Ao46 t942.length co46]] ?_; (with_reducible refine (laws_eqRat.calls k t963 _ _ t964 _ _ t967 t938 _ _ t939 _ _ t942 true _ ?side1 ?side2 ?side3 ?side4 ?side5 ?side6 ?side7 ?side8 A80.out).mono ?_); (case side1 => refine (Kd.R_reads' (e := 3) (base := w.heap.size) (ok := fun k_ => ((((((((((nO k_ (.slice Ao79 t967.length co79) ∧ nO k_ v926) ∧ nO k_ v929) ∧ nO k_ v933) ∧ nO k_ v936) ∧ nO k_ (.slice Ao44 t939.length co44)) ∧ nO k_ (.slice Ao46 t942.length co46)) ∧ nO k_ (.slice Ao56 t948.length co56)) ∧ nO k_ (.slice Ao57 t951.length co57)) ∧ nO k_ (.slice Ao67 t956.length co67)) ∧ nO k_ (.slice Ao68 t959.length co68))) (n := t964.length) (c := co78) ?_).2.2; exact (crF HO966 BK971)); (case side2 => exact (Kd.R_reads' HO966.out).2.1); (case side3 => refine (Kd.R_reads' (e := 3) (base := w.heap.size) (ok := fun k_ => ((((((((((nO k_ (.slice Ao78 t964.length co78) ∧ nO k_ v926) ∧ nO k_ v929) ∧ nO k_ v933) ∧ nO k_ v936) ∧ nO k_ (.slice Ao44 t939.length co44)) ∧ nO k_ (.slice Ao46 t942.length co46)) ∧ nO k_ (.slice Ao56 t948.length co56)) ∧ nO k_ (.slice Ao57 t951.length co57)) ∧ nO k_ (.slice Ao67 t956.length co67)) ∧ nO k_ (.slice Ao68 t959.length co68))) (n := t967.length) (c := co79) ?_).2.2; exact (crF HO969 BK971)); (case side4 => exact (Kd.R_reads' HO969.out).2.1); (case side5 => refine (Kd.R_reads' (e := 3) (base := w.heap.size) (ok := fun k_ => (((((((nO k_ v926 ∧ (nO k_ v929 ∧ (nO k_ v933 ∧ (nO k_ v936 ∧ nO k_ (.slice Ao46 t942.length co46))))) ∧ nO k_ (.slice Ao56 t948.length co56)) ∧ nO k_ (.slice Ao57 t951.length co57)) ∧ nO k_ (.slice Ao67 t956.length co67)) ∧ nO k_ (.slice Ao68 t959.length co68)) ∧ nO k_ (.slice Ao78 t964.length co78)) ∧ nO k_ (.slice Ao79 t967.length co79))) (n := t939.length) (c := co44) ?_).2.2; exact (crF HO941 BK971)); (case side6 => exact (Kd.R_reads' HO941.out).2.1); (case side7 => refine (Kd.R_reads' (e := 3) (base := w.heap.size) (ok := fun k_ => (((((((nO k_ v926 ∧ (nO k_ v929 ∧ (nO k_ v933 ∧ (nO k_ v936 ∧ nO k_ (.slice Ao44 t939.length co44))))) ∧ nO k_ (.slice Ao56 t948.length co56)) ∧ nO k_ (.slice Ao57 t951.length co57)) ∧ nO k_ (.slice Ao67 t956.length co67)) ∧ nO k_ (.slice Ao68 t959.length co68)) ∧ nO k_ (.slice Ao78 t964.length co78)) ∧ nO k_ (.slice Ao79 t967.length co79))) (n := t942.length) (c := co46) ?_).2.2; exact (crF HO944 BK971)); (case side8 => exact (Kd.R_reads' HO944.out).2.1); rintro e w93 ⟨rfl, hb⟩; refine ⟨_, rfl, ?_⟩; replace HO927 := rblF HO927 BK971 hb; replace HO930 := rblF HO930 BK971 hb; replace HO934 := rblF HO934 BK971 hb; replace HO937 := rblF HO937 BK971 hb; replace HO941 := rblF HO941 BK971 hb; replace HO944 := rblF HO944 BK971 hb; replace HO950 := rblF HO950 BK971 hb; replace HO953 := rblF HO953 BK971 hb; replace HO958 := rblF HO958 BK971 hb; replace HO961 := rblF HO961 BK971 hb; replace HO966 := rblF HO966 BK971 hb; replace HO969 := rblF HO969 BK971 hb; replace BK920 := bkf BK920 hb; replace BK921 := bkf BK921 hb; replace BK946 := bkf BK946 hb; replace BK954 := bkf BK954 hb; replace BK962 := bkf BK962 hb; replace BK971 := bkp BK971 (.bool t963) (.slice Ao78 t964.length co78) (.slice Ao79 t967.length co79) hb; replace HB := bst HB hb; (try clear hb); (try clear hb2); (try clear hk); (try clear hi)))
     go_meet
     case rel => exact ⟨_, ((t970 != t945)), rs_, H', ⟨by first | omega | exact Nat.le_refl _⟩, ⟨crM HO941 fun _ hk => ⟨hk.1.1.1.1.1.1.2.2.2.2, hk.1.1.1.1.1.2, hk.1.1.1.1.2, hk.1.1.1.2, hk.1.1.2, hk.1.2, hk.2⟩⟩, ⟨crM HO944 fun _ hk => ⟨hk.1.1.1.1.1.1.2.2.2.2, hk.1.1.1.1.1.2, hk.1.1.1.1.2, hk.1.1.1.2, hk.1.1.2, hk.1.2, hk.2⟩⟩, ⟨crM HO950 fun _ hk => ⟨hk.1.1.1.1.1.2, hk.1.1.1.1.2, hk.1.1.1.1.1.1.1.1.1.1, hk.1.1.1.2, hk.1.1.2, hk.1.2, hk.2⟩⟩, ⟨crM HO953 fun _ hk => ⟨hk.1.1.1.1.1.2, hk.1.1.1.1.2, hk.1.1.1.1.1.1.1.1.1.1, hk.1.1.1.2, hk.1.1.2, hk.1.2, hk.2⟩⟩, ⟨crM HO958 fun _ hk => ⟨hk.1.1.1.1.1.2, hk.1.1.1.1.2, hk.1.1.1.2, hk.1.1.2, hk.1.1.1.1.1.1.1.1.1.1, hk.1.2, hk.2⟩⟩, ⟨crM HO961 fun _ hk => ⟨hk.1.1.1.1.1.2, hk.1.1.1.1.2, hk.1.1.1.2, hk.1.1.2, hk.1.1.1.1.1.1.1.1.1.1, hk.1.2, hk.2⟩⟩, ⟨crM HO966 fun _ hk => ⟨hk.1.1.1.1.1.2, hk.1.1.1.1.2, hk.1.1.1.2, hk.1.1.2, hk.1.2, hk.2, hk.1.1.1.1.1.1.1.1.1.1⟩⟩, ⟨crM HO969 fun _ hk => ⟨hk.1.1.1.1.1.2, hk.1.1.1.1.2, hk.1.1.1.2, hk.1.1.2, hk.1.2, hk.2, hk.1.1.1.1.1.1.1.1.1.1⟩⟩, ⟨crb BK920⟩, ⟨crb BK921⟩, ⟨crb BK946⟩, ⟨crb BK954⟩, ⟨crb BK962⟩, ⟨crb BK971⟩, ⟨blw HB⟩⟩
    ·
     replace c81 := Bool.eq_false_iff.mpr c81
     subst c81
     have H1 : (laws_FnExactAddRat.j0 k t945 t970 true a0_0 l0_1 l0_2 a1_0 l1_1 l1_2 t938 t939 t942 t947 t948 t951 t955 t956 t959 t963 t964 t967) = some r := by rw [if_neg (show ¬ (false = true) by decide)] at H; exact H
     clear H
     have H := H1
     clear H1
     have H' := Aside0.mk H
     clear H
     have hnb94 := NB971_920.out
     have hnc94 := NB920_971.out
     have hnb95 := NB971_921.out
     have hnc95 := NB921_971.out
     have hnb96 := NB971_946.out
     have hnc96 := NB946_971.out
     have hnb97 := NB971_954.out
     have hnc97 := NB954_971.out
     have hnb98 := NB971_962.out
     have hnc98 := NB962_971.out
     obtain ⟨hcz99_0, hcz99_1, hcz99_2, hfz99_0, hfz99_1, hfz99_2⟩ := bc3 BK971
     have hnb100 := NB946_920.out
     have hnc100 := NB920_946.out
     have hnb101 := NB946_921.out
     have hnc101 := NB921_946.out
     have hnb102 := NB946_954.out
     have hnc102 := NB954_946.out
     have hnb103 := NB946_962.out
     have hnc103 := NB962_946.out
     obtain ⟨hcz104_0, hcz104_1, hcz104_2, hfz104_0, hfz104_1, hfz104_2⟩ := bc3 BK946
     go_wp2_with (first | ((with_reducible refine gate_callee (f := 17) rfl ?_); refine gL_ (some 47) Try.func17 #[.agg #[.bool t963, .slice Ao78 t964.length co78, .slice Ao79 t967.length co79], .agg #[.bool t938, .slice Ao44 t939.length co44, .slice Ao46 t942.length co46]] ?_; (with_reducible refine (laws_eqRat.calls k t963 _ _ t964 _ _ t967 t938 _ _ t939 _ _ t942 false _ ?side1 ?side2 ?side3 ?side4 ?side5 ?side6 ?side7 ?side8 A80.out).mono ?_); (case side1 => refine (Kd.R_reads' (e := 3) (base := w.heap.size) (ok := fun k_ => ((((((((((nO k_ (.slice Ao79 t967.length co79) ∧ nO k_ v926) ∧ nO k_ v929) ∧ nO k_ v933) ∧ nO k_ v936) ∧ nO k_ (.slice Ao44 t939.length co44)) ∧ nO k_ (.slice Ao46 t942.length co46)) ∧ nO k_ (.slice Ao56 t948.length co56)) ∧ nO k_ (.slice Ao57 t951.length co57)) ∧ nO k_ (.slice Ao67 t956.length co67)) ∧ nO k_ (.slice Ao68 t959.length co68))) (n := t964.length) (c := co78) ?_).2.2; exact (crF HO966 BK971)); (case side2 => exact (Kd.R_reads' HO966.out).2.1); (case side3 => refine (Kd.R_reads' (e := 3) (base := w.heap.size) (ok := fun k_ => ((((((((((nO k_ (.slice Ao78 t964.length co78) ∧ nO k_ v926) ∧ nO k_ v929) ∧ nO k_ v933) ∧ nO k_ v936) ∧ nO k_ (.slice Ao44 t939.length co44)) ∧ nO k_ (.slice Ao46 t942.length co46)) ∧ nO k_ (.slice Ao56 t948.length co56)) ∧ nO k_ (.slice Ao57 t951.length co57)) ∧ nO k_ (.slice Ao67 t956.length co67)) ∧ nO k_ (.slice Ao68 t959.length co68))) (n := t967.length) (c := co79) ?_).2.2; exact (crF HO969 BK971)); (case side4 => exact (Kd.R_reads' HO969.out).2.1); (case side5 => refine (Kd.R_reads' (e := 3) (base := w.heap.size) (ok := fun k_ => (((((((nO k_ v926 ∧ (nO k_ v929 ∧ (nO k_ v933 ∧ (nO k_ v936 ∧ nO k_ (.slice Ao46 t942.length co46))))) ∧ nO k_ (.slice Ao56 t948.length co56)) ∧ nO k_ (.slice Ao57 t951.length co57)) ∧ nO k_ (.slice Ao67 t956.length co67)) ∧ nO k_ (.slice Ao68 t959.length co68)) ∧ nO k_ (.slice Ao78 t964.length co78)) ∧ nO k_ (.slice Ao79 t967.length co79))) (n := t939.length) (c := co44) ?_).2.2; exact (crF HO941 BK971)); (case side6 => exact (Kd.R_reads' HO941.out).2.1); (case side7 => refine (Kd.R_reads' (e := 3) (base := w.heap.size) (ok := fun k_ => (((((((nO k_ v926 ∧ (nO k_ v929 ∧ (nO k_ v933 ∧ (nO k_ v936 ∧ nO k_ (.slice Ao44 t939.length co44))))) ∧ nO k_ (.slice Ao56 t948.length co56)) ∧ nO k_ (.slice Ao57 t951.length co57)) ∧ nO k_ (.slice Ao67 t956.length co67)) ∧ nO k_ (.slice Ao68 t959.length co68)) ∧ nO k_ (.slice Ao78 t964.length co78)) ∧ nO k_ (.slice Ao79 t967.length co79))) (n := t942.length) (c := co46) ?_).2.2; exact (crF HO944 BK971)); (case side8 => exact (Kd.R_reads' HO944.out).2.1); rintro e w105 ⟨rfl, hb⟩; refine ⟨_, rfl, ?_⟩; replace HO927 := rblF HO927 BK971 hb; replace HO930 := rblF HO930 BK971 hb; replace HO934 := rblF HO934 BK971 hb; replace HO937 := rblF HO937 BK971 hb; replace HO941 := rblF HO941 BK971 hb; replace HO944 := rblF HO944 BK971 hb; replace HO950 := rblF HO950 BK971 hb; replace HO953 := rblF HO953 BK971 hb; replace HO958 := rblF HO958 BK971 hb; replace HO961 := rblF HO961 BK971 hb; replace HO966 := rblF HO966 BK971 hb; replace HO969 := rblF HO969 BK971 hb; replace BK920 := bkf BK920 hb; replace BK921 := bkf BK921 hb; replace BK946 := bkf BK946 hb; replace BK954 := bkf BK954 hb; replace BK962 := bkf BK962 hb; replace BK971 := bkp BK971 (.bool t963) (.slice Ao78 t964.length co78) (.slice Ao79 t967.length co79) hb; replace HB := bst HB hb; (try clear hb); (try clear hb2); (try clear hk); (try clear hi)))
     go_meet
     case rel => exact ⟨_, (true), rs_, H', ⟨by first | omega | exact Nat.le_refl _⟩, ⟨crM HO941 fun _ hk => ⟨hk.1.1.1.1.1.1.2.2.2.2, hk.1.1.1.1.1.2, hk.1.1.1.1.2, hk.1.1.1.2, hk.1.1.2, hk.1.2, hk.2⟩⟩, ⟨crM HO944 fun _ hk => ⟨hk.1.1.1.1.1.1.2.2.2.2, hk.1.1.1.1.1.2, hk.1.1.1.1.2, hk.1.1.1.2, hk.1.1.2, hk.1.2, hk.2⟩⟩, ⟨crM HO950 fun _ hk => ⟨hk.1.1.1.1.1.2, hk.1.1.1.1.2, hk.1.1.1.1.1.1.1.1.1.1, hk.1.1.1.2, hk.1.1.2, hk.1.2, hk.2⟩⟩, ⟨crM HO953 fun _ hk => ⟨hk.1.1.1.1.1.2, hk.1.1.1.1.2, hk.1.1.1.1.1.1.1.1.1.1, hk.1.1.1.2, hk.1.1.2, hk.1.2, hk.2⟩⟩, ⟨crM HO958 fun _ hk => ⟨hk.1.1.1.1.1.2, hk.1.1.1.1.2, hk.1.1.1.2, hk.1.1.2, hk.1.1.1.1.1.1.1.1.1.1, hk.1.2, hk.2⟩⟩, ⟨crM HO961 fun _ hk => ⟨hk.1.1.1.1.1.2, hk.1.1.1.1.2, hk.1.1.1.2, hk.1.1.2, hk.1.1.1.1.1.1.1.1.1.1, hk.1.2, hk.2⟩⟩, ⟨crM HO966 fun _ hk => ⟨hk.1.1.1.1.1.2, hk.1.1.1.1.2, hk.1.1.1.2, hk.1.1.2, hk.1.2, hk.2, hk.1.1.1.1.1.1.1.1.1.1⟩⟩, ⟨crM HO969 fun _ hk => ⟨hk.1.1.1.1.1.2, hk.1.1.1.1.2, hk.1.1.1.2, hk.1.1.2, hk.1.2, hk.2, hk.1.1.1.1.1.1.1.1.1.1⟩⟩, ⟨crb BK920⟩, ⟨crb BK921⟩, ⟨crb BK946⟩, ⟨crb BK954⟩, ⟨crb BK962⟩, ⟨crb BK971⟩, ⟨blw HB⟩⟩
   case rest =>
    clear HC25
    try clear c1
    try clear c2
    try clear p2
    try clear c3
    try clear c4
    try clear c5
    try clear c6
    try clear c7
    try clear c8
    try clear c9
    try clear c10
    try clear c17
    try clear c22
    try clear c36
    try clear c37
    try clear c48
    try clear c52
    try clear c53
    try clear c54
    try clear c58
    try clear c62
    try clear c63
    try clear c64
    try clear c65
    try clear c72
    try clear c73
    try clear c74
    try clear c75
    try clear c76
    try clear c81
    try clear c82
    try clear c83
    try clear c84
    try clear c85
    try clear c86
    try clear c88
    try clear c89
    try clear c90
    try clear c91
    try clear c94
    try clear c95
    try clear c96
    try clear c97
    try clear c98
    try clear c100
    try clear c101
    try clear c102
    try clear c103
    try clear hcz104_0
    try clear hcz104_1
    try clear hcz104_2
    try clear hcz49_0
    try clear hcz49_1
    try clear hcz49_2
    try clear hcz55_0
    try clear hcz55_1
    try clear hcz55_2
    try clear hcz59_0
    try clear hcz59_1
    try clear hcz59_2
    try clear hcz66_0
    try clear hcz66_1
    try clear hcz66_2
    try clear hcz69_0
    try clear hcz69_1
    try clear hcz69_2
    try clear hcz77_0
    try clear hcz77_1
    try clear hcz77_2
    try clear hcz87_0
    try clear hcz87_1
    try clear hcz87_2
    try clear hcz92_0
    try clear hcz92_1
    try clear hcz92_2
    try clear hcz99_0
    try clear hcz99_1
    try clear hcz99_2
    try clear hfz104_0
    try clear hfz104_1
    try clear hfz104_2
    try clear hfz49_0
    try clear hfz49_1
    try clear hfz49_2
    try clear hfz55_0
    try clear hfz55_1
    try clear hfz55_2
    try clear hfz59_0
    try clear hfz59_1
    try clear hfz59_2
    try clear hfz66_0
    try clear hfz66_1
    try clear hfz66_2
    try clear hfz69_0
    try clear hfz69_1
    try clear hfz69_2
    try clear hfz77_0
    try clear hfz77_1
    try clear hfz77_2
    try clear hfz87_0
    try clear hfz87_1
    try clear hfz87_2
    try clear hfz92_0
    try clear hfz92_1
    try clear hfz92_2
    try clear hfz99_0
    try clear hfz99_1
    try clear hfz99_2
    obtain ⟨kq, x53_24, rfl, HA, HJ24, HO_947001, HO_947002, HO_955001, HO_955002, HO_963001, HO_963002, HO_972001, HO_972002, BK920, BK921, BK946, BK954, BK962, BK971, HB⟩ := hcut
    cases kq with
    | zero => exact absurd HA.out (by simp [laws_FnExactAddRat.j0])
    | succ kj24 =>
     have H := HA.out
     clear HA
     simp only [laws_FnExactAddRat.j0] at H
     by_cases c106 : x53_24 = true
     ·
      subst c106
      have H1 : (some false) = some r := by rw [if_pos rfl] at H; exact H
      clear H
      have H := H1
      clear H1
      obtain rfl := Option.some.inj H
      exact absurd hr_ (by decide)
     ·
      replace c106 := Bool.eq_false_iff.mpr c106
      subst c106
      have H1 : ((laws_toRat.f kj24 a0_0 l0_1 l0_2).bind fun bt973 => ((laws_eqRat.f kj24 t947 t948 t951 bt973.1 bt973.2.1 bt973.2.2).bind fun t980 => (if t980 = true then ((laws_toRat.f kj24 a1_0 l1_1 l1_2).bind fun bt981 => ((laws_eqRat.f kj24 t955 t956 t959 bt981.1 bt981.2.1 bt981.2.2).bind fun t988 => (if t988 = true then ((laws_markRat.f kj24 t947 t948 t951 1).bind fun bt989 => ((laws_markRat.f kj24 t955 t956 t959 bt989.1).bind fun bt992 => (if bt992.1 < 0 then (laws_FnExactAddRat.j1 kj24 t945 true a0_0 l0_1 l0_2 a1_0 l1_1 l1_2 t938 t939 t942 t963 t964 t967) else ((laws_eqRat.f kj24 t963 t964 t967 t938 t939 t942).bind fun t995 => (if t995 = true then (laws_FnExactAddRat.j1 kj24 t945 (t970 != t945) a0_0 l0_1 l0_2 a1_0 l1_1 l1_2 t938 t939 t942 t963 t964 t967) else (laws_FnExactAddRat.j1 kj24 t945 true a0_0 l0_1 l0_2 a1_0 l1_1 l1_2 t938 t939 t942 t963 t964 t967)))))) else (some false)))) else (some false)))) = some r := by rw [if_neg (show ¬ (false = true) by decide)] at H; exact H
      clear H
      have H := H1
      clear H1
      replace H := Option.bind_eq_some_iff.mp H
      obtain ⟨⟨t973, t974, t977⟩, A1070, H⟩ := H
      replace H : ((laws_eqRat.f kj24 t947 t948 t951 t973 t974 t977).bind fun t980 => (if t980 = true then ((laws_toRat.f kj24 a1_0 l1_1 l1_2).bind fun bt981 => ((laws_eqRat.f kj24 t955 t956 t959 bt981.1 bt981.2.1 bt981.2.2).bind fun t988 => (if t988 = true then ((laws_markRat.f kj24 t947 t948 t951 1).bind fun bt989 => ((laws_markRat.f kj24 t955 t956 t959 bt989.1).bind fun bt992 => (if bt992.1 < 0 then (laws_FnExactAddRat.j1 kj24 t945 true a0_0 l0_1 l0_2 a1_0 l1_1 l1_2 t938 t939 t942 t963 t964 t967) else ((laws_eqRat.f kj24 t963 t964 t967 t938 t939 t942).bind fun t995 => (if t995 = true then (laws_FnExactAddRat.j1 kj24 t945 (t970 != t945) a0_0 l0_1 l0_2 a1_0 l1_1 l1_2 t938 t939 t942 t963 t964 t967) else (laws_FnExactAddRat.j1 kj24 t945 true a0_0 l0_1 l0_2 a1_0 l1_1 l1_2 t938 t939 t942 t963 t964 t967)))))) else (some false)))) else (some false))) = some r := H
      have A107 := Aside0.mk A1070
      clear A1070
      replace H := Option.bind_eq_some_iff.mp H
      obtain ⟨t980, A1080, H⟩ := H
      replace H : (if t980 = true then ((laws_toRat.f kj24 a1_0 l1_1 l1_2).bind fun bt981 => ((laws_eqRat.f kj24 t955 t956 t959 bt981.1 bt981.2.1 bt981.2.2).bind fun t988 => (if t988 = true then ((laws_markRat.f kj24 t947 t948 t951 1).bind fun bt989 => ((laws_markRat.f kj24 t955 t956 t959 bt989.1).bind fun bt992 => (if bt992.1 < 0 then (laws_FnExactAddRat.j1 kj24 t945 true a0_0 l0_1 l0_2 a1_0 l1_1 l1_2 t938 t939 t942 t963 t964 t967) else ((laws_eqRat.f kj24 t963 t964 t967 t938 t939 t942).bind fun t995 => (if t995 = true then (laws_FnExactAddRat.j1 kj24 t945 (t970 != t945) a0_0 l0_1 l0_2 a1_0 l1_1 l1_2 t938 t939 t942 t963 t964 t967) else (laws_FnExactAddRat.j1 kj24 t945 true a0_0 l0_1 l0_2 a1_0 l1_1 l1_2 t938 t939 t942 t963 t964 t967)))))) else (some false)))) else (some false)) = some r := H
      have A108 := Aside0.mk A1080
      clear A1080
      by_cases c109 : t980 = true
      ·
       subst c109
       have H1 : ((laws_toRat.f kj24 a1_0 l1_1 l1_2).bind fun bt981 => ((laws_eqRat.f kj24 t955 t956 t959 bt981.1 bt981.2.1 bt981.2.2).bind fun t988 => (if t988 = true then ((laws_markRat.f kj24 t947 t948 t951 1).bind fun bt989 => ((laws_markRat.f kj24 t955 t956 t959 bt989.1).bind fun bt992 => (if bt992.1 < 0 then (laws_FnExactAddRat.j1 kj24 t945 true a0_0 l0_1 l0_2 a1_0 l1_1 l1_2 t938 t939 t942 t963 t964 t967) else ((laws_eqRat.f kj24 t963 t964 t967 t938 t939 t942).bind fun t995 => (if t995 = true then (laws_FnExactAddRat.j1 kj24 t945 (t970 != t945) a0_0 l0_1 l0_2 a1_0 l1_1 l1_2 t938 t939 t942 t963 t964 t967) else (laws_FnExactAddRat.j1 kj24 t945 true a0_0 l0_1 l0_2 a1_0 l1_1 l1_2 t938 t939 t942 t963 t964 t967)))))) else (some false)))) = some r := by rw [if_pos rfl] at H; exact H
       clear H
       have H := H1
       clear H1
       replace H := Option.bind_eq_some_iff.mp H
       obtain ⟨⟨t981, t982, t985⟩, A1100, H⟩ := H
       replace H : ((laws_eqRat.f kj24 t955 t956 t959 t981 t982 t985).bind fun t988 => (if t988 = true then ((laws_markRat.f kj24 t947 t948 t951 1).bind fun bt989 => ((laws_markRat.f kj24 t955 t956 t959 bt989.1).bind fun bt992 => (if bt992.1 < 0 then (laws_FnExactAddRat.j1 kj24 t945 true a0_0 l0_1 l0_2 a1_0 l1_1 l1_2 t938 t939 t942 t963 t964 t967) else ((laws_eqRat.f kj24 t963 t964 t967 t938 t939 t942).bind fun t995 => (if t995 = true then (laws_FnExactAddRat.j1 kj24 t945 (t970 != t945) a0_0 l0_1 l0_2 a1_0 l1_1 l1_2 t938 t939 t942 t963 t964 t967) else (laws_FnExactAddRat.j1 kj24 t945 true a0_0 l0_1 l0_2 a1_0 l1_1 l1_2 t938 t939 t942 t963 t964 t967)))))) else (some false))) = some r := H
       have A110 := Aside0.mk A1100
       clear A1100
       replace H := Option.bind_eq_some_iff.mp H
       obtain ⟨t988, A1110, H⟩ := H
       replace H : (if t988 = true then ((laws_markRat.f kj24 t947 t948 t951 1).bind fun bt989 => ((laws_markRat.f kj24 t955 t956 t959 bt989.1).bind fun bt992 => (if bt992.1 < 0 then (laws_FnExactAddRat.j1 kj24 t945 true a0_0 l0_1 l0_2 a1_0 l1_1 l1_2 t938 t939 t942 t963 t964 t967) else ((laws_eqRat.f kj24 t963 t964 t967 t938 t939 t942).bind fun t995 => (if t995 = true then (laws_FnExactAddRat.j1 kj24 t945 (t970 != t945) a0_0 l0_1 l0_2 a1_0 l1_1 l1_2 t938 t939 t942 t963 t964 t967) else (laws_FnExactAddRat.j1 kj24 t945 true a0_0 l0_1 l0_2 a1_0 l1_1 l1_2 t938 t939 t942 t963 t964 t967)))))) else (some false)) = some r := H
       have A111 := Aside0.mk A1110
       clear A1110
       by_cases c112 : t988 = true
       ·
        subst c112
        have H1 : ((laws_markRat.f kj24 t947 t948 t951 1).bind fun bt989 => ((laws_markRat.f kj24 t955 t956 t959 bt989.1).bind fun bt992 => (if bt992.1 < 0 then (laws_FnExactAddRat.j1 kj24 t945 true a0_0 l0_1 l0_2 a1_0 l1_1 l1_2 t938 t939 t942 t963 t964 t967) else ((laws_eqRat.f kj24 t963 t964 t967 t938 t939 t942).bind fun t995 => (if t995 = true then (laws_FnExactAddRat.j1 kj24 t945 (t970 != t945) a0_0 l0_1 l0_2 a1_0 l1_1 l1_2 t938 t939 t942 t963 t964 t967) else (laws_FnExactAddRat.j1 kj24 t945 true a0_0 l0_1 l0_2 a1_0 l1_1 l1_2 t938 t939 t942 t963 t964 t967)))))) = some r := by rw [if_pos rfl] at H; exact H
        clear H
        have H := H1
        clear H1
        replace H := Option.bind_eq_some_iff.mp H
        obtain ⟨⟨t989, t990, t991⟩, A1130, H⟩ := H
        replace H : ((laws_markRat.f kj24 t955 t956 t959 t989).bind fun bt992 => (if bt992.1 < 0 then (laws_FnExactAddRat.j1 kj24 t945 true a0_0 l0_1 l0_2 a1_0 l1_1 l1_2 t938 t939 t942 t963 t964 t967) else ((laws_eqRat.f kj24 t963 t964 t967 t938 t939 t942).bind fun t995 => (if t995 = true then (laws_FnExactAddRat.j1 kj24 t945 (t970 != t945) a0_0 l0_1 l0_2 a1_0 l1_1 l1_2 t938 t939 t942 t963 t964 t967) else (laws_FnExactAddRat.j1 kj24 t945 true a0_0 l0_1 l0_2 a1_0 l1_1 l1_2 t938 t939 t942 t963 t964 t967))))) = some r := H
        have A113 := Aside0.mk A1130
        clear A1130
        replace H := Option.bind_eq_some_iff.mp H
        obtain ⟨⟨t992, t993, t994⟩, A1140, H⟩ := H
        replace H : (if t992 < 0 then (laws_FnExactAddRat.j1 kj24 t945 true a0_0 l0_1 l0_2 a1_0 l1_1 l1_2 t938 t939 t942 t963 t964 t967) else ((laws_eqRat.f kj24 t963 t964 t967 t938 t939 t942).bind fun t995 => (if t995 = true then (laws_FnExactAddRat.j1 kj24 t945 (t970 != t945) a0_0 l0_1 l0_2 a1_0 l1_1 l1_2 t938 t939 t942 t963 t964 t967) else (laws_FnExactAddRat.j1 kj24 t945 true a0_0 l0_1 l0_2 a1_0 l1_1 l1_2 t938 t939 t942 t963 t964 t967)))) = some r := H
        have A114 := Aside0.mk A1140
        clear A1140
        have HC115 := Aside0.mk H
        clear H
        try go_wp2
        replace HO_947001 := Aside0.mk (Kd.R_drew HO_947001.out)
        replace HO_947002 := Aside0.mk (Kd.R_drew HO_947002.out)
        replace HO_955001 := Aside0.mk (Kd.R_drew HO_955001.out)
        replace HO_955002 := Aside0.mk (Kd.R_drew HO_955002.out)
        replace HO_963001 := Aside0.mk (Kd.R_drew HO_963001.out)
        replace HO_963002 := Aside0.mk (Kd.R_drew HO_963002.out)
        replace HO_972001 := Aside0.mk (Kd.R_drew HO_972001.out)
        replace HO_972002 := Aside0.mk (Kd.R_drew HO_972002.out)
        replace BK920 := Aside0.mk (blk_drew BK920.out)
        replace BK921 := Aside0.mk (blk_drew BK921.out)
        replace BK946 := Aside0.mk (blk_drew BK946.out)
        replace BK954 := Aside0.mk (blk_drew BK954.out)
        replace BK962 := Aside0.mk (blk_drew BK962.out)
        replace BK971 := Aside0.mk (blk_drew BK971.out)
        replace HB := Aside0.mk (below_drew1 HB.out)
        refine start_ (n := 5) (S := fun w' => w'.cell? ⟨gb954, 0, none⟩ = some (.bool t947) ∧ w'.cell? ⟨gb954, 1, none⟩ = some (.slice Ao56 t948.length co56) ∧ w'.cell? ⟨gb954, 2, none⟩ = some (.slice Ao57 t951.length co57) ∧ w'.cell? ⟨gb920, 0, none⟩ = some (.bool a0_0) ∧ w'.cell? ⟨gb920, 1, none⟩ = some (.slice A0_1 l0_1.length c0_1) ∧ w'.cell? ⟨gb920, 2, none⟩ = some (.slice A0_2 l0_2.length c0_2)) (ds := []) #[false, false, false, false, false] (by kernel_rfl) rfl rfl ⟨bce BK954 0 _, bce BK954 1 _, bce BK954 2 _, bce BK920 0 _, bce BK920 1 _, bce BK920 2 _⟩ (fun hHeld => ?_)
        generalize wc.drew = w116 at HO_947001 HO_947002 HO_955001 HO_955002 HO_963001 HO_963002 HO_972001 HO_972002 BK920 BK921 BK946 BK954 BK962 BK971 HB hHeld ⊢
        refine take_ (i := 0) (N := some 54) (v := ?_) (a' := ?_) #[true, false, false, false, false] rfl rfl (by kernel_rfl) (fun _ _ _ h => h) (Or.inl ⟨by rfl, ?_⟩) hHeld ?_ ?_
        rotate_left
        ·
         rintro w' ⟨s0, s1, s2, s3, s4, s5⟩
         go_simp
         with_reducible rfl
        rotate_left
        ·
         simp only [Act.put, List.setIfInBounds_toArray, List.set_cons_zero, List.set_cons_succ, i64_w, i32_w]
         rfl
        refine take_ (i := 1) (N := some 55) (v := ?_) (a' := ?_) #[true, true, false, false, false] rfl rfl (by kernel_rfl) (fun _ _ _ h => h) (Or.inl ⟨by rfl, ?_⟩) hHeld ?_ ?_
        rotate_left
        ·
         rintro w' ⟨s0, s1, s2, s3, s4, s5⟩
         go_simp
         with_reducible rfl
        rotate_left
        ·
         simp only [Act.put, List.setIfInBounds_toArray, List.set_cons_zero, List.set_cons_succ, i64_w, i32_w]
         rfl
        refine one_ (i := 2) (N := some 56) #[true, true, true, false, false] rfl rfl (by kernel_rfl) (by decide) (fun K hK => ?_)
        refine g_ Try.func22 #[.agg #[.bool a0_0, .slice A0_1 l0_1.length c0_1, .slice A0_2 l0_2.length c0_2]] ?_
        with_reducible refine (laws_toRat.calls kj24 a0_0 _ _ l0_1 _ _ l0_2 t973 t974 t977 _ ?side1 ?side2 ?side3 ?side4 A107.out).mono ?_
        (case side1 => exact crC (Kd.C_below HR0_1.out HB.out))
        (case side2 => exact HC0_1.out)
        (case side3 => exact crC (Kd.C_below HR0_2.out HB.out))
        (case side4 => exact HC0_2.out)
        rintro e w117 ⟨v975, v978, rfl, ho0, ho1, hb⟩
        refine ⟨_, rfl, ?_⟩
        have HO976 := lwR (nwR (nwR (nwR (nwR (nwR (nwR (nwR (nwR ho0 HO_947001) HO_947002) HO_955001) HO_955002) HO_963001) HO_963002) HO_972001) HO_972002) HB
        have HO979 := lwR (nwR (nwR (nwR (nwR (nwR (nwR (nwR (nwR ho1 HO_947001) HO_947002) HO_955001) HO_955002) HO_963001) HO_963002) HO_972001) HO_972002) HB
        replace HO_947001 := tldR HO_947001 hb (Kd.R_base ho0) (Kd.R_base ho1)
        replace HO_947002 := tldR HO_947002 hb (Kd.R_base ho0) (Kd.R_base ho1)
        replace HO_955001 := tldR HO_955001 hb (Kd.R_base ho0) (Kd.R_base ho1)
        replace HO_955002 := tldR HO_955002 hb (Kd.R_base ho0) (Kd.R_base ho1)
        replace HO_963001 := tldR HO_963001 hb (Kd.R_base ho0) (Kd.R_base ho1)
        replace HO_963002 := tldR HO_963002 hb (Kd.R_base ho0) (Kd.R_base ho1)
        replace HO_972001 := tldR HO_972001 hb (Kd.R_base ho0) (Kd.R_base ho1)
        replace HO_972002 := tldR HO_972002 hb (Kd.R_base ho0) (Kd.R_base ho1)
        replace BK920 := bkb BK920 hb
        replace BK921 := bkb BK921 hb
        replace BK946 := bkb BK946 hb
        replace BK954 := bkb BK954 hb
        replace BK962 := bkb BK962 hb
        replace BK971 := bkb BK971 hb
        replace HB := bst HB hb
        (try clear hb)
        (try clear hb2)
        (try clear hk)
        (try clear hi)
        (try clear ho0)
        (try clear ho1)
        obtain ⟨Ao118, co118, eo118⟩ := Kd.R_slice HO976.out
        (first | subst eo118 | (injection eo118 with f1_ f2_ f3_; have f4_ := f1_.symm; have f5_ := f3_.symm; clear f1_ f2_ f3_; subst f4_; subst f5_))
        obtain ⟨Ao119, co119, eo119⟩ := Kd.R_slice HO979.out
        (first | subst eo119 | (injection eo119 with f1_ f2_ f3_; have f4_ := f1_.symm; have f5_ := f3_.symm; clear f1_ f2_ f3_; subst f4_; subst f5_))
        refine hK.out _ _ ⟨bce BK954 0 _, bce BK954 1 _, bce BK954 2 _, bce BK920 0 _, bce BK920 1 _, bce BK920 2 _⟩ (fun hHeld => ?_)
        clear hK K
        refine nm_ 56 ?_
        refine one_ (i := 3) (N := some 57) #[true, true, true, true, false] rfl rfl (by kernel_rfl) (by decide) (fun K hK => ?_)
        refine g_ Try.func17 #[.agg #[.bool t947, .slice Ao56 t948.length co56, .slice Ao57 t951.length co57], .agg #[.bool t973, .slice Ao118 t974.length co118, .slice Ao119 t977.length co119]] ?_
        with_reducible refine (laws_eqRat.calls kj24 t947 _ _ t948 _ _ t951 t973 _ _ t974 _ _ t977 true _ ?side1 ?side2 ?side3 ?side4 ?side5 ?side6 ?side7 ?side8 A108.out).mono ?_
        (case side1 => exact crC (Kd.R_reads' HO_955001.out).2.2)
        (case side2 => exact (Kd.R_reads' HO_955001.out).2.1)
        (case side3 => exact crC (Kd.R_reads' HO_955002.out).2.2)
        (case side4 => exact (Kd.R_reads' HO_955002.out).2.1)
        (case side5 => exact crC (Kd.R_reads' HO976.out).2.2)
        (case side6 => exact (Kd.R_reads' HO976.out).2.1)
        (case side7 => exact crC (Kd.R_reads' HO979.out).2.2)
        (case side8 => exact (Kd.R_reads' HO979.out).2.1)
        rintro e w120 ⟨rfl, hb⟩
        refine ⟨_, rfl, ?_⟩
        replace HO_947001 := rblR HO_947001 hb
        replace HO_947002 := rblR HO_947002 hb
        replace HO_955001 := rblR HO_955001 hb
        replace HO_955002 := rblR HO_955002 hb
        replace HO_963001 := rblR HO_963001 hb
        replace HO_963002 := rblR HO_963002 hb
        replace HO_972001 := rblR HO_972001 hb
        replace HO_972002 := rblR HO_972002 hb
        replace HO976 := rblR HO976 hb
        replace HO979 := rblR HO979 hb
        replace BK920 := bkb BK920 hb
        replace BK921 := bkb BK921 hb
        replace BK946 := bkb BK946 hb
        replace BK954 := bkb BK954 hb
        replace BK962 := bkb BK962 hb
        replace BK971 := bkb BK971 hb
        replace HB := bst HB hb
        (try clear hb)
        (try clear hb2)
        (try clear hk)
        (try clear hi)
        refine hK.out _ _ ⟨bce BK954 0 _, bce BK954 1 _, bce BK954 2 _, bce BK920 0 _, bce BK920 1 _, bce BK920 2 _⟩ (fun hHeld => ?_)
        clear hK K
        refine nm_ 57 ?_
        refine pure_ (i := 4) (N := some 58) (v := ?_) (a' := ?_) #[true, true, true, true, true] rfl rfl (by kernel_rfl) (fun _ _ _ h => h) (Or.inl ⟨by rfl, ?_⟩) ?_ ?_
        rotate_left
        ·
         intro w'
         go_simp
         with_reducible rfl
        rotate_left
        ·
         simp only [Act.put, List.setIfInBounds_toArray, List.set_cons_zero, List.set_cons_succ, i64_w, i32_w]
         rfl
        refine done_ (by kernel_rfl) ?_
        try go_wp2
        replace HO_947001 := Aside0.mk (Kd.R_drew HO_947001.out)
        replace HO_947002 := Aside0.mk (Kd.R_drew HO_947002.out)
        replace HO_955001 := Aside0.mk (Kd.R_drew HO_955001.out)
        replace HO_955002 := Aside0.mk (Kd.R_drew HO_955002.out)
        replace HO_963001 := Aside0.mk (Kd.R_drew HO_963001.out)
        replace HO_963002 := Aside0.mk (Kd.R_drew HO_963002.out)
        replace HO_972001 := Aside0.mk (Kd.R_drew HO_972001.out)
        replace HO_972002 := Aside0.mk (Kd.R_drew HO_972002.out)
        replace HO976 := Aside0.mk (Kd.R_drew HO976.out)
        replace HO979 := Aside0.mk (Kd.R_drew HO979.out)
        replace BK920 := Aside0.mk (blk_drew BK920.out)
        replace BK921 := Aside0.mk (blk_drew BK921.out)
        replace BK946 := Aside0.mk (blk_drew BK946.out)
        replace BK954 := Aside0.mk (blk_drew BK954.out)
        replace BK962 := Aside0.mk (blk_drew BK962.out)
        replace BK971 := Aside0.mk (blk_drew BK971.out)
        replace HB := Aside0.mk (below_drew1 HB.out)
        refine start_ (n := 5) (S := fun w' => w'.cell? ⟨gb962, 0, none⟩ = some (.bool t955) ∧ w'.cell? ⟨gb962, 1, none⟩ = some (.slice Ao67 t956.length co67) ∧ w'.cell? ⟨gb962, 2, none⟩ = some (.slice Ao68 t959.length co68) ∧ w'.cell? ⟨gb921, 0, none⟩ = some (.bool a1_0) ∧ w'.cell? ⟨gb921, 1, none⟩ = some (.slice A1_1 l1_1.length c1_1) ∧ w'.cell? ⟨gb921, 2, none⟩ = some (.slice A1_2 l1_2.length c1_2)) (ds := []) #[false, false, false, false, false] (by kernel_rfl) rfl rfl ⟨bce BK962 0 _, bce BK962 1 _, bce BK962 2 _, bce BK921 0 _, bce BK921 1 _, bce BK921 2 _⟩ (fun hHeld => ?_)
        generalize w120.drew = w121 at HO_947001 HO_947002 HO_955001 HO_955002 HO_963001 HO_963002 HO_972001 HO_972002 HO976 HO979 BK920 BK921 BK946 BK954 BK962 BK971 HB hHeld ⊢
        refine take_ (i := 0) (N := some 59) (v := ?_) (a' := ?_) #[true, false, false, false, false] rfl rfl (by kernel_rfl) (fun _ _ _ h => h) (Or.inl ⟨by rfl, ?_⟩) hHeld ?_ ?_
        rotate_left
        ·
         rintro w' ⟨s0, s1, s2, s3, s4, s5⟩
         go_simp
         with_reducible rfl
        rotate_left
        ·
         simp only [Act.put, List.setIfInBounds_toArray, List.set_cons_zero, List.set_cons_succ, i64_w, i32_w]
         rfl
        refine take_ (i := 1) (N := some 60) (v := ?_) (a' := ?_) #[true, true, false, false, false] rfl rfl (by kernel_rfl) (fun _ _ _ h => h) (Or.inl ⟨by rfl, ?_⟩) hHeld ?_ ?_
        rotate_left
        ·
         rintro w' ⟨s0, s1, s2, s3, s4, s5⟩
         go_simp
         with_reducible rfl
        rotate_left
        ·
         simp only [Act.put, List.setIfInBounds_toArray, List.set_cons_zero, List.set_cons_succ, i64_w, i32_w]
         rfl
        refine one_ (i := 2) (N := some 61) #[true, true, true, false, false] rfl rfl (by kernel_rfl) (by decide) (fun K hK => ?_)
        refine g_ Try.func22 #[.agg #[.bool a1_0, .slice A1_1 l1_1.length c1_1, .slice A1_2 l1_2.length c1_2]] ?_
        with_reducible refine (laws_toRat.calls kj24 a1_0 _ _ l1_1 _ _ l1_2 t981 t982 t985 _ ?side1 ?side2 ?side3 ?side4 A110.out).mono ?_
        (case side1 => exact crC (Kd.C_below HR1_1.out HB.out))
        (case side2 => exact HC1_1.out)
        (case side3 => exact crC (Kd.C_below HR1_2.out HB.out))
        (case side4 => exact HC1_2.out)
        rintro e w122 ⟨v983, v986, rfl, ho0, ho1, hb⟩
        refine ⟨_, rfl, ?_⟩
        have HO984 := lwR (nwR (nwR (nwR (nwR (nwR (nwR (nwR (nwR (nwR (nwR ho0 HO_947001) HO_947002) HO_955001) HO_955002) HO_963001) HO_963002) HO_972001) HO_972002) HO976) HO979) HB
        have HO987 := lwR (nwR (nwR (nwR (nwR (nwR (nwR (nwR (nwR (nwR (nwR ho1 HO_947001) HO_947002) HO_955001) HO_955002) HO_963001) HO_963002) HO_972001) HO_972002) HO976) HO979) HB
        replace HO_947001 := tldR HO_947001 hb (Kd.R_base ho0) (Kd.R_base ho1)
        replace HO_947002 := tldR HO_947002 hb (Kd.R_base ho0) (Kd.R_base ho1)
        replace HO_955001 := tldR HO_955001 hb (Kd.R_base ho0) (Kd.R_base ho1)
        replace HO_955002 := tldR HO_955002 hb (Kd.R_base ho0) (Kd.R_base ho1)
        replace HO_963001 := tldR HO_963001 hb (Kd.R_base ho0) (Kd.R_base ho1)
        replace HO_963002 := tldR HO_963002 hb (Kd.R_base ho0) (Kd.R_base ho1)
        replace HO_972001 := tldR HO_972001 hb (Kd.R_base ho0) (Kd.R_base ho1)
        replace HO_972002 := tldR HO_972002 hb (Kd.R_base ho0) (Kd.R_base ho1)
        replace HO976 := tldR HO976 hb (Kd.R_base ho0) (Kd.R_base ho1)
        replace HO979 := tldR HO979 hb (Kd.R_base ho0) (Kd.R_base ho1)
        replace BK920 := bkb BK920 hb
        replace BK921 := bkb BK921 hb
        replace BK946 := bkb BK946 hb
        replace BK954 := bkb BK954 hb
        replace BK962 := bkb BK962 hb
        replace BK971 := bkb BK971 hb
        replace HB := bst HB hb
        (try clear hb)
        (try clear hb2)
        (try clear hk)
        (try clear hi)
        (try clear ho0)
        (try clear ho1)
        obtain ⟨Ao123, co123, eo123⟩ := Kd.R_slice HO984.out
        (first | subst eo123 | (injection eo123 with f1_ f2_ f3_; have f4_ := f1_.symm; have f5_ := f3_.symm; clear f1_ f2_ f3_; subst f4_; subst f5_))
        obtain ⟨Ao124, co124, eo124⟩ := Kd.R_slice HO987.out
        (first | subst eo124 | (injection eo124 with f1_ f2_ f3_; have f4_ := f1_.symm; have f5_ := f3_.symm; clear f1_ f2_ f3_; subst f4_; subst f5_))
        refine hK.out _ _ ⟨bce BK962 0 _, bce BK962 1 _, bce BK962 2 _, bce BK921 0 _, bce BK921 1 _, bce BK921 2 _⟩ (fun hHeld => ?_)
        clear hK K
        refine nm_ 61 ?_
        refine one_ (i := 3) (N := some 62) #[true, true, true, true, false] rfl rfl (by kernel_rfl) (by decide) (fun K hK => ?_)
        refine g_ Try.func17 #[.agg #[.bool t955, .slice Ao67 t956.length co67, .slice Ao68 t959.length co68], .agg #[.bool t981, .slice Ao123 t982.length co123, .slice Ao124 t985.length co124]] ?_
        with_reducible refine (laws_eqRat.calls kj24 t955 _ _ t956 _ _ t959 t981 _ _ t982 _ _ t985 true _ ?side1 ?side2 ?side3 ?side4 ?side5 ?side6 ?side7 ?side8 A111.out).mono ?_
        (case side1 => exact crC (Kd.R_reads' HO_963001.out).2.2)
        (case side2 => exact (Kd.R_reads' HO_963001.out).2.1)
        (case side3 => exact crC (Kd.R_reads' HO_963002.out).2.2)
        (case side4 => exact (Kd.R_reads' HO_963002.out).2.1)
        (case side5 => exact crC (Kd.R_reads' HO984.out).2.2)
        (case side6 => exact (Kd.R_reads' HO984.out).2.1)
        (case side7 => exact crC (Kd.R_reads' HO987.out).2.2)
        (case side8 => exact (Kd.R_reads' HO987.out).2.1)
        rintro e w125 ⟨rfl, hb⟩
        refine ⟨_, rfl, ?_⟩
        replace HO_947001 := rblR HO_947001 hb
        replace HO_947002 := rblR HO_947002 hb
        replace HO_955001 := rblR HO_955001 hb
        replace HO_955002 := rblR HO_955002 hb
        replace HO_963001 := rblR HO_963001 hb
        replace HO_963002 := rblR HO_963002 hb
        replace HO_972001 := rblR HO_972001 hb
        replace HO_972002 := rblR HO_972002 hb
        replace HO976 := rblR HO976 hb
        replace HO979 := rblR HO979 hb
        replace HO984 := rblR HO984 hb
        replace HO987 := rblR HO987 hb
        replace BK920 := bkb BK920 hb
        replace BK921 := bkb BK921 hb
        replace BK946 := bkb BK946 hb
        replace BK954 := bkb BK954 hb
        replace BK962 := bkb BK962 hb
        replace BK971 := bkb BK971 hb
        replace HB := bst HB hb
        (try clear hb)
        (try clear hb2)
        (try clear hk)
        (try clear hi)
        refine hK.out _ _ ⟨bce BK962 0 _, bce BK962 1 _, bce BK962 2 _, bce BK921 0 _, bce BK921 1 _, bce BK921 2 _⟩ (fun hHeld => ?_)
        clear hK K
        refine nm_ 62 ?_
        refine pure_ (i := 4) (N := some 63) (v := ?_) (a' := ?_) #[true, true, true, true, true] rfl rfl (by kernel_rfl) (fun _ _ _ h => h) (Or.inl ⟨by rfl, ?_⟩) ?_ ?_
        rotate_left
        ·
         intro w'
         go_simp
         with_reducible rfl
        rotate_left
        ·
         simp only [Act.put, List.setIfInBounds_toArray, List.set_cons_zero, List.set_cons_succ, i64_w, i32_w]
         rfl
        refine done_ (by kernel_rfl) ?_
        have hnb126 := NB954_920.out
        have hnc126 := NB920_954.out
        have hnb127 := NB954_921.out
        have hnc127 := NB921_954.out
        have hnb128 := NB954_946.out
        have hnc128 := NB946_954.out
        have hnb129 := NB954_962.out
        have hnc129 := NB962_954.out
        have hnb130 := NB954_971.out
        have hnc130 := NB971_954.out
        obtain ⟨hcz131_0, hcz131_1, hcz131_2, hfz131_0, hfz131_1, hfz131_2⟩ := bc3 BK954
        go_upto_region 21 with (first | ((with_reducible refine gate_callee (f := 18) rfl ?_); refine gL_ (some 66) Try.func18 #[.agg #[.bool t947, .slice Ao56 t948.length co56, .slice Ao57 t951.length co57], .int .i64 1] ?_; (with_reducible refine (laws_markRat.calls kj24 t947 (fun k_ => some k_ = (.slice Ao56 t948.length co56 : Value).ownBlock) (.slice Ao56 t948.length co56) t948 (fun k_ => some k_ = (.slice Ao57 t951.length co57 : Value).ownBlock) (.slice Ao57 t951.length co57) t951 1 t989 t990 t991 w _ ?side1 ?side2 ?side3 ?side4 ?side5 A113.out).mono ?_); (case side1 => repeat (first | (with_reducible first | exact HB.out | apply below_alloc | apply pw_below_drewN | apply below_drew1 | refine below_set ?_ GE920.out | refine below_set ?_ GE921.out | refine below_set ?_ GE946.out | refine below_set ?_ GE954.out | refine below_set ?_ GE962.out | refine below_set ?_ GE971.out) | exact HB.out)); (case side2 => exact Kd.R_tight rfl HO_955001.out); (case side3 => exact fun k_ e_ => (HO_955001.out.1 k_ e_.symm).1.1.1.1.2.2.1); (case side4 => exact Kd.R_tight rfl HO_955002.out); (case side5 => exact fun k_ e_ => (HO_955002.out.1 k_ e_.symm).1.1.1.1.2.2.1); rintro e w132 ⟨rfl, hy0, hy1, hb, hkp⟩; refine ⟨_, rfl, ?_⟩; replace HO_947001 := Aside0.mk (Kd.R_mono (ok' := fun k_ => nO k_ (.slice Ao46 t942.length co46) ∧ nO k_ (.slice Ao56 t948.length co56) ∧ nO k_ (.slice Ao57 t951.length co57) ∧ nO k_ (.slice Ao67 t956.length co67) ∧ nO k_ (.slice Ao68 t959.length co68) ∧ nO k_ (.slice Ao78 t964.length co78) ∧ nO k_ (.slice Ao79 t967.length co79) ∧ nO k_ (.slice Ao118 t974.length co118) ∧ nO k_ (.slice Ao119 t977.length co119) ∧ nO k_ (.slice Ao123 t982.length co123) ∧ nO k_ (.slice Ao124 t985.length co124)) (Kd.R_keptB (HO_947001.out) hkp (fun k_ hk_ hs_ => Or.elim hs_ (fun e_ => (hk_.1.1.1.1.2.1) e_) (fun e_ => (hk_.1.1.1.1.2.2.1) e_))) (fun k_ hk_ => ⟨hk_.1.1.1.1.1.1, hk_.1.1.1.1.1.2.1, hk_.1.1.1.1.1.2.2.1, hk_.1.1.1.1.1.2.2.2.1, hk_.1.1.1.1.1.2.2.2.2.1, hk_.1.1.1.1.1.2.2.2.2.2.1, hk_.1.1.1.1.1.2.2.2.2.2.2, hk_.1.1.1.1.2, hk_.1.1.1.2, hk_.1.1.2, hk_.1.2⟩)); replace HO_947002 := Aside0.mk (Kd.R_mono (ok' := fun k_ => nO k_ (.slice Ao44 t939.length co44) ∧ nO k_ (.slice Ao56 t948.length co56) ∧ nO k_ (.slice Ao57 t951.length co57) ∧ nO k_ (.slice Ao67 t956.length co67) ∧ nO k_ (.slice Ao68 t959.length co68) ∧ nO k_ (.slice Ao78 t964.length co78) ∧ nO k_ (.slice Ao79 t967.length co79) ∧ nO k_ (.slice Ao118 t974.length co118) ∧ nO k_ (.slice Ao119 t977.length co119) ∧ nO k_ (.slice Ao123 t982.length co123) ∧ nO k_ (.slice Ao124 t985.length co124)) (Kd.R_keptB (HO_947002.out) hkp (fun k_ hk_ hs_ => Or.elim hs_ (fun e_ => (hk_.1.1.1.1.2.1) e_) (fun e_ => (hk_.1.1.1.1.2.2.1) e_))) (fun k_ hk_ => ⟨hk_.1.1.1.1.1.1, hk_.1.1.1.1.1.2.1, hk_.1.1.1.1.1.2.2.1, hk_.1.1.1.1.1.2.2.2.1, hk_.1.1.1.1.1.2.2.2.2.1, hk_.1.1.1.1.1.2.2.2.2.2.1, hk_.1.1.1.1.1.2.2.2.2.2.2, hk_.1.1.1.1.2, hk_.1.1.1.2, hk_.1.1.2, hk_.1.2⟩)); replace HO_963001 := Aside0.mk (Kd.R_mono (ok' := fun k_ => nO k_ (.slice Ao44 t939.length co44) ∧ nO k_ (.slice Ao46 t942.length co46) ∧ nO k_ (.slice Ao56 t948.length co56) ∧ nO k_ (.slice Ao57 t951.length co57) ∧ nO k_ (.slice Ao68 t959.length co68) ∧ nO k_ (.slice Ao78 t964.length co78) ∧ nO k_ (.slice Ao79 t967.length co79) ∧ nO k_ (.slice Ao118 t974.length co118) ∧ nO k_ (.slice Ao119 t977.length co119) ∧ nO k_ (.slice Ao123 t982.length co123) ∧ nO k_ (.slice Ao124 t985.length co124)) (Kd.R_keptB (HO_963001.out) hkp (fun k_ hk_ hs_ => Or.elim hs_ (fun e_ => (hk_.1.1.1.1.2.2.1) e_) (fun e_ => (hk_.1.1.1.1.2.2.2.1) e_))) (fun k_ hk_ => ⟨hk_.1.1.1.1.1.1, hk_.1.1.1.1.1.2.1, hk_.1.1.1.1.1.2.2.1, hk_.1.1.1.1.1.2.2.2.1, hk_.1.1.1.1.1.2.2.2.2.1, hk_.1.1.1.1.1.2.2.2.2.2.1, hk_.1.1.1.1.1.2.2.2.2.2.2, hk_.1.1.1.1.2, hk_.1.1.1.2, hk_.1.1.2, hk_.1.2⟩)); replace HO_963002 := Aside0.mk (Kd.R_mono (ok' := fun k_ => nO k_ (.slice Ao44 t939.length co44) ∧ nO k_ (.slice Ao46 t942.length co46) ∧ nO k_ (.slice Ao56 t948.length co56) ∧ nO k_ (.slice Ao57 t951.length co57) ∧ nO k_ (.slice Ao67 t956.length co67) ∧ nO k_ (.slice Ao78 t964.length co78) ∧ nO k_ (.slice Ao79 t967.length co79) ∧ nO k_ (.slice Ao118 t974.length co118) ∧ nO k_ (.slice Ao119 t977.length co119) ∧ nO k_ (.slice Ao123 t982.length co123) ∧ nO k_ (.slice Ao124 t985.length co124)) (Kd.R_keptB (HO_963002.out) hkp (fun k_ hk_ hs_ => Or.elim hs_ (fun e_ => (hk_.1.1.1.1.2.2.1) e_) (fun e_ => (hk_.1.1.1.1.2.2.2.1) e_))) (fun k_ hk_ => ⟨hk_.1.1.1.1.1.1, hk_.1.1.1.1.1.2.1, hk_.1.1.1.1.1.2.2.1, hk_.1.1.1.1.1.2.2.2.1, hk_.1.1.1.1.1.2.2.2.2.1, hk_.1.1.1.1.1.2.2.2.2.2.1, hk_.1.1.1.1.1.2.2.2.2.2.2, hk_.1.1.1.1.2, hk_.1.1.1.2, hk_.1.1.2, hk_.1.2⟩)); replace HO_972001 := Aside0.mk (Kd.R_mono (ok' := fun k_ => nO k_ (.slice Ao44 t939.length co44) ∧ nO k_ (.slice Ao46 t942.length co46) ∧ nO k_ (.slice Ao56 t948.length co56) ∧ nO k_ (.slice Ao57 t951.length co57) ∧ nO k_ (.slice Ao67 t956.length co67) ∧ nO k_ (.slice Ao68 t959.length co68) ∧ nO k_ (.slice Ao79 t967.length co79) ∧ nO k_ (.slice Ao118 t974.length co118) ∧ nO k_ (.slice Ao119 t977.length co119) ∧ nO k_ (.slice Ao123 t982.length co123) ∧ nO k_ (.slice Ao124 t985.length co124)) (Kd.R_keptB (HO_972001.out) hkp (fun k_ hk_ hs_ => Or.elim hs_ (fun e_ => (hk_.1.1.1.1.2.2.1) e_) (fun e_ => (hk_.1.1.1.1.2.2.2.1) e_))) (fun k_ hk_ => ⟨hk_.1.1.1.1.1.1, hk_.1.1.1.1.1.2.1, hk_.1.1.1.1.1.2.2.1, hk_.1.1.1.1.1.2.2.2.1, hk_.1.1.1.1.1.2.2.2.2.1, hk_.1.1.1.1.1.2.2.2.2.2.1, hk_.1.1.1.1.1.2.2.2.2.2.2, hk_.1.1.1.1.2, hk_.1.1.1.2, hk_.1.1.2, hk_.1.2⟩)); replace HO_972002 := Aside0.mk (Kd.R_mono (ok' := fun k_ => nO k_ (.slice Ao44 t939.length co44) ∧ nO k_ (.slice Ao46 t942.length co46) ∧ nO k_ (.slice Ao56 t948.length co56) ∧ nO k_ (.slice Ao57 t951.length co57) ∧ nO k_ (.slice Ao67 t956.length co67) ∧ nO k_ (.slice Ao68 t959.length co68) ∧ nO k_ (.slice Ao78 t964.length co78) ∧ nO k_ (.slice Ao118 t974.length co118) ∧ nO k_ (.slice Ao119 t977.length co119) ∧ nO k_ (.slice Ao123 t982.length co123) ∧ nO k_ (.slice Ao124 t985.length co124)) (Kd.R_keptB (HO_972002.out) hkp (fun k_ hk_ hs_ => Or.elim hs_ (fun e_ => (hk_.1.1.1.1.2.2.1) e_) (fun e_ => (hk_.1.1.1.1.2.2.2.1) e_))) (fun k_ hk_ => ⟨hk_.1.1.1.1.1.1, hk_.1.1.1.1.1.2.1, hk_.1.1.1.1.1.2.2.1, hk_.1.1.1.1.1.2.2.2.1, hk_.1.1.1.1.1.2.2.2.2.1, hk_.1.1.1.1.1.2.2.2.2.2.1, hk_.1.1.1.1.1.2.2.2.2.2.2, hk_.1.1.1.1.2, hk_.1.1.1.2, hk_.1.1.2, hk_.1.2⟩)); replace BK920 := Aside0.mk (blk_kept (crb BK920) hkp (fun hs_ => Or.elim hs_ (fun e_ => (fun e_ => (Kd.R_ne HO_955001.out BK920.out (by decide)) e_) e_) (fun e_ => (fun e_ => (Kd.R_ne HO_955002.out BK920.out (by decide)) e_) e_))); replace BK921 := Aside0.mk (blk_kept (crb BK921) hkp (fun hs_ => Or.elim hs_ (fun e_ => (fun e_ => (Kd.R_ne HO_955001.out BK921.out (by decide)) e_) e_) (fun e_ => (fun e_ => (Kd.R_ne HO_955002.out BK921.out (by decide)) e_) e_))); replace BK946 := Aside0.mk (blk_kept (crb BK946) hkp (fun hs_ => Or.elim hs_ (fun e_ => (fun e_ => (Kd.R_ne HO_955001.out BK946.out (by decide)) e_) e_) (fun e_ => (fun e_ => (Kd.R_ne HO_955002.out BK946.out (by decide)) e_) e_))); replace BK954 := Aside0.mk (blk_kept (crb BK954) hkp (fun hs_ => Or.elim hs_ (fun e_ => (fun e_ => (Kd.R_ne HO_955001.out BK954.out (by decide)) e_) e_) (fun e_ => (fun e_ => (Kd.R_ne HO_955002.out BK954.out (by decide)) e_) e_))); replace BK962 := Aside0.mk (blk_kept (crb BK962) hkp (fun hs_ => Or.elim hs_ (fun e_ => (fun e_ => (Kd.R_ne HO_955001.out BK962.out (by decide)) e_) e_) (fun e_ => (fun e_ => (Kd.R_ne HO_955002.out BK962.out (by decide)) e_) e_))); replace BK971 := Aside0.mk (blk_kept (crb BK971) hkp (fun hs_ => Or.elim hs_ (fun e_ => (fun e_ => (Kd.R_ne HO_955001.out BK971.out (by decide)) e_) e_) (fun e_ => (fun e_ => (Kd.R_ne HO_955002.out BK971.out (by decide)) e_) e_))); replace HO_955001 := Aside0.mk (Kd.R_reok rfl hy0 (fun k_ e_ => HO_955001.out.1 k_ e_)); replace HO_955002 := Aside0.mk (Kd.R_reok rfl hy1 (fun k_ e_ => HO_955002.out.1 k_ e_)); replace HO976 := Aside0.mk (Kd.R_mono (ok' := fun k_ => nO k_ (.slice Ao44 t939.length co44) ∧ nO k_ (.slice Ao46 t942.length co46) ∧ nO k_ (.slice Ao56 t948.length co56) ∧ nO k_ (.slice Ao57 t951.length co57) ∧ nO k_ (.slice Ao67 t956.length co67) ∧ nO k_ (.slice Ao68 t959.length co68) ∧ nO k_ (.slice Ao78 t964.length co78) ∧ nO k_ (.slice Ao79 t967.length co79) ∧ nO k_ (.slice Ao119 t977.length co119) ∧ nO k_ (.slice Ao123 t982.length co123) ∧ nO k_ (.slice Ao124 t985.length co124)) (Kd.R_keptB (HO976.out) hkp (fun k_ hk_ hs_ => Or.elim hs_ (fun e_ => (hk_.1.1.1.1.1.1.1.2) e_) (fun e_ => (hk_.1.1.1.1.1.1.2) e_))) (fun k_ hk_ => ⟨hk_.1.1.1.1.1.1.1.1.1.1.2, hk_.1.1.1.1.1.1.1.1.1.2, hk_.1.1.1.1.1.1.1.1.2, hk_.1.1.1.1.1.1.1.2, hk_.1.1.1.1.1.1.2, hk_.1.1.1.1.1.2, hk_.1.1.1.1.2, hk_.1.1.1.2, hk_.1.1.1.1.1.1.1.1.1.1.1, hk_.1.1.2, hk_.1.2⟩)); replace HO979 := Aside0.mk (Kd.R_mono (ok' := fun k_ => nO k_ (.slice Ao44 t939.length co44) ∧ nO k_ (.slice Ao46 t942.length co46) ∧ nO k_ (.slice Ao56 t948.length co56) ∧ nO k_ (.slice Ao57 t951.length co57) ∧ nO k_ (.slice Ao67 t956.length co67) ∧ nO k_ (.slice Ao68 t959.length co68) ∧ nO k_ (.slice Ao78 t964.length co78) ∧ nO k_ (.slice Ao79 t967.length co79) ∧ nO k_ (.slice Ao118 t974.length co118) ∧ nO k_ (.slice Ao123 t982.length co123) ∧ nO k_ (.slice Ao124 t985.length co124)) (Kd.R_keptB (HO979.out) hkp (fun k_ hk_ hs_ => Or.elim hs_ (fun e_ => (hk_.1.1.1.1.1.1.1.2) e_) (fun e_ => (hk_.1.1.1.1.1.1.2) e_))) (fun k_ hk_ => ⟨hk_.1.1.1.1.1.1.1.1.1.1.2, hk_.1.1.1.1.1.1.1.1.1.2, hk_.1.1.1.1.1.1.1.1.2, hk_.1.1.1.1.1.1.1.2, hk_.1.1.1.1.1.1.2, hk_.1.1.1.1.1.2, hk_.1.1.1.1.2, hk_.1.1.1.2, hk_.1.1.1.1.1.1.1.1.1.1.1, hk_.1.1.2, hk_.1.2⟩)); replace HO984 := Aside0.mk (Kd.R_mono (ok' := fun k_ => nO k_ (.slice Ao44 t939.length co44) ∧ nO k_ (.slice Ao46 t942.length co46) ∧ nO k_ (.slice Ao56 t948.length co56) ∧ nO k_ (.slice Ao57 t951.length co57) ∧ nO k_ (.slice Ao67 t956.length co67) ∧ nO k_ (.slice Ao68 t959.length co68) ∧ nO k_ (.slice Ao78 t964.length co78) ∧ nO k_ (.slice Ao79 t967.length co79) ∧ nO k_ (.slice Ao118 t974.length co118) ∧ nO k_ (.slice Ao119 t977.length co119) ∧ nO k_ (.slice Ao124 t985.length co124)) (Kd.R_keptB (HO984.out) hkp (fun k_ hk_ hs_ => Or.elim hs_ (fun e_ => (hk_.1.1.1.1.1.1.1.2) e_) (fun e_ => (hk_.1.1.1.1.1.1.2) e_))) (fun k_ hk_ => ⟨hk_.1.1.1.1.1.1.1.1.1.1.2, hk_.1.1.1.1.1.1.1.1.1.2, hk_.1.1.1.1.1.1.1.1.2, hk_.1.1.1.1.1.1.1.2, hk_.1.1.1.1.1.1.2, hk_.1.1.1.1.1.2, hk_.1.1.1.1.2, hk_.1.1.1.2, hk_.1.1.2, hk_.1.2, hk_.1.1.1.1.1.1.1.1.1.1.1⟩)); replace HO987 := Aside0.mk (Kd.R_mono (ok' := fun k_ => nO k_ (.slice Ao44 t939.length co44) ∧ nO k_ (.slice Ao46 t942.length co46) ∧ nO k_ (.slice Ao56 t948.length co56) ∧ nO k_ (.slice Ao57 t951.length co57) ∧ nO k_ (.slice Ao67 t956.length co67) ∧ nO k_ (.slice Ao68 t959.length co68) ∧ nO k_ (.slice Ao78 t964.length co78) ∧ nO k_ (.slice Ao79 t967.length co79) ∧ nO k_ (.slice Ao118 t974.length co118) ∧ nO k_ (.slice Ao119 t977.length co119) ∧ nO k_ (.slice Ao123 t982.length co123)) (Kd.R_keptB (HO987.out) hkp (fun k_ hk_ hs_ => Or.elim hs_ (fun e_ => (hk_.1.1.1.1.1.1.1.2) e_) (fun e_ => (hk_.1.1.1.1.1.1.2) e_))) (fun k_ hk_ => ⟨hk_.1.1.1.1.1.1.1.1.1.1.2, hk_.1.1.1.1.1.1.1.1.1.2, hk_.1.1.1.1.1.1.1.1.2, hk_.1.1.1.1.1.1.1.2, hk_.1.1.1.1.1.1.2, hk_.1.1.1.1.1.2, hk_.1.1.1.1.2, hk_.1.1.1.2, hk_.1.1.2, hk_.1.2, hk_.1.1.1.1.1.1.1.1.1.1.1⟩)); replace HB := Aside0.mk (hb); (try clear hb); (try clear hkp); (try clear hy0); (try clear hy1); have hnb133 := NB962_920.out; have hnc133 := NB920_962.out; have hnb134 := NB962_921.out; have hnc134 := NB921_962.out; have hnb135 := NB962_946.out; have hnc135 := NB946_962.out; have hnb136 := NB962_971.out; have hnc136 := NB971_962.out; obtain ⟨hcz137_0, hcz137_1, hcz137_2, hfz137_0, hfz137_1, hfz137_2⟩ := bc3 BK962) | ((with_reducible refine gate_callee (f := 18) rfl ?_); refine gL_ (some 69) Try.func18 #[.agg #[.bool t955, .slice Ao67 t956.length co67, .slice Ao68 t959.length co68], .int .i64 t989] ?_; (with_reducible refine (laws_markRat.calls kj24 t955 (fun k_ => some k_ = (.slice Ao67 t956.length co67 : Value).ownBlock) (.slice Ao67 t956.length co67) t956 (fun k_ => some k_ = (.slice Ao68 t959.length co68 : Value).ownBlock) (.slice Ao68 t959.length co68) t959 t989 t992 t993 t994 w _ ?side1 ?side2 ?side3 ?side4 ?side5 A114.out).mono ?_); (case side1 => repeat (first | (with_reducible first | exact HB.out | apply below_alloc | apply pw_below_drewN | apply below_drew1 | refine below_set ?_ GE920.out | refine below_set ?_ GE921.out | refine below_set ?_ GE946.out | refine below_set ?_ GE954.out | refine below_set ?_ GE962.out | refine below_set ?_ GE971.out) | exact HB.out)); (case side2 => exact Kd.R_tight rfl HO_963001.out); (case side3 => exact fun k_ e_ => (HO_963001.out.1 k_ e_.symm).2.2.2.2.1); (case side4 => exact Kd.R_tight rfl HO_963002.out); (case side5 => exact fun k_ e_ => (HO_963002.out.1 k_ e_.symm).2.2.2.2.1); rintro e w138 ⟨rfl, hy0, hy1, hb, hkp⟩; refine ⟨_, rfl, ?_⟩; replace HO_947001 := Aside0.mk (Kd.R_mono (ok' := fun k_ => nO k_ (.slice Ao46 t942.length co46) ∧ nO k_ (.slice Ao56 t948.length co56) ∧ nO k_ (.slice Ao57 t951.length co57) ∧ nO k_ (.slice Ao67 t956.length co67) ∧ nO k_ (.slice Ao68 t959.length co68) ∧ nO k_ (.slice Ao78 t964.length co78) ∧ nO k_ (.slice Ao79 t967.length co79) ∧ nO k_ (.slice Ao118 t974.length co118) ∧ nO k_ (.slice Ao119 t977.length co119) ∧ nO k_ (.slice Ao123 t982.length co123) ∧ nO k_ (.slice Ao124 t985.length co124)) (Kd.R_keptB (HO_947001.out) hkp (fun k_ hk_ hs_ => Or.elim hs_ (fun e_ => (hk_.2.2.2.1) e_) (fun e_ => (hk_.2.2.2.2.1) e_))) (fun k_ hk_ => ⟨hk_.1.1, hk_.1.2.1, hk_.1.2.2.1, hk_.1.2.2.2.1, hk_.1.2.2.2.2.1, hk_.1.2.2.2.2.2.1, hk_.1.2.2.2.2.2.2.1, hk_.1.2.2.2.2.2.2.2.1, hk_.1.2.2.2.2.2.2.2.2.1, hk_.1.2.2.2.2.2.2.2.2.2.1, hk_.1.2.2.2.2.2.2.2.2.2.2⟩)); replace HO_947002 := Aside0.mk (Kd.R_mono (ok' := fun k_ => nO k_ (.slice Ao44 t939.length co44) ∧ nO k_ (.slice Ao56 t948.length co56) ∧ nO k_ (.slice Ao57 t951.length co57) ∧ nO k_ (.slice Ao67 t956.length co67) ∧ nO k_ (.slice Ao68 t959.length co68) ∧ nO k_ (.slice Ao78 t964.length co78) ∧ nO k_ (.slice Ao79 t967.length co79) ∧ nO k_ (.slice Ao118 t974.length co118) ∧ nO k_ (.slice Ao119 t977.length co119) ∧ nO k_ (.slice Ao123 t982.length co123) ∧ nO k_ (.slice Ao124 t985.length co124)) (Kd.R_keptB (HO_947002.out) hkp (fun k_ hk_ hs_ => Or.elim hs_ (fun e_ => (hk_.2.2.2.1) e_) (fun e_ => (hk_.2.2.2.2.1) e_))) (fun k_ hk_ => ⟨hk_.1.1, hk_.1.2.1, hk_.1.2.2.1, hk_.1.2.2.2.1, hk_.1.2.2.2.2.1, hk_.1.2.2.2.2.2.1, hk_.1.2.2.2.2.2.2.1, hk_.1.2.2.2.2.2.2.2.1, hk_.1.2.2.2.2.2.2.2.2.1, hk_.1.2.2.2.2.2.2.2.2.2.1, hk_.1.2.2.2.2.2.2.2.2.2.2⟩)); replace HO_955001 := Aside0.mk (Kd.R_mono (ok' := fun k_ => nO k_ (.slice Ao44 t939.length co44) ∧ nO k_ (.slice Ao46 t942.length co46) ∧ nO k_ (.slice Ao57 t951.length co57) ∧ nO k_ (.slice Ao67 t956.length co67) ∧ nO k_ (.slice Ao68 t959.length co68) ∧ nO k_ (.slice Ao78 t964.length co78) ∧ nO k_ (.slice Ao79 t967.length co79) ∧ nO k_ (.slice Ao118 t974.length co118) ∧ nO k_ (.slice Ao119 t977.length co119) ∧ nO k_ (.slice Ao123 t982.length co123) ∧ nO k_ (.slice Ao124 t985.length co124)) (Kd.R_keptB (HO_955001.out) hkp (fun k_ hk_ hs_ => Or.elim hs_ (fun e_ => (hk_.1.1.1.1.2.2.2.1) e_) (fun e_ => (hk_.1.1.1.1.2.2.2.2.1) e_))) (fun k_ hk_ => ⟨hk_.1.1.1.1.1.1, hk_.1.1.1.1.1.2.1, hk_.1.1.1.1.1.2.2.1, hk_.1.1.1.1.1.2.2.2.1, hk_.1.1.1.1.1.2.2.2.2.1, hk_.1.1.1.1.1.2.2.2.2.2.1, hk_.1.1.1.1.1.2.2.2.2.2.2, hk_.1.1.1.1.2, hk_.1.1.1.2, hk_.1.1.2, hk_.1.2⟩)); replace HO_955002 := Aside0.mk (Kd.R_mono (ok' := fun k_ => nO k_ (.slice Ao44 t939.length co44) ∧ nO k_ (.slice Ao46 t942.length co46) ∧ nO k_ (.slice Ao56 t948.length co56) ∧ nO k_ (.slice Ao67 t956.length co67) ∧ nO k_ (.slice Ao68 t959.length co68) ∧ nO k_ (.slice Ao78 t964.length co78) ∧ nO k_ (.slice Ao79 t967.length co79) ∧ nO k_ (.slice Ao118 t974.length co118) ∧ nO k_ (.slice Ao119 t977.length co119) ∧ nO k_ (.slice Ao123 t982.length co123) ∧ nO k_ (.slice Ao124 t985.length co124)) (Kd.R_keptB (HO_955002.out) hkp (fun k_ hk_ hs_ => Or.elim hs_ (fun e_ => (hk_.1.1.1.1.2.2.2.1) e_) (fun e_ => (hk_.1.1.1.1.2.2.2.2.1) e_))) (fun k_ hk_ => ⟨hk_.1.1.1.1.1.1, hk_.1.1.1.1.1.2.1, hk_.1.1.1.1.1.2.2.1, hk_.1.1.1.1.1.2.2.2.1, hk_.1.1.1.1.1.2.2.2.2.1, hk_.1.1.1.1.1.2.2.2.2.2.1, hk_.1.1.1.1.1.2.2.2.2.2.2, hk_.1.1.1.1.2, hk_.1.1.1.2, hk_.1.1.2, hk_.1.2⟩)); replace HO_972001 := Aside0.mk (Kd.R_mono (ok' := fun k_ => nO k_ (.slice Ao44 t939.length co44) ∧ nO k_ (.slice Ao46 t942.length co46) ∧ nO k_ (.slice Ao56 t948.length co56) ∧ nO k_ (.slice Ao57 t951.length co57) ∧ nO k_ (.slice Ao67 t956.length co67) ∧ nO k_ (.slice Ao68 t959.length co68) ∧ nO k_ (.slice Ao79 t967.length co79) ∧ nO k_ (.slice Ao118 t974.length co118) ∧ nO k_ (.slice Ao119 t977.length co119) ∧ nO k_ (.slice Ao123 t982.length co123) ∧ nO k_ (.slice Ao124 t985.length co124)) (Kd.R_keptB (HO_972001.out) hkp (fun k_ hk_ hs_ => Or.elim hs_ (fun e_ => (hk_.2.2.2.2.1) e_) (fun e_ => (hk_.2.2.2.2.2.1) e_))) (fun k_ hk_ => ⟨hk_.1.1, hk_.1.2.1, hk_.1.2.2.1, hk_.1.2.2.2.1, hk_.1.2.2.2.2.1, hk_.1.2.2.2.2.2.1, hk_.1.2.2.2.2.2.2.1, hk_.1.2.2.2.2.2.2.2.1, hk_.1.2.2.2.2.2.2.2.2.1, hk_.1.2.2.2.2.2.2.2.2.2.1, hk_.1.2.2.2.2.2.2.2.2.2.2⟩)); replace HO_972002 := Aside0.mk (Kd.R_mono (ok' := fun k_ => nO k_ (.slice Ao44 t939.length co44) ∧ nO k_ (.slice Ao46 t942.length co46) ∧ nO k_ (.slice Ao56 t948.length co56) ∧ nO k_ (.slice Ao57 t951.length co57) ∧ nO k_ (.slice Ao67 t956.length co67) ∧ nO k_ (.slice Ao68 t959.length co68) ∧ nO k_ (.slice Ao78 t964.length co78) ∧ nO k_ (.slice Ao118 t974.length co118) ∧ nO k_ (.slice Ao119 t977.length co119) ∧ nO k_ (.slice Ao123 t982.length co123) ∧ nO k_ (.slice Ao124 t985.length co124)) (Kd.R_keptB (HO_972002.out) hkp (fun k_ hk_ hs_ => Or.elim hs_ (fun e_ => (hk_.2.2.2.2.1) e_) (fun e_ => (hk_.2.2.2.2.2.1) e_))) (fun k_ hk_ => ⟨hk_.1.1, hk_.1.2.1, hk_.1.2.2.1, hk_.1.2.2.2.1, hk_.1.2.2.2.2.1, hk_.1.2.2.2.2.2.1, hk_.1.2.2.2.2.2.2.1, hk_.1.2.2.2.2.2.2.2.1, hk_.1.2.2.2.2.2.2.2.2.1, hk_.1.2.2.2.2.2.2.2.2.2.1, hk_.1.2.2.2.2.2.2.2.2.2.2⟩)); replace BK920 := Aside0.mk (blk_kept (crb BK920) hkp (fun hs_ => Or.elim hs_ (fun e_ => (fun e_ => (Kd.R_ne HO_963001.out BK920.out (by decide)) e_) e_) (fun e_ => (fun e_ => (Kd.R_ne HO_963002.out BK920.out (by decide)) e_) e_))); replace BK921 := Aside0.mk (blk_kept (crb BK921) hkp (fun hs_ => Or.elim hs_ (fun e_ => (fun e_ => (Kd.R_ne HO_963001.out BK921.out (by decide)) e_) e_) (fun e_ => (fun e_ => (Kd.R_ne HO_963002.out BK921.out (by decide)) e_) e_))); replace BK946 := Aside0.mk (blk_kept (crb BK946) hkp (fun hs_ => Or.elim hs_ (fun e_ => (fun e_ => (Kd.R_ne HO_963001.out BK946.out (by decide)) e_) e_) (fun e_ => (fun e_ => (Kd.R_ne HO_963002.out BK946.out (by decide)) e_) e_))); replace BK954 := Aside0.mk (blk_kept (crb BK954) hkp (fun hs_ => Or.elim hs_ (fun e_ => (fun e_ => (Kd.R_ne HO_963001.out BK954.out (by decide)) e_) e_) (fun e_ => (fun e_ => (Kd.R_ne HO_963002.out BK954.out (by decide)) e_) e_))); replace BK962 := Aside0.mk (blk_kept (crb BK962) hkp (fun hs_ => Or.elim hs_ (fun e_ => (fun e_ => (Kd.R_ne HO_963001.out BK962.out (by decide)) e_) e_) (fun e_ => (fun e_ => (Kd.R_ne HO_963002.out BK962.out (by decide)) e_) e_))); replace BK971 := Aside0.mk (blk_kept (crb BK971) hkp (fun hs_ => Or.elim hs_ (fun e_ => (fun e_ => (Kd.R_ne HO_963001.out BK971.out (by decide)) e_) e_) (fun e_ => (fun e_ => (Kd.R_ne HO_963002.out BK971.out (by decide)) e_) e_))); replace HO_963001 := Aside0.mk (Kd.R_reok rfl hy0 (fun k_ e_ => HO_963001.out.1 k_ e_)); replace HO_963002 := Aside0.mk (Kd.R_reok rfl hy1 (fun k_ e_ => HO_963002.out.1 k_ e_)); replace HO976 := Aside0.mk (Kd.R_mono (ok' := fun k_ => nO k_ (.slice Ao44 t939.length co44) ∧ nO k_ (.slice Ao46 t942.length co46) ∧ nO k_ (.slice Ao56 t948.length co56) ∧ nO k_ (.slice Ao57 t951.length co57) ∧ nO k_ (.slice Ao67 t956.length co67) ∧ nO k_ (.slice Ao68 t959.length co68) ∧ nO k_ (.slice Ao78 t964.length co78) ∧ nO k_ (.slice Ao79 t967.length co79) ∧ nO k_ (.slice Ao119 t977.length co119) ∧ nO k_ (.slice Ao123 t982.length co123) ∧ nO k_ (.slice Ao124 t985.length co124)) (Kd.R_keptB (HO976.out) hkp (fun k_ hk_ hs_ => Or.elim hs_ (fun e_ => (hk_.2.2.2.2.1) e_) (fun e_ => (hk_.2.2.2.2.2.1) e_))) (fun k_ hk_ => ⟨hk_.1.1, hk_.1.2.1, hk_.1.2.2.1, hk_.1.2.2.2.1, hk_.1.2.2.2.2.1, hk_.1.2.2.2.2.2.1, hk_.1.2.2.2.2.2.2.1, hk_.1.2.2.2.2.2.2.2.1, hk_.1.2.2.2.2.2.2.2.2.1, hk_.1.2.2.2.2.2.2.2.2.2.1, hk_.1.2.2.2.2.2.2.2.2.2.2⟩)); replace HO979 := Aside0.mk (Kd.R_mono (ok' := fun k_ => nO k_ (.slice Ao44 t939.length co44) ∧ nO k_ (.slice Ao46 t942.length co46) ∧ nO k_ (.slice Ao56 t948.length co56) ∧ nO k_ (.slice Ao57 t951.length co57) ∧ nO k_ (.slice Ao67 t956.length co67) ∧ nO k_ (.slice Ao68 t959.length co68) ∧ nO k_ (.slice Ao78 t964.length co78) ∧ nO k_ (.slice Ao79 t967.length co79) ∧ nO k_ (.slice Ao118 t974.length co118) ∧ nO k_ (.slice Ao123 t982.length co123) ∧ nO k_ (.slice Ao124 t985.length co124)) (Kd.R_keptB (HO979.out) hkp (fun k_ hk_ hs_ => Or.elim hs_ (fun e_ => (hk_.2.2.2.2.1) e_) (fun e_ => (hk_.2.2.2.2.2.1) e_))) (fun k_ hk_ => ⟨hk_.1.1, hk_.1.2.1, hk_.1.2.2.1, hk_.1.2.2.2.1, hk_.1.2.2.2.2.1, hk_.1.2.2.2.2.2.1, hk_.1.2.2.2.2.2.2.1, hk_.1.2.2.2.2.2.2.2.1, hk_.1.2.2.2.2.2.2.2.2.1, hk_.1.2.2.2.2.2.2.2.2.2.1, hk_.1.2.2.2.2.2.2.2.2.2.2⟩)); replace HO984 := Aside0.mk (Kd.R_mono (ok' := fun k_ => nO k_ (.slice Ao44 t939.length co44) ∧ nO k_ (.slice Ao46 t942.length co46) ∧ nO k_ (.slice Ao56 t948.length co56) ∧ nO k_ (.slice Ao57 t951.length co57) ∧ nO k_ (.slice Ao67 t956.length co67) ∧ nO k_ (.slice Ao68 t959.length co68) ∧ nO k_ (.slice Ao78 t964.length co78) ∧ nO k_ (.slice Ao79 t967.length co79) ∧ nO k_ (.slice Ao118 t974.length co118) ∧ nO k_ (.slice Ao119 t977.length co119) ∧ nO k_ (.slice Ao124 t985.length co124)) (Kd.R_keptB (HO984.out) hkp (fun k_ hk_ hs_ => Or.elim hs_ (fun e_ => (hk_.2.2.2.2.1) e_) (fun e_ => (hk_.2.2.2.2.2.1) e_))) (fun k_ hk_ => ⟨hk_.1.1, hk_.1.2.1, hk_.1.2.2.1, hk_.1.2.2.2.1, hk_.1.2.2.2.2.1, hk_.1.2.2.2.2.2.1, hk_.1.2.2.2.2.2.2.1, hk_.1.2.2.2.2.2.2.2.1, hk_.1.2.2.2.2.2.2.2.2.1, hk_.1.2.2.2.2.2.2.2.2.2.1, hk_.1.2.2.2.2.2.2.2.2.2.2⟩)); replace HO987 := Aside0.mk (Kd.R_mono (ok' := fun k_ => nO k_ (.slice Ao44 t939.length co44) ∧ nO k_ (.slice Ao46 t942.length co46) ∧ nO k_ (.slice Ao56 t948.length co56) ∧ nO k_ (.slice Ao57 t951.length co57) ∧ nO k_ (.slice Ao67 t956.length co67) ∧ nO k_ (.slice Ao68 t959.length co68) ∧ nO k_ (.slice Ao78 t964.length co78) ∧ nO k_ (.slice Ao79 t967.length co79) ∧ nO k_ (.slice Ao118 t974.length co118) ∧ nO k_ (.slice Ao119 t977.length co119) ∧ nO k_ (.slice Ao123 t982.length co123)) (Kd.R_keptB (HO987.out) hkp (fun k_ hk_ hs_ => Or.elim hs_ (fun e_ => (hk_.2.2.2.2.1) e_) (fun e_ => (hk_.2.2.2.2.2.1) e_))) (fun k_ hk_ => ⟨hk_.1.1, hk_.1.2.1, hk_.1.2.2.1, hk_.1.2.2.2.1, hk_.1.2.2.2.2.1, hk_.1.2.2.2.2.2.1, hk_.1.2.2.2.2.2.2.1, hk_.1.2.2.2.2.2.2.2.1, hk_.1.2.2.2.2.2.2.2.2.1, hk_.1.2.2.2.2.2.2.2.2.2.1, hk_.1.2.2.2.2.2.2.2.2.2.2⟩)); replace HB := Aside0.mk (hb); (try clear hb); (try clear hkp); (try clear hy0); (try clear hy1)))
        (try simp only [Act.put, List.setIfInBounds_toArray, List.set_cons_zero, List.set_cons_succ])
        go_cut [82] (fun v82 wc => ∃ (kq : Nat) (x82_114 : Bool), v82 = .bool x82_114 ∧ Aside0 (laws_FnExactAddRat.j1 kq t945 x82_114 a0_0 l0_1 l0_2 a1_0 l1_1 l1_2 t938 t939 t942 t963 t964 t967 = some r) ∧ Aside0 (kq ≤ kj24) ∧ Aside0 (Kd.R (Kd.int .i64) 3 wc w.heap.size (fun k_ => nO k_ (.slice Ao46 t942.length co46) ∧ nO k_ (.slice Ao78 t964.length co78) ∧ nO k_ (.slice Ao79 t967.length co79)) (.slice Ao44 t939.length co44) t939) ∧ Aside0 (Kd.R (Kd.int .i64) 3 wc w.heap.size (fun k_ => nO k_ (.slice Ao44 t939.length co44) ∧ nO k_ (.slice Ao78 t964.length co78) ∧ nO k_ (.slice Ao79 t967.length co79)) (.slice Ao46 t942.length co46) t942) ∧ Aside0 (Kd.R (Kd.int .i64) 3 wc w.heap.size (fun k_ => nO k_ (.slice Ao44 t939.length co44) ∧ nO k_ (.slice Ao46 t942.length co46) ∧ nO k_ (.slice Ao79 t967.length co79)) (.slice Ao78 t964.length co78) t964) ∧ Aside0 (Kd.R (Kd.int .i64) 3 wc w.heap.size (fun k_ => nO k_ (.slice Ao44 t939.length co44) ∧ nO k_ (.slice Ao46 t942.length co46) ∧ nO k_ (.slice Ao78 t964.length co78)) (.slice Ao79 t967.length co79) t967) ∧ Aside0 (wc.heap[gb920]? = some (.cells #[.bool a0_0, (.slice A0_1 l0_1.length c0_1), (.slice A0_2 l0_2.length c0_2)] 30 (0, 0))) ∧ Aside0 (wc.heap[gb921]? = some (.cells #[.bool a1_0, (.slice A1_1 l1_1.length c1_1), (.slice A1_2 l1_2.length c1_2)] 30 (0, 0))) ∧ Aside0 (wc.heap[gb946]? = some (.cells #[.bool t938, (.slice Ao44 t939.length co44), (.slice Ao46 t942.length co46)] 24 (0, 0))) ∧ Aside0 (wc.heap[gb971]? = some (.cells #[.bool t963, (.slice Ao78 t964.length co78), (.slice Ao79 t967.length co79)] 24 (0, 0))) ∧ Aside0 (Below w.heap.size w wc))
        case first =>
         have H := HC115.out
         clear HC115
         by_cases c139 : t992 < 0
         ·
          rw [if_pos c139] at H
          have c139b0 : decide (t992 < 0) = true := decide_eq_true c139
          clear c139
          (first | rw [c139b0] | (simp only [i64_w, i32_w]; rw [c139b0]) | skip)
          have H' := Aside0.mk H
          clear H
          go_wp2
          go_meet
          case rel => exact ⟨_, (true), rs_, H', ⟨by have := HJ24.out; first | omega | exact Nat.le_refl _⟩, ⟨crM HO_947001 fun _ hk => ⟨hk.1, hk.2.2.2.2.2.1, hk.2.2.2.2.2.2.1⟩⟩, ⟨crM HO_947002 fun _ hk => ⟨hk.1, hk.2.2.2.2.2.1, hk.2.2.2.2.2.2.1⟩⟩, ⟨crM HO_972001 fun _ hk => ⟨hk.1, hk.2.1, hk.2.2.2.2.2.2.1⟩⟩, ⟨crM HO_972002 fun _ hk => ⟨hk.1, hk.2.1, hk.2.2.2.2.2.2.1⟩⟩, ⟨crb BK920⟩, ⟨crb BK921⟩, ⟨crb BK946⟩, ⟨crb BK971⟩, ⟨blw HB⟩⟩
         ·
          rw [if_neg c139] at H
          have c139b0 : decide (t992 < 0) = false := decide_eq_false c139
          clear c139
          (first | rw [c139b0] | (simp only [i64_w, i32_w]; rw [c139b0]) | skip)
          replace H := Option.bind_eq_some_iff.mp H
          obtain ⟨t995, A1400, H⟩ := H
          replace H : (if t995 = true then (laws_FnExactAddRat.j1 kj24 t945 (t970 != t945) a0_0 l0_1 l0_2 a1_0 l1_1 l1_2 t938 t939 t942 t963 t964 t967) else (laws_FnExactAddRat.j1 kj24 t945 true a0_0 l0_1 l0_2 a1_0 l1_1 l1_2 t938 t939 t942 t963 t964 t967)) = some r := H
          have A140 := Aside0.mk A1400
          clear A1400
          by_cases c141 : t995 = true
          ·
           subst c141
           have H1 : (laws_FnExactAddRat.j1 kj24 t945 (t970 != t945) a0_0 l0_1 l0_2 a1_0 l1_1 l1_2 t938 t939 t942 t963 t964 t967) = some r := by rw [if_pos rfl] at H; exact H
           clear H
           have H := H1
           clear H1
           have H' := Aside0.mk H
           clear H
           have hnb142 := NB971_920.out
           have hnc142 := NB920_971.out
           have hnb143 := NB971_921.out
           have hnc143 := NB921_971.out
           have hnb144 := NB971_946.out
           have hnc144 := NB946_971.out
           have hnb145 := NB971_954.out
           have hnc145 := NB954_971.out
           have hnb146 := NB971_962.out
           have hnc146 := NB962_971.out
           obtain ⟨hcz147_0, hcz147_1, hcz147_2, hfz147_0, hfz147_1, hfz147_2⟩ := bc3 BK971
           have hnb148 := NB946_920.out
           have hnc148 := NB920_946.out
           have hnb149 := NB946_921.out
           have hnc149 := NB921_946.out
           have hnb150 := NB946_954.out
           have hnc150 := NB954_946.out
           have hnb151 := NB946_962.out
           have hnc151 := NB962_946.out
           obtain ⟨hcz152_0, hcz152_1, hcz152_2, hfz152_0, hfz152_1, hfz152_2⟩ := bc3 BK946
           go_wp2_with (first | (go_at_call 17; (with_reducible refine (laws_eqRat.calls kj24 t963 _ _ t964 _ _ t967 t938 _ _ t939 _ _ t942 true _ ?side1 ?side2 ?side3 ?side4 ?side5 ?side6 ?side7 ?side8 A140.out).mono ?_); (case side1 => exact crC (Kd.R_reads' HO_972001.out).2.2); (case side2 => exact (Kd.R_reads' HO_972001.out).2.1); (case side3 => exact crC (Kd.R_reads' HO_972002.out).2.2); (case side4 => exact (Kd.R_reads' HO_972002.out).2.1); (case side5 => exact crC (Kd.R_reads' HO_947001.out).2.2); (case side6 => exact (Kd.R_reads' HO_947001.out).2.1); (case side7 => exact crC (Kd.R_reads' HO_947002.out).2.2); (case side8 => exact (Kd.R_reads' HO_947002.out).2.1); rintro e w153 ⟨rfl, hb⟩; replace HO_947001 := rblR HO_947001 hb; replace HO_947002 := rblR HO_947002 hb; replace HO_955001 := rblR HO_955001 hb; replace HO_955002 := rblR HO_955002 hb; replace HO_963001 := rblR HO_963001 hb; replace HO_963002 := rblR HO_963002 hb; replace HO_972001 := rblR HO_972001 hb; replace HO_972002 := rblR HO_972002 hb; replace HO976 := rblR HO976 hb; replace HO979 := rblR HO979 hb; replace HO984 := rblR HO984 hb; replace HO987 := rblR HO987 hb; replace BK920 := bkb BK920 hb; replace BK921 := bkb BK921 hb; replace BK946 := bkb BK946 hb; replace BK954 := bkb BK954 hb; replace BK962 := bkb BK962 hb; replace BK971 := bkb BK971 hb; replace HB := bst HB hb; (try clear hb); (try clear hb2); (try clear hk); (try clear hi)))
           go_meet
           case rel => exact ⟨_, ((t970 != t945)), rs_, H', ⟨by have := HJ24.out; first | omega | exact Nat.le_refl _⟩, ⟨crM HO_947001 fun _ hk => ⟨hk.1, hk.2.2.2.2.2.1, hk.2.2.2.2.2.2.1⟩⟩, ⟨crM HO_947002 fun _ hk => ⟨hk.1, hk.2.2.2.2.2.1, hk.2.2.2.2.2.2.1⟩⟩, ⟨crM HO_972001 fun _ hk => ⟨hk.1, hk.2.1, hk.2.2.2.2.2.2.1⟩⟩, ⟨crM HO_972002 fun _ hk => ⟨hk.1, hk.2.1, hk.2.2.2.2.2.2.1⟩⟩, ⟨crb BK920⟩, ⟨crb BK921⟩, ⟨crb BK946⟩, ⟨crb BK971⟩, ⟨blw HB⟩⟩
          ·
           replace c141 := Bool.eq_false_iff.mpr c141
           subst c141
           have H1 : (laws_FnExactAddRat.j1 kj24 t945 true a0_0 l0_1 l0_2 a1_0 l1_1 l1_2 t938 t939 t942 t963 t964 t967) = some r := by rw [if_neg (show ¬ (false = true) by decide)] at H; exact H
           clear H
           have H := H1
           clear H1
           have H' := Aside0.mk H
           clear H
           have hnb154 := NB971_920.out
           have hnc154 := NB920_971.out
           have hnb155 := NB971_921.out
           have hnc155 := NB921_971.out
           have hnb156 := NB971_946.out
           have hnc156 := NB946_971.out
           have hnb157 := NB971_954.out
           have hnc157 := NB954_971.out
           have hnb158 := NB971_962.out
           have hnc158 := NB962_971.out
           obtain ⟨hcz159_0, hcz159_1, hcz159_2, hfz159_0, hfz159_1, hfz159_2⟩ := bc3 BK971
           have hnb160 := NB946_920.out
           have hnc160 := NB920_946.out
           have hnb161 := NB946_921.out
           have hnc161 := NB921_946.out
           have hnb162 := NB946_954.out
           have hnc162 := NB954_946.out
           have hnb163 := NB946_962.out
           have hnc163 := NB962_946.out
           obtain ⟨hcz164_0, hcz164_1, hcz164_2, hfz164_0, hfz164_1, hfz164_2⟩ := bc3 BK946
           go_wp2_with (first | (go_at_call 17; (with_reducible refine (laws_eqRat.calls kj24 t963 _ _ t964 _ _ t967 t938 _ _ t939 _ _ t942 false _ ?side1 ?side2 ?side3 ?side4 ?side5 ?side6 ?side7 ?side8 A140.out).mono ?_); (case side1 => exact crC (Kd.R_reads' HO_972001.out).2.2); (case side2 => exact (Kd.R_reads' HO_972001.out).2.1); (case side3 => exact crC (Kd.R_reads' HO_972002.out).2.2); (case side4 => exact (Kd.R_reads' HO_972002.out).2.1); (case side5 => exact crC (Kd.R_reads' HO_947001.out).2.2); (case side6 => exact (Kd.R_reads' HO_947001.out).2.1); (case side7 => exact crC (Kd.R_reads' HO_947002.out).2.2); (case side8 => exact (Kd.R_reads' HO_947002.out).2.1); rintro e w165 ⟨rfl, hb⟩; replace HO_947001 := rblR HO_947001 hb; replace HO_947002 := rblR HO_947002 hb; replace HO_955001 := rblR HO_955001 hb; replace HO_955002 := rblR HO_955002 hb; replace HO_963001 := rblR HO_963001 hb; replace HO_963002 := rblR HO_963002 hb; replace HO_972001 := rblR HO_972001 hb; replace HO_972002 := rblR HO_972002 hb; replace HO976 := rblR HO976 hb; replace HO979 := rblR HO979 hb; replace HO984 := rblR HO984 hb; replace HO987 := rblR HO987 hb; replace BK920 := bkb BK920 hb; replace BK921 := bkb BK921 hb; replace BK946 := bkb BK946 hb; replace BK954 := bkb BK954 hb; replace BK962 := bkb BK962 hb; replace BK971 := bkb BK971 hb; replace HB := bst HB hb; (try clear hb); (try clear hb2); (try clear hk); (try clear hi)))
           go_meet
           case rel => exact ⟨_, (true), rs_, H', ⟨by have := HJ24.out; first | omega | exact Nat.le_refl _⟩, ⟨crM HO_947001 fun _ hk => ⟨hk.1, hk.2.2.2.2.2.1, hk.2.2.2.2.2.2.1⟩⟩, ⟨crM HO_947002 fun _ hk => ⟨hk.1, hk.2.2.2.2.2.1, hk.2.2.2.2.2.2.1⟩⟩, ⟨crM HO_972001 fun _ hk => ⟨hk.1, hk.2.1, hk.2.2.2.2.2.2.1⟩⟩, ⟨crM HO_972002 fun _ hk => ⟨hk.1, hk.2.1, hk.2.2.2.2.2.2.1⟩⟩, ⟨crb BK920⟩, ⟨crb BK921⟩, ⟨crb BK946⟩, ⟨crb BK971⟩, ⟨blw HB⟩⟩
        case rest =>
         clear HC115
         try clear c1
         try clear c2
         try clear p2
         try clear c12
         try clear c13
         try clear c14
         try clear c15
         try clear c16
         try clear c17
         try clear c18
         try clear c22
         try clear c126
         try clear c127
         try clear c128
         try clear c129
         try clear c130
         try clear c133
         try clear c134
         try clear c135
         try clear c136
         try clear c139
         try clear c139b0
         try clear c141
         try clear c142
         try clear c143
         try clear c144
         try clear c145
         try clear c146
         try clear c148
         try clear c149
         try clear c150
         try clear c151
         try clear c154
         try clear c155
         try clear c156
         try clear c157
         try clear c158
         try clear c160
         try clear c161
         try clear c162
         try clear c163
         try clear hcz131_0
         try clear hcz131_1
         try clear hcz131_2
         try clear hcz137_0
         try clear hcz137_1
         try clear hcz137_2
         try clear hcz147_0
         try clear hcz147_1
         try clear hcz147_2
         try clear hcz152_0
         try clear hcz152_1
         try clear hcz152_2
         try clear hcz159_0
         try clear hcz159_1
         try clear hcz159_2
         try clear hcz164_0
         try clear hcz164_1
         try clear hcz164_2
         try clear hfz131_0
         try clear hfz131_1
         try clear hfz131_2
         try clear hfz137_0
         try clear hfz137_1
         try clear hfz137_2
         try clear hfz147_0
         try clear hfz147_1
         try clear hfz147_2
         try clear hfz152_0
         try clear hfz152_1
         try clear hfz152_2
         try clear hfz159_0
         try clear hfz159_1
         try clear hfz159_2
         try clear hfz164_0
         try clear hfz164_1
         try clear hfz164_2
         obtain ⟨kq, x82_114, rfl, HA, HJ114, HO_947001, HO_947002, HO_972001, HO_972002, BK920, BK921, BK946, BK971, HB⟩ := hcut
         cases kq with
         | zero => exact absurd HA.out (by simp [laws_FnExactAddRat.j1])
         | succ kj114 =>
          have H := HA.out
          clear HA
          simp only [laws_FnExactAddRat.j1] at H
          by_cases c166 : x82_114 = true
          ·
           subst c166
           have H1 : (some false) = some r := by rw [if_pos rfl] at H; exact H
           clear H
           have H := H1
           clear H1
           obtain rfl := Option.some.inj H
           exact absurd hr_ (by decide)
          ·
           replace c166 := Bool.eq_false_iff.mpr c166
           subst c166
           have H1 : ((laws_markRat.f kj114 t963 t964 t967 1).bind fun bt996 => ((laws_heldRat.f kj114 t963 bt996.2.1 bt996.2.2 1).bind fun t999 => (if t999 < 0 then (some false) else (if t999 = bt996.1 then ((laws_toRat.f kj114 a0_0 l0_1 l0_2).bind fun bt1000 => ((laws_toRat.f kj114 a1_0 l1_1 l1_2).bind fun bt1007 => ((impl_AddRat.f kj114 bt1000.1 bt1000.2.1 bt1000.2.2 bt1007.1 bt1007.2.1 bt1007.2.2).bind fun bt1014 => ((laws_eqRat.f kj114 bt1014.1 bt1014.2.1 bt1014.2.2.1 t938 t939 t942).bind fun t1023 => (if t1023 = true then (laws_FnExactAddRat.j2 kj114 bt996.1 (bt1014.2.2.2 != t945) t963 bt996.2.1 bt996.2.2) else (laws_FnExactAddRat.j2 kj114 bt996.1 true t963 bt996.2.1 bt996.2.2)))))) else (some false))))) = some r := by rw [if_neg (show ¬ (false = true) by decide)] at H; exact H
           clear H
           have H := H1
           clear H1
           replace H := Option.bind_eq_some_iff.mp H
           obtain ⟨⟨t996, t997, t998⟩, A1670, H⟩ := H
           replace H : ((laws_heldRat.f kj114 t963 t997 t998 1).bind fun t999 => (if t999 < 0 then (some false) else (if t999 = t996 then ((laws_toRat.f kj114 a0_0 l0_1 l0_2).bind fun bt1000 => ((laws_toRat.f kj114 a1_0 l1_1 l1_2).bind fun bt1007 => ((impl_AddRat.f kj114 bt1000.1 bt1000.2.1 bt1000.2.2 bt1007.1 bt1007.2.1 bt1007.2.2).bind fun bt1014 => ((laws_eqRat.f kj114 bt1014.1 bt1014.2.1 bt1014.2.2.1 t938 t939 t942).bind fun t1023 => (if t1023 = true then (laws_FnExactAddRat.j2 kj114 t996 (bt1014.2.2.2 != t945) t963 t997 t998) else (laws_FnExactAddRat.j2 kj114 t996 true t963 t997 t998)))))) else (some false)))) = some r := H
           have A167 := Aside0.mk A1670
           clear A1670
           replace H := Option.bind_eq_some_iff.mp H
           obtain ⟨t999, A1680, H⟩ := H
           replace H : (if t999 < 0 then (some false) else (if t999 = t996 then ((laws_toRat.f kj114 a0_0 l0_1 l0_2).bind fun bt1000 => ((laws_toRat.f kj114 a1_0 l1_1 l1_2).bind fun bt1007 => ((impl_AddRat.f kj114 bt1000.1 bt1000.2.1 bt1000.2.2 bt1007.1 bt1007.2.1 bt1007.2.2).bind fun bt1014 => ((laws_eqRat.f kj114 bt1014.1 bt1014.2.1 bt1014.2.2.1 t938 t939 t942).bind fun t1023 => (if t1023 = true then (laws_FnExactAddRat.j2 kj114 t996 (bt1014.2.2.2 != t945) t963 t997 t998) else (laws_FnExactAddRat.j2 kj114 t996 true t963 t997 t998)))))) else (some false))) = some r := H
           have A168 := Aside0.mk A1680
           clear A1680
           by_cases c169 : t999 < 0
           ·
            rw [if_pos c169] at H
            have c169b0 : decide (t999 < 0) = true := decide_eq_true c169
            clear c169
            obtain rfl := Option.some.inj H
            exact absurd hr_ (by decide)
           ·
            rw [if_neg c169] at H
            have c169b0 : decide (t999 < 0) = false := decide_eq_false c169
            clear c169
            by_cases c177 : t999 = t996
            ·
             rw [if_pos c177] at H
             have c177b0 : (t999 == t996) = true := beq_iff_eq.mpr c177
             have c177b1 : (t999 != t996) = false := bne_eq_false_iff_eq.mpr c177
             clear c177
             replace H := Option.bind_eq_some_iff.mp H
             obtain ⟨⟨t1000, t1001, t1004⟩, A1780, H⟩ := H
             replace H : ((laws_toRat.f kj114 a1_0 l1_1 l1_2).bind fun bt1007 => ((impl_AddRat.f kj114 t1000 t1001 t1004 bt1007.1 bt1007.2.1 bt1007.2.2).bind fun bt1014 => ((laws_eqRat.f kj114 bt1014.1 bt1014.2.1 bt1014.2.2.1 t938 t939 t942).bind fun t1023 => (if t1023 = true then (laws_FnExactAddRat.j2 kj114 t996 (bt1014.2.2.2 != t945) t963 t997 t998) else (laws_FnExactAddRat.j2 kj114 t996 true t963 t997 t998))))) = some r := H
             have A178 := Aside0.mk A1780
             clear A1780
             replace H := Option.bind_eq_some_iff.mp H
             obtain ⟨⟨t1007, t1008, t1011⟩, A1790, H⟩ := H
             replace H : ((impl_AddRat.f kj114 t1000 t1001 t1004 t1007 t1008 t1011).bind fun bt1014 => ((laws_eqRat.f kj114 bt1014.1 bt1014.2.1 bt1014.2.2.1 t938 t939 t942).bind fun t1023 => (if t1023 = true then (laws_FnExactAddRat.j2 kj114 t996 (bt1014.2.2.2 != t945) t963 t997 t998) else (laws_FnExactAddRat.j2 kj114 t996 true t963 t997 t998)))) = some r := H
             have A179 := Aside0.mk A1790
             clear A1790
             replace H := Option.bind_eq_some_iff.mp H
             obtain ⟨⟨t1014, t1015, t1018, t1021⟩, A1800, H⟩ := H
             replace H : ((laws_eqRat.f kj114 t1014 t1015 t1018 t938 t939 t942).bind fun t1023 => (if t1023 = true then (laws_FnExactAddRat.j2 kj114 t996 (t1021 != t945) t963 t997 t998) else (laws_FnExactAddRat.j2 kj114 t996 true t963 t997 t998))) = some r := H
             have A180 := Aside0.mk A1800
             clear A1800
             have HC181 := Aside0.mk H
             clear H
             have hnb182 := NB971_920.out
             have hnc182 := NB920_971.out
             have hnb183 := NB971_921.out
             have hnc183 := NB921_971.out
             have hnb184 := NB971_946.out
             have hnc184 := NB946_971.out
             obtain ⟨hcz185_0, hcz185_1, hcz185_2, hfz185_0, hfz185_1, hfz185_2⟩ := bc3 BK971
             try go_wp2_with (first | ((with_reducible refine gate_callee (f := 18) rfl ?_); refine gL_ (some 85) Try.func18 #[.agg #[.bool t963, .slice Ao78 t964.length co78, .slice Ao79 t967.length co79], .int .i64 1] ?_; (with_reducible refine (laws_markRat.calls kj114 t963 (fun k_ => some k_ = (.slice Ao78 t964.length co78 : Value).ownBlock) (.slice Ao78 t964.length co78) t964 (fun k_ => some k_ = (.slice Ao79 t967.length co79 : Value).ownBlock) (.slice Ao79 t967.length co79) t967 1 t996 t997 t998 w _ ?side1 ?side2 ?side3 ?side4 ?side5 A167.out).mono ?_); (case side1 => repeat (first | (with_reducible first | exact HB.out | apply below_alloc | apply pw_below_drewN | apply below_drew1 | refine below_set ?_ GE920.out | refine below_set ?_ GE921.out | refine below_set ?_ GE946.out | refine below_set ?_ GE971.out) | exact HB.out)); (case side2 => exact Kd.R_tight rfl HO_972001.out); (case side3 => exact fun k_ e_ => (HO_972001.out.1 k_ e_.symm).2.2); (case side4 => exact Kd.R_tight rfl HO_972002.out); (case side5 => exact fun k_ e_ => (HO_972002.out.1 k_ e_.symm).2.2); rintro e w186 ⟨rfl, hy0, hy1, hb, hkp⟩; refine ⟨_, rfl, ?_⟩; replace HO_947001 := Aside0.mk (Kd.R_mono (ok' := fun k_ => nO k_ (.slice Ao46 t942.length co46) ∧ nO k_ (.slice Ao78 t964.length co78) ∧ nO k_ (.slice Ao79 t967.length co79)) (Kd.R_keptB (HO_947001.out) hkp (fun k_ hk_ hs_ => Or.elim hs_ (fun e_ => (hk_.2.1) e_) (fun e_ => (hk_.2.2) e_))) (fun k_ hk_ => ⟨hk_.1.1, hk_.1.2.1, hk_.1.2.2⟩)); replace HO_947002 := Aside0.mk (Kd.R_mono (ok' := fun k_ => nO k_ (.slice Ao44 t939.length co44) ∧ nO k_ (.slice Ao78 t964.length co78) ∧ nO k_ (.slice Ao79 t967.length co79)) (Kd.R_keptB (HO_947002.out) hkp (fun k_ hk_ hs_ => Or.elim hs_ (fun e_ => (hk_.2.1) e_) (fun e_ => (hk_.2.2) e_))) (fun k_ hk_ => ⟨hk_.1.1, hk_.1.2.1, hk_.1.2.2⟩)); replace BK920 := Aside0.mk (blk_kept (crb BK920) hkp (fun hs_ => Or.elim hs_ (fun e_ => (fun e_ => (Kd.R_ne HO_972001.out BK920.out (by decide)) e_) e_) (fun e_ => (fun e_ => (Kd.R_ne HO_972002.out BK920.out (by decide)) e_) e_))); replace BK921 := Aside0.mk (blk_kept (crb BK921) hkp (fun hs_ => Or.elim hs_ (fun e_ => (fun e_ => (Kd.R_ne HO_972001.out BK921.out (by decide)) e_) e_) (fun e_ => (fun e_ => (Kd.R_ne HO_972002.out BK921.out (by decide)) e_) e_))); replace BK946 := Aside0.mk (blk_kept (crb BK946) hkp (fun hs_ => Or.elim hs_ (fun e_ => (fun e_ => (Kd.R_ne HO_972001.out BK946.out (by decide)) e_) e_) (fun e_ => (fun e_ => (Kd.R_ne HO_972002.out BK946.out (by decide)) e_) e_))); replace BK971 := Aside0.mk (blk_kept (crb BK971) hkp (fun hs_ => Or.elim hs_ (fun e_ => (fun e_ => (Kd.R_ne HO_972001.out BK971.out (by decide)) e_) e_) (fun e_ => (fun e_ => (Kd.R_ne HO_972002.out BK971.out (by decide)) e_) e_))); replace HO_972001 := Aside0.mk (Kd.R_reok rfl hy0 (fun k_ e_ => HO_972001.out.1 k_ e_)); replace HO_972002 := Aside0.mk (Kd.R_reok rfl hy1 (fun k_ e_ => HO_972002.out.1 k_ e_)); replace HB := Aside0.mk (hb); (try clear hb); (try clear hkp); (try clear hy0); (try clear hy1); obtain ⟨hcz187_0, hcz187_1, hcz187_2, hfz187_0, hfz187_1, hfz187_2⟩ := bc3 BK971) | ((with_reducible refine gate_callee (f := 19) rfl ?_); refine goesL_ (some 88) rfl rfl Try.func19 (by kernel_rfl) rfl #[.agg #[.bool t963, .slice Ao78 t997.length co78, .slice Ao79 t998.length co79], .int .i64 1] rfl (by (try simp only [List.map_toArray, List.map_cons, List.map_nil]); first | done | (rw [show t997.length = t964.length from (Kd.R_reads' HO_972001.out).1.symm, show t998.length = t967.length from (Kd.R_reads' HO_972002.out).1.symm] <;> rfl) | rfl | (simp only [List.length_drop, List.length_take]; rfl)) ?_; (with_reducible refine (laws_heldRat.calls kj114 t963 _ _ t997 _ _ t998 1 t999 _ ?side1 ?side2 ?side3 ?side4 A168.out).mono ?_); (case side1 => exact crC (Kd.R_reads' HO_972001.out).2.2); (case side2 => rw [show t997.length = t964.length from (Kd.R_reads' HO_972001.out).1.symm]; exact (Kd.R_reads' HO_972001.out).2.1); (case side3 => exact crC (Kd.R_reads' HO_972002.out).2.2); (case side4 => rw [show t998.length = t967.length from (Kd.R_reads' HO_972002.out).1.symm]; exact (Kd.R_reads' HO_972002.out).2.1); rintro e w188 ⟨rfl, hb⟩; refine ⟨_, rfl, ?_⟩; replace HO_947001 := rblR HO_947001 hb; replace HO_947002 := rblR HO_947002 hb; replace HO_972001 := rblR HO_972001 hb; replace HO_972002 := rblR HO_972002 hb; replace BK920 := bkb BK920 hb; replace BK921 := bkb BK921 hb; replace BK946 := bkb BK946 hb; replace BK971 := bkb BK971 hb; replace HB := bst HB hb; (try clear hb); (try clear hb2); (try clear hk); (try clear hi)))
             replace HO_947001 := Aside0.mk (Kd.R_drew HO_947001.out)
             replace HO_947002 := Aside0.mk (Kd.R_drew HO_947002.out)
             replace HO_972001 := Aside0.mk (Kd.R_drew HO_972001.out)
             replace HO_972002 := Aside0.mk (Kd.R_drew HO_972002.out)
             replace BK920 := Aside0.mk (blk_drew BK920.out)
             replace BK921 := Aside0.mk (blk_drew BK921.out)
             replace BK946 := Aside0.mk (blk_drew BK946.out)
             replace BK971 := Aside0.mk (blk_drew BK971.out)
             replace HB := Aside0.mk (below_drew1 HB.out)
             refine start_ (n := 11) (S := fun w' => w'.cell? ⟨gb920, 0, none⟩ = some (.bool a0_0) ∧ w'.cell? ⟨gb920, 1, none⟩ = some (.slice A0_1 l0_1.length c0_1) ∧ w'.cell? ⟨gb920, 2, none⟩ = some (.slice A0_2 l0_2.length c0_2) ∧ w'.cell? ⟨gb921, 0, none⟩ = some (.bool a1_0) ∧ w'.cell? ⟨gb921, 1, none⟩ = some (.slice A1_1 l1_1.length c1_1) ∧ w'.cell? ⟨gb921, 2, none⟩ = some (.slice A1_2 l1_2.length c1_2)) (ds := []) (bm 11 0) (by kernel_rfl) rfl rfl ⟨bce BK920 0 _, bce BK920 1 _, bce BK920 2 _, bce BK921 0 _, bce BK921 1 _, bce BK921 2 _⟩ (fun hHeld => ?_); refine with_tabW laws_FnExactAddRat.tab31 laws_FnExactAddRat.bits31 (fun HT_ HW_ => ?_)
             generalize w188.drew = w189 at HO_947001 HO_947002 HO_972001 HO_972002 BK920 BK921 BK946 BK971 HB hHeld ⊢
             refine tk_ 0 (some 95) (bm 11 1) HT_.out HW_.out hHeld ?_
             refine tk_ 2 (some 97) (bm 11 5) HT_.out HW_.out hHeld ?_
             refine join_ (σ := Value × Value × Value × Value × Value × Value × Nat) 2 (bm 11 511) (fun s_ => [(96, .agg #[.bool t1000, s_.1, s_.2.1]), (98, .agg #[.bool t1007, s_.2.2.1, s_.2.2.2.1]), (99, .tuple #[.agg #[.bool t1014, s_.2.2.2.2.1, s_.2.2.2.2.2.1], .int .i64 t1021]), (15, .pointer (some ⟨s_.2.2.2.2.2.2, 0, none⟩)), (94, .tuple #[.agg #[.bool t1014, s_.2.2.2.2.1, s_.2.2.2.2.2.1], .int .i64 t1021]), (100, .agg #[.bool t1014, s_.2.2.2.2.1, s_.2.2.2.2.2.1]), (101, .int .i64 t1021)]) (fun s_ w' => (w'.cell? ⟨gb920, 0, none⟩ = some (.bool a0_0) ∧ w'.cell? ⟨gb920, 1, none⟩ = some (.slice A0_1 l0_1.length c0_1) ∧ w'.cell? ⟨gb920, 2, none⟩ = some (.slice A0_2 l0_2.length c0_2) ∧ w'.cell? ⟨gb921, 0, none⟩ = some (.bool a1_0) ∧ w'.cell? ⟨gb921, 1, none⟩ = some (.slice A1_1 l1_1.length c1_1) ∧ w'.cell? ⟨gb921, 2, none⟩ = some (.slice A1_2 l1_2.length c1_2)) ∧ (Kd.R (Kd.int .i64) 3 w' w.heap.size (fun k_ => nO k_ s_.2.1 ∧ nO k_ s_.2.2.1 ∧ nO k_ s_.2.2.2.1 ∧ nO k_ s_.2.2.2.2.1 ∧ nO k_ s_.2.2.2.2.2.1 ∧ nO k_ (.slice Ao44 t939.length co44) ∧ nO k_ (.slice Ao46 t942.length co46) ∧ nO k_ (.slice Ao78 t964.length co78) ∧ nO k_ (.slice Ao79 t967.length co79)) s_.1 t1001) ∧ (Kd.R (Kd.int .i64) 3 w' w.heap.size (fun k_ => nO k_ s_.1 ∧ nO k_ s_.2.2.1 ∧ nO k_ s_.2.2.2.1 ∧ nO k_ s_.2.2.2.2.1 ∧ nO k_ s_.2.2.2.2.2.1 ∧ nO k_ (.slice Ao44 t939.length co44) ∧ nO k_ (.slice Ao46 t942.length co46) ∧ nO k_ (.slice Ao78 t964.length co78) ∧ nO k_ (.slice Ao79 t967.length co79)) s_.2.1 t1004) ∧ (Kd.R (Kd.int .i64) 3 w' w.heap.size (fun k_ => nO k_ s_.1 ∧ nO k_ s_.2.1 ∧ nO k_ s_.2.2.2.1 ∧ nO k_ s_.2.2.2.2.1 ∧ nO k_ s_.2.2.2.2.2.1 ∧ nO k_ (.slice Ao44 t939.length co44) ∧ nO k_ (.slice Ao46 t942.length co46) ∧ nO k_ (.slice Ao78 t964.length co78) ∧ nO k_ (.slice Ao79 t967.length co79)) s_.2.2.1 t1008) ∧ (Kd.R (Kd.int .i64) 3 w' w.heap.size (fun k_ => nO k_ s_.1 ∧ nO k_ s_.2.1 ∧ nO k_ s_.2.2.1 ∧ nO k_ s_.2.2.2.2.1 ∧ nO k_ s_.2.2.2.2.2.1 ∧ nO k_ (.slice Ao44 t939.length co44) ∧ nO k_ (.slice Ao46 t942.length co46) ∧ nO k_ (.slice Ao78 t964.length co78) ∧ nO k_ (.slice Ao79 t967.length co79)) s_.2.2.2.1 t1011) ∧ (Kd.R (Kd.int .i64) 3 w' w.heap.size (fun k_ => nO k_ s_.1 ∧ nO k_ s_.2.1 ∧ nO k_ s_.2.2.1 ∧ nO k_ s_.2.2.2.1 ∧ nO k_ s_.2.2.2.2.2.1 ∧ nO k_ (.slice Ao44 t939.length co44) ∧ nO k_ (.slice Ao46 t942.length co46) ∧ nO k_ (.slice Ao78 t964.length co78) ∧ nO k_ (.slice Ao79 t967.length co79)) s_.2.2.2.2.1 t1015) ∧ (Kd.R (Kd.int .i64) 3 w' w.heap.size (fun k_ => nO k_ s_.1 ∧ nO k_ s_.2.1 ∧ nO k_ s_.2.2.1 ∧ nO k_ s_.2.2.2.1 ∧ nO k_ s_.2.2.2.2.1 ∧ nO k_ (.slice Ao44 t939.length co44) ∧ nO k_ (.slice Ao46 t942.length co46) ∧ nO k_ (.slice Ao78 t964.length co78) ∧ nO k_ (.slice Ao79 t967.length co79)) s_.2.2.2.2.2.1 t1018) ∧ (Kd.R (Kd.int .i64) 3 w' w.heap.size (fun k_ => nO k_ s_.1 ∧ nO k_ s_.2.1 ∧ nO k_ s_.2.2.1 ∧ nO k_ s_.2.2.2.1 ∧ nO k_ s_.2.2.2.2.1 ∧ nO k_ s_.2.2.2.2.2.1 ∧ nO k_ (.slice Ao46 t942.length co46) ∧ nO k_ (.slice Ao78 t964.length co78) ∧ nO k_ (.slice Ao79 t967.length co79)) (.slice Ao44 t939.length co44) t939) ∧ (Kd.R (Kd.int .i64) 3 w' w.heap.size (fun k_ => nO k_ s_.1 ∧ nO k_ s_.2.1 ∧ nO k_ s_.2.2.1 ∧ nO k_ s_.2.2.2.1 ∧ nO k_ s_.2.2.2.2.1 ∧ nO k_ s_.2.2.2.2.2.1 ∧ nO k_ (.slice Ao44 t939.length co44) ∧ nO k_ (.slice Ao78 t964.length co78) ∧ nO k_ (.slice Ao79 t967.length co79)) (.slice Ao46 t942.length co46) t942) ∧ (Kd.R (Kd.int .i64) 3 w' w.heap.size (fun k_ => nO k_ s_.1 ∧ nO k_ s_.2.1 ∧ nO k_ s_.2.2.1 ∧ nO k_ s_.2.2.2.1 ∧ nO k_ s_.2.2.2.2.1 ∧ nO k_ s_.2.2.2.2.2.1 ∧ nO k_ (.slice Ao44 t939.length co44) ∧ nO k_ (.slice Ao46 t942.length co46) ∧ nO k_ (.slice Ao79 t967.length co79)) (.slice Ao78 t964.length co78) t997) ∧ (Kd.R (Kd.int .i64) 3 w' w.heap.size (fun k_ => nO k_ s_.1 ∧ nO k_ s_.2.1 ∧ nO k_ s_.2.2.1 ∧ nO k_ s_.2.2.2.1 ∧ nO k_ s_.2.2.2.2.1 ∧ nO k_ s_.2.2.2.2.2.1 ∧ nO k_ (.slice Ao44 t939.length co44) ∧ nO k_ (.slice Ao46 t942.length co46) ∧ nO k_ (.slice Ao78 t964.length co78)) (.slice Ao79 t967.length co79) t998) ∧ (w'.heap[s_.2.2.2.2.2.2]? = some (.cells #[.bool false, .slice none 0 0, .slice none 0 0] 24 (0, 0))) ∧ (w'.heap[gb920]? = some (.cells #[.bool a0_0, .slice A0_1 l0_1.length c0_1, .slice A0_2 l0_2.length c0_2] 30 (0, 0))) ∧ (w'.heap[gb921]? = some (.cells #[.bool a1_0, .slice A1_1 l1_1.length c1_1, .slice A1_2 l1_2.length c1_2] 30 (0, 0))) ∧ (w'.heap[gb946]? = some (.cells #[.bool t938, .slice Ao44 t939.length co44, .slice Ao46 t942.length co46] 24 (0, 0))) ∧ (w'.heap[gb971]? = some (.cells #[.bool t963, .slice Ao78 t964.length co78, .slice Ao79 t967.length co79] 24 (0, 0))) ∧ (w.heap.size ≤ s_.2.2.2.2.2.2) ∧ (w.heap.size ≤ s_.2.2.2.2.2.2) ∧ (gb920 ≠ s_.2.2.2.2.2.2) ∧ (s_.2.2.2.2.2.2 ≠ gb920) ∧ (gb921 ≠ s_.2.2.2.2.2.2) ∧ (s_.2.2.2.2.2.2 ≠ gb921) ∧ (gb946 ≠ s_.2.2.2.2.2.2) ∧ (s_.2.2.2.2.2.2 ≠ gb946) ∧ (gb971 ≠ s_.2.2.2.2.2.2) ∧ (s_.2.2.2.2.2.2 ≠ gb971) ∧ (Below w.heap.size w w')) ?_ ?_
             rotate_left
             ·
              intro hCont
              refine two_ (i := 1) (j := 8) (Ni := some 96) (Nj := some 15) (bm 11 7) (bm 11 261) rfl rfl rfl rfl (two_of HT_.out (by kernel_rfl)) (by decide) (by decide) (fun K hK => ?_) (fun K hK => ?_)
              ·
               skip
               refine g_ Try.func22 #[.agg #[.bool a0_0, .slice A0_1 l0_1.length c0_1, .slice A0_2 l0_2.length c0_2]] ?_
               with_reducible refine (laws_toRat.calls kj114 a0_0 _ _ l0_1 _ _ l0_2 t1000 t1001 t1004 _ ?side1 ?side2 ?side3 ?side4 A178.out).mono ?_
               (case side1 => exact crC (Kd.C_below HR0_1.out HB.out))
               (case side2 => exact HC0_1.out)
               (case side3 => exact crC (Kd.C_below HR0_2.out HB.out))
               (case side4 => exact HC0_2.out)
               rintro e w190 ⟨v1002, v1005, rfl, ho0, ho1, hb⟩
               refine ⟨_, rfl, ?_⟩
               have HO1003 := lwR (nwR (nwR (nwR (nwR ho0 HO_947001) HO_947002) HO_972001) HO_972002) HB
               have HO1006 := lwR (nwR (nwR (nwR (nwR ho1 HO_947001) HO_947002) HO_972001) HO_972002) HB
               replace HO_947001 := tldR HO_947001 hb (Kd.R_base ho0) (Kd.R_base ho1)
               replace HO_947002 := tldR HO_947002 hb (Kd.R_base ho0) (Kd.R_base ho1)
               replace HO_972001 := tldR HO_972001 hb (Kd.R_base ho0) (Kd.R_base ho1)
               replace HO_972002 := tldR HO_972002 hb (Kd.R_base ho0) (Kd.R_base ho1)
               replace BK920 := bkb BK920 hb
               replace BK921 := bkb BK921 hb
               replace BK946 := bkb BK946 hb
               replace BK971 := bkb BK971 hb
               replace HB := bst HB hb
               (try clear hb)
               (try clear hb2)
               (try clear hk)
               (try clear hi)
               (try clear ho0)
               (try clear ho1)
               refine hK.out _ _ ⟨bce BK920 0 _, bce BK920 1 _, bce BK920 2 _, bce BK921 0 _, bce BK921 1 _, bce BK921 2 _⟩ (fun hHeld => ?_)
               clear hK K
               refine nm_ 96 ?_
               refine two_ (i := 3) (j := 8) (Ni := some 98) (Nj := some 15) (bm 11 15) (bm 11 263) rfl rfl rfl rfl (two_of HT_.out (by kernel_rfl)) (by decide) (by decide) (fun K hK => ?_) (fun K hK => ?_)
               ·
                skip
                refine g_ Try.func22 #[.agg #[.bool a1_0, .slice A1_1 l1_1.length c1_1, .slice A1_2 l1_2.length c1_2]] ?_
                with_reducible refine (laws_toRat.calls kj114 a1_0 _ _ l1_1 _ _ l1_2 t1007 t1008 t1011 _ ?side1 ?side2 ?side3 ?side4 A179.out).mono ?_
                (case side1 => exact crC (Kd.C_below HR1_1.out HB.out))
                (case side2 => exact HC1_1.out)
                (case side3 => exact crC (Kd.C_below HR1_2.out HB.out))
                (case side4 => exact HC1_2.out)
                rintro e w191 ⟨v1009, v1012, rfl, ho0, ho1, hb⟩
                refine ⟨_, rfl, ?_⟩
                have HO1010 := lwR (nwR (nwR (nwR (nwR (nwR (nwR ho0 HO_947001) HO_947002) HO_972001) HO_972002) HO1003) HO1006) HB
                have HO1013 := lwR (nwR (nwR (nwR (nwR (nwR (nwR ho1 HO_947001) HO_947002) HO_972001) HO_972002) HO1003) HO1006) HB
                replace HO_947001 := tldR HO_947001 hb (Kd.R_base ho0) (Kd.R_base ho1)
                replace HO_947002 := tldR HO_947002 hb (Kd.R_base ho0) (Kd.R_base ho1)
                replace HO_972001 := tldR HO_972001 hb (Kd.R_base ho0) (Kd.R_base ho1)
                replace HO_972002 := tldR HO_972002 hb (Kd.R_base ho0) (Kd.R_base ho1)
                replace HO1003 := tldR HO1003 hb (Kd.R_base ho0) (Kd.R_base ho1)
                replace HO1006 := tldR HO1006 hb (Kd.R_base ho0) (Kd.R_base ho1)
                replace BK920 := bkb BK920 hb
                replace BK921 := bkb BK921 hb
                replace BK946 := bkb BK946 hb
                replace BK971 := bkb BK971 hb
                replace HB := bst HB hb
                (try clear hb)
                (try clear hb2)
                (try clear hk)
                (try clear hi)
                (try clear ho0)
                (try clear ho1)
                obtain ⟨Ao192, co192, eo192⟩ := Kd.R_slice HO1003.out
                (first | subst eo192 | (injection eo192 with f1_ f2_ f3_; have f4_ := f1_.symm; have f5_ := f3_.symm; clear f1_ f2_ f3_; subst f4_; subst f5_))
                obtain ⟨Ao193, co193, eo193⟩ := Kd.R_slice HO1006.out
                (first | subst eo193 | (injection eo193 with f1_ f2_ f3_; have f4_ := f1_.symm; have f5_ := f3_.symm; clear f1_ f2_ f3_; subst f4_; subst f5_))
                obtain ⟨Ao194, co194, eo194⟩ := Kd.R_slice HO1010.out
                (first | subst eo194 | (injection eo194 with f1_ f2_ f3_; have f4_ := f1_.symm; have f5_ := f3_.symm; clear f1_ f2_ f3_; subst f4_; subst f5_))
                obtain ⟨Ao195, co195, eo195⟩ := Kd.R_slice HO1013.out
                (first | subst eo195 | (injection eo195 with f1_ f2_ f3_; have f4_ := f1_.symm; have f5_ := f3_.symm; clear f1_ f2_ f3_; subst f4_; subst f5_))
                refine hK.out _ _ ⟨bce BK920 0 _, bce BK920 1 _, bce BK920 2 _, bce BK921 0 _, bce BK921 1 _, bce BK921 2 _⟩ (fun hHeld => ?_)
                clear hK K
                refine nm_ 98 ?_
                refine two_ (i := 4) (j := 8) (Ni := some 99) (Nj := some 15) (bm 11 31) (bm 11 271) rfl rfl rfl rfl (two_of HT_.out (by kernel_rfl)) (by decide) (by decide) (fun K hK => ?_) (fun K hK => ?_)
                ·
                 skip
                 refine g_ Try.func37 #[.agg #[.bool t1000, .slice Ao192 t1001.length co192, .slice Ao193 t1004.length co193], .agg #[.bool t1007, .slice Ao194 t1008.length co194, .slice Ao195 t1011.length co195]] ?_
                 with_reducible refine (impl_AddRat.calls kj114 t1000 _ _ t1001 _ _ t1004 t1007 _ _ t1008 _ _ t1011 t1014 t1015 t1018 t1021 _ ?side1 ?side2 ?side3 ?side4 ?side5 ?side6 ?side7 ?side8 A180.out).mono ?_
                 (case side1 => exact crC (Kd.R_reads' HO1003.out).2.2)
                 (case side2 => exact (Kd.R_reads' HO1003.out).2.1)
                 (case side3 => exact crC (Kd.R_reads' HO1006.out).2.2)
                 (case side4 => exact (Kd.R_reads' HO1006.out).2.1)
                 (case side5 => exact crC (Kd.R_reads' HO1010.out).2.2)
                 (case side6 => exact (Kd.R_reads' HO1010.out).2.1)
                 (case side7 => exact crC (Kd.R_reads' HO1013.out).2.2)
                 (case side8 => exact (Kd.R_reads' HO1013.out).2.1)
                 rintro e w196 ⟨v1016, v1019, rfl, ho0, ho1, hb⟩
                 refine ⟨_, rfl, ?_⟩
                 have HO1017 := lwR (nwR (nwR (nwR (nwR (nwR (nwR (nwR (nwR ho0 HO_947001) HO_947002) HO_972001) HO_972002) HO1003) HO1006) HO1010) HO1013) HB
                 have HO1020 := lwR (nwR (nwR (nwR (nwR (nwR (nwR (nwR (nwR ho1 HO_947001) HO_947002) HO_972001) HO_972002) HO1003) HO1006) HO1010) HO1013) HB
                 replace HO_947001 := tldR HO_947001 hb (Kd.R_base ho0) (Kd.R_base ho1)
                 replace HO_947002 := tldR HO_947002 hb (Kd.R_base ho0) (Kd.R_base ho1)
                 replace HO_972001 := tldR HO_972001 hb (Kd.R_base ho0) (Kd.R_base ho1)
                 replace HO_972002 := tldR HO_972002 hb (Kd.R_base ho0) (Kd.R_base ho1)
                 replace HO1003 := tldR HO1003 hb (Kd.R_base ho0) (Kd.R_base ho1)
                 replace HO1006 := tldR HO1006 hb (Kd.R_base ho0) (Kd.R_base ho1)
                 replace HO1010 := tldR HO1010 hb (Kd.R_base ho0) (Kd.R_base ho1)
                 replace HO1013 := tldR HO1013 hb (Kd.R_base ho0) (Kd.R_base ho1)
                 replace BK920 := bkb BK920 hb
                 replace BK921 := bkb BK921 hb
                 replace BK946 := bkb BK946 hb
                 replace BK971 := bkb BK971 hb
                 replace HB := bst HB hb
                 (try clear hb)
                 (try clear hb2)
                 (try clear hk)
                 (try clear hi)
                 (try clear ho0)
                 (try clear ho1)
                 refine hK.out _ _ ⟨bce BK920 0 _, bce BK920 1 _, bce BK920 2 _, bce BK921 0 _, bce BK921 1 _, bce BK921 2 _⟩ (fun hHeld => ?_)
                 clear hK K
                 refine nm_ 99 ?_
                 refine pu_ 5 (some 94) (bm 11 63) HT_.out ?_
                 refine pu_ 6 (some 100) (bm 11 127) HT_.out ?_
                 refine pu_ 7 (some 101) (bm 11 255) HT_.out ?_
                 refine one_ (i := 8) (N := some 15) (bm 11 511) rfl rfl (one_of HT_.out (by kernel_rfl)) (by decide) (fun K hK => ?_)
                 refine bs_ (N := 15) (cs := #[.bool false, .slice none 0 0, .slice none 0 0]) (t := 24) ?_
                 intro gb1022 hg w197 hbox hb
                 replace HO_947001 := rblR HO_947001 hb
                 replace HO_947002 := rblR HO_947002 hb
                 replace HO_972001 := rblR HO_972001 hb
                 replace HO_972002 := rblR HO_972002 hb
                 replace HO1003 := rblR HO1003 hb
                 replace HO1006 := rblR HO1006 hb
                 replace HO1010 := rblR HO1010 hb
                 replace HO1013 := rblR HO1013 hb
                 replace HO1017 := rblR HO1017 hb
                 replace HO1020 := rblR HO1020 hb
                 have BK1022 := Aside0.mk (hbox)
                 have GW1022 := geh hg HB
                 have GE1022 := geh hg HB
                 replace HB := bst HB hb
                 have NB920_1022 := nlt hg BK920
                 have NB1022_920 := ngt hg BK920
                 replace BK920 := bkb BK920 hb
                 have NB921_1022 := nlt hg BK921
                 have NB1022_921 := ngt hg BK921
                 replace BK921 := bkb BK921 hb
                 have NB946_1022 := nlt hg BK946
                 have NB1022_946 := ngt hg BK946
                 replace BK946 := bkb BK946 hb
                 have NB971_1022 := nlt hg BK971
                 have NB1022_971 := ngt hg BK971
                 replace BK971 := bkb BK971 hb
                 clear hb hbox hg
                 refine hK.out _ _ ⟨bce BK920 0 _, bce BK920 1 _, bce BK920 2 _, bce BK921 0 _, bce BK921 1 _, bce BK921 2 _⟩ (fun hHeld => ?_)
                 clear hK K
                 refine nm_ 15 ?_
                 exact nq_ (hCont (.slice Ao192 t1001.length co192, .slice Ao193 t1004.length co193, .slice Ao194 t1008.length co194, .slice Ao195 t1011.length co195, v1016, v1019, gb1022) _ ⟨hHeld, (crM HO1003 fun _ hk => ⟨hk.1.1.1.1.1.1.1.1, hk.1.1.1.2, hk.1.1.2, hk.1.2, hk.2, hk.1.1.1.1.1.1.1.2, hk.1.1.1.1.1.1.2, hk.1.1.1.1.1.2, hk.1.1.1.1.2⟩), (crM HO1006 fun _ hk => ⟨hk.1.1.1.1.1.1.1.1, hk.1.1.1.2, hk.1.1.2, hk.1.2, hk.2, hk.1.1.1.1.1.1.1.2, hk.1.1.1.1.1.1.2, hk.1.1.1.1.1.2, hk.1.1.1.1.2⟩), (crM HO1010 fun _ hk => ⟨hk.1.1.1.2, hk.1.1.2, hk.1.1.1.1.1.1.1.1, hk.1.2, hk.2, hk.1.1.1.1.1.1.1.2, hk.1.1.1.1.1.1.2, hk.1.1.1.1.1.2, hk.1.1.1.1.2⟩), (crM HO1013 fun _ hk => ⟨hk.1.1.1.2, hk.1.1.2, hk.1.1.1.1.1.1.1.1, hk.1.2, hk.2, hk.1.1.1.1.1.1.1.2, hk.1.1.1.1.1.1.2, hk.1.1.1.1.1.2, hk.1.1.1.1.2⟩), (crM HO1017 fun _ hk => ⟨hk.1.1.1.2, hk.1.1.2, hk.1.2, hk.2, hk.1.1.1.1.1.1.1.1, hk.1.1.1.1.1.1.1.2, hk.1.1.1.1.1.1.2, hk.1.1.1.1.1.2, hk.1.1.1.1.2⟩), (crM HO1020 fun _ hk => ⟨hk.1.1.1.2, hk.1.1.2, hk.1.2, hk.2, hk.1.1.1.1.1.1.1.1, hk.1.1.1.1.1.1.1.2, hk.1.1.1.1.1.1.2, hk.1.1.1.1.1.2, hk.1.1.1.1.2⟩), (crM HO_947001 fun _ hk => ⟨hk.1.1.1.1.1.2, hk.1.1.1.1.2, hk.1.1.1.2, hk.1.1.2, hk.1.2, hk.2, hk.1.1.1.1.1.1.1, hk.1.1.1.1.1.1.2.1, hk.1.1.1.1.1.1.2.2⟩), (crM HO_947002 fun _ hk => ⟨hk.1.1.1.1.1.2, hk.1.1.1.1.2, hk.1.1.1.2, hk.1.1.2, hk.1.2, hk.2, hk.1.1.1.1.1.1.1, hk.1.1.1.1.1.1.2.1, hk.1.1.1.1.1.1.2.2⟩), (crM HO_972001 fun _ hk => ⟨hk.1.1.1.1.1.2, hk.1.1.1.1.2, hk.1.1.1.2, hk.1.1.2, hk.1.2, hk.2, hk.1.1.1.1.1.1.1, hk.1.1.1.1.1.1.2.1, hk.1.1.1.1.1.1.2.2⟩), (crM HO_972002 fun _ hk => ⟨hk.1.1.1.1.1.2, hk.1.1.1.1.2, hk.1.1.1.2, hk.1.1.2, hk.1.2, hk.2, hk.1.1.1.1.1.1.1, hk.1.1.1.1.1.1.2.1, hk.1.1.1.1.1.1.2.2⟩), (crb BK1022), (crb BK920), (crb BK921), (crb BK946), (crb BK971), GW1022.out, GE1022.out, NB920_1022.out, NB1022_920.out, NB921_1022.out, NB1022_921.out, NB946_1022.out, NB1022_946.out, NB971_1022.out, NB1022_971.out, (blw HB)⟩)
                ·
                 skip
                 refine bs_ (N := 15) (cs := #[.bool false, .slice none 0 0, .slice none 0 0]) (t := 24) ?_
                 intro gb1022 hg w192 hbox hb
                 replace HO_947001 := rblR HO_947001 hb
                 replace HO_947002 := rblR HO_947002 hb
                 replace HO_972001 := rblR HO_972001 hb
                 replace HO_972002 := rblR HO_972002 hb
                 replace HO1003 := rblR HO1003 hb
                 replace HO1006 := rblR HO1006 hb
                 replace HO1010 := rblR HO1010 hb
                 replace HO1013 := rblR HO1013 hb
                 have BK1022 := Aside0.mk (hbox)
                 have GW1022 := geh hg HB
                 have GE1022 := geh hg HB
                 replace HB := bst HB hb
                 have NB920_1022 := nlt hg BK920
                 have NB1022_920 := ngt hg BK920
                 replace BK920 := bkb BK920 hb
                 have NB921_1022 := nlt hg BK921
                 have NB1022_921 := ngt hg BK921
                 replace BK921 := bkb BK921 hb
                 have NB946_1022 := nlt hg BK946
                 have NB1022_946 := ngt hg BK946
                 replace BK946 := bkb BK946 hb
                 have NB971_1022 := nlt hg BK971
                 have NB1022_971 := ngt hg BK971
                 replace BK971 := bkb BK971 hb
                 clear hb hbox hg
                 obtain ⟨Ao193, co193, eo193⟩ := Kd.R_slice HO1003.out
                 (first | subst eo193 | (injection eo193 with f1_ f2_ f3_; have f4_ := f1_.symm; have f5_ := f3_.symm; clear f1_ f2_ f3_; subst f4_; subst f5_))
                 obtain ⟨Ao194, co194, eo194⟩ := Kd.R_slice HO1006.out
                 (first | subst eo194 | (injection eo194 with f1_ f2_ f3_; have f4_ := f1_.symm; have f5_ := f3_.symm; clear f1_ f2_ f3_; subst f4_; subst f5_))
                 obtain ⟨Ao195, co195, eo195⟩ := Kd.R_slice HO1010.out
                 (first | subst eo195 | (injection eo195 with f1_ f2_ f3_; have f4_ := f1_.symm; have f5_ := f3_.symm; clear f1_ f2_ f3_; subst f4_; subst f5_))
                 obtain ⟨Ao196, co196, eo196⟩ := Kd.R_slice HO1013.out
                 (first | subst eo196 | (injection eo196 with f1_ f2_ f3_; have f4_ := f1_.symm; have f5_ := f3_.symm; clear f1_ f2_ f3_; subst f4_; subst f5_))
                 refine hK.out _ _ ⟨bce BK920 0 _, bce BK920 1 _, bce BK920 2 _, bce BK921 0 _, bce BK921 1 _, bce BK921 2 _⟩ (fun hHeld => ?_)
                 clear hK K
                 refine nm_ 15 ?_
                 refine one_ (i := 4) (N := some 99) (bm 11 287) rfl rfl (one_of HT_.out (by kernel_rfl)) (by decide) (fun K hK => ?_)
                 refine g_ Try.func37 #[.agg #[.bool t1000, .slice Ao193 t1001.length co193, .slice Ao194 t1004.length co194], .agg #[.bool t1007, .slice Ao195 t1008.length co195, .slice Ao196 t1011.length co196]] ?_
                 with_reducible refine (impl_AddRat.calls kj114 t1000 _ _ t1001 _ _ t1004 t1007 _ _ t1008 _ _ t1011 t1014 t1015 t1018 t1021 _ ?side1 ?side2 ?side3 ?side4 ?side5 ?side6 ?side7 ?side8 A180.out).mono ?_
                 (case side1 => exact crC (Kd.R_reads' HO1003.out).2.2)
                 (case side2 => exact (Kd.R_reads' HO1003.out).2.1)
                 (case side3 => exact crC (Kd.R_reads' HO1006.out).2.2)
                 (case side4 => exact (Kd.R_reads' HO1006.out).2.1)
                 (case side5 => exact crC (Kd.R_reads' HO1010.out).2.2)
                 (case side6 => exact (Kd.R_reads' HO1010.out).2.1)
                 (case side7 => exact crC (Kd.R_reads' HO1013.out).2.2)
                 (case side8 => exact (Kd.R_reads' HO1013.out).2.1)
                 rintro e w197 ⟨v1016, v1019, rfl, ho0, ho1, hb⟩
                 refine ⟨_, rfl, ?_⟩
                 have HO1017 := lwR (nwR (nwR (nwR (nwR (nwR (nwR (nwR (nwR ho0 HO_947001) HO_947002) HO_972001) HO_972002) HO1003) HO1006) HO1010) HO1013) HB
                 have HO1020 := lwR (nwR (nwR (nwR (nwR (nwR (nwR (nwR (nwR ho1 HO_947001) HO_947002) HO_972001) HO_972002) HO1003) HO1006) HO1010) HO1013) HB
                 replace HO_947001 := tldR HO_947001 hb (Kd.R_base ho0) (Kd.R_base ho1)
                 replace HO_947002 := tldR HO_947002 hb (Kd.R_base ho0) (Kd.R_base ho1)
                 replace HO_972001 := tldR HO_972001 hb (Kd.R_base ho0) (Kd.R_base ho1)
                 replace HO_972002 := tldR HO_972002 hb (Kd.R_base ho0) (Kd.R_base ho1)
                 replace HO1003 := tldR HO1003 hb (Kd.R_base ho0) (Kd.R_base ho1)
                 replace HO1006 := tldR HO1006 hb (Kd.R_base ho0) (Kd.R_base ho1)
                 replace HO1010 := tldR HO1010 hb (Kd.R_base ho0) (Kd.R_base ho1)
                 replace HO1013 := tldR HO1013 hb (Kd.R_base ho0) (Kd.R_base ho1)
                 replace BK920 := bkb BK920 hb
                 replace BK921 := bkb BK921 hb
                 replace BK946 := bkb BK946 hb
                 replace BK971 := bkb BK971 hb
                 replace BK1022 := bkb BK1022 hb
                 replace HB := bst HB hb
                 (try clear hb)
                 (try clear hb2)
                 (try clear hk)
                 (try clear hi)
                 (try clear ho0)
                 (try clear ho1)
                 refine hK.out _ _ ⟨bce BK920 0 _, bce BK920 1 _, bce BK920 2 _, bce BK921 0 _, bce BK921 1 _, bce BK921 2 _⟩ (fun hHeld => ?_)
                 clear hK K
                 refine nm_ 99 ?_
                 refine pu_ 5 (some 94) (bm 11 319) HT_.out ?_
                 refine pu_ 6 (some 100) (bm 11 383) HT_.out ?_
                 refine pu_ 7 (some 101) (bm 11 511) HT_.out ?_
                 exact nq_ (hCont (.slice Ao193 t1001.length co193, .slice Ao194 t1004.length co194, .slice Ao195 t1008.length co195, .slice Ao196 t1011.length co196, v1016, v1019, gb1022) _ ⟨hHeld, (crM HO1003 fun _ hk => ⟨hk.1.1.1.1.1.1.1.1, hk.1.1.1.2, hk.1.1.2, hk.1.2, hk.2, hk.1.1.1.1.1.1.1.2, hk.1.1.1.1.1.1.2, hk.1.1.1.1.1.2, hk.1.1.1.1.2⟩), (crM HO1006 fun _ hk => ⟨hk.1.1.1.1.1.1.1.1, hk.1.1.1.2, hk.1.1.2, hk.1.2, hk.2, hk.1.1.1.1.1.1.1.2, hk.1.1.1.1.1.1.2, hk.1.1.1.1.1.2, hk.1.1.1.1.2⟩), (crM HO1010 fun _ hk => ⟨hk.1.1.1.2, hk.1.1.2, hk.1.1.1.1.1.1.1.1, hk.1.2, hk.2, hk.1.1.1.1.1.1.1.2, hk.1.1.1.1.1.1.2, hk.1.1.1.1.1.2, hk.1.1.1.1.2⟩), (crM HO1013 fun _ hk => ⟨hk.1.1.1.2, hk.1.1.2, hk.1.1.1.1.1.1.1.1, hk.1.2, hk.2, hk.1.1.1.1.1.1.1.2, hk.1.1.1.1.1.1.2, hk.1.1.1.1.1.2, hk.1.1.1.1.2⟩), (crM HO1017 fun _ hk => ⟨hk.1.1.1.2, hk.1.1.2, hk.1.2, hk.2, hk.1.1.1.1.1.1.1.1, hk.1.1.1.1.1.1.1.2, hk.1.1.1.1.1.1.2, hk.1.1.1.1.1.2, hk.1.1.1.1.2⟩), (crM HO1020 fun _ hk => ⟨hk.1.1.1.2, hk.1.1.2, hk.1.2, hk.2, hk.1.1.1.1.1.1.1.1, hk.1.1.1.1.1.1.1.2, hk.1.1.1.1.1.1.2, hk.1.1.1.1.1.2, hk.1.1.1.1.2⟩), (crM HO_947001 fun _ hk => ⟨hk.1.1.1.1.1.2, hk.1.1.1.1.2, hk.1.1.1.2, hk.1.1.2, hk.1.2, hk.2, hk.1.1.1.1.1.1.1, hk.1.1.1.1.1.1.2.1, hk.1.1.1.1.1.1.2.2⟩), (crM HO_947002 fun _ hk => ⟨hk.1.1.1.1.1.2, hk.1.1.1.1.2, hk.1.1.1.2, hk.1.1.2, hk.1.2, hk.2, hk.1.1.1.1.1.1.1, hk.1.1.1.1.1.1.2.1, hk.1.1.1.1.1.1.2.2⟩), (crM HO_972001 fun _ hk => ⟨hk.1.1.1.1.1.2, hk.1.1.1.1.2, hk.1.1.1.2, hk.1.1.2, hk.1.2, hk.2, hk.1.1.1.1.1.1.1, hk.1.1.1.1.1.1.2.1, hk.1.1.1.1.1.1.2.2⟩), (crM HO_972002 fun _ hk => ⟨hk.1.1.1.1.1.2, hk.1.1.1.1.2, hk.1.1.1.2, hk.1.1.2, hk.1.2, hk.2, hk.1.1.1.1.1.1.1, hk.1.1.1.1.1.1.2.1, hk.1.1.1.1.1.1.2.2⟩), (crb BK1022), (crb BK920), (crb BK921), (crb BK946), (crb BK971), GW1022.out, GE1022.out, NB920_1022.out, NB1022_920.out, NB921_1022.out, NB1022_921.out, NB946_1022.out, NB1022_946.out, NB971_1022.out, NB1022_971.out, (blw HB)⟩)
               ·
                skip
                refine bs_ (N := 15) (cs := #[.bool false, .slice none 0 0, .slice none 0 0]) (t := 24) ?_
                intro gb1022 hg w191 hbox hb
                replace HO_947001 := rblR HO_947001 hb
                replace HO_947002 := rblR HO_947002 hb
                replace HO_972001 := rblR HO_972001 hb
                replace HO_972002 := rblR HO_972002 hb
                replace HO1003 := rblR HO1003 hb
                replace HO1006 := rblR HO1006 hb
                have BK1022 := Aside0.mk (hbox)
                have GW1022 := geh hg HB
                have GE1022 := geh hg HB
                replace HB := bst HB hb
                have NB920_1022 := nlt hg BK920
                have NB1022_920 := ngt hg BK920
                replace BK920 := bkb BK920 hb
                have NB921_1022 := nlt hg BK921
                have NB1022_921 := ngt hg BK921
                replace BK921 := bkb BK921 hb
                have NB946_1022 := nlt hg BK946
                have NB1022_946 := ngt hg BK946
                replace BK946 := bkb BK946 hb
                have NB971_1022 := nlt hg BK971
                have NB1022_971 := ngt hg BK971
                replace BK971 := bkb BK971 hb
                clear hb hbox hg
                refine hK.out _ _ ⟨bce BK920 0 _, bce BK920 1 _, bce BK920 2 _, bce BK921 0 _, bce BK921 1 _, bce BK921 2 _⟩ (fun hHeld => ?_)
                clear hK K
                refine nm_ 15 ?_
                refine one_ (i := 3) (N := some 98) (bm 11 271) rfl rfl (one_of HT_.out (by kernel_rfl)) (by decide) (fun K hK => ?_)
                refine g_ Try.func22 #[.agg #[.bool a1_0, .slice A1_1 l1_1.length c1_1, .slice A1_2 l1_2.length c1_2]] ?_
                with_reducible refine (laws_toRat.calls kj114 a1_0 _ _ l1_1 _ _ l1_2 t1007 t1008 t1011 _ ?side1 ?side2 ?side3 ?side4 A179.out).mono ?_
                (case side1 => exact crC (Kd.C_below HR1_1.out HB.out))
                (case side2 => exact HC1_1.out)
                (case side3 => exact crC (Kd.C_below HR1_2.out HB.out))
                (case side4 => exact HC1_2.out)
                rintro e w192 ⟨v1009, v1012, rfl, ho0, ho1, hb⟩
                refine ⟨_, rfl, ?_⟩
                have HO1010 := lwR (nwR (nwR (nwR (nwR (nwR (nwR ho0 HO_947001) HO_947002) HO_972001) HO_972002) HO1003) HO1006) HB
                have HO1013 := lwR (nwR (nwR (nwR (nwR (nwR (nwR ho1 HO_947001) HO_947002) HO_972001) HO_972002) HO1003) HO1006) HB
                replace HO_947001 := tldR HO_947001 hb (Kd.R_base ho0) (Kd.R_base ho1)
                replace HO_947002 := tldR HO_947002 hb (Kd.R_base ho0) (Kd.R_base ho1)
                replace HO_972001 := tldR HO_972001 hb (Kd.R_base ho0) (Kd.R_base ho1)
                replace HO_972002 := tldR HO_972002 hb (Kd.R_base ho0) (Kd.R_base ho1)
                replace HO1003 := tldR HO1003 hb (Kd.R_base ho0) (Kd.R_base ho1)
                replace HO1006 := tldR HO1006 hb (Kd.R_base ho0) (Kd.R_base ho1)
                replace BK920 := bkb BK920 hb
                replace BK921 := bkb BK921 hb
                replace BK946 := bkb BK946 hb
                replace BK971 := bkb BK971 hb
                replace BK1022 := bkb BK1022 hb
                replace HB := bst HB hb
                (try clear hb)
                (try clear hb2)
                (try clear hk)
                (try clear hi)
                (try clear ho0)
                (try clear ho1)
                obtain ⟨Ao193, co193, eo193⟩ := Kd.R_slice HO1003.out
                (first | subst eo193 | (injection eo193 with f1_ f2_ f3_; have f4_ := f1_.symm; have f5_ := f3_.symm; clear f1_ f2_ f3_; subst f4_; subst f5_))
                obtain ⟨Ao194, co194, eo194⟩ := Kd.R_slice HO1006.out
                (first | subst eo194 | (injection eo194 with f1_ f2_ f3_; have f4_ := f1_.symm; have f5_ := f3_.symm; clear f1_ f2_ f3_; subst f4_; subst f5_))
                obtain ⟨Ao195, co195, eo195⟩ := Kd.R_slice HO1010.out
                (first | subst eo195 | (injection eo195 with f1_ f2_ f3_; have f4_ := f1_.symm; have f5_ := f3_.symm; clear f1_ f2_ f3_; subst f4_; subst f5_))
                obtain ⟨Ao196, co196, eo196⟩ := Kd.R_slice HO1013.out
                (first | subst eo196 | (injection eo196 with f1_ f2_ f3_; have f4_ := f1_.symm; have f5_ := f3_.symm; clear f1_ f2_ f3_; subst f4_; subst f5_))
                refine hK.out _ _ ⟨bce BK920 0 _, bce BK920 1 _, bce BK920 2 _, bce BK921 0 _, bce BK921 1 _, bce BK921 2 _⟩ (fun hHeld => ?_)
                clear hK K
                refine nm_ 98 ?_
                refine one_ (i := 4) (N := some 99) (bm 11 287) rfl rfl (one_of HT_.out (by kernel_rfl)) (by decide) (fun K hK => ?_)
                refine g_ Try.func37 #[.agg #[.bool t1000, .slice Ao193 t1001.length co193, .slice Ao194 t1004.length co194], .agg #[.bool t1007, .slice Ao195 t1008.length co195, .slice Ao196 t1011.length co196]] ?_
                with_reducible refine (impl_AddRat.calls kj114 t1000 _ _ t1001 _ _ t1004 t1007 _ _ t1008 _ _ t1011 t1014 t1015 t1018 t1021 _ ?side1 ?side2 ?side3 ?side4 ?side5 ?side6 ?side7 ?side8 A180.out).mono ?_
                (case side1 => exact crC (Kd.R_reads' HO1003.out).2.2)
                (case side2 => exact (Kd.R_reads' HO1003.out).2.1)
                (case side3 => exact crC (Kd.R_reads' HO1006.out).2.2)
                (case side4 => exact (Kd.R_reads' HO1006.out).2.1)
                (case side5 => exact crC (Kd.R_reads' HO1010.out).2.2)
                (case side6 => exact (Kd.R_reads' HO1010.out).2.1)
                (case side7 => exact crC (Kd.R_reads' HO1013.out).2.2)
                (case side8 => exact (Kd.R_reads' HO1013.out).2.1)
                rintro e w197 ⟨v1016, v1019, rfl, ho0, ho1, hb⟩
                refine ⟨_, rfl, ?_⟩
                have HO1017 := lwR (nwR (nwR (nwR (nwR (nwR (nwR (nwR (nwR ho0 HO_947001) HO_947002) HO_972001) HO_972002) HO1003) HO1006) HO1010) HO1013) HB
                have HO1020 := lwR (nwR (nwR (nwR (nwR (nwR (nwR (nwR (nwR ho1 HO_947001) HO_947002) HO_972001) HO_972002) HO1003) HO1006) HO1010) HO1013) HB
                replace HO_947001 := tldR HO_947001 hb (Kd.R_base ho0) (Kd.R_base ho1)
                replace HO_947002 := tldR HO_947002 hb (Kd.R_base ho0) (Kd.R_base ho1)
                replace HO_972001 := tldR HO_972001 hb (Kd.R_base ho0) (Kd.R_base ho1)
                replace HO_972002 := tldR HO_972002 hb (Kd.R_base ho0) (Kd.R_base ho1)
                replace HO1003 := tldR HO1003 hb (Kd.R_base ho0) (Kd.R_base ho1)
                replace HO1006 := tldR HO1006 hb (Kd.R_base ho0) (Kd.R_base ho1)
                replace HO1010 := tldR HO1010 hb (Kd.R_base ho0) (Kd.R_base ho1)
                replace HO1013 := tldR HO1013 hb (Kd.R_base ho0) (Kd.R_base ho1)
                replace BK920 := bkb BK920 hb
                replace BK921 := bkb BK921 hb
                replace BK946 := bkb BK946 hb
                replace BK971 := bkb BK971 hb
                replace BK1022 := bkb BK1022 hb
                replace HB := bst HB hb
                (try clear hb)
                (try clear hb2)
                (try clear hk)
                (try clear hi)
                (try clear ho0)
                (try clear ho1)
                refine hK.out _ _ ⟨bce BK920 0 _, bce BK920 1 _, bce BK920 2 _, bce BK921 0 _, bce BK921 1 _, bce BK921 2 _⟩ (fun hHeld => ?_)
                clear hK K
                refine nm_ 99 ?_
                refine pu_ 5 (some 94) (bm 11 319) HT_.out ?_
                refine pu_ 6 (some 100) (bm 11 383) HT_.out ?_
                refine pu_ 7 (some 101) (bm 11 511) HT_.out ?_
                exact nq_ (hCont (.slice Ao193 t1001.length co193, .slice Ao194 t1004.length co194, .slice Ao195 t1008.length co195, .slice Ao196 t1011.length co196, v1016, v1019, gb1022) _ ⟨hHeld, (crM HO1003 fun _ hk => ⟨hk.1.1.1.1.1.1.1.1, hk.1.1.1.2, hk.1.1.2, hk.1.2, hk.2, hk.1.1.1.1.1.1.1.2, hk.1.1.1.1.1.1.2, hk.1.1.1.1.1.2, hk.1.1.1.1.2⟩), (crM HO1006 fun _ hk => ⟨hk.1.1.1.1.1.1.1.1, hk.1.1.1.2, hk.1.1.2, hk.1.2, hk.2, hk.1.1.1.1.1.1.1.2, hk.1.1.1.1.1.1.2, hk.1.1.1.1.1.2, hk.1.1.1.1.2⟩), (crM HO1010 fun _ hk => ⟨hk.1.1.1.2, hk.1.1.2, hk.1.1.1.1.1.1.1.1, hk.1.2, hk.2, hk.1.1.1.1.1.1.1.2, hk.1.1.1.1.1.1.2, hk.1.1.1.1.1.2, hk.1.1.1.1.2⟩), (crM HO1013 fun _ hk => ⟨hk.1.1.1.2, hk.1.1.2, hk.1.1.1.1.1.1.1.1, hk.1.2, hk.2, hk.1.1.1.1.1.1.1.2, hk.1.1.1.1.1.1.2, hk.1.1.1.1.1.2, hk.1.1.1.1.2⟩), (crM HO1017 fun _ hk => ⟨hk.1.1.1.2, hk.1.1.2, hk.1.2, hk.2, hk.1.1.1.1.1.1.1.1, hk.1.1.1.1.1.1.1.2, hk.1.1.1.1.1.1.2, hk.1.1.1.1.1.2, hk.1.1.1.1.2⟩), (crM HO1020 fun _ hk => ⟨hk.1.1.1.2, hk.1.1.2, hk.1.2, hk.2, hk.1.1.1.1.1.1.1.1, hk.1.1.1.1.1.1.1.2, hk.1.1.1.1.1.1.2, hk.1.1.1.1.1.2, hk.1.1.1.1.2⟩), (crM HO_947001 fun _ hk => ⟨hk.1.1.1.1.1.2, hk.1.1.1.1.2, hk.1.1.1.2, hk.1.1.2, hk.1.2, hk.2, hk.1.1.1.1.1.1.1, hk.1.1.1.1.1.1.2.1, hk.1.1.1.1.1.1.2.2⟩), (crM HO_947002 fun _ hk => ⟨hk.1.1.1.1.1.2, hk.1.1.1.1.2, hk.1.1.1.2, hk.1.1.2, hk.1.2, hk.2, hk.1.1.1.1.1.1.1, hk.1.1.1.1.1.1.2.1, hk.1.1.1.1.1.1.2.2⟩), (crM HO_972001 fun _ hk => ⟨hk.1.1.1.1.1.2, hk.1.1.1.1.2, hk.1.1.1.2, hk.1.1.2, hk.1.2, hk.2, hk.1.1.1.1.1.1.1, hk.1.1.1.1.1.1.2.1, hk.1.1.1.1.1.1.2.2⟩), (crM HO_972002 fun _ hk => ⟨hk.1.1.1.1.1.2, hk.1.1.1.1.2, hk.1.1.1.2, hk.1.1.2, hk.1.2, hk.2, hk.1.1.1.1.1.1.1, hk.1.1.1.1.1.1.2.1, hk.1.1.1.1.1.1.2.2⟩), (crb BK1022), (crb BK920), (crb BK921), (crb BK946), (crb BK971), GW1022.out, GE1022.out, NB920_1022.out, NB1022_920.out, NB921_1022.out, NB1022_921.out, NB946_1022.out, NB1022_946.out, NB971_1022.out, NB1022_971.out, (blw HB)⟩)
              ·
               skip
               refine bs_ (N := 15) (cs := #[.bool false, .slice none 0 0, .slice none 0 0]) (t := 24) ?_
               intro gb1022 hg w190 hbox hb
               replace HO_947001 := rblR HO_947001 hb
               replace HO_947002 := rblR HO_947002 hb
               replace HO_972001 := rblR HO_972001 hb
               replace HO_972002 := rblR HO_972002 hb
               have BK1022 := Aside0.mk (hbox)
               have GW1022 := geh hg HB
               have GE1022 := geh hg HB
               replace HB := bst HB hb
               have NB920_1022 := nlt hg BK920
               have NB1022_920 := ngt hg BK920
               replace BK920 := bkb BK920 hb
               have NB921_1022 := nlt hg BK921
               have NB1022_921 := ngt hg BK921
               replace BK921 := bkb BK921 hb
               have NB946_1022 := nlt hg BK946
               have NB1022_946 := ngt hg BK946
               replace BK946 := bkb BK946 hb
               have NB971_1022 := nlt hg BK971
               have NB1022_971 := ngt hg BK971
               replace BK971 := bkb BK971 hb
               clear hb hbox hg
               refine hK.out _ _ ⟨bce BK920 0 _, bce BK920 1 _, bce BK920 2 _, bce BK921 0 _, bce BK921 1 _, bce BK921 2 _⟩ (fun hHeld => ?_)
               clear hK K
               refine nm_ 15 ?_
               refine one_ (i := 1) (N := some 96) (bm 11 263) rfl rfl (one_of HT_.out (by kernel_rfl)) (by decide) (fun K hK => ?_)
               refine g_ Try.func22 #[.agg #[.bool a0_0, .slice A0_1 l0_1.length c0_1, .slice A0_2 l0_2.length c0_2]] ?_
               with_reducible refine (laws_toRat.calls kj114 a0_0 _ _ l0_1 _ _ l0_2 t1000 t1001 t1004 _ ?side1 ?side2 ?side3 ?side4 A178.out).mono ?_
               (case side1 => exact crC (Kd.C_below HR0_1.out HB.out))
               (case side2 => exact HC0_1.out)
               (case side3 => exact crC (Kd.C_below HR0_2.out HB.out))
               (case side4 => exact HC0_2.out)
               rintro e w191 ⟨v1002, v1005, rfl, ho0, ho1, hb⟩
               refine ⟨_, rfl, ?_⟩
               have HO1003 := lwR (nwR (nwR (nwR (nwR ho0 HO_947001) HO_947002) HO_972001) HO_972002) HB
               have HO1006 := lwR (nwR (nwR (nwR (nwR ho1 HO_947001) HO_947002) HO_972001) HO_972002) HB
               replace HO_947001 := tldR HO_947001 hb (Kd.R_base ho0) (Kd.R_base ho1)
               replace HO_947002 := tldR HO_947002 hb (Kd.R_base ho0) (Kd.R_base ho1)
               replace HO_972001 := tldR HO_972001 hb (Kd.R_base ho0) (Kd.R_base ho1)
               replace HO_972002 := tldR HO_972002 hb (Kd.R_base ho0) (Kd.R_base ho1)
               replace BK920 := bkb BK920 hb
               replace BK921 := bkb BK921 hb
               replace BK946 := bkb BK946 hb
               replace BK971 := bkb BK971 hb
               replace BK1022 := bkb BK1022 hb
               replace HB := bst HB hb
               (try clear hb)
               (try clear hb2)
               (try clear hk)
               (try clear hi)
               (try clear ho0)
               (try clear ho1)
               refine hK.out _ _ ⟨bce BK920 0 _, bce BK920 1 _, bce BK920 2 _, bce BK921 0 _, bce BK921 1 _, bce BK921 2 _⟩ (fun hHeld => ?_)
               clear hK K
               refine nm_ 96 ?_
               refine one_ (i := 3) (N := some 98) (bm 11 271) rfl rfl (one_of HT_.out (by kernel_rfl)) (by decide) (fun K hK => ?_)
               refine g_ Try.func22 #[.agg #[.bool a1_0, .slice A1_1 l1_1.length c1_1, .slice A1_2 l1_2.length c1_2]] ?_
               with_reducible refine (laws_toRat.calls kj114 a1_0 _ _ l1_1 _ _ l1_2 t1007 t1008 t1011 _ ?side1 ?side2 ?side3 ?side4 A179.out).mono ?_
               (case side1 => exact crC (Kd.C_below HR1_1.out HB.out))
               (case side2 => exact HC1_1.out)
               (case side3 => exact crC (Kd.C_below HR1_2.out HB.out))
               (case side4 => exact HC1_2.out)
               rintro e w192 ⟨v1009, v1012, rfl, ho0, ho1, hb⟩
               refine ⟨_, rfl, ?_⟩
               have HO1010 := lwR (nwR (nwR (nwR (nwR (nwR (nwR ho0 HO_947001) HO_947002) HO_972001) HO_972002) HO1003) HO1006) HB
               have HO1013 := lwR (nwR (nwR (nwR (nwR (nwR (nwR ho1 HO_947001) HO_947002) HO_972001) HO_972002) HO1003) HO1006) HB
               replace HO_947001 := tldR HO_947001 hb (Kd.R_base ho0) (Kd.R_base ho1)
               replace HO_947002 := tldR HO_947002 hb (Kd.R_base ho0) (Kd.R_base ho1)
               replace HO_972001 := tldR HO_972001 hb (Kd.R_base ho0) (Kd.R_base ho1)
               replace HO_972002 := tldR HO_972002 hb (Kd.R_base ho0) (Kd.R_base ho1)
               replace HO1003 := tldR HO1003 hb (Kd.R_base ho0) (Kd.R_base ho1)
               replace HO1006 := tldR HO1006 hb (Kd.R_base ho0) (Kd.R_base ho1)
               replace BK920 := bkb BK920 hb
               replace BK921 := bkb BK921 hb
               replace BK946 := bkb BK946 hb
               replace BK971 := bkb BK971 hb
               replace BK1022 := bkb BK1022 hb
               replace HB := bst HB hb
               (try clear hb)
               (try clear hb2)
               (try clear hk)
               (try clear hi)
               (try clear ho0)
               (try clear ho1)
               obtain ⟨Ao193, co193, eo193⟩ := Kd.R_slice HO1003.out
               (first | subst eo193 | (injection eo193 with f1_ f2_ f3_; have f4_ := f1_.symm; have f5_ := f3_.symm; clear f1_ f2_ f3_; subst f4_; subst f5_))
               obtain ⟨Ao194, co194, eo194⟩ := Kd.R_slice HO1006.out
               (first | subst eo194 | (injection eo194 with f1_ f2_ f3_; have f4_ := f1_.symm; have f5_ := f3_.symm; clear f1_ f2_ f3_; subst f4_; subst f5_))
               obtain ⟨Ao195, co195, eo195⟩ := Kd.R_slice HO1010.out
               (first | subst eo195 | (injection eo195 with f1_ f2_ f3_; have f4_ := f1_.symm; have f5_ := f3_.symm; clear f1_ f2_ f3_; subst f4_; subst f5_))
               obtain ⟨Ao196, co196, eo196⟩ := Kd.R_slice HO1013.out
               (first | subst eo196 | (injection eo196 with f1_ f2_ f3_; have f4_ := f1_.symm; have f5_ := f3_.symm; clear f1_ f2_ f3_; subst f4_; subst f5_))
               refine hK.out _ _ ⟨bce BK920 0 _, bce BK920 1 _, bce BK920 2 _, bce BK921 0 _, bce BK921 1 _, bce BK921 2 _⟩ (fun hHeld => ?_)
               clear hK K
               refine nm_ 98 ?_
               refine one_ (i := 4) (N := some 99) (bm 11 287) rfl rfl (one_of HT_.out (by kernel_rfl)) (by decide) (fun K hK => ?_)
               refine g_ Try.func37 #[.agg #[.bool t1000, .slice Ao193 t1001.length co193, .slice Ao194 t1004.length co194], .agg #[.bool t1007, .slice Ao195 t1008.length co195, .slice Ao196 t1011.length co196]] ?_
               with_reducible refine (impl_AddRat.calls kj114 t1000 _ _ t1001 _ _ t1004 t1007 _ _ t1008 _ _ t1011 t1014 t1015 t1018 t1021 _ ?side1 ?side2 ?side3 ?side4 ?side5 ?side6 ?side7 ?side8 A180.out).mono ?_
               (case side1 => exact crC (Kd.R_reads' HO1003.out).2.2)
               (case side2 => exact (Kd.R_reads' HO1003.out).2.1)
               (case side3 => exact crC (Kd.R_reads' HO1006.out).2.2)
               (case side4 => exact (Kd.R_reads' HO1006.out).2.1)
               (case side5 => exact crC (Kd.R_reads' HO1010.out).2.2)
               (case side6 => exact (Kd.R_reads' HO1010.out).2.1)
               (case side7 => exact crC (Kd.R_reads' HO1013.out).2.2)
               (case side8 => exact (Kd.R_reads' HO1013.out).2.1)
               rintro e w197 ⟨v1016, v1019, rfl, ho0, ho1, hb⟩
               refine ⟨_, rfl, ?_⟩
               have HO1017 := lwR (nwR (nwR (nwR (nwR (nwR (nwR (nwR (nwR ho0 HO_947001) HO_947002) HO_972001) HO_972002) HO1003) HO1006) HO1010) HO1013) HB
               have HO1020 := lwR (nwR (nwR (nwR (nwR (nwR (nwR (nwR (nwR ho1 HO_947001) HO_947002) HO_972001) HO_972002) HO1003) HO1006) HO1010) HO1013) HB
               replace HO_947001 := tldR HO_947001 hb (Kd.R_base ho0) (Kd.R_base ho1)
               replace HO_947002 := tldR HO_947002 hb (Kd.R_base ho0) (Kd.R_base ho1)
               replace HO_972001 := tldR HO_972001 hb (Kd.R_base ho0) (Kd.R_base ho1)
               replace HO_972002 := tldR HO_972002 hb (Kd.R_base ho0) (Kd.R_base ho1)
               replace HO1003 := tldR HO1003 hb (Kd.R_base ho0) (Kd.R_base ho1)
               replace HO1006 := tldR HO1006 hb (Kd.R_base ho0) (Kd.R_base ho1)
               replace HO1010 := tldR HO1010 hb (Kd.R_base ho0) (Kd.R_base ho1)
               replace HO1013 := tldR HO1013 hb (Kd.R_base ho0) (Kd.R_base ho1)
               replace BK920 := bkb BK920 hb
               replace BK921 := bkb BK921 hb
               replace BK946 := bkb BK946 hb
               replace BK971 := bkb BK971 hb
               replace BK1022 := bkb BK1022 hb
               replace HB := bst HB hb
               (try clear hb)
               (try clear hb2)
               (try clear hk)
               (try clear hi)
               (try clear ho0)
               (try clear ho1)
               refine hK.out _ _ ⟨bce BK920 0 _, bce BK920 1 _, bce BK920 2 _, bce BK921 0 _, bce BK921 1 _, bce BK921 2 _⟩ (fun hHeld => ?_)
               clear hK K
               refine nm_ 99 ?_
               refine pu_ 5 (some 94) (bm 11 319) HT_.out ?_
               refine pu_ 6 (some 100) (bm 11 383) HT_.out ?_
               refine pu_ 7 (some 101) (bm 11 511) HT_.out ?_
               exact nq_ (hCont (.slice Ao193 t1001.length co193, .slice Ao194 t1004.length co194, .slice Ao195 t1008.length co195, .slice Ao196 t1011.length co196, v1016, v1019, gb1022) _ ⟨hHeld, (crM HO1003 fun _ hk => ⟨hk.1.1.1.1.1.1.1.1, hk.1.1.1.2, hk.1.1.2, hk.1.2, hk.2, hk.1.1.1.1.1.1.1.2, hk.1.1.1.1.1.1.2, hk.1.1.1.1.1.2, hk.1.1.1.1.2⟩), (crM HO1006 fun _ hk => ⟨hk.1.1.1.1.1.1.1.1, hk.1.1.1.2, hk.1.1.2, hk.1.2, hk.2, hk.1.1.1.1.1.1.1.2, hk.1.1.1.1.1.1.2, hk.1.1.1.1.1.2, hk.1.1.1.1.2⟩), (crM HO1010 fun _ hk => ⟨hk.1.1.1.2, hk.1.1.2, hk.1.1.1.1.1.1.1.1, hk.1.2, hk.2, hk.1.1.1.1.1.1.1.2, hk.1.1.1.1.1.1.2, hk.1.1.1.1.1.2, hk.1.1.1.1.2⟩), (crM HO1013 fun _ hk => ⟨hk.1.1.1.2, hk.1.1.2, hk.1.1.1.1.1.1.1.1, hk.1.2, hk.2, hk.1.1.1.1.1.1.1.2, hk.1.1.1.1.1.1.2, hk.1.1.1.1.1.2, hk.1.1.1.1.2⟩), (crM HO1017 fun _ hk => ⟨hk.1.1.1.2, hk.1.1.2, hk.1.2, hk.2, hk.1.1.1.1.1.1.1.1, hk.1.1.1.1.1.1.1.2, hk.1.1.1.1.1.1.2, hk.1.1.1.1.1.2, hk.1.1.1.1.2⟩), (crM HO1020 fun _ hk => ⟨hk.1.1.1.2, hk.1.1.2, hk.1.2, hk.2, hk.1.1.1.1.1.1.1.1, hk.1.1.1.1.1.1.1.2, hk.1.1.1.1.1.1.2, hk.1.1.1.1.1.2, hk.1.1.1.1.2⟩), (crM HO_947001 fun _ hk => ⟨hk.1.1.1.1.1.2, hk.1.1.1.1.2, hk.1.1.1.2, hk.1.1.2, hk.1.2, hk.2, hk.1.1.1.1.1.1.1, hk.1.1.1.1.1.1.2.1, hk.1.1.1.1.1.1.2.2⟩), (crM HO_947002 fun _ hk => ⟨hk.1.1.1.1.1.2, hk.1.1.1.1.2, hk.1.1.1.2, hk.1.1.2, hk.1.2, hk.2, hk.1.1.1.1.1.1.1, hk.1.1.1.1.1.1.2.1, hk.1.1.1.1.1.1.2.2⟩), (crM HO_972001 fun _ hk => ⟨hk.1.1.1.1.1.2, hk.1.1.1.1.2, hk.1.1.1.2, hk.1.1.2, hk.1.2, hk.2, hk.1.1.1.1.1.1.1, hk.1.1.1.1.1.1.2.1, hk.1.1.1.1.1.1.2.2⟩), (crM HO_972002 fun _ hk => ⟨hk.1.1.1.1.1.2, hk.1.1.1.1.2, hk.1.1.1.2, hk.1.1.2, hk.1.2, hk.2, hk.1.1.1.1.1.1.1, hk.1.1.1.1.1.1.2.1, hk.1.1.1.1.1.1.2.2⟩), (crb BK1022), (crb BK920), (crb BK921), (crb BK946), (crb BK971), GW1022.out, GE1022.out, NB920_1022.out, NB1022_920.out, NB921_1022.out, NB1022_921.out, NB946_1022.out, NB1022_946.out, NB971_1022.out, NB1022_971.out, (blw HB)⟩)
             rintro ⟨v1002, v1005, v1009, v1012, v1016, v1019, gb1022⟩ w198 ⟨hS_, h0_, h1_, h2_, h3_, h4_, h5_, h6_, h7_, h8_, h9_, h10_, h11_, h12_, h13_, h14_, h15_, h16_, h17_, h18_, h19_, h20_, h21_, h22_, h23_, h24_, h25_⟩
             have HO1003 : Aside0 (Kd.R (Kd.int .i64) 3 w198 w.heap.size (fun k_ => nO k_ v1005 ∧ nO k_ v1009 ∧ nO k_ v1012 ∧ nO k_ v1016 ∧ nO k_ v1019 ∧ nO k_ (.slice Ao44 t939.length co44) ∧ nO k_ (.slice Ao46 t942.length co46) ∧ nO k_ (.slice Ao78 t964.length co78) ∧ nO k_ (.slice Ao79 t967.length co79)) v1002 t1001) := ⟨h0_⟩
             have HO1006 : Aside0 (Kd.R (Kd.int .i64) 3 w198 w.heap.size (fun k_ => nO k_ v1002 ∧ nO k_ v1009 ∧ nO k_ v1012 ∧ nO k_ v1016 ∧ nO k_ v1019 ∧ nO k_ (.slice Ao44 t939.length co44) ∧ nO k_ (.slice Ao46 t942.length co46) ∧ nO k_ (.slice Ao78 t964.length co78) ∧ nO k_ (.slice Ao79 t967.length co79)) v1005 t1004) := ⟨h1_⟩
             have HO1010 : Aside0 (Kd.R (Kd.int .i64) 3 w198 w.heap.size (fun k_ => nO k_ v1002 ∧ nO k_ v1005 ∧ nO k_ v1012 ∧ nO k_ v1016 ∧ nO k_ v1019 ∧ nO k_ (.slice Ao44 t939.length co44) ∧ nO k_ (.slice Ao46 t942.length co46) ∧ nO k_ (.slice Ao78 t964.length co78) ∧ nO k_ (.slice Ao79 t967.length co79)) v1009 t1008) := ⟨h2_⟩
             have HO1013 : Aside0 (Kd.R (Kd.int .i64) 3 w198 w.heap.size (fun k_ => nO k_ v1002 ∧ nO k_ v1005 ∧ nO k_ v1009 ∧ nO k_ v1016 ∧ nO k_ v1019 ∧ nO k_ (.slice Ao44 t939.length co44) ∧ nO k_ (.slice Ao46 t942.length co46) ∧ nO k_ (.slice Ao78 t964.length co78) ∧ nO k_ (.slice Ao79 t967.length co79)) v1012 t1011) := ⟨h3_⟩
             have HO1017 : Aside0 (Kd.R (Kd.int .i64) 3 w198 w.heap.size (fun k_ => nO k_ v1002 ∧ nO k_ v1005 ∧ nO k_ v1009 ∧ nO k_ v1012 ∧ nO k_ v1019 ∧ nO k_ (.slice Ao44 t939.length co44) ∧ nO k_ (.slice Ao46 t942.length co46) ∧ nO k_ (.slice Ao78 t964.length co78) ∧ nO k_ (.slice Ao79 t967.length co79)) v1016 t1015) := ⟨h4_⟩
             have HO1020 : Aside0 (Kd.R (Kd.int .i64) 3 w198 w.heap.size (fun k_ => nO k_ v1002 ∧ nO k_ v1005 ∧ nO k_ v1009 ∧ nO k_ v1012 ∧ nO k_ v1016 ∧ nO k_ (.slice Ao44 t939.length co44) ∧ nO k_ (.slice Ao46 t942.length co46) ∧ nO k_ (.slice Ao78 t964.length co78) ∧ nO k_ (.slice Ao79 t967.length co79)) v1019 t1018) := ⟨h5_⟩
             replace HO_947001 : Aside0 (Kd.R (Kd.int .i64) 3 w198 w.heap.size (fun k_ => nO k_ v1002 ∧ nO k_ v1005 ∧ nO k_ v1009 ∧ nO k_ v1012 ∧ nO k_ v1016 ∧ nO k_ v1019 ∧ nO k_ (.slice Ao46 t942.length co46) ∧ nO k_ (.slice Ao78 t964.length co78) ∧ nO k_ (.slice Ao79 t967.length co79)) (.slice Ao44 t939.length co44) t939) := ⟨h6_⟩
             replace HO_947002 : Aside0 (Kd.R (Kd.int .i64) 3 w198 w.heap.size (fun k_ => nO k_ v1002 ∧ nO k_ v1005 ∧ nO k_ v1009 ∧ nO k_ v1012 ∧ nO k_ v1016 ∧ nO k_ v1019 ∧ nO k_ (.slice Ao44 t939.length co44) ∧ nO k_ (.slice Ao78 t964.length co78) ∧ nO k_ (.slice Ao79 t967.length co79)) (.slice Ao46 t942.length co46) t942) := ⟨h7_⟩
             replace HO_972001 : Aside0 (Kd.R (Kd.int .i64) 3 w198 w.heap.size (fun k_ => nO k_ v1002 ∧ nO k_ v1005 ∧ nO k_ v1009 ∧ nO k_ v1012 ∧ nO k_ v1016 ∧ nO k_ v1019 ∧ nO k_ (.slice Ao44 t939.length co44) ∧ nO k_ (.slice Ao46 t942.length co46) ∧ nO k_ (.slice Ao79 t967.length co79)) (.slice Ao78 t964.length co78) t997) := ⟨h8_⟩
             replace HO_972002 : Aside0 (Kd.R (Kd.int .i64) 3 w198 w.heap.size (fun k_ => nO k_ v1002 ∧ nO k_ v1005 ∧ nO k_ v1009 ∧ nO k_ v1012 ∧ nO k_ v1016 ∧ nO k_ v1019 ∧ nO k_ (.slice Ao44 t939.length co44) ∧ nO k_ (.slice Ao46 t942.length co46) ∧ nO k_ (.slice Ao78 t964.length co78)) (.slice Ao79 t967.length co79) t998) := ⟨h9_⟩
             have BK1022 : Aside0 (w198.heap[gb1022]? = some (.cells #[.bool false, .slice none 0 0, .slice none 0 0] 24 (0, 0))) := ⟨h10_⟩
             replace BK920 : Aside0 (w198.heap[gb920]? = some (.cells #[.bool a0_0, .slice A0_1 l0_1.length c0_1, .slice A0_2 l0_2.length c0_2] 30 (0, 0))) := ⟨h11_⟩
             replace BK921 : Aside0 (w198.heap[gb921]? = some (.cells #[.bool a1_0, .slice A1_1 l1_1.length c1_1, .slice A1_2 l1_2.length c1_2] 30 (0, 0))) := ⟨h12_⟩
             replace BK946 : Aside0 (w198.heap[gb946]? = some (.cells #[.bool t938, .slice Ao44 t939.length co44, .slice Ao46 t942.length co46] 24 (0, 0))) := ⟨h13_⟩
             replace BK971 : Aside0 (w198.heap[gb971]? = some (.cells #[.bool t963, .slice Ao78 t964.length co78, .slice Ao79 t967.length co79] 24 (0, 0))) := ⟨h14_⟩
             have GW1022 : Aside0 (w.heap.size ≤ gb1022) := ⟨h15_⟩
             have GE1022 : Aside0 (w.heap.size ≤ gb1022) := ⟨h16_⟩
             have NB920_1022 : Aside0 (gb920 ≠ gb1022) := ⟨h17_⟩
             have NB1022_920 : Aside0 (gb1022 ≠ gb920) := ⟨h18_⟩
             have NB921_1022 : Aside0 (gb921 ≠ gb1022) := ⟨h19_⟩
             have NB1022_921 : Aside0 (gb1022 ≠ gb921) := ⟨h20_⟩
             have NB946_1022 : Aside0 (gb946 ≠ gb1022) := ⟨h21_⟩
             have NB1022_946 : Aside0 (gb1022 ≠ gb946) := ⟨h22_⟩
             have NB971_1022 : Aside0 (gb971 ≠ gb1022) := ⟨h23_⟩
             have NB1022_971 : Aside0 (gb1022 ≠ gb971) := ⟨h24_⟩
             replace HB : Aside0 (Below w.heap.size w w198) := ⟨h25_⟩
             clear h0_ h1_ h2_ h3_ h4_ h5_ h6_ h7_ h8_ h9_ h10_ h11_ h12_ h13_ h14_ h15_ h16_ h17_ h18_ h19_ h20_ h21_ h22_ h23_ h24_ h25_
             have hHeld : w198.cell? ⟨gb920, 0, none⟩ = some (.bool a0_0) ∧ w198.cell? ⟨gb920, 1, none⟩ = some (.slice A0_1 l0_1.length c0_1) ∧ w198.cell? ⟨gb920, 2, none⟩ = some (.slice A0_2 l0_2.length c0_2) ∧ w198.cell? ⟨gb921, 0, none⟩ = some (.bool a1_0) ∧ w198.cell? ⟨gb921, 1, none⟩ = some (.slice A1_1 l1_1.length c1_1) ∧ w198.cell? ⟨gb921, 2, none⟩ = some (.slice A1_2 l1_2.length c1_2) := hS_
             obtain ⟨Ao200, co200, eo200⟩ := Kd.R_slice HO1017.out
             (first | subst eo200 | (injection eo200 with f1_ f2_ f3_; have f4_ := f1_.symm; have f5_ := f3_.symm; clear f1_ f2_ f3_; subst f4_; subst f5_))
             obtain ⟨Ao202, co202, eo202⟩ := Kd.R_slice HO1020.out
             (first | subst eo202 | (injection eo202 with f1_ f2_ f3_; have f4_ := f1_.symm; have f5_ := f3_.symm; clear f1_ f2_ f3_; subst f4_; subst f5_))
             refine np_ ?_
             refine one_ (i := 9) (N := none) (bm 11 1023) rfl rfl (one_of HT_.out (by kernel_rfl)) (by decide) (fun K hK => ?_)
             have hs199 : w198.cell? ⟨gb1022, 0, none⟩ = some (.bool false) := bce BK1022 0 _
             have hfs199 := blk_frozen BK1022.out 0
             have hns199_0 := NB920_1022.out
             have hns199_1 := NB921_1022.out
             have hns199_2 := NB946_1022.out
             have hns199_3 := NB971_1022.out
             have hms199_0 := NB1022_920.out
             have hms199_1 := NB1022_921.out
             have hms199_2 := NB1022_946.out
             have hms199_3 := NB1022_971.out
             have hs201 : w198.cell? ⟨gb1022, 1, none⟩ = some (.slice none 0 0) := bce BK1022 1 _
             have hfs201 := blk_frozen BK1022.out 1
             have hns201_0 := NB920_1022.out
             have hns201_1 := NB921_1022.out
             have hns201_2 := NB946_1022.out
             have hns201_3 := NB971_1022.out
             have hms201_0 := NB1022_920.out
             have hms201_1 := NB1022_921.out
             have hms201_2 := NB1022_946.out
             have hms201_3 := NB1022_971.out
             have hs203 : w198.cell? ⟨gb1022, 2, none⟩ = some (.slice none 0 0) := bce BK1022 2 _
             have hfs203 := blk_frozen BK1022.out 2
             have hns203_0 := NB920_1022.out
             have hns203_1 := NB921_1022.out
             have hns203_2 := NB946_1022.out
             have hns203_3 := NB971_1022.out
             have hms203_0 := NB1022_920.out
             have hms203_1 := NB1022_921.out
             have hms203_2 := NB1022_946.out
             have hms203_3 := NB1022_971.out
             refine skip_ (w1 := ?_) (by rfl) rfl ?_ ?_
             rotate_left
             ·
              go_simp
              rfl
             refine hK.out _ _ ⟨((cell_far (p := ⟨gb1022, _, none⟩) NB920_1022.out _).trans (((cell_far (p := ⟨gb1022, _, none⟩) NB920_1022.out _).trans (((cell_far (p := ⟨gb1022, _, none⟩) NB920_1022.out _).trans (hHeld.1)))))), ((cell_far (p := ⟨gb1022, _, none⟩) NB920_1022.out _).trans (((cell_far (p := ⟨gb1022, _, none⟩) NB920_1022.out _).trans (((cell_far (p := ⟨gb1022, _, none⟩) NB920_1022.out _).trans (hHeld.2.1)))))), ((cell_far (p := ⟨gb1022, _, none⟩) NB920_1022.out _).trans (((cell_far (p := ⟨gb1022, _, none⟩) NB920_1022.out _).trans (((cell_far (p := ⟨gb1022, _, none⟩) NB920_1022.out _).trans (hHeld.2.2.1)))))), ((cell_far (p := ⟨gb1022, _, none⟩) NB921_1022.out _).trans (((cell_far (p := ⟨gb1022, _, none⟩) NB921_1022.out _).trans (((cell_far (p := ⟨gb1022, _, none⟩) NB921_1022.out _).trans (hHeld.2.2.2.1)))))), ((cell_far (p := ⟨gb1022, _, none⟩) NB921_1022.out _).trans (((cell_far (p := ⟨gb1022, _, none⟩) NB921_1022.out _).trans (((cell_far (p := ⟨gb1022, _, none⟩) NB921_1022.out _).trans (hHeld.2.2.2.2.1)))))), ((cell_far (p := ⟨gb1022, _, none⟩) NB921_1022.out _).trans (((cell_far (p := ⟨gb1022, _, none⟩) NB921_1022.out _).trans (((cell_far (p := ⟨gb1022, _, none⟩) NB921_1022.out _).trans (hHeld.2.2.2.2.2))))))⟩ (fun hHeld => ?_)
             clear hK K
             refine pu_ 10 (some 16) (bm 11 2047) HT_.out ?_
             refine done_ (done_of HT_.out (by kernel_rfl)) ?_
             go_upto_region 32 with (fail)
             go_cut [110] (fun v110 wc => ∃ (kq : Nat) (x110_180 : Bool), v110 = .bool x110_180 ∧ Aside0 (laws_FnExactAddRat.j2 kq t996 x110_180 t963 t997 t998 = some r) ∧ Aside0 (kq ≤ kj114) ∧ Aside0 (Kd.R (Kd.int .i64) 3 wc w.heap.size (fun k_ => nO k_ (.slice Ao79 t967.length co79)) (.slice Ao78 t964.length co78) t997) ∧ Aside0 (Kd.R (Kd.int .i64) 3 wc w.heap.size (fun k_ => nO k_ (.slice Ao78 t964.length co78)) (.slice Ao79 t967.length co79) t998) ∧ Aside0 (wc.heap[gb971]? = some (.cells #[.bool t963, (.slice Ao78 t964.length co78), (.slice Ao79 t967.length co79)] 24 (0, 0))) ∧ Aside0 (Below w.heap.size w wc))
             case first =>
              have H := HC181.out
              clear HC181
              replace H := Option.bind_eq_some_iff.mp H
              obtain ⟨t1023, A2040, H⟩ := H
              replace H : (if t1023 = true then (laws_FnExactAddRat.j2 kj114 t996 (t1021 != t945) t963 t997 t998) else (laws_FnExactAddRat.j2 kj114 t996 true t963 t997 t998)) = some r := H
              have A204 := Aside0.mk A2040
              clear A2040
              by_cases c205 : t1023 = true
              ·
               subst c205
               have H1 : (laws_FnExactAddRat.j2 kj114 t996 (t1021 != t945) t963 t997 t998) = some r := by rw [if_pos rfl] at H; exact H
               clear H
               have H := H1
               clear H1
               have H' := Aside0.mk H
               clear H
               have hnb206 := NB1022_920.out
               have hnc206 := NB920_1022.out
               have hnb207 := NB1022_921.out
               have hnc207 := NB921_1022.out
               have hnb208 := NB1022_946.out
               have hnc208 := NB946_1022.out
               have hnb209 := NB1022_971.out
               have hnc209 := NB971_1022.out
               obtain ⟨hcz210_0, hcz210_1, hcz210_2, hfz210_0, hfz210_1, hfz210_2⟩ := bc3 BK1022
               have hnb211 := NB946_920.out
               have hnc211 := NB920_946.out
               have hnb212 := NB946_921.out
               have hnc212 := NB921_946.out
               have hnb213 := NB946_971.out
               have hnc213 := NB971_946.out
               obtain ⟨hcz214_0, hcz214_1, hcz214_2, hfz214_0, hfz214_1, hfz214_2⟩ := bc3 BK946
               go_wp2_with (first | ((with_reducible refine gate_callee (f := 17) rfl ?_); refine gL_ (some 104) Try.func17 #[.agg #[.bool t1014, .slice Ao200 t1015.length co200, .slice Ao202 t1018.length co202], .agg #[.bool t938, .slice Ao44 t939.length co44, .slice Ao46 t942.length co46]] ?_; (with_reducible refine (laws_eqRat.calls kj114 t1014 _ _ t1015 _ _ t1018 t938 _ _ t939 _ _ t942 true _ ?side1 ?side2 ?side3 ?side4 ?side5 ?side6 ?side7 ?side8 A204.out).mono ?_); (case side1 => refine (Kd.R_reads' (e := 3) (base := w.heap.size) (ok := fun k_ => (nO k_ v1002 ∧ (nO k_ v1005 ∧ (nO k_ v1009 ∧ (nO k_ v1012 ∧ (nO k_ (.slice Ao202 t1018.length co202) ∧ (nO k_ (.slice Ao44 t939.length co44) ∧ (nO k_ (.slice Ao46 t942.length co46) ∧ (nO k_ (.slice Ao78 t964.length co78) ∧ nO k_ (.slice Ao79 t967.length co79)))))))))) (n := t1015.length) (c := co200) ?_).2.2; exact (crF HO1017 BK1022)); (case side2 => exact (Kd.R_reads' HO1017.out).2.1); (case side3 => refine (Kd.R_reads' (e := 3) (base := w.heap.size) (ok := fun k_ => (nO k_ v1002 ∧ (nO k_ v1005 ∧ (nO k_ v1009 ∧ (nO k_ v1012 ∧ (nO k_ (.slice Ao200 t1015.length co200) ∧ (nO k_ (.slice Ao44 t939.length co44) ∧ (nO k_ (.slice Ao46 t942.length co46) ∧ (nO k_ (.slice Ao78 t964.length co78) ∧ nO k_ (.slice Ao79 t967.length co79)))))))))) (n := t1018.length) (c := co202) ?_).2.2; exact (crF HO1020 BK1022)); (case side4 => exact (Kd.R_reads' HO1020.out).2.1); (case side5 => refine (Kd.R_reads' (e := 3) (base := w.heap.size) (ok := fun k_ => (nO k_ v1002 ∧ (nO k_ v1005 ∧ (nO k_ v1009 ∧ (nO k_ v1012 ∧ (nO k_ (.slice Ao200 t1015.length co200) ∧ (nO k_ (.slice Ao202 t1018.length co202) ∧ (nO k_ (.slice Ao46 t942.length co46) ∧ (nO k_ (.slice Ao78 t964.length co78) ∧ nO k_ (.slice Ao79 t967.length co79)))))))))) (n := t939.length) (c := co44) ?_).2.2; exact (crF HO_947001 BK1022)); (case side6 => exact (Kd.R_reads' HO_947001.out).2.1); (case side7 => refine (Kd.R_reads' (e := 3) (base := w.heap.size) (ok := fun k_ => (nO k_ v1002 ∧ (nO k_ v1005 ∧ (nO k_ v1009 ∧ (nO k_ v1012 ∧ (nO k_ (.slice Ao200 t1015.length co200) ∧ (nO k_ (.slice Ao202 t1018.length co202) ∧ (nO k_ (.slice Ao44 t939.length co44) ∧ (nO k_ (.slice Ao78 t964.length co78) ∧ nO k_ (.slice Ao79 t967.length co79)))))))))) (n := t942.length) (c := co46) ?_).2.2; exact (crF HO_947002 BK1022)); (case side8 => exact (Kd.R_reads' HO_947002.out).2.1); rintro e w215 ⟨rfl, hb⟩; refine ⟨_, rfl, ?_⟩; replace HO_947001 := rblF HO_947001 BK1022 hb; replace HO_947002 := rblF HO_947002 BK1022 hb; replace HO_972001 := rblF HO_972001 BK1022 hb; replace HO_972002 := rblF HO_972002 BK1022 hb; replace HO1003 := rblF HO1003 BK1022 hb; replace HO1006 := rblF HO1006 BK1022 hb; replace HO1010 := rblF HO1010 BK1022 hb; replace HO1013 := rblF HO1013 BK1022 hb; replace HO1017 := rblF HO1017 BK1022 hb; replace HO1020 := rblF HO1020 BK1022 hb; replace BK920 := bkf BK920 hb; replace BK921 := bkf BK921 hb; replace BK946 := bkf BK946 hb; replace BK971 := bkf BK971 hb; replace BK1022 := bkp BK1022 (.bool t1014) (.slice Ao200 t1015.length co200) (.slice Ao202 t1018.length co202) hb; replace HB := bst HB hb; (try clear hb); (try clear hb2); (try clear hk); (try clear hi)))
               go_meet
               case rel => exact ⟨_, ((t1021 != t945)), rs_, H', ⟨by have := HJ24.out; have := HJ114.out; first | omega | exact Nat.le_refl _⟩, ⟨crM HO_972001 fun _ hk => hk.2.2.2.2.2.2.2.2⟩, ⟨crM HO_972002 fun _ hk => hk.2.2.2.2.2.2.2.2⟩, ⟨crb BK971⟩, ⟨blw HB⟩⟩
              ·
               replace c205 := Bool.eq_false_iff.mpr c205
               subst c205
               have H1 : (laws_FnExactAddRat.j2 kj114 t996 true t963 t997 t998) = some r := by rw [if_neg (show ¬ (false = true) by decide)] at H; exact H
               clear H
               have H := H1
               clear H1
               have H' := Aside0.mk H
               clear H
               have hnb216 := NB1022_920.out
               have hnc216 := NB920_1022.out
               have hnb217 := NB1022_921.out
               have hnc217 := NB921_1022.out
               have hnb218 := NB1022_946.out
               have hnc218 := NB946_1022.out
               have hnb219 := NB1022_971.out
               have hnc219 := NB971_1022.out
               obtain ⟨hcz220_0, hcz220_1, hcz220_2, hfz220_0, hfz220_1, hfz220_2⟩ := bc3 BK1022
               have hnb221 := NB946_920.out
               have hnc221 := NB920_946.out
               have hnb222 := NB946_921.out
               have hnc222 := NB921_946.out
               have hnb223 := NB946_971.out
               have hnc223 := NB971_946.out
               obtain ⟨hcz224_0, hcz224_1, hcz224_2, hfz224_0, hfz224_1, hfz224_2⟩ := bc3 BK946
               go_wp2_with (first | ((with_reducible refine gate_callee (f := 17) rfl ?_); refine gL_ (some 104) Try.func17 #[.agg #[.bool t1014, .slice Ao200 t1015.length co200, .slice Ao202 t1018.length co202], .agg #[.bool t938, .slice Ao44 t939.length co44, .slice Ao46 t942.length co46]] ?_; (with_reducible refine (laws_eqRat.calls kj114 t1014 _ _ t1015 _ _ t1018 t938 _ _ t939 _ _ t942 false _ ?side1 ?side2 ?side3 ?side4 ?side5 ?side6 ?side7 ?side8 A204.out).mono ?_); (case side1 => refine (Kd.R_reads' (e := 3) (base := w.heap.size) (ok := fun k_ => (nO k_ v1002 ∧ (nO k_ v1005 ∧ (nO k_ v1009 ∧ (nO k_ v1012 ∧ (nO k_ (.slice Ao202 t1018.length co202) ∧ (nO k_ (.slice Ao44 t939.length co44) ∧ (nO k_ (.slice Ao46 t942.length co46) ∧ (nO k_ (.slice Ao78 t964.length co78) ∧ nO k_ (.slice Ao79 t967.length co79)))))))))) (n := t1015.length) (c := co200) ?_).2.2; exact (crF HO1017 BK1022)); (case side2 => exact (Kd.R_reads' HO1017.out).2.1); (case side3 => refine (Kd.R_reads' (e := 3) (base := w.heap.size) (ok := fun k_ => (nO k_ v1002 ∧ (nO k_ v1005 ∧ (nO k_ v1009 ∧ (nO k_ v1012 ∧ (nO k_ (.slice Ao200 t1015.length co200) ∧ (nO k_ (.slice Ao44 t939.length co44) ∧ (nO k_ (.slice Ao46 t942.length co46) ∧ (nO k_ (.slice Ao78 t964.length co78) ∧ nO k_ (.slice Ao79 t967.length co79)))))))))) (n := t1018.length) (c := co202) ?_).2.2; exact (crF HO1020 BK1022)); (case side4 => exact (Kd.R_reads' HO1020.out).2.1); (case side5 => refine (Kd.R_reads' (e := 3) (base := w.heap.size) (ok := fun k_ => (nO k_ v1002 ∧ (nO k_ v1005 ∧ (nO k_ v1009 ∧ (nO k_ v1012 ∧ (nO k_ (.slice Ao200 t1015.length co200) ∧ (nO k_ (.slice Ao202 t1018.length co202) ∧ (nO k_ (.slice Ao46 t942.length co46) ∧ (nO k_ (.slice Ao78 t964.length co78) ∧ nO k_ (.slice Ao79 t967.length co79)))))))))) (n := t939.length) (c := co44) ?_).2.2; exact (crF HO_947001 BK1022)); (case side6 => exact (Kd.R_reads' HO_947001.out).2.1); (case side7 => refine (Kd.R_reads' (e := 3) (base := w.heap.size) (ok := fun k_ => (nO k_ v1002 ∧ (nO k_ v1005 ∧ (nO k_ v1009 ∧ (nO k_ v1012 ∧ (nO k_ (.slice Ao200 t1015.length co200) ∧ (nO k_ (.slice Ao202 t1018.length co202) ∧ (nO k_ (.slice Ao44 t939.length co44) ∧ (nO k_ (.slice Ao78 t964.length co78) ∧ nO k_ (.slice Ao79 t967.length co79)))))))))) (n := t942.length) (c := co46) ?_).2.2; exact (crF HO_947002 BK1022)); (case side8 => exact (Kd.R_reads' HO_947002.out).2.1); rintro e w225 ⟨rfl, hb⟩; refine ⟨_, rfl, ?_⟩; replace HO_947001 := rblF HO_947001 BK1022 hb; replace HO_947002 := rblF HO_947002 BK1022 hb; replace HO_972001 := rblF HO_972001 BK1022 hb; replace HO_972002 := rblF HO_972002 BK1022 hb; replace HO1003 := rblF HO1003 BK1022 hb; replace HO1006 := rblF HO1006 BK1022 hb; replace HO1010 := rblF HO1010 BK1022 hb; replace HO1013 := rblF HO1013 BK1022 hb; replace HO1017 := rblF HO1017 BK1022 hb; replace HO1020 := rblF HO1020 BK1022 hb; replace BK920 := bkf BK920 hb; replace BK921 := bkf BK921 hb; replace BK946 := bkf BK946 hb; replace BK971 := bkf BK971 hb; replace BK1022 := bkp BK1022 (.bool t1014) (.slice Ao200 t1015.length co200) (.slice Ao202 t1018.length co202) hb; replace HB := bst HB hb; (try clear hb); (try clear hb2); (try clear hk); (try clear hi)))
               go_meet
               case rel => exact ⟨_, (true), rs_, H', ⟨by have := HJ24.out; have := HJ114.out; first | omega | exact Nat.le_refl _⟩, ⟨crM HO_972001 fun _ hk => hk.2.2.2.2.2.2.2.2⟩, ⟨crM HO_972002 fun _ hk => hk.2.2.2.2.2.2.2.2⟩, ⟨crb BK971⟩, ⟨blw HB⟩⟩
             case rest =>
              clear HC181
              try clear c1
              try clear c2
              try clear p2
              try clear c3
              try clear c17
              try clear c20
              try clear c21
              try clear c22
              try clear c37
              try clear c205
              try clear c206
              try clear c207
              try clear c208
              try clear c209
              try clear c211
              try clear c212
              try clear c213
              try clear c216
              try clear c217
              try clear c218
              try clear c219
              try clear c221
              try clear c222
              try clear c223
              try clear hcz210_0
              try clear hcz210_1
              try clear hcz210_2
              try clear hcz214_0
              try clear hcz214_1
              try clear hcz214_2
              try clear hcz220_0
              try clear hcz220_1
              try clear hcz220_2
              try clear hcz224_0
              try clear hcz224_1
              try clear hcz224_2
              try clear hfz210_0
              try clear hfz210_1
              try clear hfz210_2
              try clear hfz214_0
              try clear hfz214_1
              try clear hfz214_2
              try clear hfz220_0
              try clear hfz220_1
              try clear hfz220_2
              try clear hfz224_0
              try clear hfz224_1
              try clear hfz224_2
              obtain ⟨kq, x110_180, rfl, HA, HJ180, HO_972001, HO_972002, BK971, HB⟩ := hcut
              have hl972001_180 := (Kd.R_reads' HO_972001.out).1
              rw [hl972001_180] at HO_972001
              (try simp only [hl972001_180])
              (try simp only [hl972001_180] at BK971)
              (try simp only [hl972001_180] at HO_972002)
              have hl972002_180 := (Kd.R_reads' HO_972002.out).1
              rw [hl972002_180] at HO_972002
              (try simp only [hl972002_180])
              (try simp only [hl972002_180] at BK971)
              (try simp only [hl972002_180] at HO_972001)
              cases kq with
              | zero => exact absurd HA.out (by simp [laws_FnExactAddRat.j2])
              | succ kj180 =>
               have H := HA.out
               clear HA
               simp only [laws_FnExactAddRat.j2] at H
               by_cases c226 : x110_180 = true
               ·
                subst c226
                have H1 : (some false) = some r := by rw [if_pos rfl] at H; exact H
                clear H
                have H := H1
                clear H1
                obtain rfl := Option.some.inj H
                exact absurd hr_ (by decide)
               ·
                replace c226 := Bool.eq_false_iff.mpr c226
                subst c226
                have H1 : ((laws_heldRat.f kj180 t963 t997 t998 1).bind fun t1024 => (if t1024 < 0 then (some false) else (if t1024 = t996 then (some true) else (some false)))) = some r := by rw [if_neg (show ¬ (false = true) by decide)] at H; exact H
                clear H
                have H := H1
                clear H1
                replace H := Option.bind_eq_some_iff.mp H
                obtain ⟨t1024, A2270, H⟩ := H
                replace H : (if t1024 < 0 then (some false) else (if t1024 = t996 then (some true) else (some false))) = some r := H
                have A227 := Aside0.mk A2270
                clear A2270
                by_cases c228 : t1024 < 0
                ·
                 rw [if_pos c228] at H
                 have c228b0 : decide (t1024 < 0) = true := decide_eq_true c228
                 clear c228
                 obtain rfl := Option.some.inj H
                 exact absurd hr_ (by decide)
                ·
                 rw [if_neg c228] at H
                 have c228b0 : decide (t1024 < 0) = false := decide_eq_false c228
                 clear c228
                 by_cases c231 : t1024 = t996
                 ·
                  rw [if_pos c231] at H
                  have c231b0 : (t1024 == t996) = true := beq_iff_eq.mpr c231
                  have c231b1 : (t1024 != t996) = false := bne_eq_false_iff_eq.mpr c231
                  clear c231
                  obtain rfl := Option.some.inj H
                  obtain ⟨hcz232_0, hcz232_1, hcz232_2, hfz232_0, hfz232_1, hfz232_2⟩ := bc3 BK971
                  go_wp2_with (first | ((with_reducible refine gate_callee (f := 19) rfl ?_); refine gL_ (some 113) Try.func19 #[.agg #[.bool t963, .slice Ao78 t997.length co78, .slice Ao79 t998.length co79], .int .i64 1] ?_; (with_reducible refine (laws_heldRat.calls kj180 t963 _ _ t997 _ _ t998 1 t1024 _ ?side1 ?side2 ?side3 ?side4 A227.out).mono ?_); (case side1 => exact crC (Kd.R_reads' HO_972001.out).2.2); (case side2 => exact (Kd.R_reads' HO_972001.out).2.1); (case side3 => exact crC (Kd.R_reads' HO_972002.out).2.2); (case side4 => exact (Kd.R_reads' HO_972002.out).2.1); rintro e w233 ⟨rfl, hb⟩; refine ⟨_, rfl, ?_⟩; replace HO_972001 := rblR HO_972001 hb; replace HO_972002 := rblR HO_972002 hb; replace BK971 := bkb BK971 hb; replace HB := bst HB hb; (try clear hb); (try clear hb2); (try clear hk); (try clear hi)))
                  go_ret
                  exact ⟨er_, blw HB⟩
                 ·
                  rw [if_neg c231] at H
                  have c231b0 : (t1024 == t996) = false := beq_eq_false_iff_ne.mpr c231
                  have c231b1 : (t1024 != t996) = true := bne_iff_ne.mpr c231
                  obtain rfl := Option.some.inj H
                  exact absurd hr_ (by decide)
            ·
             rw [if_neg c177] at H
             have c177b0 : (t999 == t996) = false := beq_eq_false_iff_ne.mpr c177
             have c177b1 : (t999 != t996) = true := bne_iff_ne.mpr c177
             obtain rfl := Option.some.inj H
             exact absurd hr_ (by decide)
       ·
        replace c112 := Bool.eq_false_iff.mpr c112
        subst c112
        have H1 : (some false) = some r := by rw [if_neg (show ¬ (false = true) by decide)] at H; exact H
        clear H
        have H := H1
        clear H1
        obtain rfl := Option.some.inj H
        exact absurd hr_ (by decide)
      ·
       replace c109 := Bool.eq_false_iff.mpr c109
       subst c109
       have H1 : (some false) = some r := by rw [if_neg (show ¬ (false = true) by decide)] at H; exact H
       clear H
       have H := H1
       clear H1
       obtain rfl := Option.some.inj H
       exact absurd hr_ (by decide)

/-- THE ONE PURE STATEMENT of laws_FnExactAddRat: yours. -/
def laws_FnExactAddRat.Pure : Prop := ∀ (a0_0 : Bool) (l0_1 : List Int) (l0_2 : List Int) (a1_0 : Bool) (l1_1 : List Int) (l1_2 : List Int), (True ∧ (l0_1.length ≤ maxLen ∧ ∀ y0_ ∈ l0_1, (Lit.int .i64 y0_).wf = true) ∧ (l0_2.length ≤ maxLen ∧ ∀ y0_ ∈ l0_2, (Lit.int .i64 y0_).wf = true)) → (True ∧ (l1_1.length ≤ maxLen ∧ ∀ y0_ ∈ l1_1, (Lit.int .i64 y0_).wf = true) ∧ (l1_2.length ≤ maxLen ∧ ∀ y0_ ∈ l1_2, (Lit.int .i64 y0_).wf = true)) → ∃ k, laws_FnExactAddRat.f k a0_0 l0_1 l0_2 a1_0 l1_1 l1_2 = some true

end Go.Proofs.Ytacdaijalkkogaa.Q
