-- written by a program of this claim's session (myprint.py) out of the translation; Lean checks it.
import Derived.Test.YtacdaijalkkogaaQx0
import Derived.Test.YtacdaijalkkogaaSq
import Derived.Test.YtacdaijalkkogaaQxrlaw
import Derived.Test.YtacdaijalkkogaaQxDivRat
namespace Go.Proofs.Ytacdaijalkkogaa.Q
open Go.RowKit Go.Proofs.YtacdaijalkkogaaW.PrintWords Go.Proofs.YtacdaijalkkogaaW.PrintLast Go.Proofs.YtacdaijalkkogaaW.PrintMore
attribute [local go_sem] max2_int min2_int max_two min_two max_three min_three max_four min_four   -- for this text's walks alone
set_option linter.unusedVariables false
set_option linter.unusedSimpArgs false

mutual
def laws_FnExactDivRat.j0 : Nat → Int → Int → Bool → Bool → List Int → List Int → Bool → List Int → List Int → Bool → List Int → List Int → Bool → List Int → List Int → Bool → List Int → List Int → Bool → List Int → List Int → Option (Bool)
 | 0, _, _, _, _, _, _, _, _, _, _, _, _, _, _, _, _, _, _, _, _, _ => none
 | k + 1, x7, x11, x53, x1157000, x1157001, x1157002, x1158000, x1158001, x1158002, x1183000, x1183001, x1183002, x1191000, x1191001, x1191002, x1199000, x1199001, x1199002, x1208000, x1208001, x1208002 => if x53 = true then (some false) else ((laws_toRat.f k x1157000 x1157001 x1157002).bind fun bt1209 => ((laws_eqRat.f k x1191000 x1191001 x1191002 bt1209.1 bt1209.2.1 bt1209.2.2).bind fun t1216 => (if t1216 = true then ((laws_toRat.f k x1158000 x1158001 x1158002).bind fun bt1217 => ((laws_eqRat.f k x1199000 x1199001 x1199002 bt1217.1 bt1217.2.1 bt1217.2.2).bind fun t1224 => (if t1224 = true then ((laws_markRat.f k x1191000 x1191001 x1191002 1).bind fun bt1225 => ((laws_markRat.f k x1199000 x1199001 x1199002 bt1225.1).bind fun bt1228 => (if bt1228.1 < 0 then (laws_FnExactDivRat.j1 k x7 true x1157000 x1157001 x1157002 x1158000 x1158001 x1158002 x1183000 x1183001 x1183002 x1208000 x1208001 x1208002) else ((laws_eqRat.f k x1208000 x1208001 x1208002 x1183000 x1183001 x1183002).bind fun t1231 => (if t1231 = true then (laws_FnExactDivRat.j1 k x7 (x11 != x7) x1157000 x1157001 x1157002 x1158000 x1158001 x1158002 x1183000 x1183001 x1183002 x1208000 x1208001 x1208002) else (laws_FnExactDivRat.j1 k x7 true x1157000 x1157001 x1157002 x1158000 x1158001 x1158002 x1183000 x1183001 x1183002 x1208000 x1208001 x1208002)))))) else (some false)))) else (some false))))
def laws_FnExactDivRat.j1 : Nat → Int → Bool → Bool → List Int → List Int → Bool → List Int → List Int → Bool → List Int → List Int → Bool → List Int → List Int → Option (Bool)
 | 0, _, _, _, _, _, _, _, _, _, _, _, _, _, _ => none
 | k + 1, x7, x82, x1157000, x1157001, x1157002, x1158000, x1158001, x1158002, x1183000, x1183001, x1183002, x1208000, x1208001, x1208002 => if x82 = true then (some false) else ((laws_markRat.f k x1208000 x1208001 x1208002 1).bind fun bt1232 => ((laws_heldRat.f k x1208000 bt1232.2.1 bt1232.2.2 1).bind fun t1235 => (if t1235 < 0 then (some false) else (if t1235 = bt1232.1 then ((laws_toRat.f k x1157000 x1157001 x1157002).bind fun bt1236 => ((laws_toRat.f k x1158000 x1158001 x1158002).bind fun bt1243 => ((impl_DivRat.f k bt1236.1 bt1236.2.1 bt1236.2.2 bt1243.1 bt1243.2.1 bt1243.2.2).bind fun bt1250 => ((laws_eqRat.f k bt1250.1 bt1250.2.1 bt1250.2.2.1 x1183000 x1183001 x1183002).bind fun t1259 => (if t1259 = true then (laws_FnExactDivRat.j2 k bt1232.1 (bt1250.2.2.2 != x7) x1208000 bt1232.2.1 bt1232.2.2) else (laws_FnExactDivRat.j2 k bt1232.1 true x1208000 bt1232.2.1 bt1232.2.2)))))) else (some false)))))
def laws_FnExactDivRat.j2 : Nat → Int → Bool → Bool → List Int → List Int → Option (Bool)
 | 0, _, _, _, _, _ => none
 | k + 1, x13, x110, x1208000, x1208001, x1208002 => if x110 = true then (some false) else ((laws_heldRat.f k x1208000 x1208001 x1208002 1).bind fun t1260 => (if t1260 < 0 then (some false) else (if t1260 = x13 then (some true) else (some false))))
end
def laws_FnExactDivRat.f (k : Nat) (a0_0 : Bool) (l0_1 : List Int) (l0_2 : List Int) (a1_0 : Bool) (l1_1 : List Int) (l1_2 : List Int) : Option (Bool) := (laws_szRat.f a0_0 l0_1 l0_2 1048576).bind fun t1158 => (if t1158 < 0 then (some true) else ((laws_szRat.f a1_0 l1_1 l1_2 t1158).bind fun t1159 => (if t1159 < 0 then (some true) else ((laws_toRat.f k a0_0 l0_1 l0_2).bind fun bt1160 => ((laws_toRat.f k a1_0 l1_1 l1_2).bind fun bt1167 => ((spec_DivRat.f k bt1160.1 bt1160.2.1 bt1160.2.2 bt1167.1 bt1167.2.1 bt1167.2.2).bind fun bt1174 => ((laws_toRat.f k a0_0 l0_1 l0_2).bind fun bt1183 => ((laws_toRat.f k a1_0 l1_1 l1_2).bind fun bt1191 => ((impl_DivRat.f k bt1183.1 bt1183.2.1 bt1183.2.2 bt1191.1 bt1191.2.1 bt1191.2.2).bind fun bt1199 => ((laws_eqRat.f k bt1199.1 bt1199.2.1 bt1199.2.2.1 bt1174.1 bt1174.2.1 bt1174.2.2.1).bind fun t1208 => (if t1208 = true then (laws_FnExactDivRat.j0 k bt1174.2.2.2 bt1199.2.2.2 (bt1199.2.2.2 != bt1174.2.2.2) a0_0 l0_1 l0_2 a1_0 l1_1 l1_2 bt1174.1 bt1174.2.1 bt1174.2.2.1 bt1183.1 bt1183.2.1 bt1183.2.2 bt1191.1 bt1191.2.1 bt1191.2.2 bt1199.1 bt1199.2.1 bt1199.2.2.1) else (laws_FnExactDivRat.j0 k bt1174.2.2.2 bt1199.2.2.2 true a0_0 l0_1 l0_2 a1_0 l1_1 l1_2 bt1174.1 bt1174.2.1 bt1174.2.2.1 bt1183.1 bt1183.2.1 bt1183.2.2 bt1191.1 bt1191.2.1 bt1191.2.2 bt1199.1 bt1199.2.1 bt1199.2.2.1))))))))))))
theorem laws_FnExactDivRat.mono_l : ∀ k, (∀ y0 y1 y2 y3 y4 y5 y6 y7 y8 y9 y10 y11 y12 y13 y14 y15 y16 y17 y18 y19 y20, LeO (laws_FnExactDivRat.j0 k y0 y1 y2 y3 y4 y5 y6 y7 y8 y9 y10 y11 y12 y13 y14 y15 y16 y17 y18 y19 y20) (laws_FnExactDivRat.j0 (k + 1) y0 y1 y2 y3 y4 y5 y6 y7 y8 y9 y10 y11 y12 y13 y14 y15 y16 y17 y18 y19 y20)) ∧ (∀ y0 y1 y2 y3 y4 y5 y6 y7 y8 y9 y10 y11 y12 y13, LeO (laws_FnExactDivRat.j1 k y0 y1 y2 y3 y4 y5 y6 y7 y8 y9 y10 y11 y12 y13) (laws_FnExactDivRat.j1 (k + 1) y0 y1 y2 y3 y4 y5 y6 y7 y8 y9 y10 y11 y12 y13)) ∧ (∀ y0 y1 y2 y3 y4, LeO (laws_FnExactDivRat.j2 k y0 y1 y2 y3 y4) (laws_FnExactDivRat.j2 (k + 1) y0 y1 y2 y3 y4))
 | 0 => ⟨fun _ _ _ _ _ _ _ _ _ _ _ _ _ _ _ _ _ _ _ _ _ r h => by simp [laws_FnExactDivRat.j0] at h, fun _ _ _ _ _ _ _ _ _ _ _ _ _ _ r h => by simp [laws_FnExactDivRat.j1] at h, fun _ _ _ _ _ r h => by simp [laws_FnExactDivRat.j2] at h⟩
 | k + 1 => by
  obtain ⟨ih0, ih1, ih2⟩ := laws_FnExactDivRat.mono_l k
  refine ⟨?_, ?_, ?_⟩
  ·
   intro y0 y1 y2 y3 y4 y5 y6 y7 y8 y9 y10 y11 y12 y13 y14 y15 y16 y17 y18 y19 y20
   unfold laws_FnExactDivRat.j0
   repeat' first
   | (with_reducible exact ih0 _ _ _ _ _ _ _ _ _ _ _ _ _ _ _ _ _ _ _ _ _)
   | (with_reducible exact ih1 _ _ _ _ _ _ _ _ _ _ _ _ _ _)
   | (with_reducible exact ih2 _ _ _ _ _)
   | (with_reducible exact impl_DivRat.mono _ _ _ _ _ _ _)
   | (with_reducible exact laws_eqRat.mono _ _ _ _ _ _ _)
   | (with_reducible exact laws_heldRat.mono _ _ _ _ _)
   | (with_reducible exact laws_markRat.mono _ _ _ _ _)
   | (with_reducible exact laws_toRat.mono _ _ _ _)
   | (with_reducible exact spec_DivRat.mono _ _ _ _ _ _ _)
   | (with_reducible exact LeO.refl _)
   | (with_reducible exact LeO.none _)
   | (with_reducible refine LeO.ite ?_ ?_)
   | (with_reducible refine LeO.bind ?_ (fun _ => ?_))
   | exact ih0 _ _ _ _ _ _ _ _ _ _ _ _ _ _ _ _ _ _ _ _ _
   | exact ih1 _ _ _ _ _ _ _ _ _ _ _ _ _ _
   | exact ih2 _ _ _ _ _
   | exact impl_DivRat.mono _ _ _ _ _ _ _
   | exact laws_eqRat.mono _ _ _ _ _ _ _
   | exact laws_heldRat.mono _ _ _ _ _
   | exact laws_markRat.mono _ _ _ _ _
   | exact laws_toRat.mono _ _ _ _
   | exact spec_DivRat.mono _ _ _ _ _ _ _
   | exact LeO.none _
   | refine LeO.ite ?_ ?_
   | refine LeO.bind ?_ (fun _ => ?_)
  ·
   intro y0 y1 y2 y3 y4 y5 y6 y7 y8 y9 y10 y11 y12 y13
   unfold laws_FnExactDivRat.j1
   repeat' first
   | (with_reducible exact ih0 _ _ _ _ _ _ _ _ _ _ _ _ _ _ _ _ _ _ _ _ _)
   | (with_reducible exact ih1 _ _ _ _ _ _ _ _ _ _ _ _ _ _)
   | (with_reducible exact ih2 _ _ _ _ _)
   | (with_reducible exact impl_DivRat.mono _ _ _ _ _ _ _)
   | (with_reducible exact laws_eqRat.mono _ _ _ _ _ _ _)
   | (with_reducible exact laws_heldRat.mono _ _ _ _ _)
   | (with_reducible exact laws_markRat.mono _ _ _ _ _)
   | (with_reducible exact laws_toRat.mono _ _ _ _)
   | (with_reducible exact spec_DivRat.mono _ _ _ _ _ _ _)
   | (with_reducible exact LeO.refl _)
   | (with_reducible exact LeO.none _)
   | (with_reducible refine LeO.ite ?_ ?_)
   | (with_reducible refine LeO.bind ?_ (fun _ => ?_))
   | exact ih0 _ _ _ _ _ _ _ _ _ _ _ _ _ _ _ _ _ _ _ _ _
   | exact ih1 _ _ _ _ _ _ _ _ _ _ _ _ _ _
   | exact ih2 _ _ _ _ _
   | exact impl_DivRat.mono _ _ _ _ _ _ _
   | exact laws_eqRat.mono _ _ _ _ _ _ _
   | exact laws_heldRat.mono _ _ _ _ _
   | exact laws_markRat.mono _ _ _ _ _
   | exact laws_toRat.mono _ _ _ _
   | exact spec_DivRat.mono _ _ _ _ _ _ _
   | exact LeO.none _
   | refine LeO.ite ?_ ?_
   | refine LeO.bind ?_ (fun _ => ?_)
  ·
   intro y0 y1 y2 y3 y4
   unfold laws_FnExactDivRat.j2
   repeat' first
   | (with_reducible exact ih0 _ _ _ _ _ _ _ _ _ _ _ _ _ _ _ _ _ _ _ _ _)
   | (with_reducible exact ih1 _ _ _ _ _ _ _ _ _ _ _ _ _ _)
   | (with_reducible exact ih2 _ _ _ _ _)
   | (with_reducible exact impl_DivRat.mono _ _ _ _ _ _ _)
   | (with_reducible exact laws_eqRat.mono _ _ _ _ _ _ _)
   | (with_reducible exact laws_heldRat.mono _ _ _ _ _)
   | (with_reducible exact laws_markRat.mono _ _ _ _ _)
   | (with_reducible exact laws_toRat.mono _ _ _ _)
   | (with_reducible exact spec_DivRat.mono _ _ _ _ _ _ _)
   | (with_reducible exact LeO.refl _)
   | (with_reducible exact LeO.none _)
   | (with_reducible refine LeO.ite ?_ ?_)
   | (with_reducible refine LeO.bind ?_ (fun _ => ?_))
   | exact ih0 _ _ _ _ _ _ _ _ _ _ _ _ _ _ _ _ _ _ _ _ _
   | exact ih1 _ _ _ _ _ _ _ _ _ _ _ _ _ _
   | exact ih2 _ _ _ _ _
   | exact impl_DivRat.mono _ _ _ _ _ _ _
   | exact laws_eqRat.mono _ _ _ _ _ _ _
   | exact laws_heldRat.mono _ _ _ _ _
   | exact laws_markRat.mono _ _ _ _ _
   | exact laws_toRat.mono _ _ _ _
   | exact spec_DivRat.mono _ _ _ _ _ _ _
   | exact LeO.none _
   | refine LeO.ite ?_ ?_
   | refine LeO.bind ?_ (fun _ => ?_)
theorem laws_FnExactDivRat.mono : ∀ a0 a1 a2 a3 a4 a5 k, LeO (laws_FnExactDivRat.f k a0 a1 a2 a3 a4 a5) (laws_FnExactDivRat.f (k + 1) a0 a1 a2 a3 a4 a5) := by
 intro a0 a1 a2 a3 a4 a5 k
 obtain ⟨ih0, ih1, ih2⟩ := laws_FnExactDivRat.mono_l k
 unfold laws_FnExactDivRat.f
 repeat' first
   | (with_reducible exact ih0 _ _ _ _ _ _ _ _ _ _ _ _ _ _ _ _ _ _ _ _ _)
   | (with_reducible exact ih1 _ _ _ _ _ _ _ _ _ _ _ _ _ _)
   | (with_reducible exact ih2 _ _ _ _ _)
   | (with_reducible exact impl_DivRat.mono _ _ _ _ _ _ _)
   | (with_reducible exact laws_eqRat.mono _ _ _ _ _ _ _)
   | (with_reducible exact laws_heldRat.mono _ _ _ _ _)
   | (with_reducible exact laws_markRat.mono _ _ _ _ _)
   | (with_reducible exact laws_toRat.mono _ _ _ _)
   | (with_reducible exact spec_DivRat.mono _ _ _ _ _ _ _)
   | (with_reducible exact LeO.refl _)
   | (with_reducible exact LeO.none _)
   | (with_reducible refine LeO.ite ?_ ?_)
   | (with_reducible refine LeO.bind ?_ (fun _ => ?_))
   | exact ih0 _ _ _ _ _ _ _ _ _ _ _ _ _ _ _ _ _ _ _ _ _
   | exact ih1 _ _ _ _ _ _ _ _ _ _ _ _ _ _
   | exact ih2 _ _ _ _ _
   | exact impl_DivRat.mono _ _ _ _ _ _ _
   | exact laws_eqRat.mono _ _ _ _ _ _ _
   | exact laws_heldRat.mono _ _ _ _ _
   | exact laws_markRat.mono _ _ _ _ _
   | exact laws_toRat.mono _ _ _ _
   | exact spec_DivRat.mono _ _ _ _ _ _ _
   | exact LeO.none _
   | refine LeO.ite ?_ ?_
   | refine LeO.bind ?_ (fun _ => ?_)
def laws_FnExactDivRat.T8 : Bool × List (List Nat × List Nat) := (true, [([], []), ([0], [0]), ([], []), ([2, 1], [2]), ([1, 3, 3], [1, 3]), ([4], [4]), ([5], [5]), ([5], [5]), ([], []), ([8, 6, 4, 0, 1, 2, 3, 4, 5, 6, 8], [6, 8]), ([7, 9, 0, 1, 2, 3, 4, 5, 6, 7, 8, 9], [7])])
def laws_FnExactDivRat.B8 : List Nat := [0, 1, 0, 7, 15, 31, 63, 63, 0, 383, 1023]
theorem laws_FnExactDivRat.tab8 : rtab .any (opsOf Try.f9 8) = laws_FnExactDivRat.T8 := by kernel_rfl
theorem laws_FnExactDivRat.bits8 : waitsOk laws_FnExactDivRat.T8.2 laws_FnExactDivRat.B8 = true := by kernel_rfl
def laws_FnExactDivRat.T31 : Bool × List (List Nat × List Nat) := (true, [([], []), ([0], [0]), ([], []), ([2, 1], [2]), ([1, 3, 3], [1, 3]), ([4], [4]), ([5], [5]), ([5], [5]), ([], []), ([8, 6, 4, 0, 1, 2, 3, 4, 5, 6, 8], [6, 8]), ([7, 9, 0, 1, 2, 3, 4, 5, 6, 7, 8, 9], [7])])
def laws_FnExactDivRat.B31 : List Nat := [0, 1, 0, 7, 15, 31, 63, 63, 0, 383, 1023]
theorem laws_FnExactDivRat.tab31 : rtab .any (opsOf Try.f9 31) = laws_FnExactDivRat.T31 := by kernel_rfl
theorem laws_FnExactDivRat.bits31 : waitsOk laws_FnExactDivRat.T31.2 laws_FnExactDivRat.B31 = true := by kernel_rfl
set_option maxHeartbeats 8000000 in
set_option maxRecDepth 100000 in
theorem laws_FnExactDivRat.calls (k : Nat) (a0_0 : Bool) (A0_1 : Option Addr) (c0_1 : Nat) (l0_1 : List Int) (A0_2 : Option Addr) (c0_2 : Nat) (l0_2 : List Int) (a1_0 : Bool) (A1_1 : Option Addr) (c1_1 : Nat) (l1_1 : List Int) (A1_2 : Option Addr) (c1_2 : Nat) (l1_2 : List Int) (r : Bool) (w : World) (hr0_1 : Kd.C (Kd.int .i64) w A0_1 l0_1.length l0_1) (hc0_1 : l0_1.length ≤ c0_1) (hr0_2 : Kd.C (Kd.int .i64) w A0_2 l0_2.length l0_2) (hc0_2 : l0_2.length ≤ c0_2) (hr1_1 : Kd.C (Kd.int .i64) w A1_1 l1_1.length l1_1) (hc1_1 : l1_1.length ≤ c1_1) (hr1_2 : Kd.C (Kd.int .i64) w A1_2 l1_2.length l1_2) (hc1_2 : l1_2.length ≤ c1_2) (h : laws_FnExactDivRat.f k a0_0 l0_1 l0_2 a1_0 l1_1 l1_2 = some r) (hr_ : r = true) :
  Calls Try.prog 9 #[.agg #[.bool a0_0, .slice A0_1 l0_1.length c0_1, .slice A0_2 l0_2.length c0_2], .agg #[.bool a1_0, .slice A1_1 l1_1.length c1_1, .slice A1_2 l1_2.length c1_2]] w fun e w' => e = .returned (.bool r) ∧ Below w.heap.size w w' := by
 have hu30 := Try.underlying30
 have hu24 := Try.underlying24
 have HR0_1 := Aside0.mk hr0_1
 have HC0_1 := Aside0.mk hc0_1
 clear hr0_1 hc0_1
 have HR0_2 := Aside0.mk hr0_2
 have HC0_2 := Aside0.mk hc0_2
 clear hr0_2 hc0_2
 have HR1_1 := Aside0.mk hr1_1
 have HC1_1 := Aside0.mk hc1_1
 clear hr1_1 hc1_1
 have HR1_2 := Aside0.mk hr1_2
 have HC1_2 := Aside0.mk hc1_2
 clear hr1_2 hc1_2
 have HB := Aside0.mk (Below.refl w.heap.size w)
 have H : ((laws_szRat.f a0_0 l0_1 l0_2 1048576).bind fun t1158 => (if t1158 < 0 then (some true) else ((laws_szRat.f a1_0 l1_1 l1_2 t1158).bind fun t1159 => (if t1159 < 0 then (some true) else ((laws_toRat.f k a0_0 l0_1 l0_2).bind fun bt1160 => ((laws_toRat.f k a1_0 l1_1 l1_2).bind fun bt1167 => ((spec_DivRat.f k bt1160.1 bt1160.2.1 bt1160.2.2 bt1167.1 bt1167.2.1 bt1167.2.2).bind fun bt1174 => ((laws_toRat.f k a0_0 l0_1 l0_2).bind fun bt1183 => ((laws_toRat.f k a1_0 l1_1 l1_2).bind fun bt1191 => ((impl_DivRat.f k bt1183.1 bt1183.2.1 bt1183.2.2 bt1191.1 bt1191.2.1 bt1191.2.2).bind fun bt1199 => ((laws_eqRat.f k bt1199.1 bt1199.2.1 bt1199.2.2.1 bt1174.1 bt1174.2.1 bt1174.2.2.1).bind fun t1208 => (if t1208 = true then (laws_FnExactDivRat.j0 k bt1174.2.2.2 bt1199.2.2.2 (bt1199.2.2.2 != bt1174.2.2.2) a0_0 l0_1 l0_2 a1_0 l1_1 l1_2 bt1174.1 bt1174.2.1 bt1174.2.2.1 bt1183.1 bt1183.2.1 bt1183.2.2 bt1191.1 bt1191.2.1 bt1191.2.2 bt1199.1 bt1199.2.1 bt1199.2.2.1) else (laws_FnExactDivRat.j0 k bt1174.2.2.2 bt1199.2.2.2 true a0_0 l0_1 l0_2 a1_0 l1_1 l1_2 bt1174.1 bt1174.2.1 bt1174.2.2.1 bt1183.1 bt1183.2.1 bt1183.2.2 bt1191.1 bt1191.2.1 bt1191.2.2 bt1199.1 bt1199.2.1 bt1199.2.2.1))))))))))))) = some r := h
 clear h
 replace H := Option.bind_eq_some_iff.mp H
 obtain ⟨t1158, A30, H⟩ := H
 replace H : (if t1158 < 0 then (some true) else ((laws_szRat.f a1_0 l1_1 l1_2 t1158).bind fun t1159 => (if t1159 < 0 then (some true) else ((laws_toRat.f k a0_0 l0_1 l0_2).bind fun bt1160 => ((laws_toRat.f k a1_0 l1_1 l1_2).bind fun bt1167 => ((spec_DivRat.f k bt1160.1 bt1160.2.1 bt1160.2.2 bt1167.1 bt1167.2.1 bt1167.2.2).bind fun bt1174 => ((laws_toRat.f k a0_0 l0_1 l0_2).bind fun bt1183 => ((laws_toRat.f k a1_0 l1_1 l1_2).bind fun bt1191 => ((impl_DivRat.f k bt1183.1 bt1183.2.1 bt1183.2.2 bt1191.1 bt1191.2.1 bt1191.2.2).bind fun bt1199 => ((laws_eqRat.f k bt1199.1 bt1199.2.1 bt1199.2.2.1 bt1174.1 bt1174.2.1 bt1174.2.2.1).bind fun t1208 => (if t1208 = true then (laws_FnExactDivRat.j0 k bt1174.2.2.2 bt1199.2.2.2 (bt1199.2.2.2 != bt1174.2.2.2) a0_0 l0_1 l0_2 a1_0 l1_1 l1_2 bt1174.1 bt1174.2.1 bt1174.2.2.1 bt1183.1 bt1183.2.1 bt1183.2.2 bt1191.1 bt1191.2.1 bt1191.2.2 bt1199.1 bt1199.2.1 bt1199.2.2.1) else (laws_FnExactDivRat.j0 k bt1174.2.2.2 bt1199.2.2.2 true a0_0 l0_1 l0_2 a1_0 l1_1 l1_2 bt1174.1 bt1174.2.1 bt1174.2.2.1 bt1183.1 bt1183.2.1 bt1183.2.2 bt1191.1 bt1191.2.1 bt1191.2.2 bt1199.1 bt1199.2.1 bt1199.2.2.1)))))))))))) = some r := H
 have A3 := Aside0.mk A30
 clear A30
 by_cases c4 : t1158 < 0
 ·
  rw [if_pos c4] at H
  have c4b0 : decide (t1158 < 0) = true := decide_eq_true c4
  clear c4
  obtain rfl := Option.some.inj H
  go_enter Try.func9, Try.ntmps9
  go_wp2_with (first | ((with_reducible refine gate_dst (N := 2) rfl ?_); refine box_event ?hg (N := 2) ?hd (cs := #[.bool a0_0, .slice A0_1 l0_1.length c0_1, .slice A0_2 l0_2.length c0_2]) (t := 30) ?hr ?_; (case hd => rfl); (case hg => rfl); (case hr => first | (go_simp; done) | (go_simp; rfl)); intro gb1156 hg w5 hbox hb; have BK1156 := Aside0.mk (hbox); have GW1156 := geh hg HB; have GE1156 := geh hg HB; replace HB := bst HB hb; clear hb hbox hg) | ((with_reducible refine gate_dst (N := 3) rfl ?_); refine box_event ?hg (N := 3) ?hd (cs := #[.bool a1_0, .slice A1_1 l1_1.length c1_1, .slice A1_2 l1_2.length c1_2]) (t := 30) ?hr ?_; (case hd => rfl); (case hg => rfl); (case hr => first | (go_simp; done) | (go_simp; rfl)); intro gb1157 hg w6 hbox hb; have BK1157 := Aside0.mk (hbox); have GW1157 := geh hg HB; have GE1157 := geh hg HB; replace HB := bst HB hb; have NB1156_1157 := nlt hg BK1156; have NB1157_1156 := ngt hg BK1156; replace BK1156 := bkb BK1156 hb; clear hb hbox hg; have hnb7 := NB1156_1157.out; have hnc7 := NB1157_1156.out; have hcz8_0 := bce BK1156 0 (.bool a0_0); have hcz8_1 := bce BK1156 1 (.slice A0_1 l0_1.length c0_1); have hcz8_2 := bce BK1156 2 (.slice A0_2 l0_2.length c0_2); have hfz8_0 := blk_frozen BK1156.out 0; have hfz8_1 := blk_frozen BK1156.out 1; have hfz8_2 := blk_frozen BK1156.out 2) | ((with_reducible refine gate_callee (f := 20) rfl ?_); refine goesL_ (some 19) rfl rfl Try.func20 (by kernel_rfl) rfl #[.agg #[.bool a0_0, .slice A0_1 l0_1.length c0_1, .slice A0_2 l0_2.length c0_2], .int .i64 1048576] rfl (by (try simp only [List.map_toArray, List.map_cons, List.map_nil]); first | done | rfl | (simp only [List.length_drop, List.length_take]; rfl)) ?_; (with_reducible refine (laws_szRat.calls a0_0 _ _ l0_1 _ _ l0_2 1048576 t1158 _ ?side1 ?side2 ?side3 ?side4 A3.out).mono ?_); (case side1 => exact crC (Kd.C_below HR0_1.out HB.out)); (case side2 => exact HC0_1.out); (case side3 => exact crC (Kd.C_below HR0_2.out HB.out)); (case side4 => exact HC0_2.out); rintro e w9 ⟨rfl, hb⟩; refine ⟨_, rfl, ?_⟩; replace BK1156 := bkb BK1156 hb; replace BK1157 := bkb BK1157 hb; replace HB := bst HB hb; (try clear hb); (try clear hb2); (try clear hk); (try clear hi)))
  go_ret
  exact ⟨by first | rfl | (simp [errW_none, errW_some] <;> rfl) | (simp [*, errW_none, errW_some] <;> rfl), blw HB⟩
 ·
  rw [if_neg c4] at H
  have c4b0 : decide (t1158 < 0) = false := decide_eq_false c4
  clear c4
  replace H := Option.bind_eq_some_iff.mp H
  obtain ⟨t1159, A100, H⟩ := H
  replace H : (if t1159 < 0 then (some true) else ((laws_toRat.f k a0_0 l0_1 l0_2).bind fun bt1160 => ((laws_toRat.f k a1_0 l1_1 l1_2).bind fun bt1167 => ((spec_DivRat.f k bt1160.1 bt1160.2.1 bt1160.2.2 bt1167.1 bt1167.2.1 bt1167.2.2).bind fun bt1174 => ((laws_toRat.f k a0_0 l0_1 l0_2).bind fun bt1183 => ((laws_toRat.f k a1_0 l1_1 l1_2).bind fun bt1191 => ((impl_DivRat.f k bt1183.1 bt1183.2.1 bt1183.2.2 bt1191.1 bt1191.2.1 bt1191.2.2).bind fun bt1199 => ((laws_eqRat.f k bt1199.1 bt1199.2.1 bt1199.2.2.1 bt1174.1 bt1174.2.1 bt1174.2.2.1).bind fun t1208 => (if t1208 = true then (laws_FnExactDivRat.j0 k bt1174.2.2.2 bt1199.2.2.2 (bt1199.2.2.2 != bt1174.2.2.2) a0_0 l0_1 l0_2 a1_0 l1_1 l1_2 bt1174.1 bt1174.2.1 bt1174.2.2.1 bt1183.1 bt1183.2.1 bt1183.2.2 bt1191.1 bt1191.2.1 bt1191.2.2 bt1199.1 bt1199.2.1 bt1199.2.2.1) else (laws_FnExactDivRat.j0 k bt1174.2.2.2 bt1199.2.2.2 true a0_0 l0_1 l0_2 a1_0 l1_1 l1_2 bt1174.1 bt1174.2.1 bt1174.2.2.1 bt1183.1 bt1183.2.1 bt1183.2.2 bt1191.1 bt1191.2.1 bt1191.2.2 bt1199.1 bt1199.2.1 bt1199.2.2.1)))))))))) = some r := H
  have A10 := Aside0.mk A100
  clear A100
  by_cases c11 : t1159 < 0
  ·
   rw [if_pos c11] at H
   have c11b0 : decide (t1159 < 0) = true := decide_eq_true c11
   clear c11
   obtain rfl := Option.some.inj H
   go_enter Try.func9, Try.ntmps9
   go_wp2_with (first | ((with_reducible refine gate_dst (N := 2) rfl ?_); refine box_event ?hg (N := 2) ?hd (cs := #[.bool a0_0, .slice A0_1 l0_1.length c0_1, .slice A0_2 l0_2.length c0_2]) (t := 30) ?hr ?_; (case hd => rfl); (case hg => rfl); (case hr => first | (go_simp; done) | (go_simp; rfl)); intro gb1156 hg w12 hbox hb; have BK1156 := Aside0.mk (hbox); have GW1156 := geh hg HB; have GE1156 := geh hg HB; replace HB := bst HB hb; clear hb hbox hg) | ((with_reducible refine gate_dst (N := 3) rfl ?_); refine box_event ?hg (N := 3) ?hd (cs := #[.bool a1_0, .slice A1_1 l1_1.length c1_1, .slice A1_2 l1_2.length c1_2]) (t := 30) ?hr ?_; (case hd => rfl); (case hg => rfl); (case hr => first | (go_simp; done) | (go_simp; rfl)); intro gb1157 hg w13 hbox hb; have BK1157 := Aside0.mk (hbox); have GW1157 := geh hg HB; have GE1157 := geh hg HB; replace HB := bst HB hb; have NB1156_1157 := nlt hg BK1156; have NB1157_1156 := ngt hg BK1156; replace BK1156 := bkb BK1156 hb; clear hb hbox hg; have hnb14 := NB1156_1157.out; have hnc14 := NB1157_1156.out; have hcz15_0 := bce BK1156 0 (.bool a0_0); have hcz15_1 := bce BK1156 1 (.slice A0_1 l0_1.length c0_1); have hcz15_2 := bce BK1156 2 (.slice A0_2 l0_2.length c0_2); have hfz15_0 := blk_frozen BK1156.out 0; have hfz15_1 := blk_frozen BK1156.out 1; have hfz15_2 := blk_frozen BK1156.out 2) | ((with_reducible refine gate_callee (f := 20) rfl ?_); refine goesL_ (some 19) rfl rfl Try.func20 (by kernel_rfl) rfl #[.agg #[.bool a0_0, .slice A0_1 l0_1.length c0_1, .slice A0_2 l0_2.length c0_2], .int .i64 1048576] rfl (by (try simp only [List.map_toArray, List.map_cons, List.map_nil]); first | done | rfl | (simp only [List.length_drop, List.length_take]; rfl)) ?_; (with_reducible refine (laws_szRat.calls a0_0 _ _ l0_1 _ _ l0_2 1048576 t1158 _ ?side1 ?side2 ?side3 ?side4 A3.out).mono ?_); (case side1 => exact crC (Kd.C_below HR0_1.out HB.out)); (case side2 => exact HC0_1.out); (case side3 => exact crC (Kd.C_below HR0_2.out HB.out)); (case side4 => exact HC0_2.out); rintro e w16 ⟨rfl, hb⟩; refine ⟨_, rfl, ?_⟩; replace BK1156 := bkb BK1156 hb; replace BK1157 := bkb BK1157 hb; replace HB := bst HB hb; (try clear hb); (try clear hb2); (try clear hk); (try clear hi); have hcz17_0 := bce BK1157 0 (.bool a1_0); have hcz17_1 := bce BK1157 1 (.slice A1_1 l1_1.length c1_1); have hcz17_2 := bce BK1157 2 (.slice A1_2 l1_2.length c1_2); have hfz17_0 := blk_frozen BK1157.out 0; have hfz17_1 := blk_frozen BK1157.out 1; have hfz17_2 := blk_frozen BK1157.out 2) | ((with_reducible refine gate_callee (f := 20) rfl ?_); refine goesL_ (some 24) rfl rfl Try.func20 (by kernel_rfl) rfl #[.agg #[.bool a1_0, .slice A1_1 l1_1.length c1_1, .slice A1_2 l1_2.length c1_2], .int .i64 t1158] rfl (by (try simp only [List.map_toArray, List.map_cons, List.map_nil]); first | done | rfl | (simp only [List.length_drop, List.length_take]; rfl)) ?_; (with_reducible refine (laws_szRat.calls a1_0 _ _ l1_1 _ _ l1_2 t1158 t1159 _ ?side1 ?side2 ?side3 ?side4 A10.out).mono ?_); (case side1 => exact crC (Kd.C_below HR1_1.out HB.out)); (case side2 => exact HC1_1.out); (case side3 => exact crC (Kd.C_below HR1_2.out HB.out)); (case side4 => exact HC1_2.out); rintro e w18 ⟨rfl, hb⟩; refine ⟨_, rfl, ?_⟩; replace BK1156 := bkb BK1156 hb; replace BK1157 := bkb BK1157 hb; replace HB := bst HB hb; (try clear hb); (try clear hb2); (try clear hk); (try clear hi)))
   go_ret
   exact ⟨by first | rfl | (simp [errW_none, errW_some] <;> rfl) | (simp [*, errW_none, errW_some] <;> rfl), blw HB⟩
  ·
   rw [if_neg c11] at H
   have c11b0 : decide (t1159 < 0) = false := decide_eq_false c11
   clear c11
   replace H := Option.bind_eq_some_iff.mp H
   obtain ⟨⟨t1160, t1161, t1164⟩, A190, H⟩ := H
   replace H : ((laws_toRat.f k a1_0 l1_1 l1_2).bind fun bt1167 => ((spec_DivRat.f k t1160 t1161 t1164 bt1167.1 bt1167.2.1 bt1167.2.2).bind fun bt1174 => ((laws_toRat.f k a0_0 l0_1 l0_2).bind fun bt1183 => ((laws_toRat.f k a1_0 l1_1 l1_2).bind fun bt1191 => ((impl_DivRat.f k bt1183.1 bt1183.2.1 bt1183.2.2 bt1191.1 bt1191.2.1 bt1191.2.2).bind fun bt1199 => ((laws_eqRat.f k bt1199.1 bt1199.2.1 bt1199.2.2.1 bt1174.1 bt1174.2.1 bt1174.2.2.1).bind fun t1208 => (if t1208 = true then (laws_FnExactDivRat.j0 k bt1174.2.2.2 bt1199.2.2.2 (bt1199.2.2.2 != bt1174.2.2.2) a0_0 l0_1 l0_2 a1_0 l1_1 l1_2 bt1174.1 bt1174.2.1 bt1174.2.2.1 bt1183.1 bt1183.2.1 bt1183.2.2 bt1191.1 bt1191.2.1 bt1191.2.2 bt1199.1 bt1199.2.1 bt1199.2.2.1) else (laws_FnExactDivRat.j0 k bt1174.2.2.2 bt1199.2.2.2 true a0_0 l0_1 l0_2 a1_0 l1_1 l1_2 bt1174.1 bt1174.2.1 bt1174.2.2.1 bt1183.1 bt1183.2.1 bt1183.2.2 bt1191.1 bt1191.2.1 bt1191.2.2 bt1199.1 bt1199.2.1 bt1199.2.2.1)))))))) = some r := H
   have A19 := Aside0.mk A190
   clear A190
   replace H := Option.bind_eq_some_iff.mp H
   obtain ⟨⟨t1167, t1168, t1171⟩, A200, H⟩ := H
   replace H : ((spec_DivRat.f k t1160 t1161 t1164 t1167 t1168 t1171).bind fun bt1174 => ((laws_toRat.f k a0_0 l0_1 l0_2).bind fun bt1183 => ((laws_toRat.f k a1_0 l1_1 l1_2).bind fun bt1191 => ((impl_DivRat.f k bt1183.1 bt1183.2.1 bt1183.2.2 bt1191.1 bt1191.2.1 bt1191.2.2).bind fun bt1199 => ((laws_eqRat.f k bt1199.1 bt1199.2.1 bt1199.2.2.1 bt1174.1 bt1174.2.1 bt1174.2.2.1).bind fun t1208 => (if t1208 = true then (laws_FnExactDivRat.j0 k bt1174.2.2.2 bt1199.2.2.2 (bt1199.2.2.2 != bt1174.2.2.2) a0_0 l0_1 l0_2 a1_0 l1_1 l1_2 bt1174.1 bt1174.2.1 bt1174.2.2.1 bt1183.1 bt1183.2.1 bt1183.2.2 bt1191.1 bt1191.2.1 bt1191.2.2 bt1199.1 bt1199.2.1 bt1199.2.2.1) else (laws_FnExactDivRat.j0 k bt1174.2.2.2 bt1199.2.2.2 true a0_0 l0_1 l0_2 a1_0 l1_1 l1_2 bt1174.1 bt1174.2.1 bt1174.2.2.1 bt1183.1 bt1183.2.1 bt1183.2.2 bt1191.1 bt1191.2.1 bt1191.2.2 bt1199.1 bt1199.2.1 bt1199.2.2.1))))))) = some r := H
   have A20 := Aside0.mk A200
   clear A200
   replace H := Option.bind_eq_some_iff.mp H
   obtain ⟨⟨t1174, t1175, t1178, t1181⟩, A210, H⟩ := H
   replace H : ((laws_toRat.f k a0_0 l0_1 l0_2).bind fun bt1183 => ((laws_toRat.f k a1_0 l1_1 l1_2).bind fun bt1191 => ((impl_DivRat.f k bt1183.1 bt1183.2.1 bt1183.2.2 bt1191.1 bt1191.2.1 bt1191.2.2).bind fun bt1199 => ((laws_eqRat.f k bt1199.1 bt1199.2.1 bt1199.2.2.1 t1174 t1175 t1178).bind fun t1208 => (if t1208 = true then (laws_FnExactDivRat.j0 k t1181 bt1199.2.2.2 (bt1199.2.2.2 != t1181) a0_0 l0_1 l0_2 a1_0 l1_1 l1_2 t1174 t1175 t1178 bt1183.1 bt1183.2.1 bt1183.2.2 bt1191.1 bt1191.2.1 bt1191.2.2 bt1199.1 bt1199.2.1 bt1199.2.2.1) else (laws_FnExactDivRat.j0 k t1181 bt1199.2.2.2 true a0_0 l0_1 l0_2 a1_0 l1_1 l1_2 t1174 t1175 t1178 bt1183.1 bt1183.2.1 bt1183.2.2 bt1191.1 bt1191.2.1 bt1191.2.2 bt1199.1 bt1199.2.1 bt1199.2.2.1)))))) = some r := H
   have A21 := Aside0.mk A210
   clear A210
   replace H := Option.bind_eq_some_iff.mp H
   obtain ⟨⟨t1183, t1184, t1187⟩, A220, H⟩ := H
   replace H : ((laws_toRat.f k a1_0 l1_1 l1_2).bind fun bt1191 => ((impl_DivRat.f k t1183 t1184 t1187 bt1191.1 bt1191.2.1 bt1191.2.2).bind fun bt1199 => ((laws_eqRat.f k bt1199.1 bt1199.2.1 bt1199.2.2.1 t1174 t1175 t1178).bind fun t1208 => (if t1208 = true then (laws_FnExactDivRat.j0 k t1181 bt1199.2.2.2 (bt1199.2.2.2 != t1181) a0_0 l0_1 l0_2 a1_0 l1_1 l1_2 t1174 t1175 t1178 t1183 t1184 t1187 bt1191.1 bt1191.2.1 bt1191.2.2 bt1199.1 bt1199.2.1 bt1199.2.2.1) else (laws_FnExactDivRat.j0 k t1181 bt1199.2.2.2 true a0_0 l0_1 l0_2 a1_0 l1_1 l1_2 t1174 t1175 t1178 t1183 t1184 t1187 bt1191.1 bt1191.2.1 bt1191.2.2 bt1199.1 bt1199.2.1 bt1199.2.2.1))))) = some r := H
   have A22 := Aside0.mk A220
   clear A220
   replace H := Option.bind_eq_some_iff.mp H
   obtain ⟨⟨t1191, t1192, t1195⟩, A230, H⟩ := H
   replace H : ((impl_DivRat.f k t1183 t1184 t1187 t1191 t1192 t1195).bind fun bt1199 => ((laws_eqRat.f k bt1199.1 bt1199.2.1 bt1199.2.2.1 t1174 t1175 t1178).bind fun t1208 => (if t1208 = true then (laws_FnExactDivRat.j0 k t1181 bt1199.2.2.2 (bt1199.2.2.2 != t1181) a0_0 l0_1 l0_2 a1_0 l1_1 l1_2 t1174 t1175 t1178 t1183 t1184 t1187 t1191 t1192 t1195 bt1199.1 bt1199.2.1 bt1199.2.2.1) else (laws_FnExactDivRat.j0 k t1181 bt1199.2.2.2 true a0_0 l0_1 l0_2 a1_0 l1_1 l1_2 t1174 t1175 t1178 t1183 t1184 t1187 t1191 t1192 t1195 bt1199.1 bt1199.2.1 bt1199.2.2.1)))) = some r := H
   have A23 := Aside0.mk A230
   clear A230
   replace H := Option.bind_eq_some_iff.mp H
   obtain ⟨⟨t1199, t1200, t1203, t1206⟩, A240, H⟩ := H
   replace H : ((laws_eqRat.f k t1199 t1200 t1203 t1174 t1175 t1178).bind fun t1208 => (if t1208 = true then (laws_FnExactDivRat.j0 k t1181 t1206 (t1206 != t1181) a0_0 l0_1 l0_2 a1_0 l1_1 l1_2 t1174 t1175 t1178 t1183 t1184 t1187 t1191 t1192 t1195 t1199 t1200 t1203) else (laws_FnExactDivRat.j0 k t1181 t1206 true a0_0 l0_1 l0_2 a1_0 l1_1 l1_2 t1174 t1175 t1178 t1183 t1184 t1187 t1191 t1192 t1195 t1199 t1200 t1203))) = some r := H
   have A24 := Aside0.mk A240
   clear A240
   have HC25 := Aside0.mk H
   clear H
   go_enter Try.func9, Try.ntmps9
   try go_wp2_with (first | ((with_reducible refine gate_dst (N := 2) rfl ?_); refine box_event ?hg (N := 2) ?hd (cs := #[.bool a0_0, .slice A0_1 l0_1.length c0_1, .slice A0_2 l0_2.length c0_2]) (t := 30) ?hr ?_; (case hd => rfl); (case hg => rfl); (case hr => first | (go_simp; done) | (go_simp; rfl)); intro gb1156 hg w26 hbox hb; have BK1156 := Aside0.mk (hbox); have GW1156 := geh hg HB; have GE1156 := geh hg HB; replace HB := bst HB hb; clear hb hbox hg) | ((with_reducible refine gate_dst (N := 3) rfl ?_); refine box_event ?hg (N := 3) ?hd (cs := #[.bool a1_0, .slice A1_1 l1_1.length c1_1, .slice A1_2 l1_2.length c1_2]) (t := 30) ?hr ?_; (case hd => rfl); (case hg => rfl); (case hr => first | (go_simp; done) | (go_simp; rfl)); intro gb1157 hg w27 hbox hb; have BK1157 := Aside0.mk (hbox); have GW1157 := geh hg HB; have GE1157 := geh hg HB; replace HB := bst HB hb; have NB1156_1157 := nlt hg BK1156; have NB1157_1156 := ngt hg BK1156; replace BK1156 := bkb BK1156 hb; clear hb hbox hg; have hnb28 := NB1156_1157.out; have hnc28 := NB1157_1156.out; have hcz29_0 := bce BK1156 0 (.bool a0_0); have hcz29_1 := bce BK1156 1 (.slice A0_1 l0_1.length c0_1); have hcz29_2 := bce BK1156 2 (.slice A0_2 l0_2.length c0_2); have hfz29_0 := blk_frozen BK1156.out 0; have hfz29_1 := blk_frozen BK1156.out 1; have hfz29_2 := blk_frozen BK1156.out 2) | ((with_reducible refine gate_callee (f := 20) rfl ?_); refine goesL_ (some 19) rfl rfl Try.func20 (by kernel_rfl) rfl #[.agg #[.bool a0_0, .slice A0_1 l0_1.length c0_1, .slice A0_2 l0_2.length c0_2], .int .i64 1048576] rfl (by (try simp only [List.map_toArray, List.map_cons, List.map_nil]); first | done | rfl | (simp only [List.length_drop, List.length_take]; rfl)) ?_; (with_reducible refine (laws_szRat.calls a0_0 _ _ l0_1 _ _ l0_2 1048576 t1158 _ ?side1 ?side2 ?side3 ?side4 A3.out).mono ?_); (case side1 => exact crC (Kd.C_below HR0_1.out HB.out)); (case side2 => exact HC0_1.out); (case side3 => exact crC (Kd.C_below HR0_2.out HB.out)); (case side4 => exact HC0_2.out); rintro e w30 ⟨rfl, hb⟩; refine ⟨_, rfl, ?_⟩; replace BK1156 := bkb BK1156 hb; replace BK1157 := bkb BK1157 hb; replace HB := bst HB hb; (try clear hb); (try clear hb2); (try clear hk); (try clear hi); have hcz31_0 := bce BK1157 0 (.bool a1_0); have hcz31_1 := bce BK1157 1 (.slice A1_1 l1_1.length c1_1); have hcz31_2 := bce BK1157 2 (.slice A1_2 l1_2.length c1_2); have hfz31_0 := blk_frozen BK1157.out 0; have hfz31_1 := blk_frozen BK1157.out 1; have hfz31_2 := blk_frozen BK1157.out 2) | ((with_reducible refine gate_callee (f := 20) rfl ?_); refine goesL_ (some 24) rfl rfl Try.func20 (by kernel_rfl) rfl #[.agg #[.bool a1_0, .slice A1_1 l1_1.length c1_1, .slice A1_2 l1_2.length c1_2], .int .i64 t1158] rfl (by (try simp only [List.map_toArray, List.map_cons, List.map_nil]); first | done | rfl | (simp only [List.length_drop, List.length_take]; rfl)) ?_; (with_reducible refine (laws_szRat.calls a1_0 _ _ l1_1 _ _ l1_2 t1158 t1159 _ ?side1 ?side2 ?side3 ?side4 A10.out).mono ?_); (case side1 => exact crC (Kd.C_below HR1_1.out HB.out)); (case side2 => exact HC1_1.out); (case side3 => exact crC (Kd.C_below HR1_2.out HB.out)); (case side4 => exact HC1_2.out); rintro e w32 ⟨rfl, hb⟩; refine ⟨_, rfl, ?_⟩; replace BK1156 := bkb BK1156 hb; replace BK1157 := bkb BK1157 hb; replace HB := bst HB hb; (try clear hb); (try clear hb2); (try clear hk); (try clear hi)))
   replace BK1156 := Aside0.mk (blk_drew BK1156.out)
   replace BK1157 := Aside0.mk (blk_drew BK1157.out)
   replace HB := Aside0.mk (below_drew1 HB.out)
   refine start_ (n := 11) (S := fun w' => w'.cell? ⟨gb1156, 0, none⟩ = some (.bool a0_0) ∧ w'.cell? ⟨gb1156, 1, none⟩ = some (.slice A0_1 l0_1.length c0_1) ∧ w'.cell? ⟨gb1156, 2, none⟩ = some (.slice A0_2 l0_2.length c0_2) ∧ w'.cell? ⟨gb1157, 0, none⟩ = some (.bool a1_0) ∧ w'.cell? ⟨gb1157, 1, none⟩ = some (.slice A1_1 l1_1.length c1_1) ∧ w'.cell? ⟨gb1157, 2, none⟩ = some (.slice A1_2 l1_2.length c1_2)) (ds := []) #[false, false, false, false, false, false, false, false, false, false, false] (by kernel_rfl) rfl rfl ⟨bce BK1156 0 _, bce BK1156 1 _, bce BK1156 2 _, bce BK1157 0 _, bce BK1157 1 _, bce BK1157 2 _⟩ (fun hHeld => ?_); refine with_tabW laws_FnExactDivRat.tab8 laws_FnExactDivRat.bits8 (fun HT_ HW_ => ?_)
   generalize w32.drew = w33 at BK1156 BK1157 HB hHeld ⊢
   refine take_ (i := 0) (N := some 28) (v := ?_) (a' := ?_) #[true, false, false, false, false, false, false, false, false, false, false] rfl rfl (take_ofW HT_.out HW_.out (by kernel_rfl)) (fun _ _ _ h => h) (Or.inl ⟨by rfl, ?_⟩) hHeld ?_ ?_
   rotate_left
   ·
    rintro w' ⟨s0, s1, s2, s3, s4, s5⟩
    go_simp
    with_reducible rfl
   rotate_left
   ·
    simp only [Act.put, List.setIfInBounds_toArray, List.set_cons_zero, List.set_cons_succ, i64_w, i32_w]
    rfl
   refine take_ (i := 2) (N := some 30) (v := ?_) (a' := ?_) #[true, false, true, false, false, false, false, false, false, false, false] rfl rfl (take_ofW HT_.out HW_.out (by kernel_rfl)) (fun _ _ _ h => h) (Or.inl ⟨by rfl, ?_⟩) hHeld ?_ ?_
   rotate_left
   ·
    rintro w' ⟨s0, s1, s2, s3, s4, s5⟩
    go_simp
    with_reducible rfl
   rotate_left
   ·
    simp only [Act.put, List.setIfInBounds_toArray, List.set_cons_zero, List.set_cons_succ, i64_w, i32_w]
    rfl
   refine join_ (σ := Value × Value × Value × Value × Value × Value × Nat) 2 #[true, true, true, true, true, true, true, true, true, false, false] (fun s_ => [(29, .agg #[.bool t1160, s_.1, s_.2.1]), (31, .agg #[.bool t1167, s_.2.2.1, s_.2.2.2.1]), (32, .tuple #[.agg #[.bool t1174, s_.2.2.2.2.1, s_.2.2.2.2.2.1], .int .i64 t1181]), (6, .pointer (some ⟨s_.2.2.2.2.2.2, 0, none⟩)), (27, .tuple #[.agg #[.bool t1174, s_.2.2.2.2.1, s_.2.2.2.2.2.1], .int .i64 t1181]), (33, .agg #[.bool t1174, s_.2.2.2.2.1, s_.2.2.2.2.2.1]), (34, .int .i64 t1181)]) (fun s_ w' => (w'.cell? ⟨gb1156, 0, none⟩ = some (.bool a0_0) ∧ w'.cell? ⟨gb1156, 1, none⟩ = some (.slice A0_1 l0_1.length c0_1) ∧ w'.cell? ⟨gb1156, 2, none⟩ = some (.slice A0_2 l0_2.length c0_2) ∧ w'.cell? ⟨gb1157, 0, none⟩ = some (.bool a1_0) ∧ w'.cell? ⟨gb1157, 1, none⟩ = some (.slice A1_1 l1_1.length c1_1) ∧ w'.cell? ⟨gb1157, 2, none⟩ = some (.slice A1_2 l1_2.length c1_2)) ∧ (Kd.R (Kd.int .i64) 3 w' w.heap.size (fun k_ => nO k_ s_.2.1 ∧ nO k_ s_.2.2.1 ∧ nO k_ s_.2.2.2.1 ∧ nO k_ s_.2.2.2.2.1 ∧ nO k_ s_.2.2.2.2.2.1) s_.1 t1161) ∧ (Kd.R (Kd.int .i64) 3 w' w.heap.size (fun k_ => nO k_ s_.1 ∧ nO k_ s_.2.2.1 ∧ nO k_ s_.2.2.2.1 ∧ nO k_ s_.2.2.2.2.1 ∧ nO k_ s_.2.2.2.2.2.1) s_.2.1 t1164) ∧ (Kd.R (Kd.int .i64) 3 w' w.heap.size (fun k_ => nO k_ s_.1 ∧ nO k_ s_.2.1 ∧ nO k_ s_.2.2.2.1 ∧ nO k_ s_.2.2.2.2.1 ∧ nO k_ s_.2.2.2.2.2.1) s_.2.2.1 t1168) ∧ (Kd.R (Kd.int .i64) 3 w' w.heap.size (fun k_ => nO k_ s_.1 ∧ nO k_ s_.2.1 ∧ nO k_ s_.2.2.1 ∧ nO k_ s_.2.2.2.2.1 ∧ nO k_ s_.2.2.2.2.2.1) s_.2.2.2.1 t1171) ∧ (Kd.R (Kd.int .i64) 3 w' w.heap.size (fun k_ => nO k_ s_.1 ∧ nO k_ s_.2.1 ∧ nO k_ s_.2.2.1 ∧ nO k_ s_.2.2.2.1 ∧ nO k_ s_.2.2.2.2.2.1) s_.2.2.2.2.1 t1175) ∧ (Kd.R (Kd.int .i64) 3 w' w.heap.size (fun k_ => nO k_ s_.1 ∧ nO k_ s_.2.1 ∧ nO k_ s_.2.2.1 ∧ nO k_ s_.2.2.2.1 ∧ nO k_ s_.2.2.2.2.1) s_.2.2.2.2.2.1 t1178) ∧ (w'.heap[gb1156]? = some (.cells #[.bool a0_0, .slice A0_1 l0_1.length c0_1, .slice A0_2 l0_2.length c0_2] 30 (0, 0))) ∧ (w'.heap[gb1157]? = some (.cells #[.bool a1_0, .slice A1_1 l1_1.length c1_1, .slice A1_2 l1_2.length c1_2] 30 (0, 0))) ∧ (w'.heap[s_.2.2.2.2.2.2]? = some (.cells #[.bool false, .slice none 0 0, .slice none 0 0] 24 (0, 0))) ∧ (w.heap.size ≤ s_.2.2.2.2.2.2) ∧ (w.heap.size ≤ s_.2.2.2.2.2.2) ∧ (gb1156 ≠ s_.2.2.2.2.2.2) ∧ (s_.2.2.2.2.2.2 ≠ gb1156) ∧ (gb1157 ≠ s_.2.2.2.2.2.2) ∧ (s_.2.2.2.2.2.2 ≠ gb1157) ∧ (Below w.heap.size w w')) ?_ ?_
   rotate_left
   ·
    intro hCont
    refine two_ (i := 1) (j := 8) (Ni := some 29) (Nj := some 6) #[true, true, true, false, false, false, false, false, false, false, false] #[true, false, true, false, false, false, false, false, true, false, false] rfl rfl rfl rfl (two_of HT_.out (by kernel_rfl)) (by decide) (by decide) (fun K hK => ?_) (fun K hK => ?_)
    ·
     skip
     refine goes_ Try.func22 (by kernel_rfl) rfl #[.agg #[.bool a0_0, .slice A0_1 l0_1.length c0_1, .slice A0_2 l0_2.length c0_2]] (by rfl) rfl rfl (by (try simp only [List.map_toArray, List.map_cons, List.map_nil]); first | done | rfl | (simp only [List.length_drop, List.length_take]; rfl)) ?_
     with_reducible refine (laws_toRat.calls k a0_0 _ _ l0_1 _ _ l0_2 t1160 t1161 t1164 _ ?side1 ?side2 ?side3 ?side4 A19.out).mono ?_
     (case side1 => exact crC (Kd.C_below HR0_1.out HB.out))
     (case side2 => exact HC0_1.out)
     (case side3 => exact crC (Kd.C_below HR0_2.out HB.out))
     (case side4 => exact HC0_2.out)
     rintro e w34 ⟨v1162, v1165, rfl, ho0, ho1, hb⟩
     refine ⟨_, rfl, ?_⟩
     have HO1163 := lwR ho0 HB
     have HO1166 := lwR ho1 HB
     replace BK1156 := bkb BK1156 hb
     replace BK1157 := bkb BK1157 hb
     replace HB := bst HB hb
     (try clear hb)
     (try clear hb2)
     (try clear hk)
     (try clear hi)
     (try clear ho0)
     (try clear ho1)
     refine hK.out _ _ ⟨bce BK1156 0 _, bce BK1156 1 _, bce BK1156 2 _, bce BK1157 0 _, bce BK1157 1 _, bce BK1157 2 _⟩ (fun hHeld => ?_)
     clear hK K
     refine norm_ (a' := ?_) ?_ ?_
     rotate_left
     ·
      show Act.put _ (some 29) _ = _
      simp only [Act.put, List.setIfInBounds_toArray, List.set_cons_zero, List.set_cons_succ, i64_w, i32_w]
      rfl
     refine two_ (i := 3) (j := 8) (Ni := some 31) (Nj := some 6) #[true, true, true, true, false, false, false, false, false, false, false] #[true, true, true, false, false, false, false, false, true, false, false] rfl rfl rfl rfl (two_of HT_.out (by kernel_rfl)) (by decide) (by decide) (fun K hK => ?_) (fun K hK => ?_)
     ·
      skip
      refine goes_ Try.func22 (by kernel_rfl) rfl #[.agg #[.bool a1_0, .slice A1_1 l1_1.length c1_1, .slice A1_2 l1_2.length c1_2]] (by rfl) rfl rfl (by (try simp only [List.map_toArray, List.map_cons, List.map_nil]); first | done | rfl | (simp only [List.length_drop, List.length_take]; rfl)) ?_
      with_reducible refine (laws_toRat.calls k a1_0 _ _ l1_1 _ _ l1_2 t1167 t1168 t1171 _ ?side1 ?side2 ?side3 ?side4 A20.out).mono ?_
      (case side1 => exact crC (Kd.C_below HR1_1.out HB.out))
      (case side2 => exact HC1_1.out)
      (case side3 => exact crC (Kd.C_below HR1_2.out HB.out))
      (case side4 => exact HC1_2.out)
      rintro e w35 ⟨v1169, v1172, rfl, ho0, ho1, hb⟩
      refine ⟨_, rfl, ?_⟩
      have HO1170 := lwR (nwR (nwR ho0 HO1163) HO1166) HB
      have HO1173 := lwR (nwR (nwR ho1 HO1163) HO1166) HB
      replace HO1163 := tldR HO1163 hb (Kd.R_base ho0) (Kd.R_base ho1)
      replace HO1166 := tldR HO1166 hb (Kd.R_base ho0) (Kd.R_base ho1)
      replace BK1156 := bkb BK1156 hb
      replace BK1157 := bkb BK1157 hb
      replace HB := bst HB hb
      (try clear hb)
      (try clear hb2)
      (try clear hk)
      (try clear hi)
      (try clear ho0)
      (try clear ho1)
      obtain ⟨Ao36, co36, eo36⟩ := Kd.R_slice HO1163.out
      (first | subst eo36 | (injection eo36 with f1_ f2_ f3_; have f4_ := f1_.symm; have f5_ := f3_.symm; clear f1_ f2_ f3_; subst f4_; subst f5_))
      obtain ⟨Ao37, co37, eo37⟩ := Kd.R_slice HO1166.out
      (first | subst eo37 | (injection eo37 with f1_ f2_ f3_; have f4_ := f1_.symm; have f5_ := f3_.symm; clear f1_ f2_ f3_; subst f4_; subst f5_))
      obtain ⟨Ao38, co38, eo38⟩ := Kd.R_slice HO1170.out
      (first | subst eo38 | (injection eo38 with f1_ f2_ f3_; have f4_ := f1_.symm; have f5_ := f3_.symm; clear f1_ f2_ f3_; subst f4_; subst f5_))
      obtain ⟨Ao39, co39, eo39⟩ := Kd.R_slice HO1173.out
      (first | subst eo39 | (injection eo39 with f1_ f2_ f3_; have f4_ := f1_.symm; have f5_ := f3_.symm; clear f1_ f2_ f3_; subst f4_; subst f5_))
      refine hK.out _ _ ⟨bce BK1156 0 _, bce BK1156 1 _, bce BK1156 2 _, bce BK1157 0 _, bce BK1157 1 _, bce BK1157 2 _⟩ (fun hHeld => ?_)
      clear hK K
      refine norm_ (a' := ?_) ?_ ?_
      rotate_left
      ·
       show Act.put _ (some 31) _ = _
       simp only [Act.put, List.setIfInBounds_toArray, List.set_cons_zero, List.set_cons_succ, i64_w, i32_w]
       rfl
      refine two_ (i := 4) (j := 8) (Ni := some 32) (Nj := some 6) #[true, true, true, true, true, false, false, false, false, false, false] #[true, true, true, true, false, false, false, false, true, false, false] rfl rfl rfl rfl (two_of HT_.out (by kernel_rfl)) (by decide) (by decide) (fun K hK => ?_) (fun K hK => ?_)
      ·
       skip
       refine goes_ Try.func32 (by kernel_rfl) rfl #[.agg #[.bool t1160, .slice Ao36 t1161.length co36, .slice Ao37 t1164.length co37], .agg #[.bool t1167, .slice Ao38 t1168.length co38, .slice Ao39 t1171.length co39]] (by rfl) rfl rfl (by (try simp only [List.map_toArray, List.map_cons, List.map_nil]); first | done | rfl | (simp only [List.length_drop, List.length_take]; rfl)) ?_
       with_reducible refine (spec_DivRat.calls k t1160 _ _ t1161 _ _ t1164 t1167 _ _ t1168 _ _ t1171 t1174 t1175 t1178 t1181 _ ?side1 ?side2 ?side3 ?side4 ?side5 ?side6 ?side7 ?side8 A21.out).mono ?_
       (case side1 => exact crC (Kd.R_reads' HO1163.out).2.2)
       (case side2 => exact (Kd.R_reads' HO1163.out).2.1)
       (case side3 => exact crC (Kd.R_reads' HO1166.out).2.2)
       (case side4 => exact (Kd.R_reads' HO1166.out).2.1)
       (case side5 => exact crC (Kd.R_reads' HO1170.out).2.2)
       (case side6 => exact (Kd.R_reads' HO1170.out).2.1)
       (case side7 => exact crC (Kd.R_reads' HO1173.out).2.2)
       (case side8 => exact (Kd.R_reads' HO1173.out).2.1)
       rintro e w40 ⟨v1176, v1179, rfl, ho0, ho1, hb⟩
       refine ⟨_, rfl, ?_⟩
       have HO1177 := lwR (nwR (nwR (nwR (nwR ho0 HO1163) HO1166) HO1170) HO1173) HB
       have HO1180 := lwR (nwR (nwR (nwR (nwR ho1 HO1163) HO1166) HO1170) HO1173) HB
       replace HO1163 := tldR HO1163 hb (Kd.R_base ho0) (Kd.R_base ho1)
       replace HO1166 := tldR HO1166 hb (Kd.R_base ho0) (Kd.R_base ho1)
       replace HO1170 := tldR HO1170 hb (Kd.R_base ho0) (Kd.R_base ho1)
       replace HO1173 := tldR HO1173 hb (Kd.R_base ho0) (Kd.R_base ho1)
       replace BK1156 := bkb BK1156 hb
       replace BK1157 := bkb BK1157 hb
       replace HB := bst HB hb
       (try clear hb)
       (try clear hb2)
       (try clear hk)
       (try clear hi)
       (try clear ho0)
       (try clear ho1)
       refine hK.out _ _ ⟨bce BK1156 0 _, bce BK1156 1 _, bce BK1156 2 _, bce BK1157 0 _, bce BK1157 1 _, bce BK1157 2 _⟩ (fun hHeld => ?_)
       clear hK K
       refine norm_ (a' := ?_) ?_ ?_
       rotate_left
       ·
        show Act.put _ (some 32) _ = _
        simp only [Act.put, List.setIfInBounds_toArray, List.set_cons_zero, List.set_cons_succ, i64_w, i32_w]
        rfl
       refine pure_ (i := 5) (N := some 27) (v := ?_) (a' := ?_) #[true, true, true, true, true, true, false, false, false, false, false] rfl rfl (any_of HT_.out (by kernel_rfl)) (fun _ _ _ h => h) (Or.inl ⟨by rfl, ?_⟩) ?_ ?_
       rotate_left
       ·
        intro w'
        go_simp
        with_reducible rfl
       rotate_left
       ·
        simp only [Act.put, List.setIfInBounds_toArray, List.set_cons_zero, List.set_cons_succ, i64_w, i32_w]
        rfl
       refine pure_ (i := 6) (N := some 33) (v := ?_) (a' := ?_) #[true, true, true, true, true, true, true, false, false, false, false] rfl rfl (any_of HT_.out (by kernel_rfl)) (fun _ _ _ h => h) (Or.inl ⟨by rfl, ?_⟩) ?_ ?_
       rotate_left
       ·
        intro w'
        go_simp
        with_reducible rfl
       rotate_left
       ·
        simp only [Act.put, List.setIfInBounds_toArray, List.set_cons_zero, List.set_cons_succ, i64_w, i32_w]
        rfl
       refine pure_ (i := 7) (N := some 34) (v := ?_) (a' := ?_) #[true, true, true, true, true, true, true, true, false, false, false] rfl rfl (any_of HT_.out (by kernel_rfl)) (fun _ _ _ h => h) (Or.inl ⟨by rfl, ?_⟩) ?_ ?_
       rotate_left
       ·
        intro w'
        go_simp
        with_reducible rfl
       rotate_left
       ·
        simp only [Act.put, List.setIfInBounds_toArray, List.set_cons_zero, List.set_cons_succ, i64_w, i32_w]
        rfl
       refine one_ (i := 8) (N := some 6) #[true, true, true, true, true, true, true, true, true, false, false] rfl rfl (one_of HT_.out (by kernel_rfl)) (by decide) (fun K hK => ?_)
       refine box_step ?hg (N := 6) ?hd (cs := #[.bool false, .slice none 0 0, .slice none 0 0]) (t := 24) ?hr ?_; (case hd => rfl); (case hg => rfl); (case hr => first | (go_simp; done) | (go_simp; rfl))
       intro gb1182 hg w41 hbox hb
       replace HO1163 := rblR HO1163 hb
       replace HO1166 := rblR HO1166 hb
       replace HO1170 := rblR HO1170 hb
       replace HO1173 := rblR HO1173 hb
       replace HO1177 := rblR HO1177 hb
       replace HO1180 := rblR HO1180 hb
       have BK1182 := Aside0.mk (hbox)
       have GW1182 := geh hg HB
       have GE1182 := geh hg HB
       replace HB := bst HB hb
       have NB1156_1182 := nlt hg BK1156
       have NB1182_1156 := ngt hg BK1156
       replace BK1156 := bkb BK1156 hb
       have NB1157_1182 := nlt hg BK1157
       have NB1182_1157 := ngt hg BK1157
       replace BK1157 := bkb BK1157 hb
       clear hb hbox hg
       refine hK.out _ _ ⟨bce BK1156 0 _, bce BK1156 1 _, bce BK1156 2 _, bce BK1157 0 _, bce BK1157 1 _, bce BK1157 2 _⟩ (fun hHeld => ?_)
       clear hK K
       refine norm_ (a' := ?_) ?_ ?_
       rotate_left
       ·
        show Act.put _ (some 6) _ = _
        simp only [Act.put, List.setIfInBounds_toArray, List.set_cons_zero, List.set_cons_succ, i64_w, i32_w]
        rfl
       exact norm_ (by simp only [putAll, Act.put, List.setIfInBounds_toArray, List.set_cons_zero, List.set_cons_succ]) (hCont (.slice Ao36 t1161.length co36, .slice Ao37 t1164.length co37, .slice Ao38 t1168.length co38, .slice Ao39 t1171.length co39, v1176, v1179, gb1182) _ ⟨hHeld, (crM HO1163 fun _ hk => ⟨hk.1.1.1.1, hk.1.1.1.2, hk.1.1.2, hk.1.2, hk.2⟩), (crM HO1166 fun _ hk => ⟨hk.1.1.1.1, hk.1.1.1.2, hk.1.1.2, hk.1.2, hk.2⟩), (crM HO1170 fun _ hk => ⟨hk.1.1.1.2, hk.1.1.2, hk.1.1.1.1, hk.1.2, hk.2⟩), (crM HO1173 fun _ hk => ⟨hk.1.1.1.2, hk.1.1.2, hk.1.1.1.1, hk.1.2, hk.2⟩), (crM HO1177 fun _ hk => ⟨hk.1.1.1.2, hk.1.1.2, hk.1.2, hk.2, hk.1.1.1.1⟩), (crM HO1180 fun _ hk => ⟨hk.1.1.1.2, hk.1.1.2, hk.1.2, hk.2, hk.1.1.1.1⟩), (crb BK1156), (crb BK1157), (crb BK1182), GW1182.out, GE1182.out, NB1156_1182.out, NB1182_1156.out, NB1157_1182.out, NB1182_1157.out, (blw HB)⟩)
      ·
       skip
       refine box_step ?hg (N := 6) ?hd (cs := #[.bool false, .slice none 0 0, .slice none 0 0]) (t := 24) ?hr ?_; (case hd => rfl); (case hg => rfl); (case hr => first | (go_simp; done) | (go_simp; rfl))
       intro gb1182 hg w36 hbox hb
       replace HO1163 := rblR HO1163 hb
       replace HO1166 := rblR HO1166 hb
       replace HO1170 := rblR HO1170 hb
       replace HO1173 := rblR HO1173 hb
       have BK1182 := Aside0.mk (hbox)
       have GW1182 := geh hg HB
       have GE1182 := geh hg HB
       replace HB := bst HB hb
       have NB1156_1182 := nlt hg BK1156
       have NB1182_1156 := ngt hg BK1156
       replace BK1156 := bkb BK1156 hb
       have NB1157_1182 := nlt hg BK1157
       have NB1182_1157 := ngt hg BK1157
       replace BK1157 := bkb BK1157 hb
       clear hb hbox hg
       obtain ⟨Ao37, co37, eo37⟩ := Kd.R_slice HO1163.out
       (first | subst eo37 | (injection eo37 with f1_ f2_ f3_; have f4_ := f1_.symm; have f5_ := f3_.symm; clear f1_ f2_ f3_; subst f4_; subst f5_))
       obtain ⟨Ao38, co38, eo38⟩ := Kd.R_slice HO1166.out
       (first | subst eo38 | (injection eo38 with f1_ f2_ f3_; have f4_ := f1_.symm; have f5_ := f3_.symm; clear f1_ f2_ f3_; subst f4_; subst f5_))
       obtain ⟨Ao39, co39, eo39⟩ := Kd.R_slice HO1170.out
       (first | subst eo39 | (injection eo39 with f1_ f2_ f3_; have f4_ := f1_.symm; have f5_ := f3_.symm; clear f1_ f2_ f3_; subst f4_; subst f5_))
       obtain ⟨Ao40, co40, eo40⟩ := Kd.R_slice HO1173.out
       (first | subst eo40 | (injection eo40 with f1_ f2_ f3_; have f4_ := f1_.symm; have f5_ := f3_.symm; clear f1_ f2_ f3_; subst f4_; subst f5_))
       refine hK.out _ _ ⟨bce BK1156 0 _, bce BK1156 1 _, bce BK1156 2 _, bce BK1157 0 _, bce BK1157 1 _, bce BK1157 2 _⟩ (fun hHeld => ?_)
       clear hK K
       refine norm_ (a' := ?_) ?_ ?_
       rotate_left
       ·
        show Act.put _ (some 6) _ = _
        simp only [Act.put, List.setIfInBounds_toArray, List.set_cons_zero, List.set_cons_succ, i64_w, i32_w]
        rfl
       refine one_ (i := 4) (N := some 32) #[true, true, true, true, true, false, false, false, true, false, false] rfl rfl (one_of HT_.out (by kernel_rfl)) (by decide) (fun K hK => ?_)
       refine goes_ Try.func32 (by kernel_rfl) rfl #[.agg #[.bool t1160, .slice Ao37 t1161.length co37, .slice Ao38 t1164.length co38], .agg #[.bool t1167, .slice Ao39 t1168.length co39, .slice Ao40 t1171.length co40]] (by rfl) rfl rfl (by (try simp only [List.map_toArray, List.map_cons, List.map_nil]); first | done | rfl | (simp only [List.length_drop, List.length_take]; rfl)) ?_
       with_reducible refine (spec_DivRat.calls k t1160 _ _ t1161 _ _ t1164 t1167 _ _ t1168 _ _ t1171 t1174 t1175 t1178 t1181 _ ?side1 ?side2 ?side3 ?side4 ?side5 ?side6 ?side7 ?side8 A21.out).mono ?_
       (case side1 => exact crC (Kd.R_reads' HO1163.out).2.2)
       (case side2 => exact (Kd.R_reads' HO1163.out).2.1)
       (case side3 => exact crC (Kd.R_reads' HO1166.out).2.2)
       (case side4 => exact (Kd.R_reads' HO1166.out).2.1)
       (case side5 => exact crC (Kd.R_reads' HO1170.out).2.2)
       (case side6 => exact (Kd.R_reads' HO1170.out).2.1)
       (case side7 => exact crC (Kd.R_reads' HO1173.out).2.2)
       (case side8 => exact (Kd.R_reads' HO1173.out).2.1)
       rintro e w41 ⟨v1176, v1179, rfl, ho0, ho1, hb⟩
       refine ⟨_, rfl, ?_⟩
       have HO1177 := lwR (nwR (nwR (nwR (nwR ho0 HO1163) HO1166) HO1170) HO1173) HB
       have HO1180 := lwR (nwR (nwR (nwR (nwR ho1 HO1163) HO1166) HO1170) HO1173) HB
       replace HO1163 := tldR HO1163 hb (Kd.R_base ho0) (Kd.R_base ho1)
       replace HO1166 := tldR HO1166 hb (Kd.R_base ho0) (Kd.R_base ho1)
       replace HO1170 := tldR HO1170 hb (Kd.R_base ho0) (Kd.R_base ho1)
       replace HO1173 := tldR HO1173 hb (Kd.R_base ho0) (Kd.R_base ho1)
       replace BK1156 := bkb BK1156 hb
       replace BK1157 := bkb BK1157 hb
       replace BK1182 := bkb BK1182 hb
       replace HB := bst HB hb
       (try clear hb)
       (try clear hb2)
       (try clear hk)
       (try clear hi)
       (try clear ho0)
       (try clear ho1)
       refine hK.out _ _ ⟨bce BK1156 0 _, bce BK1156 1 _, bce BK1156 2 _, bce BK1157 0 _, bce BK1157 1 _, bce BK1157 2 _⟩ (fun hHeld => ?_)
       clear hK K
       refine norm_ (a' := ?_) ?_ ?_
       rotate_left
       ·
        show Act.put _ (some 32) _ = _
        simp only [Act.put, List.setIfInBounds_toArray, List.set_cons_zero, List.set_cons_succ, i64_w, i32_w]
        rfl
       refine pure_ (i := 5) (N := some 27) (v := ?_) (a' := ?_) #[true, true, true, true, true, true, false, false, true, false, false] rfl rfl (any_of HT_.out (by kernel_rfl)) (fun _ _ _ h => h) (Or.inl ⟨by rfl, ?_⟩) ?_ ?_
       rotate_left
       ·
        intro w'
        go_simp
        with_reducible rfl
       rotate_left
       ·
        simp only [Act.put, List.setIfInBounds_toArray, List.set_cons_zero, List.set_cons_succ, i64_w, i32_w]
        rfl
       refine pure_ (i := 6) (N := some 33) (v := ?_) (a' := ?_) #[true, true, true, true, true, true, true, false, true, false, false] rfl rfl (any_of HT_.out (by kernel_rfl)) (fun _ _ _ h => h) (Or.inl ⟨by rfl, ?_⟩) ?_ ?_
       rotate_left
       ·
        intro w'
        go_simp
        with_reducible rfl
       rotate_left
       ·
        simp only [Act.put, List.setIfInBounds_toArray, List.set_cons_zero, List.set_cons_succ, i64_w, i32_w]
        rfl
       refine pure_ (i := 7) (N := some 34) (v := ?_) (a' := ?_) #[true, true, true, true, true, true, true, true, true, false, false] rfl rfl (any_of HT_.out (by kernel_rfl)) (fun _ _ _ h => h) (Or.inl ⟨by rfl, ?_⟩) ?_ ?_
       rotate_left
       ·
        intro w'
        go_simp
        with_reducible rfl
       rotate_left
       ·
        simp only [Act.put, List.setIfInBounds_toArray, List.set_cons_zero, List.set_cons_succ, i64_w, i32_w]
        rfl
       exact norm_ (by simp only [putAll, Act.put, List.setIfInBounds_toArray, List.set_cons_zero, List.set_cons_succ]) (hCont (.slice Ao37 t1161.length co37, .slice Ao38 t1164.length co38, .slice Ao39 t1168.length co39, .slice Ao40 t1171.length co40, v1176, v1179, gb1182) _ ⟨hHeld, (crM HO1163 fun _ hk => ⟨hk.1.1.1.1, hk.1.1.1.2, hk.1.1.2, hk.1.2, hk.2⟩), (crM HO1166 fun _ hk => ⟨hk.1.1.1.1, hk.1.1.1.2, hk.1.1.2, hk.1.2, hk.2⟩), (crM HO1170 fun _ hk => ⟨hk.1.1.1.2, hk.1.1.2, hk.1.1.1.1, hk.1.2, hk.2⟩), (crM HO1173 fun _ hk => ⟨hk.1.1.1.2, hk.1.1.2, hk.1.1.1.1, hk.1.2, hk.2⟩), (crM HO1177 fun _ hk => ⟨hk.1.1.1.2, hk.1.1.2, hk.1.2, hk.2, hk.1.1.1.1⟩), (crM HO1180 fun _ hk => ⟨hk.1.1.1.2, hk.1.1.2, hk.1.2, hk.2, hk.1.1.1.1⟩), (crb BK1156), (crb BK1157), (crb BK1182), GW1182.out, GE1182.out, NB1156_1182.out, NB1182_1156.out, NB1157_1182.out, NB1182_1157.out, (blw HB)⟩)
     ·
      skip
      refine box_step ?hg (N := 6) ?hd (cs := #[.bool false, .slice none 0 0, .slice none 0 0]) (t := 24) ?hr ?_; (case hd => rfl); (case hg => rfl); (case hr => first | (go_simp; done) | (go_simp; rfl))
      intro gb1182 hg w35 hbox hb
      replace HO1163 := rblR HO1163 hb
      replace HO1166 := rblR HO1166 hb
      have BK1182 := Aside0.mk (hbox)
      have GW1182 := geh hg HB
      have GE1182 := geh hg HB
      replace HB := bst HB hb
      have NB1156_1182 := nlt hg BK1156
      have NB1182_1156 := ngt hg BK1156
      replace BK1156 := bkb BK1156 hb
      have NB1157_1182 := nlt hg BK1157
      have NB1182_1157 := ngt hg BK1157
      replace BK1157 := bkb BK1157 hb
      clear hb hbox hg
      refine hK.out _ _ ⟨bce BK1156 0 _, bce BK1156 1 _, bce BK1156 2 _, bce BK1157 0 _, bce BK1157 1 _, bce BK1157 2 _⟩ (fun hHeld => ?_)
      clear hK K
      refine norm_ (a' := ?_) ?_ ?_
      rotate_left
      ·
       show Act.put _ (some 6) _ = _
       simp only [Act.put, List.setIfInBounds_toArray, List.set_cons_zero, List.set_cons_succ, i64_w, i32_w]
       rfl
      refine one_ (i := 3) (N := some 31) #[true, true, true, true, false, false, false, false, true, false, false] rfl rfl (one_of HT_.out (by kernel_rfl)) (by decide) (fun K hK => ?_)
      refine goes_ Try.func22 (by kernel_rfl) rfl #[.agg #[.bool a1_0, .slice A1_1 l1_1.length c1_1, .slice A1_2 l1_2.length c1_2]] (by rfl) rfl rfl (by (try simp only [List.map_toArray, List.map_cons, List.map_nil]); first | done | rfl | (simp only [List.length_drop, List.length_take]; rfl)) ?_
      with_reducible refine (laws_toRat.calls k a1_0 _ _ l1_1 _ _ l1_2 t1167 t1168 t1171 _ ?side1 ?side2 ?side3 ?side4 A20.out).mono ?_
      (case side1 => exact crC (Kd.C_below HR1_1.out HB.out))
      (case side2 => exact HC1_1.out)
      (case side3 => exact crC (Kd.C_below HR1_2.out HB.out))
      (case side4 => exact HC1_2.out)
      rintro e w36 ⟨v1169, v1172, rfl, ho0, ho1, hb⟩
      refine ⟨_, rfl, ?_⟩
      have HO1170 := lwR (nwR (nwR ho0 HO1163) HO1166) HB
      have HO1173 := lwR (nwR (nwR ho1 HO1163) HO1166) HB
      replace HO1163 := tldR HO1163 hb (Kd.R_base ho0) (Kd.R_base ho1)
      replace HO1166 := tldR HO1166 hb (Kd.R_base ho0) (Kd.R_base ho1)
      replace BK1156 := bkb BK1156 hb
      replace BK1157 := bkb BK1157 hb
      replace BK1182 := bkb BK1182 hb
      replace HB := bst HB hb
      (try clear hb)
      (try clear hb2)
      (try clear hk)
      (try clear hi)
      (try clear ho0)
      (try clear ho1)
      obtain ⟨Ao37, co37, eo37⟩ := Kd.R_slice HO1163.out
      (first | subst eo37 | (injection eo37 with f1_ f2_ f3_; have f4_ := f1_.symm; have f5_ := f3_.symm; clear f1_ f2_ f3_; subst f4_; subst f5_))
      obtain ⟨Ao38, co38, eo38⟩ := Kd.R_slice HO1166.out
      (first | subst eo38 | (injection eo38 with f1_ f2_ f3_; have f4_ := f1_.symm; have f5_ := f3_.symm; clear f1_ f2_ f3_; subst f4_; subst f5_))
      obtain ⟨Ao39, co39, eo39⟩ := Kd.R_slice HO1170.out
      (first | subst eo39 | (injection eo39 with f1_ f2_ f3_; have f4_ := f1_.symm; have f5_ := f3_.symm; clear f1_ f2_ f3_; subst f4_; subst f5_))
      obtain ⟨Ao40, co40, eo40⟩ := Kd.R_slice HO1173.out
      (first | subst eo40 | (injection eo40 with f1_ f2_ f3_; have f4_ := f1_.symm; have f5_ := f3_.symm; clear f1_ f2_ f3_; subst f4_; subst f5_))
      refine hK.out _ _ ⟨bce BK1156 0 _, bce BK1156 1 _, bce BK1156 2 _, bce BK1157 0 _, bce BK1157 1 _, bce BK1157 2 _⟩ (fun hHeld => ?_)
      clear hK K
      refine norm_ (a' := ?_) ?_ ?_
      rotate_left
      ·
       show Act.put _ (some 31) _ = _
       simp only [Act.put, List.setIfInBounds_toArray, List.set_cons_zero, List.set_cons_succ, i64_w, i32_w]
       rfl
      refine one_ (i := 4) (N := some 32) #[true, true, true, true, true, false, false, false, true, false, false] rfl rfl (one_of HT_.out (by kernel_rfl)) (by decide) (fun K hK => ?_)
      refine goes_ Try.func32 (by kernel_rfl) rfl #[.agg #[.bool t1160, .slice Ao37 t1161.length co37, .slice Ao38 t1164.length co38], .agg #[.bool t1167, .slice Ao39 t1168.length co39, .slice Ao40 t1171.length co40]] (by rfl) rfl rfl (by (try simp only [List.map_toArray, List.map_cons, List.map_nil]); first | done | rfl | (simp only [List.length_drop, List.length_take]; rfl)) ?_
      with_reducible refine (spec_DivRat.calls k t1160 _ _ t1161 _ _ t1164 t1167 _ _ t1168 _ _ t1171 t1174 t1175 t1178 t1181 _ ?side1 ?side2 ?side3 ?side4 ?side5 ?side6 ?side7 ?side8 A21.out).mono ?_
      (case side1 => exact crC (Kd.R_reads' HO1163.out).2.2)
      (case side2 => exact (Kd.R_reads' HO1163.out).2.1)
      (case side3 => exact crC (Kd.R_reads' HO1166.out).2.2)
      (case side4 => exact (Kd.R_reads' HO1166.out).2.1)
      (case side5 => exact crC (Kd.R_reads' HO1170.out).2.2)
      (case side6 => exact (Kd.R_reads' HO1170.out).2.1)
      (case side7 => exact crC (Kd.R_reads' HO1173.out).2.2)
      (case side8 => exact (Kd.R_reads' HO1173.out).2.1)
      rintro e w41 ⟨v1176, v1179, rfl, ho0, ho1, hb⟩
      refine ⟨_, rfl, ?_⟩
      have HO1177 := lwR (nwR (nwR (nwR (nwR ho0 HO1163) HO1166) HO1170) HO1173) HB
      have HO1180 := lwR (nwR (nwR (nwR (nwR ho1 HO1163) HO1166) HO1170) HO1173) HB
      replace HO1163 := tldR HO1163 hb (Kd.R_base ho0) (Kd.R_base ho1)
      replace HO1166 := tldR HO1166 hb (Kd.R_base ho0) (Kd.R_base ho1)
      replace HO1170 := tldR HO1170 hb (Kd.R_base ho0) (Kd.R_base ho1)
      replace HO1173 := tldR HO1173 hb (Kd.R_base ho0) (Kd.R_base ho1)
      replace BK1156 := bkb BK1156 hb
      replace BK1157 := bkb BK1157 hb
      replace BK1182 := bkb BK1182 hb
      replace HB := bst HB hb
      (try clear hb)
      (try clear hb2)
      (try clear hk)
      (try clear hi)
      (try clear ho0)
      (try clear ho1)
      refine hK.out _ _ ⟨bce BK1156 0 _, bce BK1156 1 _, bce BK1156 2 _, bce BK1157 0 _, bce BK1157 1 _, bce BK1157 2 _⟩ (fun hHeld => ?_)
      clear hK K
      refine norm_ (a' := ?_) ?_ ?_
      rotate_left
      ·
       show Act.put _ (some 32) _ = _
       simp only [Act.put, List.setIfInBounds_toArray, List.set_cons_zero, List.set_cons_succ, i64_w, i32_w]
       rfl
      refine pure_ (i := 5) (N := some 27) (v := ?_) (a' := ?_) #[true, true, true, true, true, true, false, false, true, false, false] rfl rfl (any_of HT_.out (by kernel_rfl)) (fun _ _ _ h => h) (Or.inl ⟨by rfl, ?_⟩) ?_ ?_
      rotate_left
      ·
       intro w'
       go_simp
       with_reducible rfl
      rotate_left
      ·
       simp only [Act.put, List.setIfInBounds_toArray, List.set_cons_zero, List.set_cons_succ, i64_w, i32_w]
       rfl
      refine pure_ (i := 6) (N := some 33) (v := ?_) (a' := ?_) #[true, true, true, true, true, true, true, false, true, false, false] rfl rfl (any_of HT_.out (by kernel_rfl)) (fun _ _ _ h => h) (Or.inl ⟨by rfl, ?_⟩) ?_ ?_
      rotate_left
      ·
       intro w'
       go_simp
       with_reducible rfl
      rotate_left
      ·
       simp only [Act.put, List.setIfInBounds_toArray, List.set_cons_zero, List.set_cons_succ, i64_w, i32_w]
       rfl
      refine pure_ (i := 7) (N := some 34) (v := ?_) (a' := ?_) #[true, true, true, true, true, true, true, true, true, false, false] rfl rfl (any_of HT_.out (by kernel_rfl)) (fun _ _ _ h => h) (Or.inl ⟨by rfl, ?_⟩) ?_ ?_
      rotate_left
      ·
       intro w'
       go_simp
       with_reducible rfl
      rotate_left
      ·
       simp only [Act.put, List.setIfInBounds_toArray, List.set_cons_zero, List.set_cons_succ, i64_w, i32_w]
       rfl
      exact norm_ (by simp only [putAll, Act.put, List.setIfInBounds_toArray, List.set_cons_zero, List.set_cons_succ]) (hCont (.slice Ao37 t1161.length co37, .slice Ao38 t1164.length co38, .slice Ao39 t1168.length co39, .slice Ao40 t1171.length co40, v1176, v1179, gb1182) _ ⟨hHeld, (crM HO1163 fun _ hk => ⟨hk.1.1.1.1, hk.1.1.1.2, hk.1.1.2, hk.1.2, hk.2⟩), (crM HO1166 fun _ hk => ⟨hk.1.1.1.1, hk.1.1.1.2, hk.1.1.2, hk.1.2, hk.2⟩), (crM HO1170 fun _ hk => ⟨hk.1.1.1.2, hk.1.1.2, hk.1.1.1.1, hk.1.2, hk.2⟩), (crM HO1173 fun _ hk => ⟨hk.1.1.1.2, hk.1.1.2, hk.1.1.1.1, hk.1.2, hk.2⟩), (crM HO1177 fun _ hk => ⟨hk.1.1.1.2, hk.1.1.2, hk.1.2, hk.2, hk.1.1.1.1⟩), (crM HO1180 fun _ hk => ⟨hk.1.1.1.2, hk.1.1.2, hk.1.2, hk.2, hk.1.1.1.1⟩), (crb BK1156), (crb BK1157), (crb BK1182), GW1182.out, GE1182.out, NB1156_1182.out, NB1182_1156.out, NB1157_1182.out, NB1182_1157.out, (blw HB)⟩)
    ·
     skip
     refine box_step ?hg (N := 6) ?hd (cs := #[.bool false, .slice none 0 0, .slice none 0 0]) (t := 24) ?hr ?_; (case hd => rfl); (case hg => rfl); (case hr => first | (go_simp; done) | (go_simp; rfl))
     intro gb1182 hg w34 hbox hb
     have BK1182 := Aside0.mk (hbox)
     have GW1182 := geh hg HB
     have GE1182 := geh hg HB
     replace HB := bst HB hb
     have NB1156_1182 := nlt hg BK1156
     have NB1182_1156 := ngt hg BK1156
     replace BK1156 := bkb BK1156 hb
     have NB1157_1182 := nlt hg BK1157
     have NB1182_1157 := ngt hg BK1157
     replace BK1157 := bkb BK1157 hb
     clear hb hbox hg
     refine hK.out _ _ ⟨bce BK1156 0 _, bce BK1156 1 _, bce BK1156 2 _, bce BK1157 0 _, bce BK1157 1 _, bce BK1157 2 _⟩ (fun hHeld => ?_)
     clear hK K
     refine norm_ (a' := ?_) ?_ ?_
     rotate_left
     ·
      show Act.put _ (some 6) _ = _
      simp only [Act.put, List.setIfInBounds_toArray, List.set_cons_zero, List.set_cons_succ, i64_w, i32_w]
      rfl
     refine one_ (i := 1) (N := some 29) #[true, true, true, false, false, false, false, false, true, false, false] rfl rfl (one_of HT_.out (by kernel_rfl)) (by decide) (fun K hK => ?_)
     refine goes_ Try.func22 (by kernel_rfl) rfl #[.agg #[.bool a0_0, .slice A0_1 l0_1.length c0_1, .slice A0_2 l0_2.length c0_2]] (by rfl) rfl rfl (by (try simp only [List.map_toArray, List.map_cons, List.map_nil]); first | done | rfl | (simp only [List.length_drop, List.length_take]; rfl)) ?_
     with_reducible refine (laws_toRat.calls k a0_0 _ _ l0_1 _ _ l0_2 t1160 t1161 t1164 _ ?side1 ?side2 ?side3 ?side4 A19.out).mono ?_
     (case side1 => exact crC (Kd.C_below HR0_1.out HB.out))
     (case side2 => exact HC0_1.out)
     (case side3 => exact crC (Kd.C_below HR0_2.out HB.out))
     (case side4 => exact HC0_2.out)
     rintro e w35 ⟨v1162, v1165, rfl, ho0, ho1, hb⟩
     refine ⟨_, rfl, ?_⟩
     have HO1163 := lwR ho0 HB
     have HO1166 := lwR ho1 HB
     replace BK1156 := bkb BK1156 hb
     replace BK1157 := bkb BK1157 hb
     replace BK1182 := bkb BK1182 hb
     replace HB := bst HB hb
     (try clear hb)
     (try clear hb2)
     (try clear hk)
     (try clear hi)
     (try clear ho0)
     (try clear ho1)
     refine hK.out _ _ ⟨bce BK1156 0 _, bce BK1156 1 _, bce BK1156 2 _, bce BK1157 0 _, bce BK1157 1 _, bce BK1157 2 _⟩ (fun hHeld => ?_)
     clear hK K
     refine norm_ (a' := ?_) ?_ ?_
     rotate_left
     ·
      show Act.put _ (some 29) _ = _
      simp only [Act.put, List.setIfInBounds_toArray, List.set_cons_zero, List.set_cons_succ, i64_w, i32_w]
      rfl
     refine one_ (i := 3) (N := some 31) #[true, true, true, true, false, false, false, false, true, false, false] rfl rfl (one_of HT_.out (by kernel_rfl)) (by decide) (fun K hK => ?_)
     refine goes_ Try.func22 (by kernel_rfl) rfl #[.agg #[.bool a1_0, .slice A1_1 l1_1.length c1_1, .slice A1_2 l1_2.length c1_2]] (by rfl) rfl rfl (by (try simp only [List.map_toArray, List.map_cons, List.map_nil]); first | done | rfl | (simp only [List.length_drop, List.length_take]; rfl)) ?_
     with_reducible refine (laws_toRat.calls k a1_0 _ _ l1_1 _ _ l1_2 t1167 t1168 t1171 _ ?side1 ?side2 ?side3 ?side4 A20.out).mono ?_
     (case side1 => exact crC (Kd.C_below HR1_1.out HB.out))
     (case side2 => exact HC1_1.out)
     (case side3 => exact crC (Kd.C_below HR1_2.out HB.out))
     (case side4 => exact HC1_2.out)
     rintro e w36 ⟨v1169, v1172, rfl, ho0, ho1, hb⟩
     refine ⟨_, rfl, ?_⟩
     have HO1170 := lwR (nwR (nwR ho0 HO1163) HO1166) HB
     have HO1173 := lwR (nwR (nwR ho1 HO1163) HO1166) HB
     replace HO1163 := tldR HO1163 hb (Kd.R_base ho0) (Kd.R_base ho1)
     replace HO1166 := tldR HO1166 hb (Kd.R_base ho0) (Kd.R_base ho1)
     replace BK1156 := bkb BK1156 hb
     replace BK1157 := bkb BK1157 hb
     replace BK1182 := bkb BK1182 hb
     replace HB := bst HB hb
     (try clear hb)
     (try clear hb2)
     (try clear hk)
     (try clear hi)
     (try clear ho0)
     (try clear ho1)
     obtain ⟨Ao37, co37, eo37⟩ := Kd.R_slice HO1163.out
     (first | subst eo37 | (injection eo37 with f1_ f2_ f3_; have f4_ := f1_.symm; have f5_ := f3_.symm; clear f1_ f2_ f3_; subst f4_; subst f5_))
     obtain ⟨Ao38, co38, eo38⟩ := Kd.R_slice HO1166.out
     (first | subst eo38 | (injection eo38 with f1_ f2_ f3_; have f4_ := f1_.symm; have f5_ := f3_.symm; clear f1_ f2_ f3_; subst f4_; subst f5_))
     obtain ⟨Ao39, co39, eo39⟩ := Kd.R_slice HO1170.out
     (first | subst eo39 | (injection eo39 with f1_ f2_ f3_; have f4_ := f1_.symm; have f5_ := f3_.symm; clear f1_ f2_ f3_; subst f4_; subst f5_))
     obtain ⟨Ao40, co40, eo40⟩ := Kd.R_slice HO1173.out
     (first | subst eo40 | (injection eo40 with f1_ f2_ f3_; have f4_ := f1_.symm; have f5_ := f3_.symm; clear f1_ f2_ f3_; subst f4_; subst f5_))
     refine hK.out _ _ ⟨bce BK1156 0 _, bce BK1156 1 _, bce BK1156 2 _, bce BK1157 0 _, bce BK1157 1 _, bce BK1157 2 _⟩ (fun hHeld => ?_)
     clear hK K
     refine norm_ (a' := ?_) ?_ ?_
     rotate_left
     ·
      show Act.put _ (some 31) _ = _
      simp only [Act.put, List.setIfInBounds_toArray, List.set_cons_zero, List.set_cons_succ, i64_w, i32_w]
      rfl
     refine one_ (i := 4) (N := some 32) #[true, true, true, true, true, false, false, false, true, false, false] rfl rfl (one_of HT_.out (by kernel_rfl)) (by decide) (fun K hK => ?_)
     refine goes_ Try.func32 (by kernel_rfl) rfl #[.agg #[.bool t1160, .slice Ao37 t1161.length co37, .slice Ao38 t1164.length co38], .agg #[.bool t1167, .slice Ao39 t1168.length co39, .slice Ao40 t1171.length co40]] (by rfl) rfl rfl (by (try simp only [List.map_toArray, List.map_cons, List.map_nil]); first | done | rfl | (simp only [List.length_drop, List.length_take]; rfl)) ?_
     with_reducible refine (spec_DivRat.calls k t1160 _ _ t1161 _ _ t1164 t1167 _ _ t1168 _ _ t1171 t1174 t1175 t1178 t1181 _ ?side1 ?side2 ?side3 ?side4 ?side5 ?side6 ?side7 ?side8 A21.out).mono ?_
     (case side1 => exact crC (Kd.R_reads' HO1163.out).2.2)
     (case side2 => exact (Kd.R_reads' HO1163.out).2.1)
     (case side3 => exact crC (Kd.R_reads' HO1166.out).2.2)
     (case side4 => exact (Kd.R_reads' HO1166.out).2.1)
     (case side5 => exact crC (Kd.R_reads' HO1170.out).2.2)
     (case side6 => exact (Kd.R_reads' HO1170.out).2.1)
     (case side7 => exact crC (Kd.R_reads' HO1173.out).2.2)
     (case side8 => exact (Kd.R_reads' HO1173.out).2.1)
     rintro e w41 ⟨v1176, v1179, rfl, ho0, ho1, hb⟩
     refine ⟨_, rfl, ?_⟩
     have HO1177 := lwR (nwR (nwR (nwR (nwR ho0 HO1163) HO1166) HO1170) HO1173) HB
     have HO1180 := lwR (nwR (nwR (nwR (nwR ho1 HO1163) HO1166) HO1170) HO1173) HB
     replace HO1163 := tldR HO1163 hb (Kd.R_base ho0) (Kd.R_base ho1)
     replace HO1166 := tldR HO1166 hb (Kd.R_base ho0) (Kd.R_base ho1)
     replace HO1170 := tldR HO1170 hb (Kd.R_base ho0) (Kd.R_base ho1)
     replace HO1173 := tldR HO1173 hb (Kd.R_base ho0) (Kd.R_base ho1)
     replace BK1156 := bkb BK1156 hb
     replace BK1157 := bkb BK1157 hb
     replace BK1182 := bkb BK1182 hb
     replace HB := bst HB hb
     (try clear hb)
     (try clear hb2)
     (try clear hk)
     (try clear hi)
     (try clear ho0)
     (try clear ho1)
     refine hK.out _ _ ⟨bce BK1156 0 _, bce BK1156 1 _, bce BK1156 2 _, bce BK1157 0 _, bce BK1157 1 _, bce BK1157 2 _⟩ (fun hHeld => ?_)
     clear hK K
     refine norm_ (a' := ?_) ?_ ?_
     rotate_left
     ·
      show Act.put _ (some 32) _ = _
      simp only [Act.put, List.setIfInBounds_toArray, List.set_cons_zero, List.set_cons_succ, i64_w, i32_w]
      rfl
     refine pure_ (i := 5) (N := some 27) (v := ?_) (a' := ?_) #[true, true, true, true, true, true, false, false, true, false, false] rfl rfl (any_of HT_.out (by kernel_rfl)) (fun _ _ _ h => h) (Or.inl ⟨by rfl, ?_⟩) ?_ ?_
     rotate_left
     ·
      intro w'
      go_simp
      with_reducible rfl
     rotate_left
     ·
      simp only [Act.put, List.setIfInBounds_toArray, List.set_cons_zero, List.set_cons_succ, i64_w, i32_w]
      rfl
     refine pure_ (i := 6) (N := some 33) (v := ?_) (a' := ?_) #[true, true, true, true, true, true, true, false, true, false, false] rfl rfl (any_of HT_.out (by kernel_rfl)) (fun _ _ _ h => h) (Or.inl ⟨by rfl, ?_⟩) ?_ ?_
     rotate_left
     ·
      intro w'
      go_simp
      with_reducible rfl
     rotate_left
     ·
      simp only [Act.put, List.setIfInBounds_toArray, List.set_cons_zero, List.set_cons_succ, i64_w, i32_w]
      rfl
     refine pure_ (i := 7) (N := some 34) (v := ?_) (a' := ?_) #[true, true, true, true, true, true, true, true, true, false, false] rfl rfl (any_of HT_.out (by kernel_rfl)) (fun _ _ _ h => h) (Or.inl ⟨by rfl, ?_⟩) ?_ ?_
     rotate_left
     ·
      intro w'
      go_simp
      with_reducible rfl
     rotate_left
     ·
      simp only [Act.put, List.setIfInBounds_toArray, List.set_cons_zero, List.set_cons_succ, i64_w, i32_w]
      rfl
     exact norm_ (by simp only [putAll, Act.put, List.setIfInBounds_toArray, List.set_cons_zero, List.set_cons_succ]) (hCont (.slice Ao37 t1161.length co37, .slice Ao38 t1164.length co38, .slice Ao39 t1168.length co39, .slice Ao40 t1171.length co40, v1176, v1179, gb1182) _ ⟨hHeld, (crM HO1163 fun _ hk => ⟨hk.1.1.1.1, hk.1.1.1.2, hk.1.1.2, hk.1.2, hk.2⟩), (crM HO1166 fun _ hk => ⟨hk.1.1.1.1, hk.1.1.1.2, hk.1.1.2, hk.1.2, hk.2⟩), (crM HO1170 fun _ hk => ⟨hk.1.1.1.2, hk.1.1.2, hk.1.1.1.1, hk.1.2, hk.2⟩), (crM HO1173 fun _ hk => ⟨hk.1.1.1.2, hk.1.1.2, hk.1.1.1.1, hk.1.2, hk.2⟩), (crM HO1177 fun _ hk => ⟨hk.1.1.1.2, hk.1.1.2, hk.1.2, hk.2, hk.1.1.1.1⟩), (crM HO1180 fun _ hk => ⟨hk.1.1.1.2, hk.1.1.2, hk.1.2, hk.2, hk.1.1.1.1⟩), (crb BK1156), (crb BK1157), (crb BK1182), GW1182.out, GE1182.out, NB1156_1182.out, NB1182_1156.out, NB1157_1182.out, NB1182_1157.out, (blw HB)⟩)
   rintro ⟨v1162, v1165, v1169, v1172, v1176, v1179, gb1182⟩ w42 ⟨hS_, h0_, h1_, h2_, h3_, h4_, h5_, h6_, h7_, h8_, h9_, h10_, h11_, h12_, h13_, h14_, h15_⟩
   have HO1163 : Aside0 (Kd.R (Kd.int .i64) 3 w42 w.heap.size (fun k_ => nO k_ v1165 ∧ nO k_ v1169 ∧ nO k_ v1172 ∧ nO k_ v1176 ∧ nO k_ v1179) v1162 t1161) := ⟨h0_⟩
   have HO1166 : Aside0 (Kd.R (Kd.int .i64) 3 w42 w.heap.size (fun k_ => nO k_ v1162 ∧ nO k_ v1169 ∧ nO k_ v1172 ∧ nO k_ v1176 ∧ nO k_ v1179) v1165 t1164) := ⟨h1_⟩
   have HO1170 : Aside0 (Kd.R (Kd.int .i64) 3 w42 w.heap.size (fun k_ => nO k_ v1162 ∧ nO k_ v1165 ∧ nO k_ v1172 ∧ nO k_ v1176 ∧ nO k_ v1179) v1169 t1168) := ⟨h2_⟩
   have HO1173 : Aside0 (Kd.R (Kd.int .i64) 3 w42 w.heap.size (fun k_ => nO k_ v1162 ∧ nO k_ v1165 ∧ nO k_ v1169 ∧ nO k_ v1176 ∧ nO k_ v1179) v1172 t1171) := ⟨h3_⟩
   have HO1177 : Aside0 (Kd.R (Kd.int .i64) 3 w42 w.heap.size (fun k_ => nO k_ v1162 ∧ nO k_ v1165 ∧ nO k_ v1169 ∧ nO k_ v1172 ∧ nO k_ v1179) v1176 t1175) := ⟨h4_⟩
   have HO1180 : Aside0 (Kd.R (Kd.int .i64) 3 w42 w.heap.size (fun k_ => nO k_ v1162 ∧ nO k_ v1165 ∧ nO k_ v1169 ∧ nO k_ v1172 ∧ nO k_ v1176) v1179 t1178) := ⟨h5_⟩
   replace BK1156 : Aside0 (w42.heap[gb1156]? = some (.cells #[.bool a0_0, .slice A0_1 l0_1.length c0_1, .slice A0_2 l0_2.length c0_2] 30 (0, 0))) := ⟨h6_⟩
   replace BK1157 : Aside0 (w42.heap[gb1157]? = some (.cells #[.bool a1_0, .slice A1_1 l1_1.length c1_1, .slice A1_2 l1_2.length c1_2] 30 (0, 0))) := ⟨h7_⟩
   have BK1182 : Aside0 (w42.heap[gb1182]? = some (.cells #[.bool false, .slice none 0 0, .slice none 0 0] 24 (0, 0))) := ⟨h8_⟩
   have GW1182 : Aside0 (w.heap.size ≤ gb1182) := ⟨h9_⟩
   have GE1182 : Aside0 (w.heap.size ≤ gb1182) := ⟨h10_⟩
   have NB1156_1182 : Aside0 (gb1156 ≠ gb1182) := ⟨h11_⟩
   have NB1182_1156 : Aside0 (gb1182 ≠ gb1156) := ⟨h12_⟩
   have NB1157_1182 : Aside0 (gb1157 ≠ gb1182) := ⟨h13_⟩
   have NB1182_1157 : Aside0 (gb1182 ≠ gb1157) := ⟨h14_⟩
   replace HB : Aside0 (Below w.heap.size w w42) := ⟨h15_⟩
   clear h0_ h1_ h2_ h3_ h4_ h5_ h6_ h7_ h8_ h9_ h10_ h11_ h12_ h13_ h14_ h15_
   have hHeld : w42.cell? ⟨gb1156, 0, none⟩ = some (.bool a0_0) ∧ w42.cell? ⟨gb1156, 1, none⟩ = some (.slice A0_1 l0_1.length c0_1) ∧ w42.cell? ⟨gb1156, 2, none⟩ = some (.slice A0_2 l0_2.length c0_2) ∧ w42.cell? ⟨gb1157, 0, none⟩ = some (.bool a1_0) ∧ w42.cell? ⟨gb1157, 1, none⟩ = some (.slice A1_1 l1_1.length c1_1) ∧ w42.cell? ⟨gb1157, 2, none⟩ = some (.slice A1_2 l1_2.length c1_2) := hS_
   obtain ⟨Ao44, co44, eo44⟩ := Kd.R_slice HO1177.out
   (first | subst eo44 | (injection eo44 with f1_ f2_ f3_; have f4_ := f1_.symm; have f5_ := f3_.symm; clear f1_ f2_ f3_; subst f4_; subst f5_))
   obtain ⟨Ao46, co46, eo46⟩ := Kd.R_slice HO1180.out
   (first | subst eo46 | (injection eo46 with f1_ f2_ f3_; have f4_ := f1_.symm; have f5_ := f3_.symm; clear f1_ f2_ f3_; subst f4_; subst f5_))
   refine norm_ (a' := ?_) ?_ ?_
   rotate_left
   ·
    simp only [putAll, Act.put, List.setIfInBounds_toArray, List.set_cons_zero, List.set_cons_succ]
    rfl
   refine one_ (i := 9) (N := none) #[true, true, true, true, true, true, true, true, true, true, false] rfl rfl (one_of HT_.out (by kernel_rfl)) (by decide) (fun K hK => ?_)
   have hs43 : w42.cell? ⟨gb1182, 0, none⟩ = some (.bool false) := bce BK1182 0 _
   have hfs43 := blk_frozen BK1182.out 0
   have hns43_0 := NB1156_1182.out
   have hns43_1 := NB1157_1182.out
   have hms43_0 := NB1182_1156.out
   have hms43_1 := NB1182_1157.out
   have hs45 : w42.cell? ⟨gb1182, 1, none⟩ = some (.slice none 0 0) := bce BK1182 1 _
   have hfs45 := blk_frozen BK1182.out 1
   have hns45_0 := NB1156_1182.out
   have hns45_1 := NB1157_1182.out
   have hms45_0 := NB1182_1156.out
   have hms45_1 := NB1182_1157.out
   have hs47 : w42.cell? ⟨gb1182, 2, none⟩ = some (.slice none 0 0) := bce BK1182 2 _
   have hfs47 := blk_frozen BK1182.out 2
   have hns47_0 := NB1156_1182.out
   have hns47_1 := NB1157_1182.out
   have hms47_0 := NB1182_1156.out
   have hms47_1 := NB1182_1157.out
   refine skip_ (w1 := ?_) (by rfl) rfl ?_ ?_
   rotate_left
   ·
    go_simp
    rfl
   refine hK.out _ _ ⟨((cell_far (p := ⟨gb1182, _, none⟩) NB1156_1182.out _).trans (((cell_far (p := ⟨gb1182, _, none⟩) NB1156_1182.out _).trans (((cell_far (p := ⟨gb1182, _, none⟩) NB1156_1182.out _).trans (hHeld.1)))))), ((cell_far (p := ⟨gb1182, _, none⟩) NB1156_1182.out _).trans (((cell_far (p := ⟨gb1182, _, none⟩) NB1156_1182.out _).trans (((cell_far (p := ⟨gb1182, _, none⟩) NB1156_1182.out _).trans (hHeld.2.1)))))), ((cell_far (p := ⟨gb1182, _, none⟩) NB1156_1182.out _).trans (((cell_far (p := ⟨gb1182, _, none⟩) NB1156_1182.out _).trans (((cell_far (p := ⟨gb1182, _, none⟩) NB1156_1182.out _).trans (hHeld.2.2.1)))))), ((cell_far (p := ⟨gb1182, _, none⟩) NB1157_1182.out _).trans (((cell_far (p := ⟨gb1182, _, none⟩) NB1157_1182.out _).trans (((cell_far (p := ⟨gb1182, _, none⟩) NB1157_1182.out _).trans (hHeld.2.2.2.1)))))), ((cell_far (p := ⟨gb1182, _, none⟩) NB1157_1182.out _).trans (((cell_far (p := ⟨gb1182, _, none⟩) NB1157_1182.out _).trans (((cell_far (p := ⟨gb1182, _, none⟩) NB1157_1182.out _).trans (hHeld.2.2.2.2.1)))))), ((cell_far (p := ⟨gb1182, _, none⟩) NB1157_1182.out _).trans (((cell_far (p := ⟨gb1182, _, none⟩) NB1157_1182.out _).trans (((cell_far (p := ⟨gb1182, _, none⟩) NB1157_1182.out _).trans (hHeld.2.2.2.2.2))))))⟩ (fun hHeld => ?_)
   clear hK K
   refine pure_ (i := 10) (N := some 7) (v := ?_) (a' := ?_) #[true, true, true, true, true, true, true, true, true, true, true] rfl rfl (any_of HT_.out (by kernel_rfl)) (fun _ _ _ h => h) (Or.inl ⟨by rfl, ?_⟩) ?_ ?_
   rotate_left
   ·
    intro w'
    go_simp
    with_reducible rfl
   rotate_left
   ·
    simp only [Act.put, List.setIfInBounds_toArray, List.set_cons_zero, List.set_cons_succ, i64_w, i32_w]
    rfl
   refine done_ (done_of HT_.out (by kernel_rfl)) ?_
   have hnb48 := NB1156_1182.out
   have hnc48 := NB1182_1156.out
   have hcz49_0 := bce BK1156 0 (.bool a0_0)
   have hcz49_1 := bce BK1156 1 (.slice A0_1 l0_1.length c0_1)
   have hcz49_2 := bce BK1156 2 (.slice A0_2 l0_2.length c0_2)
   have hfz49_0 := blk_frozen BK1156.out 0
   have hfz49_1 := blk_frozen BK1156.out 1
   have hfz49_2 := blk_frozen BK1156.out 2
   go_upto_region 12 with (first | ((with_reducible refine gate_callee (f := 22) rfl ?_); refine goesL_ (some 36) rfl rfl Try.func22 (by kernel_rfl) rfl #[.agg #[.bool a0_0, .slice A0_1 l0_1.length c0_1, .slice A0_2 l0_2.length c0_2]] rfl (by (try simp only [List.map_toArray, List.map_cons, List.map_nil]); first | done | rfl | (simp only [List.length_drop, List.length_take]; rfl)) ?_; (with_reducible refine (laws_toRat.calls k a0_0 _ _ l0_1 _ _ l0_2 t1183 t1184 t1187 _ ?side1 ?side2 ?side3 ?side4 A22.out).mono ?_); (case side1 => exact Kd.C_below HR0_1.out (blw HB)); (case side2 => exact HC0_1.out); (case side3 => exact Kd.C_below HR0_2.out (blw HB)); (case side4 => exact HC0_2.out); rintro e w50 ⟨v1185, v1188, rfl, ho0, ho1, hb⟩; refine ⟨_, rfl, ?_⟩; have HO1186 := lwR (nwF (nwF (nwF (nwF (nwF (nwF ho0 HO1163 BK1182) HO1166 BK1182) HO1170 BK1182) HO1173 BK1182) HO1177 BK1182) HO1180 BK1182) HB; have HO1189 := lwR (nwF (nwF (nwF (nwF (nwF (nwF ho1 HO1163 BK1182) HO1166 BK1182) HO1170 BK1182) HO1173 BK1182) HO1177 BK1182) HO1180 BK1182) HB; replace HO1163 := tldF HO1163 BK1182 hb (Kd.R_base ho0) (Kd.R_base ho1); replace HO1166 := tldF HO1166 BK1182 hb (Kd.R_base ho0) (Kd.R_base ho1); replace HO1170 := tldF HO1170 BK1182 hb (Kd.R_base ho0) (Kd.R_base ho1); replace HO1173 := tldF HO1173 BK1182 hb (Kd.R_base ho0) (Kd.R_base ho1); replace HO1177 := tldF HO1177 BK1182 hb (Kd.R_base ho0) (Kd.R_base ho1); replace HO1180 := tldF HO1180 BK1182 hb (Kd.R_base ho0) (Kd.R_base ho1); replace BK1156 := bkf BK1156 hb; replace BK1157 := bkf BK1157 hb; replace BK1182 := bkp BK1182 (.bool t1174) (.slice Ao44 t1175.length co44) (.slice Ao46 t1178.length co46) hb; replace HB := bst HB hb; (try clear hb); (try clear hb2); (try clear hk); (try clear hi); (try clear ho0); (try clear ho1)) | ((with_reducible refine gate_dst (N := 8) rfl ?_); refine box_event ?hg (N := 8) ?hd (cs := #[.bool false, .slice none 0 0, .slice none 0 0]) (t := 24) ?hr ?_; (case hd => rfl); (case hg => rfl); (case hr => first | (go_simp; done) | (go_simp; rfl)); intro gb1190 hg w51 hbox hb; replace HO1163 := rblR HO1163 hb; replace HO1166 := rblR HO1166 hb; replace HO1170 := rblR HO1170 hb; replace HO1173 := rblR HO1173 hb; replace HO1177 := rblR HO1177 hb; replace HO1180 := rblR HO1180 hb; replace HO1186 := rblR HO1186 hb; replace HO1189 := rblR HO1189 hb; have BK1190 := Aside0.mk (hbox); have GW1190 := geh hg HB; have GE1190 := geh hg HB; replace HB := bst HB hb; have NB1156_1190 := nlt hg BK1156; have NB1190_1156 := ngt hg BK1156; replace BK1156 := bkb BK1156 hb; have NB1157_1190 := nlt hg BK1157; have NB1190_1157 := ngt hg BK1157; replace BK1157 := bkb BK1157 hb; have NB1182_1190 := nlt hg BK1182; have NB1190_1182 := ngt hg BK1182; replace BK1182 := bkb BK1182 hb; clear hb hbox hg; have hnb52 := NB1190_1156.out; have hnc52 := NB1156_1190.out; have hnb53 := NB1190_1157.out; have hnc53 := NB1157_1190.out; have hnb54 := NB1190_1182.out; have hnc54 := NB1182_1190.out; have hcz55_0 := bce BK1190 0 (.bool false); have hcz55_1 := bce BK1190 1 (.slice none 0 0); have hcz55_2 := bce BK1190 2 (.slice none 0 0); have hfz55_0 := blk_frozen BK1190.out 0; have hfz55_1 := blk_frozen BK1190.out 1; have hfz55_2 := blk_frozen BK1190.out 2; obtain ⟨Ao56, co56, eo56⟩ := Kd.R_slice HO1186.out; subst eo56; obtain ⟨Ao57, co57, eo57⟩ := Kd.R_slice HO1189.out; subst eo57; have hnb58 := NB1157_1182.out; have hnc58 := NB1182_1157.out; have hcz59_0 := bce BK1157 0 (.bool a1_0); have hcz59_1 := bce BK1157 1 (.slice A1_1 l1_1.length c1_1); have hcz59_2 := bce BK1157 2 (.slice A1_2 l1_2.length c1_2); have hfz59_0 := blk_frozen BK1157.out 0; have hfz59_1 := blk_frozen BK1157.out 1; have hfz59_2 := blk_frozen BK1157.out 2) | ((with_reducible refine gate_callee (f := 22) rfl ?_); refine goesL_ (some 38) rfl rfl Try.func22 (by kernel_rfl) rfl #[.agg #[.bool a1_0, .slice A1_1 l1_1.length c1_1, .slice A1_2 l1_2.length c1_2]] rfl (by (try simp only [List.map_toArray, List.map_cons, List.map_nil]); first | done | rfl | (simp only [List.length_drop, List.length_take]; rfl)) ?_; (with_reducible refine (laws_toRat.calls k a1_0 _ _ l1_1 _ _ l1_2 t1191 t1192 t1195 _ ?side1 ?side2 ?side3 ?side4 A23.out).mono ?_); (case side1 => exact Kd.C_below HR1_1.out (blw HB)); (case side2 => exact HC1_1.out); (case side3 => exact Kd.C_below HR1_2.out (blw HB)); (case side4 => exact HC1_2.out); rintro e w60 ⟨v1193, v1196, rfl, ho0, ho1, hb⟩; refine ⟨_, rfl, ?_⟩; have HO1194 := lwR (nwF (nwF (nwF (nwF (nwF (nwF (nwF (nwF ho0 HO1163 BK1190) HO1166 BK1190) HO1170 BK1190) HO1173 BK1190) HO1177 BK1190) HO1180 BK1190) HO1186 BK1190) HO1189 BK1190) HB; have HO1197 := lwR (nwF (nwF (nwF (nwF (nwF (nwF (nwF (nwF ho1 HO1163 BK1190) HO1166 BK1190) HO1170 BK1190) HO1173 BK1190) HO1177 BK1190) HO1180 BK1190) HO1186 BK1190) HO1189 BK1190) HB; replace HO1163 := tldF HO1163 BK1190 hb (Kd.R_base ho0) (Kd.R_base ho1); replace HO1166 := tldF HO1166 BK1190 hb (Kd.R_base ho0) (Kd.R_base ho1); replace HO1170 := tldF HO1170 BK1190 hb (Kd.R_base ho0) (Kd.R_base ho1); replace HO1173 := tldF HO1173 BK1190 hb (Kd.R_base ho0) (Kd.R_base ho1); replace HO1177 := tldF HO1177 BK1190 hb (Kd.R_base ho0) (Kd.R_base ho1); replace HO1180 := tldF HO1180 BK1190 hb (Kd.R_base ho0) (Kd.R_base ho1); replace HO1186 := tldF HO1186 BK1190 hb (Kd.R_base ho0) (Kd.R_base ho1); replace HO1189 := tldF HO1189 BK1190 hb (Kd.R_base ho0) (Kd.R_base ho1); replace BK1156 := bkf BK1156 hb; replace BK1157 := bkf BK1157 hb; replace BK1182 := bkf BK1182 hb; replace BK1190 := bkp BK1190 (.bool t1183) (.slice Ao56 t1184.length co56) (.slice Ao57 t1187.length co57) hb; replace HB := bst HB hb; (try clear hb); (try clear hb2); (try clear hk); (try clear hi); (try clear ho0); (try clear ho1)) | ((with_reducible refine gate_dst (N := 9) rfl ?_); refine box_event ?hg (N := 9) ?hd (cs := #[.bool false, .slice none 0 0, .slice none 0 0]) (t := 24) ?hr ?_; (case hd => rfl); (case hg => rfl); (case hr => first | (go_simp; done) | (go_simp; rfl)); intro gb1198 hg w61 hbox hb; replace HO1163 := rblR HO1163 hb; replace HO1166 := rblR HO1166 hb; replace HO1170 := rblR HO1170 hb; replace HO1173 := rblR HO1173 hb; replace HO1177 := rblR HO1177 hb; replace HO1180 := rblR HO1180 hb; replace HO1186 := rblR HO1186 hb; replace HO1189 := rblR HO1189 hb; replace HO1194 := rblR HO1194 hb; replace HO1197 := rblR HO1197 hb; have BK1198 := Aside0.mk (hbox); have GW1198 := geh hg HB; have GE1198 := geh hg HB; replace HB := bst HB hb; have NB1156_1198 := nlt hg BK1156; have NB1198_1156 := ngt hg BK1156; replace BK1156 := bkb BK1156 hb; have NB1157_1198 := nlt hg BK1157; have NB1198_1157 := ngt hg BK1157; replace BK1157 := bkb BK1157 hb; have NB1182_1198 := nlt hg BK1182; have NB1198_1182 := ngt hg BK1182; replace BK1182 := bkb BK1182 hb; have NB1190_1198 := nlt hg BK1190; have NB1198_1190 := ngt hg BK1190; replace BK1190 := bkb BK1190 hb; clear hb hbox hg; have hnb62 := NB1198_1156.out; have hnc62 := NB1156_1198.out; have hnb63 := NB1198_1157.out; have hnc63 := NB1157_1198.out; have hnb64 := NB1198_1182.out; have hnc64 := NB1182_1198.out; have hnb65 := NB1198_1190.out; have hnc65 := NB1190_1198.out; have hcz66_0 := bce BK1198 0 (.bool false); have hcz66_1 := bce BK1198 1 (.slice none 0 0); have hcz66_2 := bce BK1198 2 (.slice none 0 0); have hfz66_0 := blk_frozen BK1198.out 0; have hfz66_1 := blk_frozen BK1198.out 1; have hfz66_2 := blk_frozen BK1198.out 2; obtain ⟨Ao67, co67, eo67⟩ := Kd.R_slice HO1194.out; subst eo67; obtain ⟨Ao68, co68, eo68⟩ := Kd.R_slice HO1197.out; subst eo68) | ((with_reducible refine gate_store (t := 24) (p := 9) rfl ?_); refine store_event (t := 24) (p := 9) (v := ?vo_w69) (w1 := (((w61.setCell ⟨gb1198, 0, none⟩ (.bool t1191)).setCell ⟨gb1198, 1, none⟩ (.slice Ao67 t1192.length co67)).setCell ⟨gb1198, 2, none⟩ (.slice Ao68 t1195.length co68))) ?hg ?ho ?hn ?hr ?_; (case ho => rfl); (case hg => rfl); (case hn => rfl); (case hr => first | (go_simp; done) | (go_simp; rfl)); intro w69 hw; replace HO1163 : Aside0 (Kd.R (Kd.int .i64) 3 w69 w.heap.size (fun k_ => nO k_ v1165 ∧ nO k_ v1169 ∧ nO k_ v1172 ∧ nO k_ (.slice Ao44 t1175.length co44) ∧ nO k_ (.slice Ao46 t1178.length co46) ∧ nO k_ (.slice Ao56 t1184.length co56) ∧ nO k_ (.slice Ao57 t1187.length co57) ∧ nO k_ (.slice Ao67 t1192.length co67) ∧ nO k_ (.slice Ao68 t1195.length co68)) v1162 t1161) := ⟨(by rw [hw]; exact (by (with_reducible repeat (first | apply Kd.R_alloc | apply Kd.R_drewN | apply Kd.R_drew)); exact Kd.R_mono (Kd.R_far (p := ⟨gb1198, 2, none⟩) (Kd.R_far (p := ⟨gb1198, 1, none⟩) (Kd.R_far (p := ⟨gb1198, 0, none⟩) (Kd.R_types HO1163.out BK1198.out (by decide)) (fun _ hk => hk.2) (.bool t1191)) (fun _ hk => hk.2) (.slice Ao67 t1192.length co67)) (fun _ hk => hk.2) (.slice Ao68 t1195.length co68)) (fun _ hk => ⟨hk.1.1.1.1.1.1, ⟨hk.1.1.1.1.1.2.1, ⟨hk.1.1.1.1.1.2.2.1, ⟨hk.1.1.1.1.1.2.2.2.1, ⟨hk.1.1.1.1.1.2.2.2.2, ⟨hk.1.1.1.1.2, ⟨hk.1.1.1.2, ⟨hk.1.1.2, hk.1.2⟩⟩⟩⟩⟩⟩⟩⟩)))⟩; replace HO1166 : Aside0 (Kd.R (Kd.int .i64) 3 w69 w.heap.size (fun k_ => nO k_ v1162 ∧ nO k_ v1169 ∧ nO k_ v1172 ∧ nO k_ (.slice Ao44 t1175.length co44) ∧ nO k_ (.slice Ao46 t1178.length co46) ∧ nO k_ (.slice Ao56 t1184.length co56) ∧ nO k_ (.slice Ao57 t1187.length co57) ∧ nO k_ (.slice Ao67 t1192.length co67) ∧ nO k_ (.slice Ao68 t1195.length co68)) v1165 t1164) := ⟨(by rw [hw]; exact (by (with_reducible repeat (first | apply Kd.R_alloc | apply Kd.R_drewN | apply Kd.R_drew)); exact Kd.R_mono (Kd.R_far (p := ⟨gb1198, 2, none⟩) (Kd.R_far (p := ⟨gb1198, 1, none⟩) (Kd.R_far (p := ⟨gb1198, 0, none⟩) (Kd.R_types HO1166.out BK1198.out (by decide)) (fun _ hk => hk.2) (.bool t1191)) (fun _ hk => hk.2) (.slice Ao67 t1192.length co67)) (fun _ hk => hk.2) (.slice Ao68 t1195.length co68)) (fun _ hk => ⟨hk.1.1.1.1.1.1, ⟨hk.1.1.1.1.1.2.1, ⟨hk.1.1.1.1.1.2.2.1, ⟨hk.1.1.1.1.1.2.2.2.1, ⟨hk.1.1.1.1.1.2.2.2.2, ⟨hk.1.1.1.1.2, ⟨hk.1.1.1.2, ⟨hk.1.1.2, hk.1.2⟩⟩⟩⟩⟩⟩⟩⟩)))⟩; replace HO1170 : Aside0 (Kd.R (Kd.int .i64) 3 w69 w.heap.size (fun k_ => nO k_ v1162 ∧ nO k_ v1165 ∧ nO k_ v1172 ∧ nO k_ (.slice Ao44 t1175.length co44) ∧ nO k_ (.slice Ao46 t1178.length co46) ∧ nO k_ (.slice Ao56 t1184.length co56) ∧ nO k_ (.slice Ao57 t1187.length co57) ∧ nO k_ (.slice Ao67 t1192.length co67) ∧ nO k_ (.slice Ao68 t1195.length co68)) v1169 t1168) := ⟨(by rw [hw]; exact (by (with_reducible repeat (first | apply Kd.R_alloc | apply Kd.R_drewN | apply Kd.R_drew)); exact Kd.R_mono (Kd.R_far (p := ⟨gb1198, 2, none⟩) (Kd.R_far (p := ⟨gb1198, 1, none⟩) (Kd.R_far (p := ⟨gb1198, 0, none⟩) (Kd.R_types HO1170.out BK1198.out (by decide)) (fun _ hk => hk.2) (.bool t1191)) (fun _ hk => hk.2) (.slice Ao67 t1192.length co67)) (fun _ hk => hk.2) (.slice Ao68 t1195.length co68)) (fun _ hk => ⟨hk.1.1.1.1.1.1, ⟨hk.1.1.1.1.1.2.1, ⟨hk.1.1.1.1.1.2.2.1, ⟨hk.1.1.1.1.1.2.2.2.1, ⟨hk.1.1.1.1.1.2.2.2.2, ⟨hk.1.1.1.1.2, ⟨hk.1.1.1.2, ⟨hk.1.1.2, hk.1.2⟩⟩⟩⟩⟩⟩⟩⟩)))⟩; replace HO1173 : Aside0 (Kd.R (Kd.int .i64) 3 w69 w.heap.size (fun k_ => nO k_ v1162 ∧ nO k_ v1165 ∧ nO k_ v1169 ∧ nO k_ (.slice Ao44 t1175.length co44) ∧ nO k_ (.slice Ao46 t1178.length co46) ∧ nO k_ (.slice Ao56 t1184.length co56) ∧ nO k_ (.slice Ao57 t1187.length co57) ∧ nO k_ (.slice Ao67 t1192.length co67) ∧ nO k_ (.slice Ao68 t1195.length co68)) v1172 t1171) := ⟨(by rw [hw]; exact (by (with_reducible repeat (first | apply Kd.R_alloc | apply Kd.R_drewN | apply Kd.R_drew)); exact Kd.R_mono (Kd.R_far (p := ⟨gb1198, 2, none⟩) (Kd.R_far (p := ⟨gb1198, 1, none⟩) (Kd.R_far (p := ⟨gb1198, 0, none⟩) (Kd.R_types HO1173.out BK1198.out (by decide)) (fun _ hk => hk.2) (.bool t1191)) (fun _ hk => hk.2) (.slice Ao67 t1192.length co67)) (fun _ hk => hk.2) (.slice Ao68 t1195.length co68)) (fun _ hk => ⟨hk.1.1.1.1.1.1, ⟨hk.1.1.1.1.1.2.1, ⟨hk.1.1.1.1.1.2.2.1, ⟨hk.1.1.1.1.1.2.2.2.1, ⟨hk.1.1.1.1.1.2.2.2.2, ⟨hk.1.1.1.1.2, ⟨hk.1.1.1.2, ⟨hk.1.1.2, hk.1.2⟩⟩⟩⟩⟩⟩⟩⟩)))⟩; replace HO1177 : Aside0 (Kd.R (Kd.int .i64) 3 w69 w.heap.size (fun k_ => nO k_ v1162 ∧ nO k_ v1165 ∧ nO k_ v1169 ∧ nO k_ v1172 ∧ nO k_ (.slice Ao46 t1178.length co46) ∧ nO k_ (.slice Ao56 t1184.length co56) ∧ nO k_ (.slice Ao57 t1187.length co57) ∧ nO k_ (.slice Ao67 t1192.length co67) ∧ nO k_ (.slice Ao68 t1195.length co68)) (.slice Ao44 t1175.length co44) t1175) := ⟨(by rw [hw]; exact (by (with_reducible repeat (first | apply Kd.R_alloc | apply Kd.R_drewN | apply Kd.R_drew)); exact Kd.R_mono (Kd.R_far (p := ⟨gb1198, 2, none⟩) (Kd.R_far (p := ⟨gb1198, 1, none⟩) (Kd.R_far (p := ⟨gb1198, 0, none⟩) (Kd.R_types HO1177.out BK1198.out (by decide)) (fun _ hk => hk.2) (.bool t1191)) (fun _ hk => hk.2) (.slice Ao67 t1192.length co67)) (fun _ hk => hk.2) (.slice Ao68 t1195.length co68)) (fun _ hk => ⟨hk.1.1.1.1.1.1, ⟨hk.1.1.1.1.1.2.1, ⟨hk.1.1.1.1.1.2.2.1, ⟨hk.1.1.1.1.1.2.2.2.1, ⟨hk.1.1.1.1.1.2.2.2.2, ⟨hk.1.1.1.1.2, ⟨hk.1.1.1.2, ⟨hk.1.1.2, hk.1.2⟩⟩⟩⟩⟩⟩⟩⟩)))⟩; replace HO1180 : Aside0 (Kd.R (Kd.int .i64) 3 w69 w.heap.size (fun k_ => nO k_ v1162 ∧ nO k_ v1165 ∧ nO k_ v1169 ∧ nO k_ v1172 ∧ nO k_ (.slice Ao44 t1175.length co44) ∧ nO k_ (.slice Ao56 t1184.length co56) ∧ nO k_ (.slice Ao57 t1187.length co57) ∧ nO k_ (.slice Ao67 t1192.length co67) ∧ nO k_ (.slice Ao68 t1195.length co68)) (.slice Ao46 t1178.length co46) t1178) := ⟨(by rw [hw]; exact (by (with_reducible repeat (first | apply Kd.R_alloc | apply Kd.R_drewN | apply Kd.R_drew)); exact Kd.R_mono (Kd.R_far (p := ⟨gb1198, 2, none⟩) (Kd.R_far (p := ⟨gb1198, 1, none⟩) (Kd.R_far (p := ⟨gb1198, 0, none⟩) (Kd.R_types HO1180.out BK1198.out (by decide)) (fun _ hk => hk.2) (.bool t1191)) (fun _ hk => hk.2) (.slice Ao67 t1192.length co67)) (fun _ hk => hk.2) (.slice Ao68 t1195.length co68)) (fun _ hk => ⟨hk.1.1.1.1.1.1, ⟨hk.1.1.1.1.1.2.1, ⟨hk.1.1.1.1.1.2.2.1, ⟨hk.1.1.1.1.1.2.2.2.1, ⟨hk.1.1.1.1.1.2.2.2.2, ⟨hk.1.1.1.1.2, ⟨hk.1.1.1.2, ⟨hk.1.1.2, hk.1.2⟩⟩⟩⟩⟩⟩⟩⟩)))⟩; replace HO1186 : Aside0 (Kd.R (Kd.int .i64) 3 w69 w.heap.size (fun k_ => nO k_ v1162 ∧ nO k_ v1165 ∧ nO k_ v1169 ∧ nO k_ v1172 ∧ nO k_ (.slice Ao44 t1175.length co44) ∧ nO k_ (.slice Ao46 t1178.length co46) ∧ nO k_ (.slice Ao57 t1187.length co57) ∧ nO k_ (.slice Ao67 t1192.length co67) ∧ nO k_ (.slice Ao68 t1195.length co68)) (.slice Ao56 t1184.length co56) t1184) := ⟨(by rw [hw]; exact (by (with_reducible repeat (first | apply Kd.R_alloc | apply Kd.R_drewN | apply Kd.R_drew)); exact Kd.R_mono (Kd.R_far (p := ⟨gb1198, 2, none⟩) (Kd.R_far (p := ⟨gb1198, 1, none⟩) (Kd.R_far (p := ⟨gb1198, 0, none⟩) (Kd.R_types HO1186.out BK1198.out (by decide)) (fun _ hk => hk.2) (.bool t1191)) (fun _ hk => hk.2) (.slice Ao67 t1192.length co67)) (fun _ hk => hk.2) (.slice Ao68 t1195.length co68)) (fun _ hk => ⟨hk.1.1.1.1.1.1.1.1.2, ⟨hk.1.1.1.1.1.1.1.2, ⟨hk.1.1.1.1.1.1.2, ⟨hk.1.1.1.1.1.2, ⟨hk.1.1.1.1.2, ⟨hk.1.1.1.2, ⟨hk.1.1.1.1.1.1.1.1.1, ⟨hk.1.1.2, hk.1.2⟩⟩⟩⟩⟩⟩⟩⟩)))⟩; replace HO1189 : Aside0 (Kd.R (Kd.int .i64) 3 w69 w.heap.size (fun k_ => nO k_ v1162 ∧ nO k_ v1165 ∧ nO k_ v1169 ∧ nO k_ v1172 ∧ nO k_ (.slice Ao44 t1175.length co44) ∧ nO k_ (.slice Ao46 t1178.length co46) ∧ nO k_ (.slice Ao56 t1184.length co56) ∧ nO k_ (.slice Ao67 t1192.length co67) ∧ nO k_ (.slice Ao68 t1195.length co68)) (.slice Ao57 t1187.length co57) t1187) := ⟨(by rw [hw]; exact (by (with_reducible repeat (first | apply Kd.R_alloc | apply Kd.R_drewN | apply Kd.R_drew)); exact Kd.R_mono (Kd.R_far (p := ⟨gb1198, 2, none⟩) (Kd.R_far (p := ⟨gb1198, 1, none⟩) (Kd.R_far (p := ⟨gb1198, 0, none⟩) (Kd.R_types HO1189.out BK1198.out (by decide)) (fun _ hk => hk.2) (.bool t1191)) (fun _ hk => hk.2) (.slice Ao67 t1192.length co67)) (fun _ hk => hk.2) (.slice Ao68 t1195.length co68)) (fun _ hk => ⟨hk.1.1.1.1.1.1.1.1.2, ⟨hk.1.1.1.1.1.1.1.2, ⟨hk.1.1.1.1.1.1.2, ⟨hk.1.1.1.1.1.2, ⟨hk.1.1.1.1.2, ⟨hk.1.1.1.2, ⟨hk.1.1.1.1.1.1.1.1.1, ⟨hk.1.1.2, hk.1.2⟩⟩⟩⟩⟩⟩⟩⟩)))⟩; replace HO1194 : Aside0 (Kd.R (Kd.int .i64) 3 w69 w.heap.size (fun k_ => nO k_ v1162 ∧ nO k_ v1165 ∧ nO k_ v1169 ∧ nO k_ v1172 ∧ nO k_ (.slice Ao44 t1175.length co44) ∧ nO k_ (.slice Ao46 t1178.length co46) ∧ nO k_ (.slice Ao56 t1184.length co56) ∧ nO k_ (.slice Ao57 t1187.length co57) ∧ nO k_ (.slice Ao68 t1195.length co68)) (.slice Ao67 t1192.length co67) t1192) := ⟨(by rw [hw]; exact (by (with_reducible repeat (first | apply Kd.R_alloc | apply Kd.R_drewN | apply Kd.R_drew)); exact Kd.R_mono (Kd.R_far (p := ⟨gb1198, 2, none⟩) (Kd.R_far (p := ⟨gb1198, 1, none⟩) (Kd.R_far (p := ⟨gb1198, 0, none⟩) (Kd.R_types HO1194.out BK1198.out (by decide)) (fun _ hk => hk.2) (.bool t1191)) (fun _ hk => hk.2) (.slice Ao67 t1192.length co67)) (fun _ hk => hk.2) (.slice Ao68 t1195.length co68)) (fun _ hk => ⟨hk.1.1.1.1.1.1.1.1.2, ⟨hk.1.1.1.1.1.1.1.2, ⟨hk.1.1.1.1.1.1.2, ⟨hk.1.1.1.1.1.2, ⟨hk.1.1.1.1.2, ⟨hk.1.1.1.2, ⟨hk.1.1.2, ⟨hk.1.2, hk.1.1.1.1.1.1.1.1.1⟩⟩⟩⟩⟩⟩⟩⟩)))⟩; replace HO1197 : Aside0 (Kd.R (Kd.int .i64) 3 w69 w.heap.size (fun k_ => nO k_ v1162 ∧ nO k_ v1165 ∧ nO k_ v1169 ∧ nO k_ v1172 ∧ nO k_ (.slice Ao44 t1175.length co44) ∧ nO k_ (.slice Ao46 t1178.length co46) ∧ nO k_ (.slice Ao56 t1184.length co56) ∧ nO k_ (.slice Ao57 t1187.length co57) ∧ nO k_ (.slice Ao67 t1192.length co67)) (.slice Ao68 t1195.length co68) t1195) := ⟨(by rw [hw]; exact (by (with_reducible repeat (first | apply Kd.R_alloc | apply Kd.R_drewN | apply Kd.R_drew)); exact Kd.R_mono (Kd.R_far (p := ⟨gb1198, 2, none⟩) (Kd.R_far (p := ⟨gb1198, 1, none⟩) (Kd.R_far (p := ⟨gb1198, 0, none⟩) (Kd.R_types HO1197.out BK1198.out (by decide)) (fun _ hk => hk.2) (.bool t1191)) (fun _ hk => hk.2) (.slice Ao67 t1192.length co67)) (fun _ hk => hk.2) (.slice Ao68 t1195.length co68)) (fun _ hk => ⟨hk.1.1.1.1.1.1.1.1.2, ⟨hk.1.1.1.1.1.1.1.2, ⟨hk.1.1.1.1.1.1.2, ⟨hk.1.1.1.1.1.2, ⟨hk.1.1.1.1.2, ⟨hk.1.1.1.2, ⟨hk.1.1.2, ⟨hk.1.2, hk.1.1.1.1.1.1.1.1.1⟩⟩⟩⟩⟩⟩⟩⟩)))⟩; replace BK1156 : Aside0 (w69.heap[gb1156]? = some (.cells #[.bool a0_0, .slice A0_1 l0_1.length c0_1, .slice A0_2 l0_2.length c0_2] 30 (0, 0))) := ⟨(by rw [hw]; exact (crbF BK1156))⟩; replace BK1157 : Aside0 (w69.heap[gb1157]? = some (.cells #[.bool a1_0, .slice A1_1 l1_1.length c1_1, .slice A1_2 l1_2.length c1_2] 30 (0, 0))) := ⟨(by rw [hw]; exact (crbF BK1157))⟩; replace BK1182 : Aside0 (w69.heap[gb1182]? = some (.cells #[.bool t1174, .slice Ao44 t1175.length co44, .slice Ao46 t1178.length co46] 24 (0, 0))) := ⟨(by rw [hw]; exact (crbF BK1182))⟩; replace BK1190 : Aside0 (w69.heap[gb1190]? = some (.cells #[.bool t1183, .slice Ao56 t1184.length co56, .slice Ao57 t1187.length co57] 24 (0, 0))) := ⟨(by rw [hw]; exact (crbF BK1190))⟩; replace BK1198 : Aside0 (w69.heap[gb1198]? = some (.cells #[.bool t1191, .slice Ao67 t1192.length co67, .slice Ao68 t1195.length co68] 24 (0, 0))) := ⟨(by rw [hw]; exact (by (with_reducible repeat (first | refine blk_drewN ?_ _ | refine blk_drew ?_ | refine blk_alloc ?_ _)); refine blk_put (cs := #[.bool t1191, .slice Ao67 t1192.length co67, .slice none 0 0]) ?_ 2 _ rfl; (with_reducible repeat (first | refine blk_drewN ?_ _ | refine blk_drew ?_ | refine blk_alloc ?_ _)); refine blk_put (cs := #[.bool t1191, .slice none 0 0, .slice none 0 0]) ?_ 1 _ rfl; (with_reducible repeat (first | refine blk_drewN ?_ _ | refine blk_drew ?_ | refine blk_alloc ?_ _)); refine blk_put (cs := #[.bool false, .slice none 0 0, .slice none 0 0]) ?_ 0 _ rfl; (with_reducible repeat (first | refine blk_drewN ?_ _ | refine blk_drew ?_ | refine blk_alloc ?_ _)); exact BK1198.out))⟩; replace HB : Aside0 (Below w.heap.size w w69) := ⟨(by rw [hw]; exact (blw HB))⟩; clear hw; have hcz70_0 := bce BK1190 0 (.bool t1183); have hcz70_1 := bce BK1190 1 (.slice Ao56 t1184.length co56); have hcz70_2 := bce BK1190 2 (.slice Ao57 t1187.length co57); have hfz70_0 := blk_frozen BK1190.out 0; have hfz70_1 := blk_frozen BK1190.out 1; have hfz70_2 := blk_frozen BK1190.out 2; have hcz71_0 := bce BK1198 0 (.bool t1191); have hcz71_1 := bce BK1198 1 (.slice Ao67 t1192.length co67); have hcz71_2 := bce BK1198 2 (.slice Ao68 t1195.length co68); have hfz71_0 := blk_frozen BK1198.out 0; have hfz71_1 := blk_frozen BK1198.out 1; have hfz71_2 := blk_frozen BK1198.out 2) | ((with_reducible refine gate_callee (f := 33) rfl ?_); refine goesL_ (some 42) rfl rfl Try.func33 (by kernel_rfl) rfl #[.agg #[.bool t1183, .slice Ao56 t1184.length co56, .slice Ao57 t1187.length co57], .agg #[.bool t1191, .slice Ao67 t1192.length co67, .slice Ao68 t1195.length co68]] rfl (by (try simp only [List.map_toArray, List.map_cons, List.map_nil]); first | done | rfl | (simp only [List.length_drop, List.length_take]; rfl)) ?_; (with_reducible refine (impl_DivRat.calls k t1183 (fun k_ => some k_ = (.slice Ao56 t1184.length co56 : Value).ownBlock) _ _ t1184 (fun k_ => some k_ = (.slice Ao57 t1187.length co57 : Value).ownBlock) _ _ t1187 t1191 (fun k_ => some k_ = (.slice Ao67 t1192.length co67 : Value).ownBlock) _ _ t1192 (fun k_ => some k_ = (.slice Ao68 t1195.length co68 : Value).ownBlock) _ _ t1195 t1199 t1200 t1203 t1206 _ ?side1 ?side2 ?side3 ?side4 A24.out).mono ?_); (case side1 => exact Kd.R_V (Kd.R_tight rfl (Kd.R_types (Kd.R_types (Kd.R_types (Kd.R_types (Kd.R_types (HO1186.out) BK1156.out (by decide)) BK1157.out (by decide)) BK1182.out (by decide)) BK1190.out (by decide)) BK1198.out (by decide)))); (case side2 => exact Kd.R_V (Kd.R_tight rfl (Kd.R_types (Kd.R_types (Kd.R_types (Kd.R_types (Kd.R_types (HO1189.out) BK1156.out (by decide)) BK1157.out (by decide)) BK1182.out (by decide)) BK1190.out (by decide)) BK1198.out (by decide)))); (case side3 => exact Kd.R_V (Kd.R_tight rfl (Kd.R_types (Kd.R_types (Kd.R_types (Kd.R_types (Kd.R_types (HO1194.out) BK1156.out (by decide)) BK1157.out (by decide)) BK1182.out (by decide)) BK1190.out (by decide)) BK1198.out (by decide)))); (case side4 => exact Kd.R_V (Kd.R_tight rfl (Kd.R_types (Kd.R_types (Kd.R_types (Kd.R_types (Kd.R_types (HO1197.out) BK1156.out (by decide)) BK1157.out (by decide)) BK1182.out (by decide)) BK1190.out (by decide)) BK1198.out (by decide)))); rintro e w72 ⟨v1201, v1204, rfl, ho0, ho1, hb⟩; refine ⟨_, rfl, ?_⟩; have HO1202 := lwR (nwR (nwR (nwR (nwR (nwR (nwR (nwR (nwR (nwR (nwR (Kd.R_mono (ok' := fun k_ => nO k_ v1204) ho0 (fun _ hk_ => hk_.2)) HO1163) HO1166) HO1170) HO1173) HO1177) HO1180) HO1186) HO1189) HO1194) HO1197) HB; have HO1205 := lwR (nwR (nwR (nwR (nwR (nwR (nwR (nwR (nwR (nwR (nwR (Kd.R_mono (ok' := fun k_ => nO k_ v1201) ho1 (fun _ hk_ => hk_.2)) HO1163) HO1166) HO1170) HO1173) HO1177) HO1180) HO1186) HO1189) HO1194) HO1197) HB; replace HO1163 := tldR HO1163 hb (Kd.R_base ho0) (Kd.R_base ho1); replace HO1166 := tldR HO1166 hb (Kd.R_base ho0) (Kd.R_base ho1); replace HO1170 := tldR HO1170 hb (Kd.R_base ho0) (Kd.R_base ho1); replace HO1173 := tldR HO1173 hb (Kd.R_base ho0) (Kd.R_base ho1); replace HO1177 := tldR HO1177 hb (Kd.R_base ho0) (Kd.R_base ho1); replace HO1180 := tldR HO1180 hb (Kd.R_base ho0) (Kd.R_base ho1); replace HO1186 := tldR HO1186 hb (Kd.R_base ho0) (Kd.R_base ho1); replace HO1189 := tldR HO1189 hb (Kd.R_base ho0) (Kd.R_base ho1); replace HO1194 := tldR HO1194 hb (Kd.R_base ho0) (Kd.R_base ho1); replace HO1197 := tldR HO1197 hb (Kd.R_base ho0) (Kd.R_base ho1); replace BK1156 := bkb BK1156 hb; replace BK1157 := bkb BK1157 hb; replace BK1182 := bkb BK1182 hb; replace BK1190 := bkb BK1190 hb; replace BK1198 := bkb BK1198 hb; replace HB := bst HB hb; (try clear hb); (try clear hb2); (try clear hk); (try clear hi); (try clear ho0); (try clear ho1)) | ((with_reducible refine gate_dst (N := 10) rfl ?_); refine box_event ?hg (N := 10) ?hd (cs := #[.bool false, .slice none 0 0, .slice none 0 0]) (t := 24) ?hr ?_; (case hd => rfl); (case hg => rfl); (case hr => first | (go_simp; done) | (go_simp; rfl)); intro gb1207 hg w73 hbox hb; replace HO1163 := rblR HO1163 hb; replace HO1166 := rblR HO1166 hb; replace HO1170 := rblR HO1170 hb; replace HO1173 := rblR HO1173 hb; replace HO1177 := rblR HO1177 hb; replace HO1180 := rblR HO1180 hb; replace HO1186 := rblR HO1186 hb; replace HO1189 := rblR HO1189 hb; replace HO1194 := rblR HO1194 hb; replace HO1197 := rblR HO1197 hb; replace HO1202 := rblR HO1202 hb; replace HO1205 := rblR HO1205 hb; have BK1207 := Aside0.mk (hbox); have GW1207 := geh hg HB; have GE1207 := geh hg HB; replace HB := bst HB hb; have NB1156_1207 := nlt hg BK1156; have NB1207_1156 := ngt hg BK1156; replace BK1156 := bkb BK1156 hb; have NB1157_1207 := nlt hg BK1157; have NB1207_1157 := ngt hg BK1157; replace BK1157 := bkb BK1157 hb; have NB1182_1207 := nlt hg BK1182; have NB1207_1182 := ngt hg BK1182; replace BK1182 := bkb BK1182 hb; have NB1190_1207 := nlt hg BK1190; have NB1207_1190 := ngt hg BK1190; replace BK1190 := bkb BK1190 hb; have NB1198_1207 := nlt hg BK1198; have NB1207_1198 := ngt hg BK1198; replace BK1198 := bkb BK1198 hb; clear hb hbox hg; have hnb74 := NB1207_1156.out; have hnc74 := NB1156_1207.out; have hnb75 := NB1207_1157.out; have hnc75 := NB1157_1207.out; have hnb76 := NB1207_1182.out; have hnc76 := NB1182_1207.out; have hnb77 := NB1207_1190.out; have hnc77 := NB1190_1207.out; have hnb78 := NB1207_1198.out; have hnc78 := NB1198_1207.out; have hcz79_0 := bce BK1207 0 (.bool false); have hcz79_1 := bce BK1207 1 (.slice none 0 0); have hcz79_2 := bce BK1207 2 (.slice none 0 0); have hfz79_0 := blk_frozen BK1207.out 0; have hfz79_1 := blk_frozen BK1207.out 1; have hfz79_2 := blk_frozen BK1207.out 2; obtain ⟨Ao80, co80, eo80⟩ := Kd.R_slice HO1202.out; subst eo80; obtain ⟨Ao81, co81, eo81⟩ := Kd.R_slice HO1205.out; subst eo81))
   (try simp only [Act.put, List.setIfInBounds_toArray, List.set_cons_zero, List.set_cons_succ])
   go_cut [53] (fun v53 wc => ∃ (kq : Nat) (x53_24 : Bool), v53 = .bool x53_24 ∧ Aside0 (laws_FnExactDivRat.j0 kq t1181 t1206 x53_24 a0_0 l0_1 l0_2 a1_0 l1_1 l1_2 t1174 t1175 t1178 t1183 t1184 t1187 t1191 t1192 t1195 t1199 t1200 t1203 = some r) ∧ Aside0 (kq ≤ k) ∧ Aside0 (Kd.R (Kd.int .i64) 3 wc w.heap.size (fun k_ => nO k_ (.slice Ao46 t1178.length co46) ∧ nO k_ (.slice Ao56 t1184.length co56) ∧ nO k_ (.slice Ao57 t1187.length co57) ∧ nO k_ (.slice Ao67 t1192.length co67) ∧ nO k_ (.slice Ao68 t1195.length co68) ∧ nO k_ (.slice Ao80 t1200.length co80) ∧ nO k_ (.slice Ao81 t1203.length co81)) (.slice Ao44 t1175.length co44) t1175) ∧ Aside0 (Kd.R (Kd.int .i64) 3 wc w.heap.size (fun k_ => nO k_ (.slice Ao44 t1175.length co44) ∧ nO k_ (.slice Ao56 t1184.length co56) ∧ nO k_ (.slice Ao57 t1187.length co57) ∧ nO k_ (.slice Ao67 t1192.length co67) ∧ nO k_ (.slice Ao68 t1195.length co68) ∧ nO k_ (.slice Ao80 t1200.length co80) ∧ nO k_ (.slice Ao81 t1203.length co81)) (.slice Ao46 t1178.length co46) t1178) ∧ Aside0 (Kd.R (Kd.int .i64) 3 wc w.heap.size (fun k_ => nO k_ (.slice Ao44 t1175.length co44) ∧ nO k_ (.slice Ao46 t1178.length co46) ∧ nO k_ (.slice Ao57 t1187.length co57) ∧ nO k_ (.slice Ao67 t1192.length co67) ∧ nO k_ (.slice Ao68 t1195.length co68) ∧ nO k_ (.slice Ao80 t1200.length co80) ∧ nO k_ (.slice Ao81 t1203.length co81)) (.slice Ao56 t1184.length co56) t1184) ∧ Aside0 (Kd.R (Kd.int .i64) 3 wc w.heap.size (fun k_ => nO k_ (.slice Ao44 t1175.length co44) ∧ nO k_ (.slice Ao46 t1178.length co46) ∧ nO k_ (.slice Ao56 t1184.length co56) ∧ nO k_ (.slice Ao67 t1192.length co67) ∧ nO k_ (.slice Ao68 t1195.length co68) ∧ nO k_ (.slice Ao80 t1200.length co80) ∧ nO k_ (.slice Ao81 t1203.length co81)) (.slice Ao57 t1187.length co57) t1187) ∧ Aside0 (Kd.R (Kd.int .i64) 3 wc w.heap.size (fun k_ => nO k_ (.slice Ao44 t1175.length co44) ∧ nO k_ (.slice Ao46 t1178.length co46) ∧ nO k_ (.slice Ao56 t1184.length co56) ∧ nO k_ (.slice Ao57 t1187.length co57) ∧ nO k_ (.slice Ao68 t1195.length co68) ∧ nO k_ (.slice Ao80 t1200.length co80) ∧ nO k_ (.slice Ao81 t1203.length co81)) (.slice Ao67 t1192.length co67) t1192) ∧ Aside0 (Kd.R (Kd.int .i64) 3 wc w.heap.size (fun k_ => nO k_ (.slice Ao44 t1175.length co44) ∧ nO k_ (.slice Ao46 t1178.length co46) ∧ nO k_ (.slice Ao56 t1184.length co56) ∧ nO k_ (.slice Ao57 t1187.length co57) ∧ nO k_ (.slice Ao67 t1192.length co67) ∧ nO k_ (.slice Ao80 t1200.length co80) ∧ nO k_ (.slice Ao81 t1203.length co81)) (.slice Ao68 t1195.length co68) t1195) ∧ Aside0 (Kd.R (Kd.int .i64) 3 wc w.heap.size (fun k_ => nO k_ (.slice Ao44 t1175.length co44) ∧ nO k_ (.slice Ao46 t1178.length co46) ∧ nO k_ (.slice Ao56 t1184.length co56) ∧ nO k_ (.slice Ao57 t1187.length co57) ∧ nO k_ (.slice Ao67 t1192.length co67) ∧ nO k_ (.slice Ao68 t1195.length co68) ∧ nO k_ (.slice Ao81 t1203.length co81)) (.slice Ao80 t1200.length co80) t1200) ∧ Aside0 (Kd.R (Kd.int .i64) 3 wc w.heap.size (fun k_ => nO k_ (.slice Ao44 t1175.length co44) ∧ nO k_ (.slice Ao46 t1178.length co46) ∧ nO k_ (.slice Ao56 t1184.length co56) ∧ nO k_ (.slice Ao57 t1187.length co57) ∧ nO k_ (.slice Ao67 t1192.length co67) ∧ nO k_ (.slice Ao68 t1195.length co68) ∧ nO k_ (.slice Ao80 t1200.length co80)) (.slice Ao81 t1203.length co81) t1203) ∧ Aside0 (wc.heap[gb1156]? = some (.cells #[.bool a0_0, (.slice A0_1 l0_1.length c0_1), (.slice A0_2 l0_2.length c0_2)] 30 (0, 0))) ∧ Aside0 (wc.heap[gb1157]? = some (.cells #[.bool a1_0, (.slice A1_1 l1_1.length c1_1), (.slice A1_2 l1_2.length c1_2)] 30 (0, 0))) ∧ Aside0 (wc.heap[gb1182]? = some (.cells #[.bool t1174, (.slice Ao44 t1175.length co44), (.slice Ao46 t1178.length co46)] 24 (0, 0))) ∧ Aside0 (wc.heap[gb1190]? = some (.cells #[.bool t1183, (.slice Ao56 t1184.length co56), (.slice Ao57 t1187.length co57)] 24 (0, 0))) ∧ Aside0 (wc.heap[gb1198]? = some (.cells #[.bool t1191, (.slice Ao67 t1192.length co67), (.slice Ao68 t1195.length co68)] 24 (0, 0))) ∧ Aside0 (wc.heap[gb1207]? = some (.cells #[.bool t1199, (.slice Ao80 t1200.length co80), (.slice Ao81 t1203.length co81)] 24 (0, 0))) ∧ Aside0 (Below w.heap.size w wc))
   case first =>
    have H := HC25.out
    clear HC25
    replace H := Option.bind_eq_some_iff.mp H
    obtain ⟨t1208, A820, H⟩ := H
    replace H : (if t1208 = true then (laws_FnExactDivRat.j0 k t1181 t1206 (t1206 != t1181) a0_0 l0_1 l0_2 a1_0 l1_1 l1_2 t1174 t1175 t1178 t1183 t1184 t1187 t1191 t1192 t1195 t1199 t1200 t1203) else (laws_FnExactDivRat.j0 k t1181 t1206 true a0_0 l0_1 l0_2 a1_0 l1_1 l1_2 t1174 t1175 t1178 t1183 t1184 t1187 t1191 t1192 t1195 t1199 t1200 t1203)) = some r := H
    have A82 := Aside0.mk A820
    clear A820
    by_cases c83 : t1208 = true
    ·
     subst c83
     have H1 : (laws_FnExactDivRat.j0 k t1181 t1206 (t1206 != t1181) a0_0 l0_1 l0_2 a1_0 l1_1 l1_2 t1174 t1175 t1178 t1183 t1184 t1187 t1191 t1192 t1195 t1199 t1200 t1203) = some r := by rw [if_pos rfl] at H; exact H
     clear H
     have H := H1
     clear H1
     have H' := Aside0.mk H
     clear H
     have hnb84 := NB1207_1156.out
     have hnc84 := NB1156_1207.out
     have hnb85 := NB1207_1157.out
     have hnc85 := NB1157_1207.out
     have hnb86 := NB1207_1182.out
     have hnc86 := NB1182_1207.out
     have hnb87 := NB1207_1190.out
     have hnc87 := NB1190_1207.out
     have hnb88 := NB1207_1198.out
     have hnc88 := NB1198_1207.out
     have hcz89_0 := bce BK1207 0 (.bool false)
     have hcz89_1 := bce BK1207 1 (.slice none 0 0)
     have hcz89_2 := bce BK1207 2 (.slice none 0 0)
     have hfz89_0 := blk_frozen BK1207.out 0
     have hfz89_1 := blk_frozen BK1207.out 1
     have hfz89_2 := blk_frozen BK1207.out 2
     have hnb90 := NB1182_1156.out
     have hnc90 := NB1156_1182.out
     have hnb91 := NB1182_1157.out
     have hnc91 := NB1157_1182.out
     have hnb92 := NB1182_1190.out
     have hnc92 := NB1190_1182.out
     have hnb93 := NB1182_1198.out
     have hnc93 := NB1198_1182.out
     have hcz94_0 := bce BK1182 0 (.bool t1174)
     have hcz94_1 := bce BK1182 1 (.slice Ao44 t1175.length co44)
     have hcz94_2 := bce BK1182 2 (.slice Ao46 t1178.length co46)
     have hfz94_0 := blk_frozen BK1182.out 0
     have hfz94_1 := blk_frozen BK1182.out 1
     have hfz94_2 := blk_frozen BK1182.out 2
     go_wp2_with (first | ((with_reducible refine gate_callee (f := 17) rfl ?_); refine goesL_ (some 47) rfl rfl Try.func17 (by kernel_rfl) rfl #[.agg #[.bool t1199, .slice Ao80 t1200.length co80, .slice Ao81 t1203.length co81], .agg #[.bool t1174, .slice Ao44 t1175.length co44, .slice Ao46 t1178.length co46]] rfl (by (try simp only [List.map_toArray, List.map_cons, List.map_nil]); first | done | rfl | (simp only [List.length_drop, List.length_take]; rfl)) ?_; (with_reducible refine (laws_eqRat.calls k t1199 _ _ t1200 _ _ t1203 t1174 _ _ t1175 _ _ t1178 true _ ?side1 ?side2 ?side3 ?side4 ?side5 ?side6 ?side7 ?side8 A82.out).mono ?_); (case side1 => refine (Kd.R_reads' (e := 3) (base := w.heap.size) (ok := fun k_ => ((((((((((nO k_ (.slice Ao81 t1203.length co81) ∧ nO k_ v1162) ∧ nO k_ v1165) ∧ nO k_ v1169) ∧ nO k_ v1172) ∧ nO k_ (.slice Ao44 t1175.length co44)) ∧ nO k_ (.slice Ao46 t1178.length co46)) ∧ nO k_ (.slice Ao56 t1184.length co56)) ∧ nO k_ (.slice Ao57 t1187.length co57)) ∧ nO k_ (.slice Ao67 t1192.length co67)) ∧ nO k_ (.slice Ao68 t1195.length co68))) (n := t1200.length) (c := co80) ?_).2.2; exact (crF HO1202 BK1207)); (case side2 => exact (Kd.R_reads' HO1202.out).2.1); (case side3 => refine (Kd.R_reads' (e := 3) (base := w.heap.size) (ok := fun k_ => ((((((((((nO k_ (.slice Ao80 t1200.length co80) ∧ nO k_ v1162) ∧ nO k_ v1165) ∧ nO k_ v1169) ∧ nO k_ v1172) ∧ nO k_ (.slice Ao44 t1175.length co44)) ∧ nO k_ (.slice Ao46 t1178.length co46)) ∧ nO k_ (.slice Ao56 t1184.length co56)) ∧ nO k_ (.slice Ao57 t1187.length co57)) ∧ nO k_ (.slice Ao67 t1192.length co67)) ∧ nO k_ (.slice Ao68 t1195.length co68))) (n := t1203.length) (c := co81) ?_).2.2; exact (crF HO1205 BK1207)); (case side4 => exact (Kd.R_reads' HO1205.out).2.1); (case side5 => refine (Kd.R_reads' (e := 3) (base := w.heap.size) (ok := fun k_ => (((nO k_ v1162 ∧ (nO k_ v1165 ∧ (nO k_ v1169 ∧ (nO k_ v1172 ∧ (nO k_ (.slice Ao46 t1178.length co46) ∧ (nO k_ (.slice Ao56 t1184.length co56) ∧ (nO k_ (.slice Ao57 t1187.length co57) ∧ (nO k_ (.slice Ao67 t1192.length co67) ∧ nO k_ (.slice Ao68 t1195.length co68))))))))) ∧ nO k_ (.slice Ao80 t1200.length co80)) ∧ nO k_ (.slice Ao81 t1203.length co81))) (n := t1175.length) (c := co44) ?_).2.2; exact (crF HO1177 BK1207)); (case side6 => exact (Kd.R_reads' HO1177.out).2.1); (case side7 => refine (Kd.R_reads' (e := 3) (base := w.heap.size) (ok := fun k_ => (((nO k_ v1162 ∧ (nO k_ v1165 ∧ (nO k_ v1169 ∧ (nO k_ v1172 ∧ (nO k_ (.slice Ao44 t1175.length co44) ∧ (nO k_ (.slice Ao56 t1184.length co56) ∧ (nO k_ (.slice Ao57 t1187.length co57) ∧ (nO k_ (.slice Ao67 t1192.length co67) ∧ nO k_ (.slice Ao68 t1195.length co68))))))))) ∧ nO k_ (.slice Ao80 t1200.length co80)) ∧ nO k_ (.slice Ao81 t1203.length co81))) (n := t1178.length) (c := co46) ?_).2.2; exact (crF HO1180 BK1207)); (case side8 => exact (Kd.R_reads' HO1180.out).2.1); rintro e w95 ⟨rfl, hb⟩; refine ⟨_, rfl, ?_⟩; replace HO1163 := rblF HO1163 BK1207 hb; replace HO1166 := rblF HO1166 BK1207 hb; replace HO1170 := rblF HO1170 BK1207 hb; replace HO1173 := rblF HO1173 BK1207 hb; replace HO1177 := rblF HO1177 BK1207 hb; replace HO1180 := rblF HO1180 BK1207 hb; replace HO1186 := rblF HO1186 BK1207 hb; replace HO1189 := rblF HO1189 BK1207 hb; replace HO1194 := rblF HO1194 BK1207 hb; replace HO1197 := rblF HO1197 BK1207 hb; replace HO1202 := rblF HO1202 BK1207 hb; replace HO1205 := rblF HO1205 BK1207 hb; replace BK1156 := bkf BK1156 hb; replace BK1157 := bkf BK1157 hb; replace BK1182 := bkf BK1182 hb; replace BK1190 := bkf BK1190 hb; replace BK1198 := bkf BK1198 hb; replace BK1207 := bkp BK1207 (.bool t1199) (.slice Ao80 t1200.length co80) (.slice Ao81 t1203.length co81) hb; replace HB := bst HB hb; (try clear hb); (try clear hb2); (try clear hk); (try clear hi)))
     go_meet
     case rel => exact ⟨_, ((t1206 != t1181)), (by first | rfl | (simp; done) | (simp [*]; done)), H', ⟨by first | omega | exact Nat.le_refl _⟩, ⟨crM HO1177 fun _ hk => ⟨hk.1.1.2.2.2.2.1, hk.1.1.2.2.2.2.2.1, hk.1.1.2.2.2.2.2.2.1, hk.1.1.2.2.2.2.2.2.2.1, hk.1.1.2.2.2.2.2.2.2.2, hk.1.2, hk.2⟩⟩, ⟨crM HO1180 fun _ hk => ⟨hk.1.1.2.2.2.2.1, hk.1.1.2.2.2.2.2.1, hk.1.1.2.2.2.2.2.2.1, hk.1.1.2.2.2.2.2.2.2.1, hk.1.1.2.2.2.2.2.2.2.2, hk.1.2, hk.2⟩⟩, ⟨crM HO1186 fun _ hk => ⟨hk.1.1.2.2.2.2.1, hk.1.1.2.2.2.2.2.1, hk.1.1.2.2.2.2.2.2.1, hk.1.1.2.2.2.2.2.2.2.1, hk.1.1.2.2.2.2.2.2.2.2, hk.1.2, hk.2⟩⟩, ⟨crM HO1189 fun _ hk => ⟨hk.1.1.2.2.2.2.1, hk.1.1.2.2.2.2.2.1, hk.1.1.2.2.2.2.2.2.1, hk.1.1.2.2.2.2.2.2.2.1, hk.1.1.2.2.2.2.2.2.2.2, hk.1.2, hk.2⟩⟩, ⟨crM HO1194 fun _ hk => ⟨hk.1.1.2.2.2.2.1, hk.1.1.2.2.2.2.2.1, hk.1.1.2.2.2.2.2.2.1, hk.1.1.2.2.2.2.2.2.2.1, hk.1.1.2.2.2.2.2.2.2.2, hk.1.2, hk.2⟩⟩, ⟨crM HO1197 fun _ hk => ⟨hk.1.1.2.2.2.2.1, hk.1.1.2.2.2.2.2.1, hk.1.1.2.2.2.2.2.2.1, hk.1.1.2.2.2.2.2.2.2.1, hk.1.1.2.2.2.2.2.2.2.2, hk.1.2, hk.2⟩⟩, ⟨crM HO1202 fun _ hk => ⟨hk.1.1.1.1.1.2, hk.1.1.1.1.2, hk.1.1.1.2, hk.1.1.2, hk.1.2, hk.2, hk.1.1.1.1.1.1.1.1.1.1⟩⟩, ⟨crM HO1205 fun _ hk => ⟨hk.1.1.1.1.1.2, hk.1.1.1.1.2, hk.1.1.1.2, hk.1.1.2, hk.1.2, hk.2, hk.1.1.1.1.1.1.1.1.1.1⟩⟩, ⟨crb BK1156⟩, ⟨crb BK1157⟩, ⟨crb BK1182⟩, ⟨crb BK1190⟩, ⟨crb BK1198⟩, ⟨crb BK1207⟩, ⟨blw HB⟩⟩
    ·
     replace c83 := Bool.eq_false_iff.mpr c83
     subst c83
     have H1 : (laws_FnExactDivRat.j0 k t1181 t1206 true a0_0 l0_1 l0_2 a1_0 l1_1 l1_2 t1174 t1175 t1178 t1183 t1184 t1187 t1191 t1192 t1195 t1199 t1200 t1203) = some r := by rw [if_neg (show ¬ (false = true) by decide)] at H; exact H
     clear H
     have H := H1
     clear H1
     have H' := Aside0.mk H
     clear H
     have hnb96 := NB1207_1156.out
     have hnc96 := NB1156_1207.out
     have hnb97 := NB1207_1157.out
     have hnc97 := NB1157_1207.out
     have hnb98 := NB1207_1182.out
     have hnc98 := NB1182_1207.out
     have hnb99 := NB1207_1190.out
     have hnc99 := NB1190_1207.out
     have hnb100 := NB1207_1198.out
     have hnc100 := NB1198_1207.out
     have hcz101_0 := bce BK1207 0 (.bool false)
     have hcz101_1 := bce BK1207 1 (.slice none 0 0)
     have hcz101_2 := bce BK1207 2 (.slice none 0 0)
     have hfz101_0 := blk_frozen BK1207.out 0
     have hfz101_1 := blk_frozen BK1207.out 1
     have hfz101_2 := blk_frozen BK1207.out 2
     have hnb102 := NB1182_1156.out
     have hnc102 := NB1156_1182.out
     have hnb103 := NB1182_1157.out
     have hnc103 := NB1157_1182.out
     have hnb104 := NB1182_1190.out
     have hnc104 := NB1190_1182.out
     have hnb105 := NB1182_1198.out
     have hnc105 := NB1198_1182.out
     have hcz106_0 := bce BK1182 0 (.bool t1174)
     have hcz106_1 := bce BK1182 1 (.slice Ao44 t1175.length co44)
     have hcz106_2 := bce BK1182 2 (.slice Ao46 t1178.length co46)
     have hfz106_0 := blk_frozen BK1182.out 0
     have hfz106_1 := blk_frozen BK1182.out 1
     have hfz106_2 := blk_frozen BK1182.out 2
     go_wp2_with (first | ((with_reducible refine gate_callee (f := 17) rfl ?_); refine goesL_ (some 47) rfl rfl Try.func17 (by kernel_rfl) rfl #[.agg #[.bool t1199, .slice Ao80 t1200.length co80, .slice Ao81 t1203.length co81], .agg #[.bool t1174, .slice Ao44 t1175.length co44, .slice Ao46 t1178.length co46]] rfl (by (try simp only [List.map_toArray, List.map_cons, List.map_nil]); first | done | rfl | (simp only [List.length_drop, List.length_take]; rfl)) ?_; (with_reducible refine (laws_eqRat.calls k t1199 _ _ t1200 _ _ t1203 t1174 _ _ t1175 _ _ t1178 false _ ?side1 ?side2 ?side3 ?side4 ?side5 ?side6 ?side7 ?side8 A82.out).mono ?_); (case side1 => refine (Kd.R_reads' (e := 3) (base := w.heap.size) (ok := fun k_ => ((((((((((nO k_ (.slice Ao81 t1203.length co81) ∧ nO k_ v1162) ∧ nO k_ v1165) ∧ nO k_ v1169) ∧ nO k_ v1172) ∧ nO k_ (.slice Ao44 t1175.length co44)) ∧ nO k_ (.slice Ao46 t1178.length co46)) ∧ nO k_ (.slice Ao56 t1184.length co56)) ∧ nO k_ (.slice Ao57 t1187.length co57)) ∧ nO k_ (.slice Ao67 t1192.length co67)) ∧ nO k_ (.slice Ao68 t1195.length co68))) (n := t1200.length) (c := co80) ?_).2.2; exact (crF HO1202 BK1207)); (case side2 => exact (Kd.R_reads' HO1202.out).2.1); (case side3 => refine (Kd.R_reads' (e := 3) (base := w.heap.size) (ok := fun k_ => ((((((((((nO k_ (.slice Ao80 t1200.length co80) ∧ nO k_ v1162) ∧ nO k_ v1165) ∧ nO k_ v1169) ∧ nO k_ v1172) ∧ nO k_ (.slice Ao44 t1175.length co44)) ∧ nO k_ (.slice Ao46 t1178.length co46)) ∧ nO k_ (.slice Ao56 t1184.length co56)) ∧ nO k_ (.slice Ao57 t1187.length co57)) ∧ nO k_ (.slice Ao67 t1192.length co67)) ∧ nO k_ (.slice Ao68 t1195.length co68))) (n := t1203.length) (c := co81) ?_).2.2; exact (crF HO1205 BK1207)); (case side4 => exact (Kd.R_reads' HO1205.out).2.1); (case side5 => refine (Kd.R_reads' (e := 3) (base := w.heap.size) (ok := fun k_ => (((nO k_ v1162 ∧ (nO k_ v1165 ∧ (nO k_ v1169 ∧ (nO k_ v1172 ∧ (nO k_ (.slice Ao46 t1178.length co46) ∧ (nO k_ (.slice Ao56 t1184.length co56) ∧ (nO k_ (.slice Ao57 t1187.length co57) ∧ (nO k_ (.slice Ao67 t1192.length co67) ∧ nO k_ (.slice Ao68 t1195.length co68))))))))) ∧ nO k_ (.slice Ao80 t1200.length co80)) ∧ nO k_ (.slice Ao81 t1203.length co81))) (n := t1175.length) (c := co44) ?_).2.2; exact (crF HO1177 BK1207)); (case side6 => exact (Kd.R_reads' HO1177.out).2.1); (case side7 => refine (Kd.R_reads' (e := 3) (base := w.heap.size) (ok := fun k_ => (((nO k_ v1162 ∧ (nO k_ v1165 ∧ (nO k_ v1169 ∧ (nO k_ v1172 ∧ (nO k_ (.slice Ao44 t1175.length co44) ∧ (nO k_ (.slice Ao56 t1184.length co56) ∧ (nO k_ (.slice Ao57 t1187.length co57) ∧ (nO k_ (.slice Ao67 t1192.length co67) ∧ nO k_ (.slice Ao68 t1195.length co68))))))))) ∧ nO k_ (.slice Ao80 t1200.length co80)) ∧ nO k_ (.slice Ao81 t1203.length co81))) (n := t1178.length) (c := co46) ?_).2.2; exact (crF HO1180 BK1207)); (case side8 => exact (Kd.R_reads' HO1180.out).2.1); rintro e w107 ⟨rfl, hb⟩; refine ⟨_, rfl, ?_⟩; replace HO1163 := rblF HO1163 BK1207 hb; replace HO1166 := rblF HO1166 BK1207 hb; replace HO1170 := rblF HO1170 BK1207 hb; replace HO1173 := rblF HO1173 BK1207 hb; replace HO1177 := rblF HO1177 BK1207 hb; replace HO1180 := rblF HO1180 BK1207 hb; replace HO1186 := rblF HO1186 BK1207 hb; replace HO1189 := rblF HO1189 BK1207 hb; replace HO1194 := rblF HO1194 BK1207 hb; replace HO1197 := rblF HO1197 BK1207 hb; replace HO1202 := rblF HO1202 BK1207 hb; replace HO1205 := rblF HO1205 BK1207 hb; replace BK1156 := bkf BK1156 hb; replace BK1157 := bkf BK1157 hb; replace BK1182 := bkf BK1182 hb; replace BK1190 := bkf BK1190 hb; replace BK1198 := bkf BK1198 hb; replace BK1207 := bkp BK1207 (.bool t1199) (.slice Ao80 t1200.length co80) (.slice Ao81 t1203.length co81) hb; replace HB := bst HB hb; (try clear hb); (try clear hb2); (try clear hk); (try clear hi)))
     go_meet
     case rel => exact ⟨_, (true), (by first | rfl | (simp; done) | (simp [*]; done)), H', ⟨by first | omega | exact Nat.le_refl _⟩, ⟨crM HO1177 fun _ hk => ⟨hk.1.1.2.2.2.2.1, hk.1.1.2.2.2.2.2.1, hk.1.1.2.2.2.2.2.2.1, hk.1.1.2.2.2.2.2.2.2.1, hk.1.1.2.2.2.2.2.2.2.2, hk.1.2, hk.2⟩⟩, ⟨crM HO1180 fun _ hk => ⟨hk.1.1.2.2.2.2.1, hk.1.1.2.2.2.2.2.1, hk.1.1.2.2.2.2.2.2.1, hk.1.1.2.2.2.2.2.2.2.1, hk.1.1.2.2.2.2.2.2.2.2, hk.1.2, hk.2⟩⟩, ⟨crM HO1186 fun _ hk => ⟨hk.1.1.2.2.2.2.1, hk.1.1.2.2.2.2.2.1, hk.1.1.2.2.2.2.2.2.1, hk.1.1.2.2.2.2.2.2.2.1, hk.1.1.2.2.2.2.2.2.2.2, hk.1.2, hk.2⟩⟩, ⟨crM HO1189 fun _ hk => ⟨hk.1.1.2.2.2.2.1, hk.1.1.2.2.2.2.2.1, hk.1.1.2.2.2.2.2.2.1, hk.1.1.2.2.2.2.2.2.2.1, hk.1.1.2.2.2.2.2.2.2.2, hk.1.2, hk.2⟩⟩, ⟨crM HO1194 fun _ hk => ⟨hk.1.1.2.2.2.2.1, hk.1.1.2.2.2.2.2.1, hk.1.1.2.2.2.2.2.2.1, hk.1.1.2.2.2.2.2.2.2.1, hk.1.1.2.2.2.2.2.2.2.2, hk.1.2, hk.2⟩⟩, ⟨crM HO1197 fun _ hk => ⟨hk.1.1.2.2.2.2.1, hk.1.1.2.2.2.2.2.1, hk.1.1.2.2.2.2.2.2.1, hk.1.1.2.2.2.2.2.2.2.1, hk.1.1.2.2.2.2.2.2.2.2, hk.1.2, hk.2⟩⟩, ⟨crM HO1202 fun _ hk => ⟨hk.1.1.1.1.1.2, hk.1.1.1.1.2, hk.1.1.1.2, hk.1.1.2, hk.1.2, hk.2, hk.1.1.1.1.1.1.1.1.1.1⟩⟩, ⟨crM HO1205 fun _ hk => ⟨hk.1.1.1.1.1.2, hk.1.1.1.1.2, hk.1.1.1.2, hk.1.1.2, hk.1.2, hk.2, hk.1.1.1.1.1.1.1.1.1.1⟩⟩, ⟨crb BK1156⟩, ⟨crb BK1157⟩, ⟨crb BK1182⟩, ⟨crb BK1190⟩, ⟨crb BK1198⟩, ⟨crb BK1207⟩, ⟨blw HB⟩⟩
   case rest =>
    clear HC25
    try clear c1
    try clear c2
    try clear p2
    try clear c3
    try clear c4
    try clear c5
    try clear c6
    try clear c7
    try clear c8
    try clear c9
    try clear c10
    try clear c17
    try clear c22
    try clear c32
    try clear c33
    try clear c48
    try clear c52
    try clear c53
    try clear c54
    try clear c58
    try clear c62
    try clear c63
    try clear c64
    try clear c65
    try clear c74
    try clear c75
    try clear c76
    try clear c77
    try clear c78
    try clear c83
    try clear c84
    try clear c85
    try clear c86
    try clear c87
    try clear c88
    try clear c90
    try clear c91
    try clear c92
    try clear c93
    try clear c96
    try clear c97
    try clear c98
    try clear c99
    try clear c100
    try clear c102
    try clear c103
    try clear c104
    try clear c105
    try clear hcz101_0
    try clear hcz101_1
    try clear hcz101_2
    try clear hcz106_0
    try clear hcz106_1
    try clear hcz106_2
    try clear hcz49_0
    try clear hcz49_1
    try clear hcz49_2
    try clear hcz55_0
    try clear hcz55_1
    try clear hcz55_2
    try clear hcz59_0
    try clear hcz59_1
    try clear hcz59_2
    try clear hcz66_0
    try clear hcz66_1
    try clear hcz66_2
    try clear hcz70_0
    try clear hcz70_1
    try clear hcz70_2
    try clear hcz71_0
    try clear hcz71_1
    try clear hcz71_2
    try clear hcz79_0
    try clear hcz79_1
    try clear hcz79_2
    try clear hcz89_0
    try clear hcz89_1
    try clear hcz89_2
    try clear hcz94_0
    try clear hcz94_1
    try clear hcz94_2
    try clear hfz101_0
    try clear hfz101_1
    try clear hfz101_2
    try clear hfz106_0
    try clear hfz106_1
    try clear hfz106_2
    try clear hfz49_0
    try clear hfz49_1
    try clear hfz49_2
    try clear hfz55_0
    try clear hfz55_1
    try clear hfz55_2
    try clear hfz59_0
    try clear hfz59_1
    try clear hfz59_2
    try clear hfz66_0
    try clear hfz66_1
    try clear hfz66_2
    try clear hfz70_0
    try clear hfz70_1
    try clear hfz70_2
    try clear hfz71_0
    try clear hfz71_1
    try clear hfz71_2
    try clear hfz79_0
    try clear hfz79_1
    try clear hfz79_2
    try clear hfz89_0
    try clear hfz89_1
    try clear hfz89_2
    try clear hfz94_0
    try clear hfz94_1
    try clear hfz94_2
    obtain ⟨kq, x53_24, rfl, HA, HJ24, HO_1183001, HO_1183002, HO_1191001, HO_1191002, HO_1199001, HO_1199002, HO_1208001, HO_1208002, BK1156, BK1157, BK1182, BK1190, BK1198, BK1207, HB⟩ := hcut
    cases kq with
    | zero => exact absurd HA.out (by simp [laws_FnExactDivRat.j0])
    | succ kj24 =>
     have H := HA.out
     clear HA
     simp only [laws_FnExactDivRat.j0] at H
     by_cases c108 : x53_24 = true
     ·
      subst c108
      have H1 : (some false) = some r := by rw [if_pos rfl] at H; exact H
      clear H
      have H := H1
      clear H1
      obtain rfl := Option.some.inj H
      exact absurd hr_ (by decide)
     ·
      replace c108 := Bool.eq_false_iff.mpr c108
      subst c108
      have H1 : ((laws_toRat.f kj24 a0_0 l0_1 l0_2).bind fun bt1209 => ((laws_eqRat.f kj24 t1183 t1184 t1187 bt1209.1 bt1209.2.1 bt1209.2.2).bind fun t1216 => (if t1216 = true then ((laws_toRat.f kj24 a1_0 l1_1 l1_2).bind fun bt1217 => ((laws_eqRat.f kj24 t1191 t1192 t1195 bt1217.1 bt1217.2.1 bt1217.2.2).bind fun t1224 => (if t1224 = true then ((laws_markRat.f kj24 t1183 t1184 t1187 1).bind fun bt1225 => ((laws_markRat.f kj24 t1191 t1192 t1195 bt1225.1).bind fun bt1228 => (if bt1228.1 < 0 then (laws_FnExactDivRat.j1 kj24 t1181 true a0_0 l0_1 l0_2 a1_0 l1_1 l1_2 t1174 t1175 t1178 t1199 t1200 t1203) else ((laws_eqRat.f kj24 t1199 t1200 t1203 t1174 t1175 t1178).bind fun t1231 => (if t1231 = true then (laws_FnExactDivRat.j1 kj24 t1181 (t1206 != t1181) a0_0 l0_1 l0_2 a1_0 l1_1 l1_2 t1174 t1175 t1178 t1199 t1200 t1203) else (laws_FnExactDivRat.j1 kj24 t1181 true a0_0 l0_1 l0_2 a1_0 l1_1 l1_2 t1174 t1175 t1178 t1199 t1200 t1203)))))) else (some false)))) else (some false)))) = some r := by rw [if_neg (show ¬ (false = true) by decide)] at H; exact H
      clear H
      have H := H1
      clear H1
      replace H := Option.bind_eq_some_iff.mp H
      obtain ⟨⟨t1209, t1210, t1213⟩, A1090, H⟩ := H
      replace H : ((laws_eqRat.f kj24 t1183 t1184 t1187 t1209 t1210 t1213).bind fun t1216 => (if t1216 = true then ((laws_toRat.f kj24 a1_0 l1_1 l1_2).bind fun bt1217 => ((laws_eqRat.f kj24 t1191 t1192 t1195 bt1217.1 bt1217.2.1 bt1217.2.2).bind fun t1224 => (if t1224 = true then ((laws_markRat.f kj24 t1183 t1184 t1187 1).bind fun bt1225 => ((laws_markRat.f kj24 t1191 t1192 t1195 bt1225.1).bind fun bt1228 => (if bt1228.1 < 0 then (laws_FnExactDivRat.j1 kj24 t1181 true a0_0 l0_1 l0_2 a1_0 l1_1 l1_2 t1174 t1175 t1178 t1199 t1200 t1203) else ((laws_eqRat.f kj24 t1199 t1200 t1203 t1174 t1175 t1178).bind fun t1231 => (if t1231 = true then (laws_FnExactDivRat.j1 kj24 t1181 (t1206 != t1181) a0_0 l0_1 l0_2 a1_0 l1_1 l1_2 t1174 t1175 t1178 t1199 t1200 t1203) else (laws_FnExactDivRat.j1 kj24 t1181 true a0_0 l0_1 l0_2 a1_0 l1_1 l1_2 t1174 t1175 t1178 t1199 t1200 t1203)))))) else (some false)))) else (some false))) = some r := H
      have A109 := Aside0.mk A1090
      clear A1090
      replace H := Option.bind_eq_some_iff.mp H
      obtain ⟨t1216, A1100, H⟩ := H
      replace H : (if t1216 = true then ((laws_toRat.f kj24 a1_0 l1_1 l1_2).bind fun bt1217 => ((laws_eqRat.f kj24 t1191 t1192 t1195 bt1217.1 bt1217.2.1 bt1217.2.2).bind fun t1224 => (if t1224 = true then ((laws_markRat.f kj24 t1183 t1184 t1187 1).bind fun bt1225 => ((laws_markRat.f kj24 t1191 t1192 t1195 bt1225.1).bind fun bt1228 => (if bt1228.1 < 0 then (laws_FnExactDivRat.j1 kj24 t1181 true a0_0 l0_1 l0_2 a1_0 l1_1 l1_2 t1174 t1175 t1178 t1199 t1200 t1203) else ((laws_eqRat.f kj24 t1199 t1200 t1203 t1174 t1175 t1178).bind fun t1231 => (if t1231 = true then (laws_FnExactDivRat.j1 kj24 t1181 (t1206 != t1181) a0_0 l0_1 l0_2 a1_0 l1_1 l1_2 t1174 t1175 t1178 t1199 t1200 t1203) else (laws_FnExactDivRat.j1 kj24 t1181 true a0_0 l0_1 l0_2 a1_0 l1_1 l1_2 t1174 t1175 t1178 t1199 t1200 t1203)))))) else (some false)))) else (some false)) = some r := H
      have A110 := Aside0.mk A1100
      clear A1100
      by_cases c111 : t1216 = true
      ·
       subst c111
       have H1 : ((laws_toRat.f kj24 a1_0 l1_1 l1_2).bind fun bt1217 => ((laws_eqRat.f kj24 t1191 t1192 t1195 bt1217.1 bt1217.2.1 bt1217.2.2).bind fun t1224 => (if t1224 = true then ((laws_markRat.f kj24 t1183 t1184 t1187 1).bind fun bt1225 => ((laws_markRat.f kj24 t1191 t1192 t1195 bt1225.1).bind fun bt1228 => (if bt1228.1 < 0 then (laws_FnExactDivRat.j1 kj24 t1181 true a0_0 l0_1 l0_2 a1_0 l1_1 l1_2 t1174 t1175 t1178 t1199 t1200 t1203) else ((laws_eqRat.f kj24 t1199 t1200 t1203 t1174 t1175 t1178).bind fun t1231 => (if t1231 = true then (laws_FnExactDivRat.j1 kj24 t1181 (t1206 != t1181) a0_0 l0_1 l0_2 a1_0 l1_1 l1_2 t1174 t1175 t1178 t1199 t1200 t1203) else (laws_FnExactDivRat.j1 kj24 t1181 true a0_0 l0_1 l0_2 a1_0 l1_1 l1_2 t1174 t1175 t1178 t1199 t1200 t1203)))))) else (some false)))) = some r := by rw [if_pos rfl] at H; exact H
       clear H
       have H := H1
       clear H1
       replace H := Option.bind_eq_some_iff.mp H
       obtain ⟨⟨t1217, t1218, t1221⟩, A1120, H⟩ := H
       replace H : ((laws_eqRat.f kj24 t1191 t1192 t1195 t1217 t1218 t1221).bind fun t1224 => (if t1224 = true then ((laws_markRat.f kj24 t1183 t1184 t1187 1).bind fun bt1225 => ((laws_markRat.f kj24 t1191 t1192 t1195 bt1225.1).bind fun bt1228 => (if bt1228.1 < 0 then (laws_FnExactDivRat.j1 kj24 t1181 true a0_0 l0_1 l0_2 a1_0 l1_1 l1_2 t1174 t1175 t1178 t1199 t1200 t1203) else ((laws_eqRat.f kj24 t1199 t1200 t1203 t1174 t1175 t1178).bind fun t1231 => (if t1231 = true then (laws_FnExactDivRat.j1 kj24 t1181 (t1206 != t1181) a0_0 l0_1 l0_2 a1_0 l1_1 l1_2 t1174 t1175 t1178 t1199 t1200 t1203) else (laws_FnExactDivRat.j1 kj24 t1181 true a0_0 l0_1 l0_2 a1_0 l1_1 l1_2 t1174 t1175 t1178 t1199 t1200 t1203)))))) else (some false))) = some r := H
       have A112 := Aside0.mk A1120
       clear A1120
       replace H := Option.bind_eq_some_iff.mp H
       obtain ⟨t1224, A1130, H⟩ := H
       replace H : (if t1224 = true then ((laws_markRat.f kj24 t1183 t1184 t1187 1).bind fun bt1225 => ((laws_markRat.f kj24 t1191 t1192 t1195 bt1225.1).bind fun bt1228 => (if bt1228.1 < 0 then (laws_FnExactDivRat.j1 kj24 t1181 true a0_0 l0_1 l0_2 a1_0 l1_1 l1_2 t1174 t1175 t1178 t1199 t1200 t1203) else ((laws_eqRat.f kj24 t1199 t1200 t1203 t1174 t1175 t1178).bind fun t1231 => (if t1231 = true then (laws_FnExactDivRat.j1 kj24 t1181 (t1206 != t1181) a0_0 l0_1 l0_2 a1_0 l1_1 l1_2 t1174 t1175 t1178 t1199 t1200 t1203) else (laws_FnExactDivRat.j1 kj24 t1181 true a0_0 l0_1 l0_2 a1_0 l1_1 l1_2 t1174 t1175 t1178 t1199 t1200 t1203)))))) else (some false)) = some r := H
       have A113 := Aside0.mk A1130
       clear A1130
       by_cases c114 : t1224 = true
       ·
        subst c114
        have H1 : ((laws_markRat.f kj24 t1183 t1184 t1187 1).bind fun bt1225 => ((laws_markRat.f kj24 t1191 t1192 t1195 bt1225.1).bind fun bt1228 => (if bt1228.1 < 0 then (laws_FnExactDivRat.j1 kj24 t1181 true a0_0 l0_1 l0_2 a1_0 l1_1 l1_2 t1174 t1175 t1178 t1199 t1200 t1203) else ((laws_eqRat.f kj24 t1199 t1200 t1203 t1174 t1175 t1178).bind fun t1231 => (if t1231 = true then (laws_FnExactDivRat.j1 kj24 t1181 (t1206 != t1181) a0_0 l0_1 l0_2 a1_0 l1_1 l1_2 t1174 t1175 t1178 t1199 t1200 t1203) else (laws_FnExactDivRat.j1 kj24 t1181 true a0_0 l0_1 l0_2 a1_0 l1_1 l1_2 t1174 t1175 t1178 t1199 t1200 t1203)))))) = some r := by rw [if_pos rfl] at H; exact H
        clear H
        have H := H1
        clear H1
        replace H := Option.bind_eq_some_iff.mp H
        obtain ⟨⟨t1225, t1226, t1227⟩, A1150, H⟩ := H
        replace H : ((laws_markRat.f kj24 t1191 t1192 t1195 t1225).bind fun bt1228 => (if bt1228.1 < 0 then (laws_FnExactDivRat.j1 kj24 t1181 true a0_0 l0_1 l0_2 a1_0 l1_1 l1_2 t1174 t1175 t1178 t1199 t1200 t1203) else ((laws_eqRat.f kj24 t1199 t1200 t1203 t1174 t1175 t1178).bind fun t1231 => (if t1231 = true then (laws_FnExactDivRat.j1 kj24 t1181 (t1206 != t1181) a0_0 l0_1 l0_2 a1_0 l1_1 l1_2 t1174 t1175 t1178 t1199 t1200 t1203) else (laws_FnExactDivRat.j1 kj24 t1181 true a0_0 l0_1 l0_2 a1_0 l1_1 l1_2 t1174 t1175 t1178 t1199 t1200 t1203))))) = some r := H
        have A115 := Aside0.mk A1150
        clear A1150
        replace H := Option.bind_eq_some_iff.mp H
        obtain ⟨⟨t1228, t1229, t1230⟩, A1160, H⟩ := H
        replace H : (if t1228 < 0 then (laws_FnExactDivRat.j1 kj24 t1181 true a0_0 l0_1 l0_2 a1_0 l1_1 l1_2 t1174 t1175 t1178 t1199 t1200 t1203) else ((laws_eqRat.f kj24 t1199 t1200 t1203 t1174 t1175 t1178).bind fun t1231 => (if t1231 = true then (laws_FnExactDivRat.j1 kj24 t1181 (t1206 != t1181) a0_0 l0_1 l0_2 a1_0 l1_1 l1_2 t1174 t1175 t1178 t1199 t1200 t1203) else (laws_FnExactDivRat.j1 kj24 t1181 true a0_0 l0_1 l0_2 a1_0 l1_1 l1_2 t1174 t1175 t1178 t1199 t1200 t1203)))) = some r := H
        have A116 := Aside0.mk A1160
        clear A1160
        have HC117 := Aside0.mk H
        clear H
        try go_wp2
        replace HO_1183001 := Aside0.mk (Kd.R_drew HO_1183001.out)
        replace HO_1183002 := Aside0.mk (Kd.R_drew HO_1183002.out)
        replace HO_1191001 := Aside0.mk (Kd.R_drew HO_1191001.out)
        replace HO_1191002 := Aside0.mk (Kd.R_drew HO_1191002.out)
        replace HO_1199001 := Aside0.mk (Kd.R_drew HO_1199001.out)
        replace HO_1199002 := Aside0.mk (Kd.R_drew HO_1199002.out)
        replace HO_1208001 := Aside0.mk (Kd.R_drew HO_1208001.out)
        replace HO_1208002 := Aside0.mk (Kd.R_drew HO_1208002.out)
        replace BK1156 := Aside0.mk (blk_drew BK1156.out)
        replace BK1157 := Aside0.mk (blk_drew BK1157.out)
        replace BK1182 := Aside0.mk (blk_drew BK1182.out)
        replace BK1190 := Aside0.mk (blk_drew BK1190.out)
        replace BK1198 := Aside0.mk (blk_drew BK1198.out)
        replace BK1207 := Aside0.mk (blk_drew BK1207.out)
        replace HB := Aside0.mk (below_drew1 HB.out)
        refine start_ (n := 5) (S := fun w' => w'.cell? ⟨gb1190, 0, none⟩ = some (.bool t1183) ∧ w'.cell? ⟨gb1190, 1, none⟩ = some (.slice Ao56 t1184.length co56) ∧ w'.cell? ⟨gb1190, 2, none⟩ = some (.slice Ao57 t1187.length co57) ∧ w'.cell? ⟨gb1156, 0, none⟩ = some (.bool a0_0) ∧ w'.cell? ⟨gb1156, 1, none⟩ = some (.slice A0_1 l0_1.length c0_1) ∧ w'.cell? ⟨gb1156, 2, none⟩ = some (.slice A0_2 l0_2.length c0_2)) (ds := []) #[false, false, false, false, false] (by kernel_rfl) rfl rfl ⟨bce BK1190 0 _, bce BK1190 1 _, bce BK1190 2 _, bce BK1156 0 _, bce BK1156 1 _, bce BK1156 2 _⟩ (fun hHeld => ?_)
        generalize wc.drew = w118 at HO_1183001 HO_1183002 HO_1191001 HO_1191002 HO_1199001 HO_1199002 HO_1208001 HO_1208002 BK1156 BK1157 BK1182 BK1190 BK1198 BK1207 HB hHeld ⊢
        refine take_ (i := 0) (N := some 54) (v := ?_) (a' := ?_) #[true, false, false, false, false] rfl rfl (by kernel_rfl) (fun _ _ _ h => h) (Or.inl ⟨by rfl, ?_⟩) hHeld ?_ ?_
        rotate_left
        ·
         rintro w' ⟨s0, s1, s2, s3, s4, s5⟩
         go_simp
         with_reducible rfl
        rotate_left
        ·
         simp only [Act.put, List.setIfInBounds_toArray, List.set_cons_zero, List.set_cons_succ, i64_w, i32_w]
         rfl
        refine take_ (i := 1) (N := some 55) (v := ?_) (a' := ?_) #[true, true, false, false, false] rfl rfl (by kernel_rfl) (fun _ _ _ h => h) (Or.inl ⟨by rfl, ?_⟩) hHeld ?_ ?_
        rotate_left
        ·
         rintro w' ⟨s0, s1, s2, s3, s4, s5⟩
         go_simp
         with_reducible rfl
        rotate_left
        ·
         simp only [Act.put, List.setIfInBounds_toArray, List.set_cons_zero, List.set_cons_succ, i64_w, i32_w]
         rfl
        refine one_ (i := 2) (N := some 56) #[true, true, true, false, false] rfl rfl (by kernel_rfl) (by decide) (fun K hK => ?_)
        refine goes_ Try.func22 (by kernel_rfl) rfl #[.agg #[.bool a0_0, .slice A0_1 l0_1.length c0_1, .slice A0_2 l0_2.length c0_2]] (by rfl) rfl rfl (by (try simp only [List.map_toArray, List.map_cons, List.map_nil]); first | done | rfl | (simp only [List.length_drop, List.length_take]; rfl)) ?_
        with_reducible refine (laws_toRat.calls kj24 a0_0 _ _ l0_1 _ _ l0_2 t1209 t1210 t1213 _ ?side1 ?side2 ?side3 ?side4 A109.out).mono ?_
        (case side1 => exact crC (Kd.C_below HR0_1.out HB.out))
        (case side2 => exact HC0_1.out)
        (case side3 => exact crC (Kd.C_below HR0_2.out HB.out))
        (case side4 => exact HC0_2.out)
        rintro e w119 ⟨v1211, v1214, rfl, ho0, ho1, hb⟩
        refine ⟨_, rfl, ?_⟩
        have HO1212 := lwR (nwR (nwR (nwR (nwR (nwR (nwR (nwR (nwR ho0 HO_1183001) HO_1183002) HO_1191001) HO_1191002) HO_1199001) HO_1199002) HO_1208001) HO_1208002) HB
        have HO1215 := lwR (nwR (nwR (nwR (nwR (nwR (nwR (nwR (nwR ho1 HO_1183001) HO_1183002) HO_1191001) HO_1191002) HO_1199001) HO_1199002) HO_1208001) HO_1208002) HB
        replace HO_1183001 := tldR HO_1183001 hb (Kd.R_base ho0) (Kd.R_base ho1)
        replace HO_1183002 := tldR HO_1183002 hb (Kd.R_base ho0) (Kd.R_base ho1)
        replace HO_1191001 := tldR HO_1191001 hb (Kd.R_base ho0) (Kd.R_base ho1)
        replace HO_1191002 := tldR HO_1191002 hb (Kd.R_base ho0) (Kd.R_base ho1)
        replace HO_1199001 := tldR HO_1199001 hb (Kd.R_base ho0) (Kd.R_base ho1)
        replace HO_1199002 := tldR HO_1199002 hb (Kd.R_base ho0) (Kd.R_base ho1)
        replace HO_1208001 := tldR HO_1208001 hb (Kd.R_base ho0) (Kd.R_base ho1)
        replace HO_1208002 := tldR HO_1208002 hb (Kd.R_base ho0) (Kd.R_base ho1)
        replace BK1156 := bkb BK1156 hb
        replace BK1157 := bkb BK1157 hb
        replace BK1182 := bkb BK1182 hb
        replace BK1190 := bkb BK1190 hb
        replace BK1198 := bkb BK1198 hb
        replace BK1207 := bkb BK1207 hb
        replace HB := bst HB hb
        (try clear hb)
        (try clear hb2)
        (try clear hk)
        (try clear hi)
        (try clear ho0)
        (try clear ho1)
        obtain ⟨Ao120, co120, eo120⟩ := Kd.R_slice HO1212.out
        (first | subst eo120 | (injection eo120 with f1_ f2_ f3_; have f4_ := f1_.symm; have f5_ := f3_.symm; clear f1_ f2_ f3_; subst f4_; subst f5_))
        obtain ⟨Ao121, co121, eo121⟩ := Kd.R_slice HO1215.out
        (first | subst eo121 | (injection eo121 with f1_ f2_ f3_; have f4_ := f1_.symm; have f5_ := f3_.symm; clear f1_ f2_ f3_; subst f4_; subst f5_))
        refine hK.out _ _ ⟨bce BK1190 0 _, bce BK1190 1 _, bce BK1190 2 _, bce BK1156 0 _, bce BK1156 1 _, bce BK1156 2 _⟩ (fun hHeld => ?_)
        clear hK K
        refine norm_ (a' := ?_) ?_ ?_
        rotate_left
        ·
         show Act.put _ (some 56) _ = _
         simp only [Act.put, List.setIfInBounds_toArray, List.set_cons_zero, List.set_cons_succ, i64_w, i32_w]
         rfl
        refine one_ (i := 3) (N := some 57) #[true, true, true, true, false] rfl rfl (by kernel_rfl) (by decide) (fun K hK => ?_)
        refine goes_ Try.func17 (by kernel_rfl) rfl #[.agg #[.bool t1183, .slice Ao56 t1184.length co56, .slice Ao57 t1187.length co57], .agg #[.bool t1209, .slice Ao120 t1210.length co120, .slice Ao121 t1213.length co121]] (by rfl) rfl rfl (by (try simp only [List.map_toArray, List.map_cons, List.map_nil]); first | done | rfl | (simp only [List.length_drop, List.length_take]; rfl)) ?_
        with_reducible refine (laws_eqRat.calls kj24 t1183 _ _ t1184 _ _ t1187 t1209 _ _ t1210 _ _ t1213 true _ ?side1 ?side2 ?side3 ?side4 ?side5 ?side6 ?side7 ?side8 A110.out).mono ?_
        (case side1 => exact crC (Kd.R_reads' HO_1191001.out).2.2)
        (case side2 => exact (Kd.R_reads' HO_1191001.out).2.1)
        (case side3 => exact crC (Kd.R_reads' HO_1191002.out).2.2)
        (case side4 => exact (Kd.R_reads' HO_1191002.out).2.1)
        (case side5 => exact crC (Kd.R_reads' HO1212.out).2.2)
        (case side6 => exact (Kd.R_reads' HO1212.out).2.1)
        (case side7 => exact crC (Kd.R_reads' HO1215.out).2.2)
        (case side8 => exact (Kd.R_reads' HO1215.out).2.1)
        rintro e w122 ⟨rfl, hb⟩
        refine ⟨_, rfl, ?_⟩
        replace HO_1183001 := rblR HO_1183001 hb
        replace HO_1183002 := rblR HO_1183002 hb
        replace HO_1191001 := rblR HO_1191001 hb
        replace HO_1191002 := rblR HO_1191002 hb
        replace HO_1199001 := rblR HO_1199001 hb
        replace HO_1199002 := rblR HO_1199002 hb
        replace HO_1208001 := rblR HO_1208001 hb
        replace HO_1208002 := rblR HO_1208002 hb
        replace HO1212 := rblR HO1212 hb
        replace HO1215 := rblR HO1215 hb
        replace BK1156 := bkb BK1156 hb
        replace BK1157 := bkb BK1157 hb
        replace BK1182 := bkb BK1182 hb
        replace BK1190 := bkb BK1190 hb
        replace BK1198 := bkb BK1198 hb
        replace BK1207 := bkb BK1207 hb
        replace HB := bst HB hb
        (try clear hb)
        (try clear hb2)
        (try clear hk)
        (try clear hi)
        refine hK.out _ _ ⟨bce BK1190 0 _, bce BK1190 1 _, bce BK1190 2 _, bce BK1156 0 _, bce BK1156 1 _, bce BK1156 2 _⟩ (fun hHeld => ?_)
        clear hK K
        refine norm_ (a' := ?_) ?_ ?_
        rotate_left
        ·
         show Act.put _ (some 57) _ = _
         simp only [Act.put, List.setIfInBounds_toArray, List.set_cons_zero, List.set_cons_succ, i64_w, i32_w]
         rfl
        refine pure_ (i := 4) (N := some 58) (v := ?_) (a' := ?_) #[true, true, true, true, true] rfl rfl (by kernel_rfl) (fun _ _ _ h => h) (Or.inl ⟨by rfl, ?_⟩) ?_ ?_
        rotate_left
        ·
         intro w'
         go_simp
         with_reducible rfl
        rotate_left
        ·
         simp only [Act.put, List.setIfInBounds_toArray, List.set_cons_zero, List.set_cons_succ, i64_w, i32_w]
         rfl
        refine done_ (by kernel_rfl) ?_
        try go_wp2
        replace HO_1183001 := Aside0.mk (Kd.R_drew HO_1183001.out)
        replace HO_1183002 := Aside0.mk (Kd.R_drew HO_1183002.out)
        replace HO_1191001 := Aside0.mk (Kd.R_drew HO_1191001.out)
        replace HO_1191002 := Aside0.mk (Kd.R_drew HO_1191002.out)
        replace HO_1199001 := Aside0.mk (Kd.R_drew HO_1199001.out)
        replace HO_1199002 := Aside0.mk (Kd.R_drew HO_1199002.out)
        replace HO_1208001 := Aside0.mk (Kd.R_drew HO_1208001.out)
        replace HO_1208002 := Aside0.mk (Kd.R_drew HO_1208002.out)
        replace HO1212 := Aside0.mk (Kd.R_drew HO1212.out)
        replace HO1215 := Aside0.mk (Kd.R_drew HO1215.out)
        replace BK1156 := Aside0.mk (blk_drew BK1156.out)
        replace BK1157 := Aside0.mk (blk_drew BK1157.out)
        replace BK1182 := Aside0.mk (blk_drew BK1182.out)
        replace BK1190 := Aside0.mk (blk_drew BK1190.out)
        replace BK1198 := Aside0.mk (blk_drew BK1198.out)
        replace BK1207 := Aside0.mk (blk_drew BK1207.out)
        replace HB := Aside0.mk (below_drew1 HB.out)
        refine start_ (n := 5) (S := fun w' => w'.cell? ⟨gb1198, 0, none⟩ = some (.bool t1191) ∧ w'.cell? ⟨gb1198, 1, none⟩ = some (.slice Ao67 t1192.length co67) ∧ w'.cell? ⟨gb1198, 2, none⟩ = some (.slice Ao68 t1195.length co68) ∧ w'.cell? ⟨gb1157, 0, none⟩ = some (.bool a1_0) ∧ w'.cell? ⟨gb1157, 1, none⟩ = some (.slice A1_1 l1_1.length c1_1) ∧ w'.cell? ⟨gb1157, 2, none⟩ = some (.slice A1_2 l1_2.length c1_2)) (ds := []) #[false, false, false, false, false] (by kernel_rfl) rfl rfl ⟨bce BK1198 0 _, bce BK1198 1 _, bce BK1198 2 _, bce BK1157 0 _, bce BK1157 1 _, bce BK1157 2 _⟩ (fun hHeld => ?_)
        generalize w122.drew = w123 at HO_1183001 HO_1183002 HO_1191001 HO_1191002 HO_1199001 HO_1199002 HO_1208001 HO_1208002 HO1212 HO1215 BK1156 BK1157 BK1182 BK1190 BK1198 BK1207 HB hHeld ⊢
        refine take_ (i := 0) (N := some 59) (v := ?_) (a' := ?_) #[true, false, false, false, false] rfl rfl (by kernel_rfl) (fun _ _ _ h => h) (Or.inl ⟨by rfl, ?_⟩) hHeld ?_ ?_
        rotate_left
        ·
         rintro w' ⟨s0, s1, s2, s3, s4, s5⟩
         go_simp
         with_reducible rfl
        rotate_left
        ·
         simp only [Act.put, List.setIfInBounds_toArray, List.set_cons_zero, List.set_cons_succ, i64_w, i32_w]
         rfl
        refine take_ (i := 1) (N := some 60) (v := ?_) (a' := ?_) #[true, true, false, false, false] rfl rfl (by kernel_rfl) (fun _ _ _ h => h) (Or.inl ⟨by rfl, ?_⟩) hHeld ?_ ?_
        rotate_left
        ·
         rintro w' ⟨s0, s1, s2, s3, s4, s5⟩
         go_simp
         with_reducible rfl
        rotate_left
        ·
         simp only [Act.put, List.setIfInBounds_toArray, List.set_cons_zero, List.set_cons_succ, i64_w, i32_w]
         rfl
        refine one_ (i := 2) (N := some 61) #[true, true, true, false, false] rfl rfl (by kernel_rfl) (by decide) (fun K hK => ?_)
        refine goes_ Try.func22 (by kernel_rfl) rfl #[.agg #[.bool a1_0, .slice A1_1 l1_1.length c1_1, .slice A1_2 l1_2.length c1_2]] (by rfl) rfl rfl (by (try simp only [List.map_toArray, List.map_cons, List.map_nil]); first | done | rfl | (simp only [List.length_drop, List.length_take]; rfl)) ?_
        with_reducible refine (laws_toRat.calls kj24 a1_0 _ _ l1_1 _ _ l1_2 t1217 t1218 t1221 _ ?side1 ?side2 ?side3 ?side4 A112.out).mono ?_
        (case side1 => exact crC (Kd.C_below HR1_1.out HB.out))
        (case side2 => exact HC1_1.out)
        (case side3 => exact crC (Kd.C_below HR1_2.out HB.out))
        (case side4 => exact HC1_2.out)
        rintro e w124 ⟨v1219, v1222, rfl, ho0, ho1, hb⟩
        refine ⟨_, rfl, ?_⟩
        have HO1220 := lwR (nwR (nwR (nwR (nwR (nwR (nwR (nwR (nwR (nwR (nwR ho0 HO_1183001) HO_1183002) HO_1191001) HO_1191002) HO_1199001) HO_1199002) HO_1208001) HO_1208002) HO1212) HO1215) HB
        have HO1223 := lwR (nwR (nwR (nwR (nwR (nwR (nwR (nwR (nwR (nwR (nwR ho1 HO_1183001) HO_1183002) HO_1191001) HO_1191002) HO_1199001) HO_1199002) HO_1208001) HO_1208002) HO1212) HO1215) HB
        replace HO_1183001 := tldR HO_1183001 hb (Kd.R_base ho0) (Kd.R_base ho1)
        replace HO_1183002 := tldR HO_1183002 hb (Kd.R_base ho0) (Kd.R_base ho1)
        replace HO_1191001 := tldR HO_1191001 hb (Kd.R_base ho0) (Kd.R_base ho1)
        replace HO_1191002 := tldR HO_1191002 hb (Kd.R_base ho0) (Kd.R_base ho1)
        replace HO_1199001 := tldR HO_1199001 hb (Kd.R_base ho0) (Kd.R_base ho1)
        replace HO_1199002 := tldR HO_1199002 hb (Kd.R_base ho0) (Kd.R_base ho1)
        replace HO_1208001 := tldR HO_1208001 hb (Kd.R_base ho0) (Kd.R_base ho1)
        replace HO_1208002 := tldR HO_1208002 hb (Kd.R_base ho0) (Kd.R_base ho1)
        replace HO1212 := tldR HO1212 hb (Kd.R_base ho0) (Kd.R_base ho1)
        replace HO1215 := tldR HO1215 hb (Kd.R_base ho0) (Kd.R_base ho1)
        replace BK1156 := bkb BK1156 hb
        replace BK1157 := bkb BK1157 hb
        replace BK1182 := bkb BK1182 hb
        replace BK1190 := bkb BK1190 hb
        replace BK1198 := bkb BK1198 hb
        replace BK1207 := bkb BK1207 hb
        replace HB := bst HB hb
        (try clear hb)
        (try clear hb2)
        (try clear hk)
        (try clear hi)
        (try clear ho0)
        (try clear ho1)
        obtain ⟨Ao125, co125, eo125⟩ := Kd.R_slice HO1220.out
        (first | subst eo125 | (injection eo125 with f1_ f2_ f3_; have f4_ := f1_.symm; have f5_ := f3_.symm; clear f1_ f2_ f3_; subst f4_; subst f5_))
        obtain ⟨Ao126, co126, eo126⟩ := Kd.R_slice HO1223.out
        (first | subst eo126 | (injection eo126 with f1_ f2_ f3_; have f4_ := f1_.symm; have f5_ := f3_.symm; clear f1_ f2_ f3_; subst f4_; subst f5_))
        refine hK.out _ _ ⟨bce BK1198 0 _, bce BK1198 1 _, bce BK1198 2 _, bce BK1157 0 _, bce BK1157 1 _, bce BK1157 2 _⟩ (fun hHeld => ?_)
        clear hK K
        refine norm_ (a' := ?_) ?_ ?_
        rotate_left
        ·
         show Act.put _ (some 61) _ = _
         simp only [Act.put, List.setIfInBounds_toArray, List.set_cons_zero, List.set_cons_succ, i64_w, i32_w]
         rfl
        refine one_ (i := 3) (N := some 62) #[true, true, true, true, false] rfl rfl (by kernel_rfl) (by decide) (fun K hK => ?_)
        refine goes_ Try.func17 (by kernel_rfl) rfl #[.agg #[.bool t1191, .slice Ao67 t1192.length co67, .slice Ao68 t1195.length co68], .agg #[.bool t1217, .slice Ao125 t1218.length co125, .slice Ao126 t1221.length co126]] (by rfl) rfl rfl (by (try simp only [List.map_toArray, List.map_cons, List.map_nil]); first | done | rfl | (simp only [List.length_drop, List.length_take]; rfl)) ?_
        with_reducible refine (laws_eqRat.calls kj24 t1191 _ _ t1192 _ _ t1195 t1217 _ _ t1218 _ _ t1221 true _ ?side1 ?side2 ?side3 ?side4 ?side5 ?side6 ?side7 ?side8 A113.out).mono ?_
        (case side1 => exact crC (Kd.R_reads' HO_1199001.out).2.2)
        (case side2 => exact (Kd.R_reads' HO_1199001.out).2.1)
        (case side3 => exact crC (Kd.R_reads' HO_1199002.out).2.2)
        (case side4 => exact (Kd.R_reads' HO_1199002.out).2.1)
        (case side5 => exact crC (Kd.R_reads' HO1220.out).2.2)
        (case side6 => exact (Kd.R_reads' HO1220.out).2.1)
        (case side7 => exact crC (Kd.R_reads' HO1223.out).2.2)
        (case side8 => exact (Kd.R_reads' HO1223.out).2.1)
        rintro e w127 ⟨rfl, hb⟩
        refine ⟨_, rfl, ?_⟩
        replace HO_1183001 := rblR HO_1183001 hb
        replace HO_1183002 := rblR HO_1183002 hb
        replace HO_1191001 := rblR HO_1191001 hb
        replace HO_1191002 := rblR HO_1191002 hb
        replace HO_1199001 := rblR HO_1199001 hb
        replace HO_1199002 := rblR HO_1199002 hb
        replace HO_1208001 := rblR HO_1208001 hb
        replace HO_1208002 := rblR HO_1208002 hb
        replace HO1212 := rblR HO1212 hb
        replace HO1215 := rblR HO1215 hb
        replace HO1220 := rblR HO1220 hb
        replace HO1223 := rblR HO1223 hb
        replace BK1156 := bkb BK1156 hb
        replace BK1157 := bkb BK1157 hb
        replace BK1182 := bkb BK1182 hb
        replace BK1190 := bkb BK1190 hb
        replace BK1198 := bkb BK1198 hb
        replace BK1207 := bkb BK1207 hb
        replace HB := bst HB hb
        (try clear hb)
        (try clear hb2)
        (try clear hk)
        (try clear hi)
        refine hK.out _ _ ⟨bce BK1198 0 _, bce BK1198 1 _, bce BK1198 2 _, bce BK1157 0 _, bce BK1157 1 _, bce BK1157 2 _⟩ (fun hHeld => ?_)
        clear hK K
        refine norm_ (a' := ?_) ?_ ?_
        rotate_left
        ·
         show Act.put _ (some 62) _ = _
         simp only [Act.put, List.setIfInBounds_toArray, List.set_cons_zero, List.set_cons_succ, i64_w, i32_w]
         rfl
        refine pure_ (i := 4) (N := some 63) (v := ?_) (a' := ?_) #[true, true, true, true, true] rfl rfl (by kernel_rfl) (fun _ _ _ h => h) (Or.inl ⟨by rfl, ?_⟩) ?_ ?_
        rotate_left
        ·
         intro w'
         go_simp
         with_reducible rfl
        rotate_left
        ·
         simp only [Act.put, List.setIfInBounds_toArray, List.set_cons_zero, List.set_cons_succ, i64_w, i32_w]
         rfl
        refine done_ (by kernel_rfl) ?_
        have hnb128 := NB1190_1156.out
        have hnc128 := NB1156_1190.out
        have hnb129 := NB1190_1157.out
        have hnc129 := NB1157_1190.out
        have hnb130 := NB1190_1182.out
        have hnc130 := NB1182_1190.out
        have hnb131 := NB1190_1198.out
        have hnc131 := NB1198_1190.out
        have hnb132 := NB1190_1207.out
        have hnc132 := NB1207_1190.out
        have hcz133_0 := bce BK1190 0 (.bool t1183)
        have hcz133_1 := bce BK1190 1 (.slice Ao56 t1184.length co56)
        have hcz133_2 := bce BK1190 2 (.slice Ao57 t1187.length co57)
        have hfz133_0 := blk_frozen BK1190.out 0
        have hfz133_1 := blk_frozen BK1190.out 1
        have hfz133_2 := blk_frozen BK1190.out 2
        go_upto_region 21 with (first | ((with_reducible refine gate_callee (f := 18) rfl ?_); refine goesL_ (some 66) rfl rfl Try.func18 (by kernel_rfl) rfl #[.agg #[.bool t1183, .slice Ao56 t1184.length co56, .slice Ao57 t1187.length co57], .int .i64 1] rfl (by (try simp only [List.map_toArray, List.map_cons, List.map_nil]); first | done | rfl | (simp only [List.length_drop, List.length_take]; rfl)) ?_; (with_reducible refine (laws_markRat.calls kj24 t1183 (fun k_ => some k_ = (.slice Ao56 t1184.length co56 : Value).ownBlock) (.slice Ao56 t1184.length co56) t1184 (fun k_ => some k_ = (.slice Ao57 t1187.length co57 : Value).ownBlock) (.slice Ao57 t1187.length co57) t1187 1 t1225 t1226 t1227 w _ ?side1 ?side2 ?side3 ?side4 ?side5 A115.out).mono ?_); (case side1 => repeat (first | (with_reducible first | exact HB.out | apply below_alloc | apply pw_below_drewN | apply below_drew1 | refine below_set ?_ GE1156.out | refine below_set ?_ GE1157.out | refine below_set ?_ GE1182.out | refine below_set ?_ GE1190.out | refine below_set ?_ GE1198.out | refine below_set ?_ GE1207.out) | exact HB.out)); (case side2 => exact Kd.R_tight rfl HO_1191001.out); (case side3 => exact fun k_ e_ => (HO_1191001.out.1 k_ e_.symm).1.1.1.1.2.2.1); (case side4 => exact Kd.R_tight rfl HO_1191002.out); (case side5 => exact fun k_ e_ => (HO_1191002.out.1 k_ e_.symm).1.1.1.1.2.2.1); rintro e w134 ⟨rfl, hy0, hy1, hb, hkp⟩; refine ⟨_, rfl, ?_⟩; replace HO_1183001 := Aside0.mk (Kd.R_mono (ok' := fun k_ => nO k_ (.slice Ao46 t1178.length co46) ∧ nO k_ (.slice Ao56 t1184.length co56) ∧ nO k_ (.slice Ao57 t1187.length co57) ∧ nO k_ (.slice Ao67 t1192.length co67) ∧ nO k_ (.slice Ao68 t1195.length co68) ∧ nO k_ (.slice Ao80 t1200.length co80) ∧ nO k_ (.slice Ao81 t1203.length co81) ∧ nO k_ (.slice Ao120 t1210.length co120) ∧ nO k_ (.slice Ao121 t1213.length co121) ∧ nO k_ (.slice Ao125 t1218.length co125) ∧ nO k_ (.slice Ao126 t1221.length co126)) (Kd.R_keptB (HO_1183001.out) hkp (fun k_ hk_ hs_ => Or.elim hs_ (fun e_ => (hk_.1.1.1.1.2.1) e_) (fun e_ => (hk_.1.1.1.1.2.2.1) e_))) (fun k_ hk_ => ⟨hk_.1.1.1.1.1.1, hk_.1.1.1.1.1.2.1, hk_.1.1.1.1.1.2.2.1, hk_.1.1.1.1.1.2.2.2.1, hk_.1.1.1.1.1.2.2.2.2.1, hk_.1.1.1.1.1.2.2.2.2.2.1, hk_.1.1.1.1.1.2.2.2.2.2.2, hk_.1.1.1.1.2, hk_.1.1.1.2, hk_.1.1.2, hk_.1.2⟩)); replace HO_1183002 := Aside0.mk (Kd.R_mono (ok' := fun k_ => nO k_ (.slice Ao44 t1175.length co44) ∧ nO k_ (.slice Ao56 t1184.length co56) ∧ nO k_ (.slice Ao57 t1187.length co57) ∧ nO k_ (.slice Ao67 t1192.length co67) ∧ nO k_ (.slice Ao68 t1195.length co68) ∧ nO k_ (.slice Ao80 t1200.length co80) ∧ nO k_ (.slice Ao81 t1203.length co81) ∧ nO k_ (.slice Ao120 t1210.length co120) ∧ nO k_ (.slice Ao121 t1213.length co121) ∧ nO k_ (.slice Ao125 t1218.length co125) ∧ nO k_ (.slice Ao126 t1221.length co126)) (Kd.R_keptB (HO_1183002.out) hkp (fun k_ hk_ hs_ => Or.elim hs_ (fun e_ => (hk_.1.1.1.1.2.1) e_) (fun e_ => (hk_.1.1.1.1.2.2.1) e_))) (fun k_ hk_ => ⟨hk_.1.1.1.1.1.1, hk_.1.1.1.1.1.2.1, hk_.1.1.1.1.1.2.2.1, hk_.1.1.1.1.1.2.2.2.1, hk_.1.1.1.1.1.2.2.2.2.1, hk_.1.1.1.1.1.2.2.2.2.2.1, hk_.1.1.1.1.1.2.2.2.2.2.2, hk_.1.1.1.1.2, hk_.1.1.1.2, hk_.1.1.2, hk_.1.2⟩)); replace HO_1199001 := Aside0.mk (Kd.R_mono (ok' := fun k_ => nO k_ (.slice Ao44 t1175.length co44) ∧ nO k_ (.slice Ao46 t1178.length co46) ∧ nO k_ (.slice Ao56 t1184.length co56) ∧ nO k_ (.slice Ao57 t1187.length co57) ∧ nO k_ (.slice Ao68 t1195.length co68) ∧ nO k_ (.slice Ao80 t1200.length co80) ∧ nO k_ (.slice Ao81 t1203.length co81) ∧ nO k_ (.slice Ao120 t1210.length co120) ∧ nO k_ (.slice Ao121 t1213.length co121) ∧ nO k_ (.slice Ao125 t1218.length co125) ∧ nO k_ (.slice Ao126 t1221.length co126)) (Kd.R_keptB (HO_1199001.out) hkp (fun k_ hk_ hs_ => Or.elim hs_ (fun e_ => (hk_.1.1.1.1.2.2.1) e_) (fun e_ => (hk_.1.1.1.1.2.2.2.1) e_))) (fun k_ hk_ => ⟨hk_.1.1.1.1.1.1, hk_.1.1.1.1.1.2.1, hk_.1.1.1.1.1.2.2.1, hk_.1.1.1.1.1.2.2.2.1, hk_.1.1.1.1.1.2.2.2.2.1, hk_.1.1.1.1.1.2.2.2.2.2.1, hk_.1.1.1.1.1.2.2.2.2.2.2, hk_.1.1.1.1.2, hk_.1.1.1.2, hk_.1.1.2, hk_.1.2⟩)); replace HO_1199002 := Aside0.mk (Kd.R_mono (ok' := fun k_ => nO k_ (.slice Ao44 t1175.length co44) ∧ nO k_ (.slice Ao46 t1178.length co46) ∧ nO k_ (.slice Ao56 t1184.length co56) ∧ nO k_ (.slice Ao57 t1187.length co57) ∧ nO k_ (.slice Ao67 t1192.length co67) ∧ nO k_ (.slice Ao80 t1200.length co80) ∧ nO k_ (.slice Ao81 t1203.length co81) ∧ nO k_ (.slice Ao120 t1210.length co120) ∧ nO k_ (.slice Ao121 t1213.length co121) ∧ nO k_ (.slice Ao125 t1218.length co125) ∧ nO k_ (.slice Ao126 t1221.length co126)) (Kd.R_keptB (HO_1199002.out) hkp (fun k_ hk_ hs_ => Or.elim hs_ (fun e_ => (hk_.1.1.1.1.2.2.1) e_) (fun e_ => (hk_.1.1.1.1.2.2.2.1) e_))) (fun k_ hk_ => ⟨hk_.1.1.1.1.1.1, hk_.1.1.1.1.1.2.1, hk_.1.1.1.1.1.2.2.1, hk_.1.1.1.1.1.2.2.2.1, hk_.1.1.1.1.1.2.2.2.2.1, hk_.1.1.1.1.1.2.2.2.2.2.1, hk_.1.1.1.1.1.2.2.2.2.2.2, hk_.1.1.1.1.2, hk_.1.1.1.2, hk_.1.1.2, hk_.1.2⟩)); replace HO_1208001 := Aside0.mk (Kd.R_mono (ok' := fun k_ => nO k_ (.slice Ao44 t1175.length co44) ∧ nO k_ (.slice Ao46 t1178.length co46) ∧ nO k_ (.slice Ao56 t1184.length co56) ∧ nO k_ (.slice Ao57 t1187.length co57) ∧ nO k_ (.slice Ao67 t1192.length co67) ∧ nO k_ (.slice Ao68 t1195.length co68) ∧ nO k_ (.slice Ao81 t1203.length co81) ∧ nO k_ (.slice Ao120 t1210.length co120) ∧ nO k_ (.slice Ao121 t1213.length co121) ∧ nO k_ (.slice Ao125 t1218.length co125) ∧ nO k_ (.slice Ao126 t1221.length co126)) (Kd.R_keptB (HO_1208001.out) hkp (fun k_ hk_ hs_ => Or.elim hs_ (fun e_ => (hk_.1.1.1.1.2.2.1) e_) (fun e_ => (hk_.1.1.1.1.2.2.2.1) e_))) (fun k_ hk_ => ⟨hk_.1.1.1.1.1.1, hk_.1.1.1.1.1.2.1, hk_.1.1.1.1.1.2.2.1, hk_.1.1.1.1.1.2.2.2.1, hk_.1.1.1.1.1.2.2.2.2.1, hk_.1.1.1.1.1.2.2.2.2.2.1, hk_.1.1.1.1.1.2.2.2.2.2.2, hk_.1.1.1.1.2, hk_.1.1.1.2, hk_.1.1.2, hk_.1.2⟩)); replace HO_1208002 := Aside0.mk (Kd.R_mono (ok' := fun k_ => nO k_ (.slice Ao44 t1175.length co44) ∧ nO k_ (.slice Ao46 t1178.length co46) ∧ nO k_ (.slice Ao56 t1184.length co56) ∧ nO k_ (.slice Ao57 t1187.length co57) ∧ nO k_ (.slice Ao67 t1192.length co67) ∧ nO k_ (.slice Ao68 t1195.length co68) ∧ nO k_ (.slice Ao80 t1200.length co80) ∧ nO k_ (.slice Ao120 t1210.length co120) ∧ nO k_ (.slice Ao121 t1213.length co121) ∧ nO k_ (.slice Ao125 t1218.length co125) ∧ nO k_ (.slice Ao126 t1221.length co126)) (Kd.R_keptB (HO_1208002.out) hkp (fun k_ hk_ hs_ => Or.elim hs_ (fun e_ => (hk_.1.1.1.1.2.2.1) e_) (fun e_ => (hk_.1.1.1.1.2.2.2.1) e_))) (fun k_ hk_ => ⟨hk_.1.1.1.1.1.1, hk_.1.1.1.1.1.2.1, hk_.1.1.1.1.1.2.2.1, hk_.1.1.1.1.1.2.2.2.1, hk_.1.1.1.1.1.2.2.2.2.1, hk_.1.1.1.1.1.2.2.2.2.2.1, hk_.1.1.1.1.1.2.2.2.2.2.2, hk_.1.1.1.1.2, hk_.1.1.1.2, hk_.1.1.2, hk_.1.2⟩)); replace BK1156 := Aside0.mk (blk_kept (crb BK1156) hkp (fun hs_ => Or.elim hs_ (fun e_ => (fun e_ => (Kd.R_ne HO_1191001.out BK1156.out (by decide)) e_) e_) (fun e_ => (fun e_ => (Kd.R_ne HO_1191002.out BK1156.out (by decide)) e_) e_))); replace BK1157 := Aside0.mk (blk_kept (crb BK1157) hkp (fun hs_ => Or.elim hs_ (fun e_ => (fun e_ => (Kd.R_ne HO_1191001.out BK1157.out (by decide)) e_) e_) (fun e_ => (fun e_ => (Kd.R_ne HO_1191002.out BK1157.out (by decide)) e_) e_))); replace BK1182 := Aside0.mk (blk_kept (crb BK1182) hkp (fun hs_ => Or.elim hs_ (fun e_ => (fun e_ => (Kd.R_ne HO_1191001.out BK1182.out (by decide)) e_) e_) (fun e_ => (fun e_ => (Kd.R_ne HO_1191002.out BK1182.out (by decide)) e_) e_))); replace BK1190 := Aside0.mk (blk_kept (crb BK1190) hkp (fun hs_ => Or.elim hs_ (fun e_ => (fun e_ => (Kd.R_ne HO_1191001.out BK1190.out (by decide)) e_) e_) (fun e_ => (fun e_ => (Kd.R_ne HO_1191002.out BK1190.out (by decide)) e_) e_))); replace BK1198 := Aside0.mk (blk_kept (crb BK1198) hkp (fun hs_ => Or.elim hs_ (fun e_ => (fun e_ => (Kd.R_ne HO_1191001.out BK1198.out (by decide)) e_) e_) (fun e_ => (fun e_ => (Kd.R_ne HO_1191002.out BK1198.out (by decide)) e_) e_))); replace BK1207 := Aside0.mk (blk_kept (crb BK1207) hkp (fun hs_ => Or.elim hs_ (fun e_ => (fun e_ => (Kd.R_ne HO_1191001.out BK1207.out (by decide)) e_) e_) (fun e_ => (fun e_ => (Kd.R_ne HO_1191002.out BK1207.out (by decide)) e_) e_))); replace HO_1191001 := Aside0.mk (Kd.R_reok rfl hy0 (fun k_ e_ => HO_1191001.out.1 k_ e_)); replace HO_1191002 := Aside0.mk (Kd.R_reok rfl hy1 (fun k_ e_ => HO_1191002.out.1 k_ e_)); replace HO1212 := Aside0.mk (Kd.R_mono (ok' := fun k_ => nO k_ (.slice Ao44 t1175.length co44) ∧ nO k_ (.slice Ao46 t1178.length co46) ∧ nO k_ (.slice Ao56 t1184.length co56) ∧ nO k_ (.slice Ao57 t1187.length co57) ∧ nO k_ (.slice Ao67 t1192.length co67) ∧ nO k_ (.slice Ao68 t1195.length co68) ∧ nO k_ (.slice Ao80 t1200.length co80) ∧ nO k_ (.slice Ao81 t1203.length co81) ∧ nO k_ (.slice Ao121 t1213.length co121) ∧ nO k_ (.slice Ao125 t1218.length co125) ∧ nO k_ (.slice Ao126 t1221.length co126)) (Kd.R_keptB (HO1212.out) hkp (fun k_ hk_ hs_ => Or.elim hs_ (fun e_ => (hk_.1.1.1.1.1.1.1.2) e_) (fun e_ => (hk_.1.1.1.1.1.1.2) e_))) (fun k_ hk_ => ⟨hk_.1.1.1.1.1.1.1.1.1.1.2, hk_.1.1.1.1.1.1.1.1.1.2, hk_.1.1.1.1.1.1.1.1.2, hk_.1.1.1.1.1.1.1.2, hk_.1.1.1.1.1.1.2, hk_.1.1.1.1.1.2, hk_.1.1.1.1.2, hk_.1.1.1.2, hk_.1.1.1.1.1.1.1.1.1.1.1, hk_.1.1.2, hk_.1.2⟩)); replace HO1215 := Aside0.mk (Kd.R_mono (ok' := fun k_ => nO k_ (.slice Ao44 t1175.length co44) ∧ nO k_ (.slice Ao46 t1178.length co46) ∧ nO k_ (.slice Ao56 t1184.length co56) ∧ nO k_ (.slice Ao57 t1187.length co57) ∧ nO k_ (.slice Ao67 t1192.length co67) ∧ nO k_ (.slice Ao68 t1195.length co68) ∧ nO k_ (.slice Ao80 t1200.length co80) ∧ nO k_ (.slice Ao81 t1203.length co81) ∧ nO k_ (.slice Ao120 t1210.length co120) ∧ nO k_ (.slice Ao125 t1218.length co125) ∧ nO k_ (.slice Ao126 t1221.length co126)) (Kd.R_keptB (HO1215.out) hkp (fun k_ hk_ hs_ => Or.elim hs_ (fun e_ => (hk_.1.1.1.1.1.1.1.2) e_) (fun e_ => (hk_.1.1.1.1.1.1.2) e_))) (fun k_ hk_ => ⟨hk_.1.1.1.1.1.1.1.1.1.1.2, hk_.1.1.1.1.1.1.1.1.1.2, hk_.1.1.1.1.1.1.1.1.2, hk_.1.1.1.1.1.1.1.2, hk_.1.1.1.1.1.1.2, hk_.1.1.1.1.1.2, hk_.1.1.1.1.2, hk_.1.1.1.2, hk_.1.1.1.1.1.1.1.1.1.1.1, hk_.1.1.2, hk_.1.2⟩)); replace HO1220 := Aside0.mk (Kd.R_mono (ok' := fun k_ => nO k_ (.slice Ao44 t1175.length co44) ∧ nO k_ (.slice Ao46 t1178.length co46) ∧ nO k_ (.slice Ao56 t1184.length co56) ∧ nO k_ (.slice Ao57 t1187.length co57) ∧ nO k_ (.slice Ao67 t1192.length co67) ∧ nO k_ (.slice Ao68 t1195.length co68) ∧ nO k_ (.slice Ao80 t1200.length co80) ∧ nO k_ (.slice Ao81 t1203.length co81) ∧ nO k_ (.slice Ao120 t1210.length co120) ∧ nO k_ (.slice Ao121 t1213.length co121) ∧ nO k_ (.slice Ao126 t1221.length co126)) (Kd.R_keptB (HO1220.out) hkp (fun k_ hk_ hs_ => Or.elim hs_ (fun e_ => (hk_.1.1.1.1.1.1.1.2) e_) (fun e_ => (hk_.1.1.1.1.1.1.2) e_))) (fun k_ hk_ => ⟨hk_.1.1.1.1.1.1.1.1.1.1.2, hk_.1.1.1.1.1.1.1.1.1.2, hk_.1.1.1.1.1.1.1.1.2, hk_.1.1.1.1.1.1.1.2, hk_.1.1.1.1.1.1.2, hk_.1.1.1.1.1.2, hk_.1.1.1.1.2, hk_.1.1.1.2, hk_.1.1.2, hk_.1.2, hk_.1.1.1.1.1.1.1.1.1.1.1⟩)); replace HO1223 := Aside0.mk (Kd.R_mono (ok' := fun k_ => nO k_ (.slice Ao44 t1175.length co44) ∧ nO k_ (.slice Ao46 t1178.length co46) ∧ nO k_ (.slice Ao56 t1184.length co56) ∧ nO k_ (.slice Ao57 t1187.length co57) ∧ nO k_ (.slice Ao67 t1192.length co67) ∧ nO k_ (.slice Ao68 t1195.length co68) ∧ nO k_ (.slice Ao80 t1200.length co80) ∧ nO k_ (.slice Ao81 t1203.length co81) ∧ nO k_ (.slice Ao120 t1210.length co120) ∧ nO k_ (.slice Ao121 t1213.length co121) ∧ nO k_ (.slice Ao125 t1218.length co125)) (Kd.R_keptB (HO1223.out) hkp (fun k_ hk_ hs_ => Or.elim hs_ (fun e_ => (hk_.1.1.1.1.1.1.1.2) e_) (fun e_ => (hk_.1.1.1.1.1.1.2) e_))) (fun k_ hk_ => ⟨hk_.1.1.1.1.1.1.1.1.1.1.2, hk_.1.1.1.1.1.1.1.1.1.2, hk_.1.1.1.1.1.1.1.1.2, hk_.1.1.1.1.1.1.1.2, hk_.1.1.1.1.1.1.2, hk_.1.1.1.1.1.2, hk_.1.1.1.1.2, hk_.1.1.1.2, hk_.1.1.2, hk_.1.2, hk_.1.1.1.1.1.1.1.1.1.1.1⟩)); replace HB := Aside0.mk (hb); (try clear hb); (try clear hkp); (try clear hy0); (try clear hy1); have hnb135 := NB1198_1156.out; have hnc135 := NB1156_1198.out; have hnb136 := NB1198_1157.out; have hnc136 := NB1157_1198.out; have hnb137 := NB1198_1182.out; have hnc137 := NB1182_1198.out; have hnb138 := NB1198_1207.out; have hnc138 := NB1207_1198.out; have hcz139_0 := bce BK1198 0 (.bool t1191); have hcz139_1 := bce BK1198 1 (.slice Ao67 t1192.length co67); have hcz139_2 := bce BK1198 2 (.slice Ao68 t1195.length co68); have hfz139_0 := blk_frozen BK1198.out 0; have hfz139_1 := blk_frozen BK1198.out 1; have hfz139_2 := blk_frozen BK1198.out 2) | ((with_reducible refine gate_callee (f := 18) rfl ?_); refine goesL_ (some 69) rfl rfl Try.func18 (by kernel_rfl) rfl #[.agg #[.bool t1191, .slice Ao67 t1192.length co67, .slice Ao68 t1195.length co68], .int .i64 t1225] rfl (by (try simp only [List.map_toArray, List.map_cons, List.map_nil]); first | done | rfl | (simp only [List.length_drop, List.length_take]; rfl)) ?_; (with_reducible refine (laws_markRat.calls kj24 t1191 (fun k_ => some k_ = (.slice Ao67 t1192.length co67 : Value).ownBlock) (.slice Ao67 t1192.length co67) t1192 (fun k_ => some k_ = (.slice Ao68 t1195.length co68 : Value).ownBlock) (.slice Ao68 t1195.length co68) t1195 t1225 t1228 t1229 t1230 w _ ?side1 ?side2 ?side3 ?side4 ?side5 A116.out).mono ?_); (case side1 => repeat (first | (with_reducible first | exact HB.out | apply below_alloc | apply pw_below_drewN | apply below_drew1 | refine below_set ?_ GE1156.out | refine below_set ?_ GE1157.out | refine below_set ?_ GE1182.out | refine below_set ?_ GE1190.out | refine below_set ?_ GE1198.out | refine below_set ?_ GE1207.out) | exact HB.out)); (case side2 => exact Kd.R_tight rfl HO_1199001.out); (case side3 => exact fun k_ e_ => (HO_1199001.out.1 k_ e_.symm).2.2.2.2.1); (case side4 => exact Kd.R_tight rfl HO_1199002.out); (case side5 => exact fun k_ e_ => (HO_1199002.out.1 k_ e_.symm).2.2.2.2.1); rintro e w140 ⟨rfl, hy0, hy1, hb, hkp⟩; refine ⟨_, rfl, ?_⟩; replace HO_1183001 := Aside0.mk (Kd.R_mono (ok' := fun k_ => nO k_ (.slice Ao46 t1178.length co46) ∧ nO k_ (.slice Ao56 t1184.length co56) ∧ nO k_ (.slice Ao57 t1187.length co57) ∧ nO k_ (.slice Ao67 t1192.length co67) ∧ nO k_ (.slice Ao68 t1195.length co68) ∧ nO k_ (.slice Ao80 t1200.length co80) ∧ nO k_ (.slice Ao81 t1203.length co81) ∧ nO k_ (.slice Ao120 t1210.length co120) ∧ nO k_ (.slice Ao121 t1213.length co121) ∧ nO k_ (.slice Ao125 t1218.length co125) ∧ nO k_ (.slice Ao126 t1221.length co126)) (Kd.R_keptB (HO_1183001.out) hkp (fun k_ hk_ hs_ => Or.elim hs_ (fun e_ => (hk_.2.2.2.1) e_) (fun e_ => (hk_.2.2.2.2.1) e_))) (fun k_ hk_ => ⟨hk_.1.1, hk_.1.2.1, hk_.1.2.2.1, hk_.1.2.2.2.1, hk_.1.2.2.2.2.1, hk_.1.2.2.2.2.2.1, hk_.1.2.2.2.2.2.2.1, hk_.1.2.2.2.2.2.2.2.1, hk_.1.2.2.2.2.2.2.2.2.1, hk_.1.2.2.2.2.2.2.2.2.2.1, hk_.1.2.2.2.2.2.2.2.2.2.2⟩)); replace HO_1183002 := Aside0.mk (Kd.R_mono (ok' := fun k_ => nO k_ (.slice Ao44 t1175.length co44) ∧ nO k_ (.slice Ao56 t1184.length co56) ∧ nO k_ (.slice Ao57 t1187.length co57) ∧ nO k_ (.slice Ao67 t1192.length co67) ∧ nO k_ (.slice Ao68 t1195.length co68) ∧ nO k_ (.slice Ao80 t1200.length co80) ∧ nO k_ (.slice Ao81 t1203.length co81) ∧ nO k_ (.slice Ao120 t1210.length co120) ∧ nO k_ (.slice Ao121 t1213.length co121) ∧ nO k_ (.slice Ao125 t1218.length co125) ∧ nO k_ (.slice Ao126 t1221.length co126)) (Kd.R_keptB (HO_1183002.out) hkp (fun k_ hk_ hs_ => Or.elim hs_ (fun e_ => (hk_.2.2.2.1) e_) (fun e_ => (hk_.2.2.2.2.1) e_))) (fun k_ hk_ => ⟨hk_.1.1, hk_.1.2.1, hk_.1.2.2.1, hk_.1.2.2.2.1, hk_.1.2.2.2.2.1, hk_.1.2.2.2.2.2.1, hk_.1.2.2.2.2.2.2.1, hk_.1.2.2.2.2.2.2.2.1, hk_.1.2.2.2.2.2.2.2.2.1, hk_.1.2.2.2.2.2.2.2.2.2.1, hk_.1.2.2.2.2.2.2.2.2.2.2⟩)); replace HO_1191001 := Aside0.mk (Kd.R_mono (ok' := fun k_ => nO k_ (.slice Ao44 t1175.length co44) ∧ nO k_ (.slice Ao46 t1178.length co46) ∧ nO k_ (.slice Ao57 t1187.length co57) ∧ nO k_ (.slice Ao67 t1192.length co67) ∧ nO k_ (.slice Ao68 t1195.length co68) ∧ nO k_ (.slice Ao80 t1200.length co80) ∧ nO k_ (.slice Ao81 t1203.length co81) ∧ nO k_ (.slice Ao120 t1210.length co120) ∧ nO k_ (.slice Ao121 t1213.length co121) ∧ nO k_ (.slice Ao125 t1218.length co125) ∧ nO k_ (.slice Ao126 t1221.length co126)) (Kd.R_keptB (HO_1191001.out) hkp (fun k_ hk_ hs_ => Or.elim hs_ (fun e_ => (hk_.1.1.1.1.2.2.2.1) e_) (fun e_ => (hk_.1.1.1.1.2.2.2.2.1) e_))) (fun k_ hk_ => ⟨hk_.1.1.1.1.1.1, hk_.1.1.1.1.1.2.1, hk_.1.1.1.1.1.2.2.1, hk_.1.1.1.1.1.2.2.2.1, hk_.1.1.1.1.1.2.2.2.2.1, hk_.1.1.1.1.1.2.2.2.2.2.1, hk_.1.1.1.1.1.2.2.2.2.2.2, hk_.1.1.1.1.2, hk_.1.1.1.2, hk_.1.1.2, hk_.1.2⟩)); replace HO_1191002 := Aside0.mk (Kd.R_mono (ok' := fun k_ => nO k_ (.slice Ao44 t1175.length co44) ∧ nO k_ (.slice Ao46 t1178.length co46) ∧ nO k_ (.slice Ao56 t1184.length co56) ∧ nO k_ (.slice Ao67 t1192.length co67) ∧ nO k_ (.slice Ao68 t1195.length co68) ∧ nO k_ (.slice Ao80 t1200.length co80) ∧ nO k_ (.slice Ao81 t1203.length co81) ∧ nO k_ (.slice Ao120 t1210.length co120) ∧ nO k_ (.slice Ao121 t1213.length co121) ∧ nO k_ (.slice Ao125 t1218.length co125) ∧ nO k_ (.slice Ao126 t1221.length co126)) (Kd.R_keptB (HO_1191002.out) hkp (fun k_ hk_ hs_ => Or.elim hs_ (fun e_ => (hk_.1.1.1.1.2.2.2.1) e_) (fun e_ => (hk_.1.1.1.1.2.2.2.2.1) e_))) (fun k_ hk_ => ⟨hk_.1.1.1.1.1.1, hk_.1.1.1.1.1.2.1, hk_.1.1.1.1.1.2.2.1, hk_.1.1.1.1.1.2.2.2.1, hk_.1.1.1.1.1.2.2.2.2.1, hk_.1.1.1.1.1.2.2.2.2.2.1, hk_.1.1.1.1.1.2.2.2.2.2.2, hk_.1.1.1.1.2, hk_.1.1.1.2, hk_.1.1.2, hk_.1.2⟩)); replace HO_1208001 := Aside0.mk (Kd.R_mono (ok' := fun k_ => nO k_ (.slice Ao44 t1175.length co44) ∧ nO k_ (.slice Ao46 t1178.length co46) ∧ nO k_ (.slice Ao56 t1184.length co56) ∧ nO k_ (.slice Ao57 t1187.length co57) ∧ nO k_ (.slice Ao67 t1192.length co67) ∧ nO k_ (.slice Ao68 t1195.length co68) ∧ nO k_ (.slice Ao81 t1203.length co81) ∧ nO k_ (.slice Ao120 t1210.length co120) ∧ nO k_ (.slice Ao121 t1213.length co121) ∧ nO k_ (.slice Ao125 t1218.length co125) ∧ nO k_ (.slice Ao126 t1221.length co126)) (Kd.R_keptB (HO_1208001.out) hkp (fun k_ hk_ hs_ => Or.elim hs_ (fun e_ => (hk_.2.2.2.2.1) e_) (fun e_ => (hk_.2.2.2.2.2.1) e_))) (fun k_ hk_ => ⟨hk_.1.1, hk_.1.2.1, hk_.1.2.2.1, hk_.1.2.2.2.1, hk_.1.2.2.2.2.1, hk_.1.2.2.2.2.2.1, hk_.1.2.2.2.2.2.2.1, hk_.1.2.2.2.2.2.2.2.1, hk_.1.2.2.2.2.2.2.2.2.1, hk_.1.2.2.2.2.2.2.2.2.2.1, hk_.1.2.2.2.2.2.2.2.2.2.2⟩)); replace HO_1208002 := Aside0.mk (Kd.R_mono (ok' := fun k_ => nO k_ (.slice Ao44 t1175.length co44) ∧ nO k_ (.slice Ao46 t1178.length co46) ∧ nO k_ (.slice Ao56 t1184.length co56) ∧ nO k_ (.slice Ao57 t1187.length co57) ∧ nO k_ (.slice Ao67 t1192.length co67) ∧ nO k_ (.slice Ao68 t1195.length co68) ∧ nO k_ (.slice Ao80 t1200.length co80) ∧ nO k_ (.slice Ao120 t1210.length co120) ∧ nO k_ (.slice Ao121 t1213.length co121) ∧ nO k_ (.slice Ao125 t1218.length co125) ∧ nO k_ (.slice Ao126 t1221.length co126)) (Kd.R_keptB (HO_1208002.out) hkp (fun k_ hk_ hs_ => Or.elim hs_ (fun e_ => (hk_.2.2.2.2.1) e_) (fun e_ => (hk_.2.2.2.2.2.1) e_))) (fun k_ hk_ => ⟨hk_.1.1, hk_.1.2.1, hk_.1.2.2.1, hk_.1.2.2.2.1, hk_.1.2.2.2.2.1, hk_.1.2.2.2.2.2.1, hk_.1.2.2.2.2.2.2.1, hk_.1.2.2.2.2.2.2.2.1, hk_.1.2.2.2.2.2.2.2.2.1, hk_.1.2.2.2.2.2.2.2.2.2.1, hk_.1.2.2.2.2.2.2.2.2.2.2⟩)); replace BK1156 := Aside0.mk (blk_kept (crb BK1156) hkp (fun hs_ => Or.elim hs_ (fun e_ => (fun e_ => (Kd.R_ne HO_1199001.out BK1156.out (by decide)) e_) e_) (fun e_ => (fun e_ => (Kd.R_ne HO_1199002.out BK1156.out (by decide)) e_) e_))); replace BK1157 := Aside0.mk (blk_kept (crb BK1157) hkp (fun hs_ => Or.elim hs_ (fun e_ => (fun e_ => (Kd.R_ne HO_1199001.out BK1157.out (by decide)) e_) e_) (fun e_ => (fun e_ => (Kd.R_ne HO_1199002.out BK1157.out (by decide)) e_) e_))); replace BK1182 := Aside0.mk (blk_kept (crb BK1182) hkp (fun hs_ => Or.elim hs_ (fun e_ => (fun e_ => (Kd.R_ne HO_1199001.out BK1182.out (by decide)) e_) e_) (fun e_ => (fun e_ => (Kd.R_ne HO_1199002.out BK1182.out (by decide)) e_) e_))); replace BK1190 := Aside0.mk (blk_kept (crb BK1190) hkp (fun hs_ => Or.elim hs_ (fun e_ => (fun e_ => (Kd.R_ne HO_1199001.out BK1190.out (by decide)) e_) e_) (fun e_ => (fun e_ => (Kd.R_ne HO_1199002.out BK1190.out (by decide)) e_) e_))); replace BK1198 := Aside0.mk (blk_kept (crb BK1198) hkp (fun hs_ => Or.elim hs_ (fun e_ => (fun e_ => (Kd.R_ne HO_1199001.out BK1198.out (by decide)) e_) e_) (fun e_ => (fun e_ => (Kd.R_ne HO_1199002.out BK1198.out (by decide)) e_) e_))); replace BK1207 := Aside0.mk (blk_kept (crb BK1207) hkp (fun hs_ => Or.elim hs_ (fun e_ => (fun e_ => (Kd.R_ne HO_1199001.out BK1207.out (by decide)) e_) e_) (fun e_ => (fun e_ => (Kd.R_ne HO_1199002.out BK1207.out (by decide)) e_) e_))); replace HO_1199001 := Aside0.mk (Kd.R_reok rfl hy0 (fun k_ e_ => HO_1199001.out.1 k_ e_)); replace HO_1199002 := Aside0.mk (Kd.R_reok rfl hy1 (fun k_ e_ => HO_1199002.out.1 k_ e_)); replace HO1212 := Aside0.mk (Kd.R_mono (ok' := fun k_ => nO k_ (.slice Ao44 t1175.length co44) ∧ nO k_ (.slice Ao46 t1178.length co46) ∧ nO k_ (.slice Ao56 t1184.length co56) ∧ nO k_ (.slice Ao57 t1187.length co57) ∧ nO k_ (.slice Ao67 t1192.length co67) ∧ nO k_ (.slice Ao68 t1195.length co68) ∧ nO k_ (.slice Ao80 t1200.length co80) ∧ nO k_ (.slice Ao81 t1203.length co81) ∧ nO k_ (.slice Ao121 t1213.length co121) ∧ nO k_ (.slice Ao125 t1218.length co125) ∧ nO k_ (.slice Ao126 t1221.length co126)) (Kd.R_keptB (HO1212.out) hkp (fun k_ hk_ hs_ => Or.elim hs_ (fun e_ => (hk_.2.2.2.2.1) e_) (fun e_ => (hk_.2.2.2.2.2.1) e_))) (fun k_ hk_ => ⟨hk_.1.1, hk_.1.2.1, hk_.1.2.2.1, hk_.1.2.2.2.1, hk_.1.2.2.2.2.1, hk_.1.2.2.2.2.2.1, hk_.1.2.2.2.2.2.2.1, hk_.1.2.2.2.2.2.2.2.1, hk_.1.2.2.2.2.2.2.2.2.1, hk_.1.2.2.2.2.2.2.2.2.2.1, hk_.1.2.2.2.2.2.2.2.2.2.2⟩)); replace HO1215 := Aside0.mk (Kd.R_mono (ok' := fun k_ => nO k_ (.slice Ao44 t1175.length co44) ∧ nO k_ (.slice Ao46 t1178.length co46) ∧ nO k_ (.slice Ao56 t1184.length co56) ∧ nO k_ (.slice Ao57 t1187.length co57) ∧ nO k_ (.slice Ao67 t1192.length co67) ∧ nO k_ (.slice Ao68 t1195.length co68) ∧ nO k_ (.slice Ao80 t1200.length co80) ∧ nO k_ (.slice Ao81 t1203.length co81) ∧ nO k_ (.slice Ao120 t1210.length co120) ∧ nO k_ (.slice Ao125 t1218.length co125) ∧ nO k_ (.slice Ao126 t1221.length co126)) (Kd.R_keptB (HO1215.out) hkp (fun k_ hk_ hs_ => Or.elim hs_ (fun e_ => (hk_.2.2.2.2.1) e_) (fun e_ => (hk_.2.2.2.2.2.1) e_))) (fun k_ hk_ => ⟨hk_.1.1, hk_.1.2.1, hk_.1.2.2.1, hk_.1.2.2.2.1, hk_.1.2.2.2.2.1, hk_.1.2.2.2.2.2.1, hk_.1.2.2.2.2.2.2.1, hk_.1.2.2.2.2.2.2.2.1, hk_.1.2.2.2.2.2.2.2.2.1, hk_.1.2.2.2.2.2.2.2.2.2.1, hk_.1.2.2.2.2.2.2.2.2.2.2⟩)); replace HO1220 := Aside0.mk (Kd.R_mono (ok' := fun k_ => nO k_ (.slice Ao44 t1175.length co44) ∧ nO k_ (.slice Ao46 t1178.length co46) ∧ nO k_ (.slice Ao56 t1184.length co56) ∧ nO k_ (.slice Ao57 t1187.length co57) ∧ nO k_ (.slice Ao67 t1192.length co67) ∧ nO k_ (.slice Ao68 t1195.length co68) ∧ nO k_ (.slice Ao80 t1200.length co80) ∧ nO k_ (.slice Ao81 t1203.length co81) ∧ nO k_ (.slice Ao120 t1210.length co120) ∧ nO k_ (.slice Ao121 t1213.length co121) ∧ nO k_ (.slice Ao126 t1221.length co126)) (Kd.R_keptB (HO1220.out) hkp (fun k_ hk_ hs_ => Or.elim hs_ (fun e_ => (hk_.2.2.2.2.1) e_) (fun e_ => (hk_.2.2.2.2.2.1) e_))) (fun k_ hk_ => ⟨hk_.1.1, hk_.1.2.1, hk_.1.2.2.1, hk_.1.2.2.2.1, hk_.1.2.2.2.2.1, hk_.1.2.2.2.2.2.1, hk_.1.2.2.2.2.2.2.1, hk_.1.2.2.2.2.2.2.2.1, hk_.1.2.2.2.2.2.2.2.2.1, hk_.1.2.2.2.2.2.2.2.2.2.1, hk_.1.2.2.2.2.2.2.2.2.2.2⟩)); replace HO1223 := Aside0.mk (Kd.R_mono (ok' := fun k_ => nO k_ (.slice Ao44 t1175.length co44) ∧ nO k_ (.slice Ao46 t1178.length co46) ∧ nO k_ (.slice Ao56 t1184.length co56) ∧ nO k_ (.slice Ao57 t1187.length co57) ∧ nO k_ (.slice Ao67 t1192.length co67) ∧ nO k_ (.slice Ao68 t1195.length co68) ∧ nO k_ (.slice Ao80 t1200.length co80) ∧ nO k_ (.slice Ao81 t1203.length co81) ∧ nO k_ (.slice Ao120 t1210.length co120) ∧ nO k_ (.slice Ao121 t1213.length co121) ∧ nO k_ (.slice Ao125 t1218.length co125)) (Kd.R_keptB (HO1223.out) hkp (fun k_ hk_ hs_ => Or.elim hs_ (fun e_ => (hk_.2.2.2.2.1) e_) (fun e_ => (hk_.2.2.2.2.2.1) e_))) (fun k_ hk_ => ⟨hk_.1.1, hk_.1.2.1, hk_.1.2.2.1, hk_.1.2.2.2.1, hk_.1.2.2.2.2.1, hk_.1.2.2.2.2.2.1, hk_.1.2.2.2.2.2.2.1, hk_.1.2.2.2.2.2.2.2.1, hk_.1.2.2.2.2.2.2.2.2.1, hk_.1.2.2.2.2.2.2.2.2.2.1, hk_.1.2.2.2.2.2.2.2.2.2.2⟩)); replace HB := Aside0.mk (hb); (try clear hb); (try clear hkp); (try clear hy0); (try clear hy1)))
        (try simp only [Act.put, List.setIfInBounds_toArray, List.set_cons_zero, List.set_cons_succ])
        go_cut [82] (fun v82 wc => ∃ (kq : Nat) (x82_116 : Bool), v82 = .bool x82_116 ∧ Aside0 (laws_FnExactDivRat.j1 kq t1181 x82_116 a0_0 l0_1 l0_2 a1_0 l1_1 l1_2 t1174 t1175 t1178 t1199 t1200 t1203 = some r) ∧ Aside0 (kq ≤ kj24) ∧ Aside0 (Kd.R (Kd.int .i64) 3 wc w.heap.size (fun k_ => nO k_ (.slice Ao46 t1178.length co46) ∧ nO k_ (.slice Ao80 t1200.length co80) ∧ nO k_ (.slice Ao81 t1203.length co81)) (.slice Ao44 t1175.length co44) t1175) ∧ Aside0 (Kd.R (Kd.int .i64) 3 wc w.heap.size (fun k_ => nO k_ (.slice Ao44 t1175.length co44) ∧ nO k_ (.slice Ao80 t1200.length co80) ∧ nO k_ (.slice Ao81 t1203.length co81)) (.slice Ao46 t1178.length co46) t1178) ∧ Aside0 (Kd.R (Kd.int .i64) 3 wc w.heap.size (fun k_ => nO k_ (.slice Ao44 t1175.length co44) ∧ nO k_ (.slice Ao46 t1178.length co46) ∧ nO k_ (.slice Ao81 t1203.length co81)) (.slice Ao80 t1200.length co80) t1200) ∧ Aside0 (Kd.R (Kd.int .i64) 3 wc w.heap.size (fun k_ => nO k_ (.slice Ao44 t1175.length co44) ∧ nO k_ (.slice Ao46 t1178.length co46) ∧ nO k_ (.slice Ao80 t1200.length co80)) (.slice Ao81 t1203.length co81) t1203) ∧ Aside0 (wc.heap[gb1156]? = some (.cells #[.bool a0_0, (.slice A0_1 l0_1.length c0_1), (.slice A0_2 l0_2.length c0_2)] 30 (0, 0))) ∧ Aside0 (wc.heap[gb1157]? = some (.cells #[.bool a1_0, (.slice A1_1 l1_1.length c1_1), (.slice A1_2 l1_2.length c1_2)] 30 (0, 0))) ∧ Aside0 (wc.heap[gb1182]? = some (.cells #[.bool t1174, (.slice Ao44 t1175.length co44), (.slice Ao46 t1178.length co46)] 24 (0, 0))) ∧ Aside0 (wc.heap[gb1207]? = some (.cells #[.bool t1199, (.slice Ao80 t1200.length co80), (.slice Ao81 t1203.length co81)] 24 (0, 0))) ∧ Aside0 (Below w.heap.size w wc))
        case first =>
         have H := HC117.out
         clear HC117
         by_cases c141 : t1228 < 0
         ·
          rw [if_pos c141] at H
          have c141b0 : decide (t1228 < 0) = true := decide_eq_true c141
          clear c141
          (first | rw [c141b0] | (simp only [i64_w, i32_w]; rw [c141b0]) | skip)
          have H' := Aside0.mk H
          clear H
          go_wp2
          go_meet
          case rel => exact ⟨_, (true), (by first | rfl | (simp; done) | (simp [*]; done)), H', ⟨by have := HJ24.out; first | omega | exact Nat.le_refl _⟩, ⟨crM HO_1183001 fun _ hk => ⟨hk.1, hk.2.2.2.2.2.1, hk.2.2.2.2.2.2.1⟩⟩, ⟨crM HO_1183002 fun _ hk => ⟨hk.1, hk.2.2.2.2.2.1, hk.2.2.2.2.2.2.1⟩⟩, ⟨crM HO_1208001 fun _ hk => ⟨hk.1, hk.2.1, hk.2.2.2.2.2.2.1⟩⟩, ⟨crM HO_1208002 fun _ hk => ⟨hk.1, hk.2.1, hk.2.2.2.2.2.2.1⟩⟩, ⟨crb BK1156⟩, ⟨crb BK1157⟩, ⟨crb BK1182⟩, ⟨crb BK1207⟩, ⟨blw HB⟩⟩
         ·
          rw [if_neg c141] at H
          have c141b0 : decide (t1228 < 0) = false := decide_eq_false c141
          clear c141
          (first | rw [c141b0] | (simp only [i64_w, i32_w]; rw [c141b0]) | skip)
          replace H := Option.bind_eq_some_iff.mp H
          obtain ⟨t1231, A1420, H⟩ := H
          replace H : (if t1231 = true then (laws_FnExactDivRat.j1 kj24 t1181 (t1206 != t1181) a0_0 l0_1 l0_2 a1_0 l1_1 l1_2 t1174 t1175 t1178 t1199 t1200 t1203) else (laws_FnExactDivRat.j1 kj24 t1181 true a0_0 l0_1 l0_2 a1_0 l1_1 l1_2 t1174 t1175 t1178 t1199 t1200 t1203)) = some r := H
          have A142 := Aside0.mk A1420
          clear A1420
          by_cases c143 : t1231 = true
          ·
           subst c143
           have H1 : (laws_FnExactDivRat.j1 kj24 t1181 (t1206 != t1181) a0_0 l0_1 l0_2 a1_0 l1_1 l1_2 t1174 t1175 t1178 t1199 t1200 t1203) = some r := by rw [if_pos rfl] at H; exact H
           clear H
           have H := H1
           clear H1
           have H' := Aside0.mk H
           clear H
           have hnb144 := NB1207_1156.out
           have hnc144 := NB1156_1207.out
           have hnb145 := NB1207_1157.out
           have hnc145 := NB1157_1207.out
           have hnb146 := NB1207_1182.out
           have hnc146 := NB1182_1207.out
           have hnb147 := NB1207_1190.out
           have hnc147 := NB1190_1207.out
           have hnb148 := NB1207_1198.out
           have hnc148 := NB1198_1207.out
           have hcz149_0 := bce BK1207 0 (.bool t1199)
           have hcz149_1 := bce BK1207 1 (.slice Ao80 t1200.length co80)
           have hcz149_2 := bce BK1207 2 (.slice Ao81 t1203.length co81)
           have hfz149_0 := blk_frozen BK1207.out 0
           have hfz149_1 := blk_frozen BK1207.out 1
           have hfz149_2 := blk_frozen BK1207.out 2
           have hnb150 := NB1182_1156.out
           have hnc150 := NB1156_1182.out
           have hnb151 := NB1182_1157.out
           have hnc151 := NB1157_1182.out
           have hnb152 := NB1182_1190.out
           have hnc152 := NB1190_1182.out
           have hnb153 := NB1182_1198.out
           have hnc153 := NB1198_1182.out
           have hcz154_0 := bce BK1182 0 (.bool t1174)
           have hcz154_1 := bce BK1182 1 (.slice Ao44 t1175.length co44)
           have hcz154_2 := bce BK1182 2 (.slice Ao46 t1178.length co46)
           have hfz154_0 := blk_frozen BK1182.out 0
           have hfz154_1 := blk_frozen BK1182.out 1
           have hfz154_2 := blk_frozen BK1182.out 2
           go_wp2_with (first | (go_at_call 17; (with_reducible refine (laws_eqRat.calls kj24 t1199 _ _ t1200 _ _ t1203 t1174 _ _ t1175 _ _ t1178 true _ ?side1 ?side2 ?side3 ?side4 ?side5 ?side6 ?side7 ?side8 A142.out).mono ?_); (case side1 => exact crC (Kd.R_reads' HO_1208001.out).2.2); (case side2 => exact (Kd.R_reads' HO_1208001.out).2.1); (case side3 => exact crC (Kd.R_reads' HO_1208002.out).2.2); (case side4 => exact (Kd.R_reads' HO_1208002.out).2.1); (case side5 => exact crC (Kd.R_reads' HO_1183001.out).2.2); (case side6 => exact (Kd.R_reads' HO_1183001.out).2.1); (case side7 => exact crC (Kd.R_reads' HO_1183002.out).2.2); (case side8 => exact (Kd.R_reads' HO_1183002.out).2.1); rintro e w155 ⟨rfl, hb⟩; replace HO_1183001 := rblR HO_1183001 hb; replace HO_1183002 := rblR HO_1183002 hb; replace HO_1191001 := rblR HO_1191001 hb; replace HO_1191002 := rblR HO_1191002 hb; replace HO_1199001 := rblR HO_1199001 hb; replace HO_1199002 := rblR HO_1199002 hb; replace HO_1208001 := rblR HO_1208001 hb; replace HO_1208002 := rblR HO_1208002 hb; replace HO1212 := rblR HO1212 hb; replace HO1215 := rblR HO1215 hb; replace HO1220 := rblR HO1220 hb; replace HO1223 := rblR HO1223 hb; replace BK1156 := bkb BK1156 hb; replace BK1157 := bkb BK1157 hb; replace BK1182 := bkb BK1182 hb; replace BK1190 := bkb BK1190 hb; replace BK1198 := bkb BK1198 hb; replace BK1207 := bkb BK1207 hb; replace HB := bst HB hb; (try clear hb); (try clear hb2); (try clear hk); (try clear hi)))
           go_meet
           case rel => exact ⟨_, ((t1206 != t1181)), (by first | rfl | (simp; done) | (simp [*]; done)), H', ⟨by have := HJ24.out; first | omega | exact Nat.le_refl _⟩, ⟨crM HO_1183001 fun _ hk => ⟨hk.1, hk.2.2.2.2.2.1, hk.2.2.2.2.2.2.1⟩⟩, ⟨crM HO_1183002 fun _ hk => ⟨hk.1, hk.2.2.2.2.2.1, hk.2.2.2.2.2.2.1⟩⟩, ⟨crM HO_1208001 fun _ hk => ⟨hk.1, hk.2.1, hk.2.2.2.2.2.2.1⟩⟩, ⟨crM HO_1208002 fun _ hk => ⟨hk.1, hk.2.1, hk.2.2.2.2.2.2.1⟩⟩, ⟨crb BK1156⟩, ⟨crb BK1157⟩, ⟨crb BK1182⟩, ⟨crb BK1207⟩, ⟨blw HB⟩⟩
          ·
           replace c143 := Bool.eq_false_iff.mpr c143
           subst c143
           have H1 : (laws_FnExactDivRat.j1 kj24 t1181 true a0_0 l0_1 l0_2 a1_0 l1_1 l1_2 t1174 t1175 t1178 t1199 t1200 t1203) = some r := by rw [if_neg (show ¬ (false = true) by decide)] at H; exact H
           clear H
           have H := H1
           clear H1
           have H' := Aside0.mk H
           clear H
           have hnb156 := NB1207_1156.out
           have hnc156 := NB1156_1207.out
           have hnb157 := NB1207_1157.out
           have hnc157 := NB1157_1207.out
           have hnb158 := NB1207_1182.out
           have hnc158 := NB1182_1207.out
           have hnb159 := NB1207_1190.out
           have hnc159 := NB1190_1207.out
           have hnb160 := NB1207_1198.out
           have hnc160 := NB1198_1207.out
           have hcz161_0 := bce BK1207 0 (.bool t1199)
           have hcz161_1 := bce BK1207 1 (.slice Ao80 t1200.length co80)
           have hcz161_2 := bce BK1207 2 (.slice Ao81 t1203.length co81)
           have hfz161_0 := blk_frozen BK1207.out 0
           have hfz161_1 := blk_frozen BK1207.out 1
           have hfz161_2 := blk_frozen BK1207.out 2
           have hnb162 := NB1182_1156.out
           have hnc162 := NB1156_1182.out
           have hnb163 := NB1182_1157.out
           have hnc163 := NB1157_1182.out
           have hnb164 := NB1182_1190.out
           have hnc164 := NB1190_1182.out
           have hnb165 := NB1182_1198.out
           have hnc165 := NB1198_1182.out
           have hcz166_0 := bce BK1182 0 (.bool t1174)
           have hcz166_1 := bce BK1182 1 (.slice Ao44 t1175.length co44)
           have hcz166_2 := bce BK1182 2 (.slice Ao46 t1178.length co46)
           have hfz166_0 := blk_frozen BK1182.out 0
           have hfz166_1 := blk_frozen BK1182.out 1
           have hfz166_2 := blk_frozen BK1182.out 2
           go_wp2_with (first | (go_at_call 17; (with_reducible refine (laws_eqRat.calls kj24 t1199 _ _ t1200 _ _ t1203 t1174 _ _ t1175 _ _ t1178 false _ ?side1 ?side2 ?side3 ?side4 ?side5 ?side6 ?side7 ?side8 A142.out).mono ?_); (case side1 => exact crC (Kd.R_reads' HO_1208001.out).2.2); (case side2 => exact (Kd.R_reads' HO_1208001.out).2.1); (case side3 => exact crC (Kd.R_reads' HO_1208002.out).2.2); (case side4 => exact (Kd.R_reads' HO_1208002.out).2.1); (case side5 => exact crC (Kd.R_reads' HO_1183001.out).2.2); (case side6 => exact (Kd.R_reads' HO_1183001.out).2.1); (case side7 => exact crC (Kd.R_reads' HO_1183002.out).2.2); (case side8 => exact (Kd.R_reads' HO_1183002.out).2.1); rintro e w167 ⟨rfl, hb⟩; replace HO_1183001 := rblR HO_1183001 hb; replace HO_1183002 := rblR HO_1183002 hb; replace HO_1191001 := rblR HO_1191001 hb; replace HO_1191002 := rblR HO_1191002 hb; replace HO_1199001 := rblR HO_1199001 hb; replace HO_1199002 := rblR HO_1199002 hb; replace HO_1208001 := rblR HO_1208001 hb; replace HO_1208002 := rblR HO_1208002 hb; replace HO1212 := rblR HO1212 hb; replace HO1215 := rblR HO1215 hb; replace HO1220 := rblR HO1220 hb; replace HO1223 := rblR HO1223 hb; replace BK1156 := bkb BK1156 hb; replace BK1157 := bkb BK1157 hb; replace BK1182 := bkb BK1182 hb; replace BK1190 := bkb BK1190 hb; replace BK1198 := bkb BK1198 hb; replace BK1207 := bkb BK1207 hb; replace HB := bst HB hb; (try clear hb); (try clear hb2); (try clear hk); (try clear hi)))
           go_meet
           case rel => exact ⟨_, (true), (by first | rfl | (simp; done) | (simp [*]; done)), H', ⟨by have := HJ24.out; first | omega | exact Nat.le_refl _⟩, ⟨crM HO_1183001 fun _ hk => ⟨hk.1, hk.2.2.2.2.2.1, hk.2.2.2.2.2.2.1⟩⟩, ⟨crM HO_1183002 fun _ hk => ⟨hk.1, hk.2.2.2.2.2.1, hk.2.2.2.2.2.2.1⟩⟩, ⟨crM HO_1208001 fun _ hk => ⟨hk.1, hk.2.1, hk.2.2.2.2.2.2.1⟩⟩, ⟨crM HO_1208002 fun _ hk => ⟨hk.1, hk.2.1, hk.2.2.2.2.2.2.1⟩⟩, ⟨crb BK1156⟩, ⟨crb BK1157⟩, ⟨crb BK1182⟩, ⟨crb BK1207⟩, ⟨blw HB⟩⟩
        case rest =>
         clear HC117
         try clear c1
         try clear c2
         try clear p2
         try clear c12
         try clear c13
         try clear c14
         try clear c15
         try clear c16
         try clear c17
         try clear c18
         try clear c22
         try clear c128
         try clear c129
         try clear c130
         try clear c131
         try clear c132
         try clear c135
         try clear c136
         try clear c137
         try clear c138
         try clear c141
         try clear c141b0
         try clear c143
         try clear c144
         try clear c145
         try clear c146
         try clear c147
         try clear c148
         try clear c150
         try clear c151
         try clear c152
         try clear c153
         try clear c156
         try clear c157
         try clear c158
         try clear c159
         try clear c160
         try clear c162
         try clear c163
         try clear c164
         try clear c165
         try clear hcz133_0
         try clear hcz133_1
         try clear hcz133_2
         try clear hcz139_0
         try clear hcz139_1
         try clear hcz139_2
         try clear hcz149_0
         try clear hcz149_1
         try clear hcz149_2
         try clear hcz154_0
         try clear hcz154_1
         try clear hcz154_2
         try clear hcz161_0
         try clear hcz161_1
         try clear hcz161_2
         try clear hcz166_0
         try clear hcz166_1
         try clear hcz166_2
         try clear hfz133_0
         try clear hfz133_1
         try clear hfz133_2
         try clear hfz139_0
         try clear hfz139_1
         try clear hfz139_2
         try clear hfz149_0
         try clear hfz149_1
         try clear hfz149_2
         try clear hfz154_0
         try clear hfz154_1
         try clear hfz154_2
         try clear hfz161_0
         try clear hfz161_1
         try clear hfz161_2
         try clear hfz166_0
         try clear hfz166_1
         try clear hfz166_2
         obtain ⟨kq, x82_116, rfl, HA, HJ116, HO_1183001, HO_1183002, HO_1208001, HO_1208002, BK1156, BK1157, BK1182, BK1207, HB⟩ := hcut
         cases kq with
         | zero => exact absurd HA.out (by simp [laws_FnExactDivRat.j1])
         | succ kj116 =>
          have H := HA.out
          clear HA
          simp only [laws_FnExactDivRat.j1] at H
          by_cases c168 : x82_116 = true
          ·
           subst c168
           have H1 : (some false) = some r := by rw [if_pos rfl] at H; exact H
           clear H
           have H := H1
           clear H1
           obtain rfl := Option.some.inj H
           exact absurd hr_ (by decide)
          ·
           replace c168 := Bool.eq_false_iff.mpr c168
           subst c168
           have H1 : ((laws_markRat.f kj116 t1199 t1200 t1203 1).bind fun bt1232 => ((laws_heldRat.f kj116 t1199 bt1232.2.1 bt1232.2.2 1).bind fun t1235 => (if t1235 < 0 then (some false) else (if t1235 = bt1232.1 then ((laws_toRat.f kj116 a0_0 l0_1 l0_2).bind fun bt1236 => ((laws_toRat.f kj116 a1_0 l1_1 l1_2).bind fun bt1243 => ((impl_DivRat.f kj116 bt1236.1 bt1236.2.1 bt1236.2.2 bt1243.1 bt1243.2.1 bt1243.2.2).bind fun bt1250 => ((laws_eqRat.f kj116 bt1250.1 bt1250.2.1 bt1250.2.2.1 t1174 t1175 t1178).bind fun t1259 => (if t1259 = true then (laws_FnExactDivRat.j2 kj116 bt1232.1 (bt1250.2.2.2 != t1181) t1199 bt1232.2.1 bt1232.2.2) else (laws_FnExactDivRat.j2 kj116 bt1232.1 true t1199 bt1232.2.1 bt1232.2.2)))))) else (some false))))) = some r := by rw [if_neg (show ¬ (false = true) by decide)] at H; exact H
           clear H
           have H := H1
           clear H1
           replace H := Option.bind_eq_some_iff.mp H
           obtain ⟨⟨t1232, t1233, t1234⟩, A1690, H⟩ := H
           replace H : ((laws_heldRat.f kj116 t1199 t1233 t1234 1).bind fun t1235 => (if t1235 < 0 then (some false) else (if t1235 = t1232 then ((laws_toRat.f kj116 a0_0 l0_1 l0_2).bind fun bt1236 => ((laws_toRat.f kj116 a1_0 l1_1 l1_2).bind fun bt1243 => ((impl_DivRat.f kj116 bt1236.1 bt1236.2.1 bt1236.2.2 bt1243.1 bt1243.2.1 bt1243.2.2).bind fun bt1250 => ((laws_eqRat.f kj116 bt1250.1 bt1250.2.1 bt1250.2.2.1 t1174 t1175 t1178).bind fun t1259 => (if t1259 = true then (laws_FnExactDivRat.j2 kj116 t1232 (bt1250.2.2.2 != t1181) t1199 t1233 t1234) else (laws_FnExactDivRat.j2 kj116 t1232 true t1199 t1233 t1234)))))) else (some false)))) = some r := H
           have A169 := Aside0.mk A1690
           clear A1690
           replace H := Option.bind_eq_some_iff.mp H
           obtain ⟨t1235, A1700, H⟩ := H
           replace H : (if t1235 < 0 then (some false) else (if t1235 = t1232 then ((laws_toRat.f kj116 a0_0 l0_1 l0_2).bind fun bt1236 => ((laws_toRat.f kj116 a1_0 l1_1 l1_2).bind fun bt1243 => ((impl_DivRat.f kj116 bt1236.1 bt1236.2.1 bt1236.2.2 bt1243.1 bt1243.2.1 bt1243.2.2).bind fun bt1250 => ((laws_eqRat.f kj116 bt1250.1 bt1250.2.1 bt1250.2.2.1 t1174 t1175 t1178).bind fun t1259 => (if t1259 = true then (laws_FnExactDivRat.j2 kj116 t1232 (bt1250.2.2.2 != t1181) t1199 t1233 t1234) else (laws_FnExactDivRat.j2 kj116 t1232 true t1199 t1233 t1234)))))) else (some false))) = some r := H
           have A170 := Aside0.mk A1700
           clear A1700
           by_cases c171 : t1235 < 0
           ·
            rw [if_pos c171] at H
            have c171b0 : decide (t1235 < 0) = true := decide_eq_true c171
            clear c171
            obtain rfl := Option.some.inj H
            exact absurd hr_ (by decide)
           ·
            rw [if_neg c171] at H
            have c171b0 : decide (t1235 < 0) = false := decide_eq_false c171
            clear c171
            by_cases c179 : t1235 = t1232
            ·
             rw [if_pos c179] at H
             have c179b0 : (t1235 == t1232) = true := beq_iff_eq.mpr c179
             have c179b1 : (t1235 != t1232) = false := bne_eq_false_iff_eq.mpr c179
             clear c179
             replace H := Option.bind_eq_some_iff.mp H
             obtain ⟨⟨t1236, t1237, t1240⟩, A1800, H⟩ := H
             replace H : ((laws_toRat.f kj116 a1_0 l1_1 l1_2).bind fun bt1243 => ((impl_DivRat.f kj116 t1236 t1237 t1240 bt1243.1 bt1243.2.1 bt1243.2.2).bind fun bt1250 => ((laws_eqRat.f kj116 bt1250.1 bt1250.2.1 bt1250.2.2.1 t1174 t1175 t1178).bind fun t1259 => (if t1259 = true then (laws_FnExactDivRat.j2 kj116 t1232 (bt1250.2.2.2 != t1181) t1199 t1233 t1234) else (laws_FnExactDivRat.j2 kj116 t1232 true t1199 t1233 t1234))))) = some r := H
             have A180 := Aside0.mk A1800
             clear A1800
             replace H := Option.bind_eq_some_iff.mp H
             obtain ⟨⟨t1243, t1244, t1247⟩, A1810, H⟩ := H
             replace H : ((impl_DivRat.f kj116 t1236 t1237 t1240 t1243 t1244 t1247).bind fun bt1250 => ((laws_eqRat.f kj116 bt1250.1 bt1250.2.1 bt1250.2.2.1 t1174 t1175 t1178).bind fun t1259 => (if t1259 = true then (laws_FnExactDivRat.j2 kj116 t1232 (bt1250.2.2.2 != t1181) t1199 t1233 t1234) else (laws_FnExactDivRat.j2 kj116 t1232 true t1199 t1233 t1234)))) = some r := H
             have A181 := Aside0.mk A1810
             clear A1810
             replace H := Option.bind_eq_some_iff.mp H
             obtain ⟨⟨t1250, t1251, t1254, t1257⟩, A1820, H⟩ := H
             replace H : ((laws_eqRat.f kj116 t1250 t1251 t1254 t1174 t1175 t1178).bind fun t1259 => (if t1259 = true then (laws_FnExactDivRat.j2 kj116 t1232 (t1257 != t1181) t1199 t1233 t1234) else (laws_FnExactDivRat.j2 kj116 t1232 true t1199 t1233 t1234))) = some r := H
             have A182 := Aside0.mk A1820
             clear A1820
             have HC183 := Aside0.mk H
             clear H
             have hnb184 := NB1207_1156.out
             have hnc184 := NB1156_1207.out
             have hnb185 := NB1207_1157.out
             have hnc185 := NB1157_1207.out
             have hnb186 := NB1207_1182.out
             have hnc186 := NB1182_1207.out
             have hcz187_0 := bce BK1207 0 (.bool t1199)
             have hcz187_1 := bce BK1207 1 (.slice Ao80 t1200.length co80)
             have hcz187_2 := bce BK1207 2 (.slice Ao81 t1203.length co81)
             have hfz187_0 := blk_frozen BK1207.out 0
             have hfz187_1 := blk_frozen BK1207.out 1
             have hfz187_2 := blk_frozen BK1207.out 2
             try go_wp2_with (first | ((with_reducible refine gate_callee (f := 18) rfl ?_); refine goesL_ (some 85) rfl rfl Try.func18 (by kernel_rfl) rfl #[.agg #[.bool t1199, .slice Ao80 t1200.length co80, .slice Ao81 t1203.length co81], .int .i64 1] rfl (by (try simp only [List.map_toArray, List.map_cons, List.map_nil]); first | done | rfl | (simp only [List.length_drop, List.length_take]; rfl)) ?_; (with_reducible refine (laws_markRat.calls kj116 t1199 (fun k_ => some k_ = (.slice Ao80 t1200.length co80 : Value).ownBlock) (.slice Ao80 t1200.length co80) t1200 (fun k_ => some k_ = (.slice Ao81 t1203.length co81 : Value).ownBlock) (.slice Ao81 t1203.length co81) t1203 1 t1232 t1233 t1234 w _ ?side1 ?side2 ?side3 ?side4 ?side5 A169.out).mono ?_); (case side1 => repeat (first | (with_reducible first | exact HB.out | apply below_alloc | apply pw_below_drewN | apply below_drew1 | refine below_set ?_ GE1156.out | refine below_set ?_ GE1157.out | refine below_set ?_ GE1182.out | refine below_set ?_ GE1207.out) | exact HB.out)); (case side2 => exact Kd.R_tight rfl HO_1208001.out); (case side3 => exact fun k_ e_ => (HO_1208001.out.1 k_ e_.symm).2.2); (case side4 => exact Kd.R_tight rfl HO_1208002.out); (case side5 => exact fun k_ e_ => (HO_1208002.out.1 k_ e_.symm).2.2); rintro e w188 ⟨rfl, hy0, hy1, hb, hkp⟩; refine ⟨_, rfl, ?_⟩; replace HO_1183001 := Aside0.mk (Kd.R_mono (ok' := fun k_ => nO k_ (.slice Ao46 t1178.length co46) ∧ nO k_ (.slice Ao80 t1200.length co80) ∧ nO k_ (.slice Ao81 t1203.length co81)) (Kd.R_keptB (HO_1183001.out) hkp (fun k_ hk_ hs_ => Or.elim hs_ (fun e_ => (hk_.2.1) e_) (fun e_ => (hk_.2.2) e_))) (fun k_ hk_ => ⟨hk_.1.1, hk_.1.2.1, hk_.1.2.2⟩)); replace HO_1183002 := Aside0.mk (Kd.R_mono (ok' := fun k_ => nO k_ (.slice Ao44 t1175.length co44) ∧ nO k_ (.slice Ao80 t1200.length co80) ∧ nO k_ (.slice Ao81 t1203.length co81)) (Kd.R_keptB (HO_1183002.out) hkp (fun k_ hk_ hs_ => Or.elim hs_ (fun e_ => (hk_.2.1) e_) (fun e_ => (hk_.2.2) e_))) (fun k_ hk_ => ⟨hk_.1.1, hk_.1.2.1, hk_.1.2.2⟩)); replace BK1156 := Aside0.mk (blk_kept (crb BK1156) hkp (fun hs_ => Or.elim hs_ (fun e_ => (fun e_ => (Kd.R_ne HO_1208001.out BK1156.out (by decide)) e_) e_) (fun e_ => (fun e_ => (Kd.R_ne HO_1208002.out BK1156.out (by decide)) e_) e_))); replace BK1157 := Aside0.mk (blk_kept (crb BK1157) hkp (fun hs_ => Or.elim hs_ (fun e_ => (fun e_ => (Kd.R_ne HO_1208001.out BK1157.out (by decide)) e_) e_) (fun e_ => (fun e_ => (Kd.R_ne HO_1208002.out BK1157.out (by decide)) e_) e_))); replace BK1182 := Aside0.mk (blk_kept (crb BK1182) hkp (fun hs_ => Or.elim hs_ (fun e_ => (fun e_ => (Kd.R_ne HO_1208001.out BK1182.out (by decide)) e_) e_) (fun e_ => (fun e_ => (Kd.R_ne HO_1208002.out BK1182.out (by decide)) e_) e_))); replace BK1207 := Aside0.mk (blk_kept (crb BK1207) hkp (fun hs_ => Or.elim hs_ (fun e_ => (fun e_ => (Kd.R_ne HO_1208001.out BK1207.out (by decide)) e_) e_) (fun e_ => (fun e_ => (Kd.R_ne HO_1208002.out BK1207.out (by decide)) e_) e_))); replace HO_1208001 := Aside0.mk (Kd.R_reok rfl hy0 (fun k_ e_ => HO_1208001.out.1 k_ e_)); replace HO_1208002 := Aside0.mk (Kd.R_reok rfl hy1 (fun k_ e_ => HO_1208002.out.1 k_ e_)); replace HB := Aside0.mk (hb); (try clear hb); (try clear hkp); (try clear hy0); (try clear hy1); have hcz189_0 := bce BK1207 0 (.bool t1199); have hcz189_1 := bce BK1207 1 (.slice Ao80 t1200.length co80); have hcz189_2 := bce BK1207 2 (.slice Ao81 t1203.length co81); have hfz189_0 := blk_frozen BK1207.out 0; have hfz189_1 := blk_frozen BK1207.out 1; have hfz189_2 := blk_frozen BK1207.out 2) | ((with_reducible refine gate_callee (f := 19) rfl ?_); refine goesL_ (some 88) rfl rfl Try.func19 (by kernel_rfl) rfl #[.agg #[.bool t1199, .slice Ao80 t1233.length co80, .slice Ao81 t1234.length co81], .int .i64 1] rfl (by (try simp only [List.map_toArray, List.map_cons, List.map_nil]); first | done | (rw [show t1233.length = t1200.length from (Kd.R_reads' HO_1208001.out).1.symm, show t1234.length = t1203.length from (Kd.R_reads' HO_1208002.out).1.symm] <;> rfl) | rfl | (simp only [List.length_drop, List.length_take]; rfl)) ?_; (with_reducible refine (laws_heldRat.calls kj116 t1199 _ _ t1233 _ _ t1234 1 t1235 _ ?side1 ?side2 ?side3 ?side4 A170.out).mono ?_); (case side1 => exact crC (Kd.R_reads' HO_1208001.out).2.2); (case side2 => rw [show t1233.length = t1200.length from (Kd.R_reads' HO_1208001.out).1.symm]; exact (Kd.R_reads' HO_1208001.out).2.1); (case side3 => exact crC (Kd.R_reads' HO_1208002.out).2.2); (case side4 => rw [show t1234.length = t1203.length from (Kd.R_reads' HO_1208002.out).1.symm]; exact (Kd.R_reads' HO_1208002.out).2.1); rintro e w190 ⟨rfl, hb⟩; refine ⟨_, rfl, ?_⟩; replace HO_1183001 := rblR HO_1183001 hb; replace HO_1183002 := rblR HO_1183002 hb; replace HO_1208001 := rblR HO_1208001 hb; replace HO_1208002 := rblR HO_1208002 hb; replace BK1156 := bkb BK1156 hb; replace BK1157 := bkb BK1157 hb; replace BK1182 := bkb BK1182 hb; replace BK1207 := bkb BK1207 hb; replace HB := bst HB hb; (try clear hb); (try clear hb2); (try clear hk); (try clear hi)))
             replace HO_1183001 := Aside0.mk (Kd.R_drew HO_1183001.out)
             replace HO_1183002 := Aside0.mk (Kd.R_drew HO_1183002.out)
             replace HO_1208001 := Aside0.mk (Kd.R_drew HO_1208001.out)
             replace HO_1208002 := Aside0.mk (Kd.R_drew HO_1208002.out)
             replace BK1156 := Aside0.mk (blk_drew BK1156.out)
             replace BK1157 := Aside0.mk (blk_drew BK1157.out)
             replace BK1182 := Aside0.mk (blk_drew BK1182.out)
             replace BK1207 := Aside0.mk (blk_drew BK1207.out)
             replace HB := Aside0.mk (below_drew1 HB.out)
             refine start_ (n := 11) (S := fun w' => w'.cell? ⟨gb1156, 0, none⟩ = some (.bool a0_0) ∧ w'.cell? ⟨gb1156, 1, none⟩ = some (.slice A0_1 l0_1.length c0_1) ∧ w'.cell? ⟨gb1156, 2, none⟩ = some (.slice A0_2 l0_2.length c0_2) ∧ w'.cell? ⟨gb1157, 0, none⟩ = some (.bool a1_0) ∧ w'.cell? ⟨gb1157, 1, none⟩ = some (.slice A1_1 l1_1.length c1_1) ∧ w'.cell? ⟨gb1157, 2, none⟩ = some (.slice A1_2 l1_2.length c1_2)) (ds := []) #[false, false, false, false, false, false, false, false, false, false, false] (by kernel_rfl) rfl rfl ⟨bce BK1156 0 _, bce BK1156 1 _, bce BK1156 2 _, bce BK1157 0 _, bce BK1157 1 _, bce BK1157 2 _⟩ (fun hHeld => ?_); refine with_tabW laws_FnExactDivRat.tab31 laws_FnExactDivRat.bits31 (fun HT_ HW_ => ?_)
             generalize w190.drew = w191 at HO_1183001 HO_1183002 HO_1208001 HO_1208002 BK1156 BK1157 BK1182 BK1207 HB hHeld ⊢
             refine take_ (i := 0) (N := some 95) (v := ?_) (a' := ?_) #[true, false, false, false, false, false, false, false, false, false, false] rfl rfl (take_ofW HT_.out HW_.out (by kernel_rfl)) (fun _ _ _ h => h) (Or.inl ⟨by rfl, ?_⟩) hHeld ?_ ?_
             rotate_left
             ·
              rintro w' ⟨s0, s1, s2, s3, s4, s5⟩
              go_simp
              with_reducible rfl
             rotate_left
             ·
              simp only [Act.put, List.setIfInBounds_toArray, List.set_cons_zero, List.set_cons_succ, i64_w, i32_w]
              rfl
             refine take_ (i := 2) (N := some 97) (v := ?_) (a' := ?_) #[true, false, true, false, false, false, false, false, false, false, false] rfl rfl (take_ofW HT_.out HW_.out (by kernel_rfl)) (fun _ _ _ h => h) (Or.inl ⟨by rfl, ?_⟩) hHeld ?_ ?_
             rotate_left
             ·
              rintro w' ⟨s0, s1, s2, s3, s4, s5⟩
              go_simp
              with_reducible rfl
             rotate_left
             ·
              simp only [Act.put, List.setIfInBounds_toArray, List.set_cons_zero, List.set_cons_succ, i64_w, i32_w]
              rfl
             refine join_ (σ := Value × Value × Value × Value × Value × Value × Nat) 2 #[true, true, true, true, true, true, true, true, true, false, false] (fun s_ => [(96, .agg #[.bool t1236, s_.1, s_.2.1]), (98, .agg #[.bool t1243, s_.2.2.1, s_.2.2.2.1]), (99, .tuple #[.agg #[.bool t1250, s_.2.2.2.2.1, s_.2.2.2.2.2.1], .int .i64 t1257]), (15, .pointer (some ⟨s_.2.2.2.2.2.2, 0, none⟩)), (94, .tuple #[.agg #[.bool t1250, s_.2.2.2.2.1, s_.2.2.2.2.2.1], .int .i64 t1257]), (100, .agg #[.bool t1250, s_.2.2.2.2.1, s_.2.2.2.2.2.1]), (101, .int .i64 t1257)]) (fun s_ w' => (w'.cell? ⟨gb1156, 0, none⟩ = some (.bool a0_0) ∧ w'.cell? ⟨gb1156, 1, none⟩ = some (.slice A0_1 l0_1.length c0_1) ∧ w'.cell? ⟨gb1156, 2, none⟩ = some (.slice A0_2 l0_2.length c0_2) ∧ w'.cell? ⟨gb1157, 0, none⟩ = some (.bool a1_0) ∧ w'.cell? ⟨gb1157, 1, none⟩ = some (.slice A1_1 l1_1.length c1_1) ∧ w'.cell? ⟨gb1157, 2, none⟩ = some (.slice A1_2 l1_2.length c1_2)) ∧ (Kd.R (Kd.int .i64) 3 w' w.heap.size (fun k_ => nO k_ s_.2.1 ∧ nO k_ s_.2.2.1 ∧ nO k_ s_.2.2.2.1 ∧ nO k_ s_.2.2.2.2.1 ∧ nO k_ s_.2.2.2.2.2.1 ∧ nO k_ (.slice Ao44 t1175.length co44) ∧ nO k_ (.slice Ao46 t1178.length co46) ∧ nO k_ (.slice Ao80 t1200.length co80) ∧ nO k_ (.slice Ao81 t1203.length co81)) s_.1 t1237) ∧ (Kd.R (Kd.int .i64) 3 w' w.heap.size (fun k_ => nO k_ s_.1 ∧ nO k_ s_.2.2.1 ∧ nO k_ s_.2.2.2.1 ∧ nO k_ s_.2.2.2.2.1 ∧ nO k_ s_.2.2.2.2.2.1 ∧ nO k_ (.slice Ao44 t1175.length co44) ∧ nO k_ (.slice Ao46 t1178.length co46) ∧ nO k_ (.slice Ao80 t1200.length co80) ∧ nO k_ (.slice Ao81 t1203.length co81)) s_.2.1 t1240) ∧ (Kd.R (Kd.int .i64) 3 w' w.heap.size (fun k_ => nO k_ s_.1 ∧ nO k_ s_.2.1 ∧ nO k_ s_.2.2.2.1 ∧ nO k_ s_.2.2.2.2.1 ∧ nO k_ s_.2.2.2.2.2.1 ∧ nO k_ (.slice Ao44 t1175.length co44) ∧ nO k_ (.slice Ao46 t1178.length co46) ∧ nO k_ (.slice Ao80 t1200.length co80) ∧ nO k_ (.slice Ao81 t1203.length co81)) s_.2.2.1 t1244) ∧ (Kd.R (Kd.int .i64) 3 w' w.heap.size (fun k_ => nO k_ s_.1 ∧ nO k_ s_.2.1 ∧ nO k_ s_.2.2.1 ∧ nO k_ s_.2.2.2.2.1 ∧ nO k_ s_.2.2.2.2.2.1 ∧ nO k_ (.slice Ao44 t1175.length co44) ∧ nO k_ (.slice Ao46 t1178.length co46) ∧ nO k_ (.slice Ao80 t1200.length co80) ∧ nO k_ (.slice Ao81 t1203.length co81)) s_.2.2.2.1 t1247) ∧ (Kd.R (Kd.int .i64) 3 w' w.heap.size (fun k_ => nO k_ s_.1 ∧ nO k_ s_.2.1 ∧ nO k_ s_.2.2.1 ∧ nO k_ s_.2.2.2.1 ∧ nO k_ s_.2.2.2.2.2.1 ∧ nO k_ (.slice Ao44 t1175.length co44) ∧ nO k_ (.slice Ao46 t1178.length co46) ∧ nO k_ (.slice Ao80 t1200.length co80) ∧ nO k_ (.slice Ao81 t1203.length co81)) s_.2.2.2.2.1 t1251) ∧ (Kd.R (Kd.int .i64) 3 w' w.heap.size (fun k_ => nO k_ s_.1 ∧ nO k_ s_.2.1 ∧ nO k_ s_.2.2.1 ∧ nO k_ s_.2.2.2.1 ∧ nO k_ s_.2.2.2.2.1 ∧ nO k_ (.slice Ao44 t1175.length co44) ∧ nO k_ (.slice Ao46 t1178.length co46) ∧ nO k_ (.slice Ao80 t1200.length co80) ∧ nO k_ (.slice Ao81 t1203.length co81)) s_.2.2.2.2.2.1 t1254) ∧ (Kd.R (Kd.int .i64) 3 w' w.heap.size (fun k_ => nO k_ s_.1 ∧ nO k_ s_.2.1 ∧ nO k_ s_.2.2.1 ∧ nO k_ s_.2.2.2.1 ∧ nO k_ s_.2.2.2.2.1 ∧ nO k_ s_.2.2.2.2.2.1 ∧ nO k_ (.slice Ao46 t1178.length co46) ∧ nO k_ (.slice Ao80 t1200.length co80) ∧ nO k_ (.slice Ao81 t1203.length co81)) (.slice Ao44 t1175.length co44) t1175) ∧ (Kd.R (Kd.int .i64) 3 w' w.heap.size (fun k_ => nO k_ s_.1 ∧ nO k_ s_.2.1 ∧ nO k_ s_.2.2.1 ∧ nO k_ s_.2.2.2.1 ∧ nO k_ s_.2.2.2.2.1 ∧ nO k_ s_.2.2.2.2.2.1 ∧ nO k_ (.slice Ao44 t1175.length co44) ∧ nO k_ (.slice Ao80 t1200.length co80) ∧ nO k_ (.slice Ao81 t1203.length co81)) (.slice Ao46 t1178.length co46) t1178) ∧ (Kd.R (Kd.int .i64) 3 w' w.heap.size (fun k_ => nO k_ s_.1 ∧ nO k_ s_.2.1 ∧ nO k_ s_.2.2.1 ∧ nO k_ s_.2.2.2.1 ∧ nO k_ s_.2.2.2.2.1 ∧ nO k_ s_.2.2.2.2.2.1 ∧ nO k_ (.slice Ao44 t1175.length co44) ∧ nO k_ (.slice Ao46 t1178.length co46) ∧ nO k_ (.slice Ao81 t1203.length co81)) (.slice Ao80 t1200.length co80) t1233) ∧ (Kd.R (Kd.int .i64) 3 w' w.heap.size (fun k_ => nO k_ s_.1 ∧ nO k_ s_.2.1 ∧ nO k_ s_.2.2.1 ∧ nO k_ s_.2.2.2.1 ∧ nO k_ s_.2.2.2.2.1 ∧ nO k_ s_.2.2.2.2.2.1 ∧ nO k_ (.slice Ao44 t1175.length co44) ∧ nO k_ (.slice Ao46 t1178.length co46) ∧ nO k_ (.slice Ao80 t1200.length co80)) (.slice Ao81 t1203.length co81) t1234) ∧ (w'.heap[gb1156]? = some (.cells #[.bool a0_0, .slice A0_1 l0_1.length c0_1, .slice A0_2 l0_2.length c0_2] 30 (0, 0))) ∧ (w'.heap[gb1157]? = some (.cells #[.bool a1_0, .slice A1_1 l1_1.length c1_1, .slice A1_2 l1_2.length c1_2] 30 (0, 0))) ∧ (w'.heap[gb1182]? = some (.cells #[.bool t1174, .slice Ao44 t1175.length co44, .slice Ao46 t1178.length co46] 24 (0, 0))) ∧ (w'.heap[gb1207]? = some (.cells #[.bool t1199, .slice Ao80 t1200.length co80, .slice Ao81 t1203.length co81] 24 (0, 0))) ∧ (w'.heap[s_.2.2.2.2.2.2]? = some (.cells #[.bool false, .slice none 0 0, .slice none 0 0] 24 (0, 0))) ∧ (w.heap.size ≤ s_.2.2.2.2.2.2) ∧ (w.heap.size ≤ s_.2.2.2.2.2.2) ∧ (gb1156 ≠ s_.2.2.2.2.2.2) ∧ (s_.2.2.2.2.2.2 ≠ gb1156) ∧ (gb1157 ≠ s_.2.2.2.2.2.2) ∧ (s_.2.2.2.2.2.2 ≠ gb1157) ∧ (gb1182 ≠ s_.2.2.2.2.2.2) ∧ (s_.2.2.2.2.2.2 ≠ gb1182) ∧ (gb1207 ≠ s_.2.2.2.2.2.2) ∧ (s_.2.2.2.2.2.2 ≠ gb1207) ∧ (Below w.heap.size w w')) ?_ ?_
             rotate_left
             ·
              intro hCont
              refine two_ (i := 1) (j := 8) (Ni := some 96) (Nj := some 15) #[true, true, true, false, false, false, false, false, false, false, false] #[true, false, true, false, false, false, false, false, true, false, false] rfl rfl rfl rfl (two_of HT_.out (by kernel_rfl)) (by decide) (by decide) (fun K hK => ?_) (fun K hK => ?_)
              ·
               skip
               refine goes_ Try.func22 (by kernel_rfl) rfl #[.agg #[.bool a0_0, .slice A0_1 l0_1.length c0_1, .slice A0_2 l0_2.length c0_2]] (by rfl) rfl rfl (by (try simp only [List.map_toArray, List.map_cons, List.map_nil]); first | done | rfl | (simp only [List.length_drop, List.length_take]; rfl)) ?_
               with_reducible refine (laws_toRat.calls kj116 a0_0 _ _ l0_1 _ _ l0_2 t1236 t1237 t1240 _ ?side1 ?side2 ?side3 ?side4 A180.out).mono ?_
               (case side1 => exact crC (Kd.C_below HR0_1.out HB.out))
               (case side2 => exact HC0_1.out)
               (case side3 => exact crC (Kd.C_below HR0_2.out HB.out))
               (case side4 => exact HC0_2.out)
               rintro e w192 ⟨v1238, v1241, rfl, ho0, ho1, hb⟩
               refine ⟨_, rfl, ?_⟩
               have HO1239 := lwR (nwR (nwR (nwR (nwR ho0 HO_1183001) HO_1183002) HO_1208001) HO_1208002) HB
               have HO1242 := lwR (nwR (nwR (nwR (nwR ho1 HO_1183001) HO_1183002) HO_1208001) HO_1208002) HB
               replace HO_1183001 := tldR HO_1183001 hb (Kd.R_base ho0) (Kd.R_base ho1)
               replace HO_1183002 := tldR HO_1183002 hb (Kd.R_base ho0) (Kd.R_base ho1)
               replace HO_1208001 := tldR HO_1208001 hb (Kd.R_base ho0) (Kd.R_base ho1)
               replace HO_1208002 := tldR HO_1208002 hb (Kd.R_base ho0) (Kd.R_base ho1)
               replace BK1156 := bkb BK1156 hb
               replace BK1157 := bkb BK1157 hb
               replace BK1182 := bkb BK1182 hb
               replace BK1207 := bkb BK1207 hb
               replace HB := bst HB hb
               (try clear hb)
               (try clear hb2)
               (try clear hk)
               (try clear hi)
               (try clear ho0)
               (try clear ho1)
               refine hK.out _ _ ⟨bce BK1156 0 _, bce BK1156 1 _, bce BK1156 2 _, bce BK1157 0 _, bce BK1157 1 _, bce BK1157 2 _⟩ (fun hHeld => ?_)
               clear hK K
               refine norm_ (a' := ?_) ?_ ?_
               rotate_left
               ·
                show Act.put _ (some 96) _ = _
                simp only [Act.put, List.setIfInBounds_toArray, List.set_cons_zero, List.set_cons_succ, i64_w, i32_w]
                rfl
               refine two_ (i := 3) (j := 8) (Ni := some 98) (Nj := some 15) #[true, true, true, true, false, false, false, false, false, false, false] #[true, true, true, false, false, false, false, false, true, false, false] rfl rfl rfl rfl (two_of HT_.out (by kernel_rfl)) (by decide) (by decide) (fun K hK => ?_) (fun K hK => ?_)
               ·
                skip
                refine goes_ Try.func22 (by kernel_rfl) rfl #[.agg #[.bool a1_0, .slice A1_1 l1_1.length c1_1, .slice A1_2 l1_2.length c1_2]] (by rfl) rfl rfl (by (try simp only [List.map_toArray, List.map_cons, List.map_nil]); first | done | rfl | (simp only [List.length_drop, List.length_take]; rfl)) ?_
                with_reducible refine (laws_toRat.calls kj116 a1_0 _ _ l1_1 _ _ l1_2 t1243 t1244 t1247 _ ?side1 ?side2 ?side3 ?side4 A181.out).mono ?_
                (case side1 => exact crC (Kd.C_below HR1_1.out HB.out))
                (case side2 => exact HC1_1.out)
                (case side3 => exact crC (Kd.C_below HR1_2.out HB.out))
                (case side4 => exact HC1_2.out)
                rintro e w193 ⟨v1245, v1248, rfl, ho0, ho1, hb⟩
                refine ⟨_, rfl, ?_⟩
                have HO1246 := lwR (nwR (nwR (nwR (nwR (nwR (nwR ho0 HO_1183001) HO_1183002) HO_1208001) HO_1208002) HO1239) HO1242) HB
                have HO1249 := lwR (nwR (nwR (nwR (nwR (nwR (nwR ho1 HO_1183001) HO_1183002) HO_1208001) HO_1208002) HO1239) HO1242) HB
                replace HO_1183001 := tldR HO_1183001 hb (Kd.R_base ho0) (Kd.R_base ho1)
                replace HO_1183002 := tldR HO_1183002 hb (Kd.R_base ho0) (Kd.R_base ho1)
                replace HO_1208001 := tldR HO_1208001 hb (Kd.R_base ho0) (Kd.R_base ho1)
                replace HO_1208002 := tldR HO_1208002 hb (Kd.R_base ho0) (Kd.R_base ho1)
                replace HO1239 := tldR HO1239 hb (Kd.R_base ho0) (Kd.R_base ho1)
                replace HO1242 := tldR HO1242 hb (Kd.R_base ho0) (Kd.R_base ho1)
                replace BK1156 := bkb BK1156 hb
                replace BK1157 := bkb BK1157 hb
                replace BK1182 := bkb BK1182 hb
                replace BK1207 := bkb BK1207 hb
                replace HB := bst HB hb
                (try clear hb)
                (try clear hb2)
                (try clear hk)
                (try clear hi)
                (try clear ho0)
                (try clear ho1)
                obtain ⟨Ao194, co194, eo194⟩ := Kd.R_slice HO1239.out
                (first | subst eo194 | (injection eo194 with f1_ f2_ f3_; have f4_ := f1_.symm; have f5_ := f3_.symm; clear f1_ f2_ f3_; subst f4_; subst f5_))
                obtain ⟨Ao195, co195, eo195⟩ := Kd.R_slice HO1242.out
                (first | subst eo195 | (injection eo195 with f1_ f2_ f3_; have f4_ := f1_.symm; have f5_ := f3_.symm; clear f1_ f2_ f3_; subst f4_; subst f5_))
                obtain ⟨Ao196, co196, eo196⟩ := Kd.R_slice HO1246.out
                (first | subst eo196 | (injection eo196 with f1_ f2_ f3_; have f4_ := f1_.symm; have f5_ := f3_.symm; clear f1_ f2_ f3_; subst f4_; subst f5_))
                obtain ⟨Ao197, co197, eo197⟩ := Kd.R_slice HO1249.out
                (first | subst eo197 | (injection eo197 with f1_ f2_ f3_; have f4_ := f1_.symm; have f5_ := f3_.symm; clear f1_ f2_ f3_; subst f4_; subst f5_))
                refine hK.out _ _ ⟨bce BK1156 0 _, bce BK1156 1 _, bce BK1156 2 _, bce BK1157 0 _, bce BK1157 1 _, bce BK1157 2 _⟩ (fun hHeld => ?_)
                clear hK K
                refine norm_ (a' := ?_) ?_ ?_
                rotate_left
                ·
                 show Act.put _ (some 98) _ = _
                 simp only [Act.put, List.setIfInBounds_toArray, List.set_cons_zero, List.set_cons_succ, i64_w, i32_w]
                 rfl
                refine two_ (i := 4) (j := 8) (Ni := some 99) (Nj := some 15) #[true, true, true, true, true, false, false, false, false, false, false] #[true, true, true, true, false, false, false, false, true, false, false] rfl rfl rfl rfl (two_of HT_.out (by kernel_rfl)) (by decide) (by decide) (fun K hK => ?_) (fun K hK => ?_)
                ·
                 skip
                 refine goes_ Try.func33 (by kernel_rfl) rfl #[.agg #[.bool t1236, .slice Ao194 t1237.length co194, .slice Ao195 t1240.length co195], .agg #[.bool t1243, .slice Ao196 t1244.length co196, .slice Ao197 t1247.length co197]] (by rfl) rfl rfl (by (try simp only [List.map_toArray, List.map_cons, List.map_nil]); first | done | rfl | (simp only [List.length_drop, List.length_take]; rfl)) ?_
                 with_reducible refine (impl_DivRat.calls kj116 t1236 (fun k_ => some k_ = (.slice Ao194 t1237.length co194 : Value).ownBlock) _ _ t1237 (fun k_ => some k_ = (.slice Ao195 t1240.length co195 : Value).ownBlock) _ _ t1240 t1243 (fun k_ => some k_ = (.slice Ao196 t1244.length co196 : Value).ownBlock) _ _ t1244 (fun k_ => some k_ = (.slice Ao197 t1247.length co197 : Value).ownBlock) _ _ t1247 t1250 t1251 t1254 t1257 _ ?side1 ?side2 ?side3 ?side4 A182.out).mono ?_
                 (case side1 => exact Kd.R_V (Kd.R_tight rfl (Kd.R_types (Kd.R_types (Kd.R_types (Kd.R_types (HO1239.out) BK1156.out (by decide)) BK1157.out (by decide)) BK1182.out (by decide)) BK1207.out (by decide))))
                 (case side2 => exact Kd.R_V (Kd.R_tight rfl (Kd.R_types (Kd.R_types (Kd.R_types (Kd.R_types (HO1242.out) BK1156.out (by decide)) BK1157.out (by decide)) BK1182.out (by decide)) BK1207.out (by decide))))
                 (case side3 => exact Kd.R_V (Kd.R_tight rfl (Kd.R_types (Kd.R_types (Kd.R_types (Kd.R_types (HO1246.out) BK1156.out (by decide)) BK1157.out (by decide)) BK1182.out (by decide)) BK1207.out (by decide))))
                 (case side4 => exact Kd.R_V (Kd.R_tight rfl (Kd.R_types (Kd.R_types (Kd.R_types (Kd.R_types (HO1249.out) BK1156.out (by decide)) BK1157.out (by decide)) BK1182.out (by decide)) BK1207.out (by decide))))
                 rintro e w198 ⟨v1252, v1255, rfl, ho0, ho1, hb⟩
                 refine ⟨_, rfl, ?_⟩
                 have HO1253 := lwR (nwR (nwR (nwR (nwR (nwR (nwR (nwR (nwR (Kd.R_mono (ok' := fun k_ => nO k_ v1255) ho0 (fun _ hk_ => hk_.2)) HO_1183001) HO_1183002) HO_1208001) HO_1208002) HO1239) HO1242) HO1246) HO1249) HB
                 have HO1256 := lwR (nwR (nwR (nwR (nwR (nwR (nwR (nwR (nwR (Kd.R_mono (ok' := fun k_ => nO k_ v1252) ho1 (fun _ hk_ => hk_.2)) HO_1183001) HO_1183002) HO_1208001) HO_1208002) HO1239) HO1242) HO1246) HO1249) HB
                 replace HO_1183001 := tldR HO_1183001 hb (Kd.R_base ho0) (Kd.R_base ho1)
                 replace HO_1183002 := tldR HO_1183002 hb (Kd.R_base ho0) (Kd.R_base ho1)
                 replace HO_1208001 := tldR HO_1208001 hb (Kd.R_base ho0) (Kd.R_base ho1)
                 replace HO_1208002 := tldR HO_1208002 hb (Kd.R_base ho0) (Kd.R_base ho1)
                 replace HO1239 := tldR HO1239 hb (Kd.R_base ho0) (Kd.R_base ho1)
                 replace HO1242 := tldR HO1242 hb (Kd.R_base ho0) (Kd.R_base ho1)
                 replace HO1246 := tldR HO1246 hb (Kd.R_base ho0) (Kd.R_base ho1)
                 replace HO1249 := tldR HO1249 hb (Kd.R_base ho0) (Kd.R_base ho1)
                 replace BK1156 := bkb BK1156 hb
                 replace BK1157 := bkb BK1157 hb
                 replace BK1182 := bkb BK1182 hb
                 replace BK1207 := bkb BK1207 hb
                 replace HB := bst HB hb
                 (try clear hb)
                 (try clear hb2)
                 (try clear hk)
                 (try clear hi)
                 (try clear ho0)
                 (try clear ho1)
                 refine hK.out _ _ ⟨bce BK1156 0 _, bce BK1156 1 _, bce BK1156 2 _, bce BK1157 0 _, bce BK1157 1 _, bce BK1157 2 _⟩ (fun hHeld => ?_)
                 clear hK K
                 refine norm_ (a' := ?_) ?_ ?_
                 rotate_left
                 ·
                  show Act.put _ (some 99) _ = _
                  simp only [Act.put, List.setIfInBounds_toArray, List.set_cons_zero, List.set_cons_succ, i64_w, i32_w]
                  rfl
                 refine pure_ (i := 5) (N := some 94) (v := ?_) (a' := ?_) #[true, true, true, true, true, true, false, false, false, false, false] rfl rfl (any_of HT_.out (by kernel_rfl)) (fun _ _ _ h => h) (Or.inl ⟨by rfl, ?_⟩) ?_ ?_
                 rotate_left
                 ·
                  intro w'
                  go_simp
                  with_reducible rfl
                 rotate_left
                 ·
                  simp only [Act.put, List.setIfInBounds_toArray, List.set_cons_zero, List.set_cons_succ, i64_w, i32_w]
                  rfl
                 refine pure_ (i := 6) (N := some 100) (v := ?_) (a' := ?_) #[true, true, true, true, true, true, true, false, false, false, false] rfl rfl (any_of HT_.out (by kernel_rfl)) (fun _ _ _ h => h) (Or.inl ⟨by rfl, ?_⟩) ?_ ?_
                 rotate_left
                 ·
                  intro w'
                  go_simp
                  with_reducible rfl
                 rotate_left
                 ·
                  simp only [Act.put, List.setIfInBounds_toArray, List.set_cons_zero, List.set_cons_succ, i64_w, i32_w]
                  rfl
                 refine pure_ (i := 7) (N := some 101) (v := ?_) (a' := ?_) #[true, true, true, true, true, true, true, true, false, false, false] rfl rfl (any_of HT_.out (by kernel_rfl)) (fun _ _ _ h => h) (Or.inl ⟨by rfl, ?_⟩) ?_ ?_
                 rotate_left
                 ·
                  intro w'
                  go_simp
                  with_reducible rfl
                 rotate_left
                 ·
                  simp only [Act.put, List.setIfInBounds_toArray, List.set_cons_zero, List.set_cons_succ, i64_w, i32_w]
                  rfl
                 refine one_ (i := 8) (N := some 15) #[true, true, true, true, true, true, true, true, true, false, false] rfl rfl (one_of HT_.out (by kernel_rfl)) (by decide) (fun K hK => ?_)
                 refine box_step ?hg (N := 15) ?hd (cs := #[.bool false, .slice none 0 0, .slice none 0 0]) (t := 24) ?hr ?_; (case hd => rfl); (case hg => rfl); (case hr => first | (go_simp; done) | (go_simp; rfl))
                 intro gb1258 hg w199 hbox hb
                 replace HO_1183001 := rblR HO_1183001 hb
                 replace HO_1183002 := rblR HO_1183002 hb
                 replace HO_1208001 := rblR HO_1208001 hb
                 replace HO_1208002 := rblR HO_1208002 hb
                 replace HO1239 := rblR HO1239 hb
                 replace HO1242 := rblR HO1242 hb
                 replace HO1246 := rblR HO1246 hb
                 replace HO1249 := rblR HO1249 hb
                 replace HO1253 := rblR HO1253 hb
                 replace HO1256 := rblR HO1256 hb
                 have BK1258 := Aside0.mk (hbox)
                 have GW1258 := geh hg HB
                 have GE1258 := geh hg HB
                 replace HB := bst HB hb
                 have NB1156_1258 := nlt hg BK1156
                 have NB1258_1156 := ngt hg BK1156
                 replace BK1156 := bkb BK1156 hb
                 have NB1157_1258 := nlt hg BK1157
                 have NB1258_1157 := ngt hg BK1157
                 replace BK1157 := bkb BK1157 hb
                 have NB1182_1258 := nlt hg BK1182
                 have NB1258_1182 := ngt hg BK1182
                 replace BK1182 := bkb BK1182 hb
                 have NB1207_1258 := nlt hg BK1207
                 have NB1258_1207 := ngt hg BK1207
                 replace BK1207 := bkb BK1207 hb
                 clear hb hbox hg
                 refine hK.out _ _ ⟨bce BK1156 0 _, bce BK1156 1 _, bce BK1156 2 _, bce BK1157 0 _, bce BK1157 1 _, bce BK1157 2 _⟩ (fun hHeld => ?_)
                 clear hK K
                 refine norm_ (a' := ?_) ?_ ?_
                 rotate_left
                 ·
                  show Act.put _ (some 15) _ = _
                  simp only [Act.put, List.setIfInBounds_toArray, List.set_cons_zero, List.set_cons_succ, i64_w, i32_w]
                  rfl
                 exact norm_ (by simp only [putAll, Act.put, List.setIfInBounds_toArray, List.set_cons_zero, List.set_cons_succ]) (hCont (.slice Ao194 t1237.length co194, .slice Ao195 t1240.length co195, .slice Ao196 t1244.length co196, .slice Ao197 t1247.length co197, v1252, v1255, gb1258) _ ⟨hHeld, (crM HO1239 fun _ hk => ⟨hk.1.1.1.1.1.1.1.1, hk.1.1.1.2, hk.1.1.2, hk.1.2, hk.2, hk.1.1.1.1.1.1.1.2, hk.1.1.1.1.1.1.2, hk.1.1.1.1.1.2, hk.1.1.1.1.2⟩), (crM HO1242 fun _ hk => ⟨hk.1.1.1.1.1.1.1.1, hk.1.1.1.2, hk.1.1.2, hk.1.2, hk.2, hk.1.1.1.1.1.1.1.2, hk.1.1.1.1.1.1.2, hk.1.1.1.1.1.2, hk.1.1.1.1.2⟩), (crM HO1246 fun _ hk => ⟨hk.1.1.1.2, hk.1.1.2, hk.1.1.1.1.1.1.1.1, hk.1.2, hk.2, hk.1.1.1.1.1.1.1.2, hk.1.1.1.1.1.1.2, hk.1.1.1.1.1.2, hk.1.1.1.1.2⟩), (crM HO1249 fun _ hk => ⟨hk.1.1.1.2, hk.1.1.2, hk.1.1.1.1.1.1.1.1, hk.1.2, hk.2, hk.1.1.1.1.1.1.1.2, hk.1.1.1.1.1.1.2, hk.1.1.1.1.1.2, hk.1.1.1.1.2⟩), (crM HO1253 fun _ hk => ⟨hk.1.1.1.2, hk.1.1.2, hk.1.2, hk.2, hk.1.1.1.1.1.1.1.1, hk.1.1.1.1.1.1.1.2, hk.1.1.1.1.1.1.2, hk.1.1.1.1.1.2, hk.1.1.1.1.2⟩), (crM HO1256 fun _ hk => ⟨hk.1.1.1.2, hk.1.1.2, hk.1.2, hk.2, hk.1.1.1.1.1.1.1.1, hk.1.1.1.1.1.1.1.2, hk.1.1.1.1.1.1.2, hk.1.1.1.1.1.2, hk.1.1.1.1.2⟩), (crM HO_1183001 fun _ hk => ⟨hk.1.1.1.1.1.2, hk.1.1.1.1.2, hk.1.1.1.2, hk.1.1.2, hk.1.2, hk.2, hk.1.1.1.1.1.1.1, hk.1.1.1.1.1.1.2.1, hk.1.1.1.1.1.1.2.2⟩), (crM HO_1183002 fun _ hk => ⟨hk.1.1.1.1.1.2, hk.1.1.1.1.2, hk.1.1.1.2, hk.1.1.2, hk.1.2, hk.2, hk.1.1.1.1.1.1.1, hk.1.1.1.1.1.1.2.1, hk.1.1.1.1.1.1.2.2⟩), (crM HO_1208001 fun _ hk => ⟨hk.1.1.1.1.1.2, hk.1.1.1.1.2, hk.1.1.1.2, hk.1.1.2, hk.1.2, hk.2, hk.1.1.1.1.1.1.1, hk.1.1.1.1.1.1.2.1, hk.1.1.1.1.1.1.2.2⟩), (crM HO_1208002 fun _ hk => ⟨hk.1.1.1.1.1.2, hk.1.1.1.1.2, hk.1.1.1.2, hk.1.1.2, hk.1.2, hk.2, hk.1.1.1.1.1.1.1, hk.1.1.1.1.1.1.2.1, hk.1.1.1.1.1.1.2.2⟩), (crb BK1156), (crb BK1157), (crb BK1182), (crb BK1207), (crb BK1258), GW1258.out, GE1258.out, NB1156_1258.out, NB1258_1156.out, NB1157_1258.out, NB1258_1157.out, NB1182_1258.out, NB1258_1182.out, NB1207_1258.out, NB1258_1207.out, (blw HB)⟩)
                ·
                 skip
                 refine box_step ?hg (N := 15) ?hd (cs := #[.bool false, .slice none 0 0, .slice none 0 0]) (t := 24) ?hr ?_; (case hd => rfl); (case hg => rfl); (case hr => first | (go_simp; done) | (go_simp; rfl))
                 intro gb1258 hg w194 hbox hb
                 replace HO_1183001 := rblR HO_1183001 hb
                 replace HO_1183002 := rblR HO_1183002 hb
                 replace HO_1208001 := rblR HO_1208001 hb
                 replace HO_1208002 := rblR HO_1208002 hb
                 replace HO1239 := rblR HO1239 hb
                 replace HO1242 := rblR HO1242 hb
                 replace HO1246 := rblR HO1246 hb
                 replace HO1249 := rblR HO1249 hb
                 have BK1258 := Aside0.mk (hbox)
                 have GW1258 := geh hg HB
                 have GE1258 := geh hg HB
                 replace HB := bst HB hb
                 have NB1156_1258 := nlt hg BK1156
                 have NB1258_1156 := ngt hg BK1156
                 replace BK1156 := bkb BK1156 hb
                 have NB1157_1258 := nlt hg BK1157
                 have NB1258_1157 := ngt hg BK1157
                 replace BK1157 := bkb BK1157 hb
                 have NB1182_1258 := nlt hg BK1182
                 have NB1258_1182 := ngt hg BK1182
                 replace BK1182 := bkb BK1182 hb
                 have NB1207_1258 := nlt hg BK1207
                 have NB1258_1207 := ngt hg BK1207
                 replace BK1207 := bkb BK1207 hb
                 clear hb hbox hg
                 obtain ⟨Ao195, co195, eo195⟩ := Kd.R_slice HO1239.out
                 (first | subst eo195 | (injection eo195 with f1_ f2_ f3_; have f4_ := f1_.symm; have f5_ := f3_.symm; clear f1_ f2_ f3_; subst f4_; subst f5_))
                 obtain ⟨Ao196, co196, eo196⟩ := Kd.R_slice HO1242.out
                 (first | subst eo196 | (injection eo196 with f1_ f2_ f3_; have f4_ := f1_.symm; have f5_ := f3_.symm; clear f1_ f2_ f3_; subst f4_; subst f5_))
                 obtain ⟨Ao197, co197, eo197⟩ := Kd.R_slice HO1246.out
                 (first | subst eo197 | (injection eo197 with f1_ f2_ f3_; have f4_ := f1_.symm; have f5_ := f3_.symm; clear f1_ f2_ f3_; subst f4_; subst f5_))
                 obtain ⟨Ao198, co198, eo198⟩ := Kd.R_slice HO1249.out
                 (first | subst eo198 | (injection eo198 with f1_ f2_ f3_; have f4_ := f1_.symm; have f5_ := f3_.symm; clear f1_ f2_ f3_; subst f4_; subst f5_))
                 refine hK.out _ _ ⟨bce BK1156 0 _, bce BK1156 1 _, bce BK1156 2 _, bce BK1157 0 _, bce BK1157 1 _, bce BK1157 2 _⟩ (fun hHeld => ?_)
                 clear hK K
                 refine norm_ (a' := ?_) ?_ ?_
                 rotate_left
                 ·
                  show Act.put _ (some 15) _ = _
                  simp only [Act.put, List.setIfInBounds_toArray, List.set_cons_zero, List.set_cons_succ, i64_w, i32_w]
                  rfl
                 refine one_ (i := 4) (N := some 99) #[true, true, true, true, true, false, false, false, true, false, false] rfl rfl (one_of HT_.out (by kernel_rfl)) (by decide) (fun K hK => ?_)
                 refine goes_ Try.func33 (by kernel_rfl) rfl #[.agg #[.bool t1236, .slice Ao195 t1237.length co195, .slice Ao196 t1240.length co196], .agg #[.bool t1243, .slice Ao197 t1244.length co197, .slice Ao198 t1247.length co198]] (by rfl) rfl rfl (by (try simp only [List.map_toArray, List.map_cons, List.map_nil]); first | done | rfl | (simp only [List.length_drop, List.length_take]; rfl)) ?_
                 with_reducible refine (impl_DivRat.calls kj116 t1236 (fun k_ => some k_ = (.slice Ao195 t1237.length co195 : Value).ownBlock) _ _ t1237 (fun k_ => some k_ = (.slice Ao196 t1240.length co196 : Value).ownBlock) _ _ t1240 t1243 (fun k_ => some k_ = (.slice Ao197 t1244.length co197 : Value).ownBlock) _ _ t1244 (fun k_ => some k_ = (.slice Ao198 t1247.length co198 : Value).ownBlock) _ _ t1247 t1250 t1251 t1254 t1257 _ ?side1 ?side2 ?side3 ?side4 A182.out).mono ?_
                 (case side1 => exact Kd.R_V (Kd.R_tight rfl (Kd.R_types (Kd.R_types (Kd.R_types (Kd.R_types (Kd.R_types (HO1239.out) BK1156.out (by decide)) BK1157.out (by decide)) BK1182.out (by decide)) BK1207.out (by decide)) BK1258.out (by decide))))
                 (case side2 => exact Kd.R_V (Kd.R_tight rfl (Kd.R_types (Kd.R_types (Kd.R_types (Kd.R_types (Kd.R_types (HO1242.out) BK1156.out (by decide)) BK1157.out (by decide)) BK1182.out (by decide)) BK1207.out (by decide)) BK1258.out (by decide))))
                 (case side3 => exact Kd.R_V (Kd.R_tight rfl (Kd.R_types (Kd.R_types (Kd.R_types (Kd.R_types (Kd.R_types (HO1246.out) BK1156.out (by decide)) BK1157.out (by decide)) BK1182.out (by decide)) BK1207.out (by decide)) BK1258.out (by decide))))
                 (case side4 => exact Kd.R_V (Kd.R_tight rfl (Kd.R_types (Kd.R_types (Kd.R_types (Kd.R_types (Kd.R_types (HO1249.out) BK1156.out (by decide)) BK1157.out (by decide)) BK1182.out (by decide)) BK1207.out (by decide)) BK1258.out (by decide))))
                 rintro e w199 ⟨v1252, v1255, rfl, ho0, ho1, hb⟩
                 refine ⟨_, rfl, ?_⟩
                 have HO1253 := lwR (nwR (nwR (nwR (nwR (nwR (nwR (nwR (nwR (Kd.R_mono (ok' := fun k_ => nO k_ v1255) ho0 (fun _ hk_ => hk_.2)) HO_1183001) HO_1183002) HO_1208001) HO_1208002) HO1239) HO1242) HO1246) HO1249) HB
                 have HO1256 := lwR (nwR (nwR (nwR (nwR (nwR (nwR (nwR (nwR (Kd.R_mono (ok' := fun k_ => nO k_ v1252) ho1 (fun _ hk_ => hk_.2)) HO_1183001) HO_1183002) HO_1208001) HO_1208002) HO1239) HO1242) HO1246) HO1249) HB
                 replace HO_1183001 := tldR HO_1183001 hb (Kd.R_base ho0) (Kd.R_base ho1)
                 replace HO_1183002 := tldR HO_1183002 hb (Kd.R_base ho0) (Kd.R_base ho1)
                 replace HO_1208001 := tldR HO_1208001 hb (Kd.R_base ho0) (Kd.R_base ho1)
                 replace HO_1208002 := tldR HO_1208002 hb (Kd.R_base ho0) (Kd.R_base ho1)
                 replace HO1239 := tldR HO1239 hb (Kd.R_base ho0) (Kd.R_base ho1)
                 replace HO1242 := tldR HO1242 hb (Kd.R_base ho0) (Kd.R_base ho1)
                 replace HO1246 := tldR HO1246 hb (Kd.R_base ho0) (Kd.R_base ho1)
                 replace HO1249 := tldR HO1249 hb (Kd.R_base ho0) (Kd.R_base ho1)
                 replace BK1156 := bkb BK1156 hb
                 replace BK1157 := bkb BK1157 hb
                 replace BK1182 := bkb BK1182 hb
                 replace BK1207 := bkb BK1207 hb
                 replace BK1258 := bkb BK1258 hb
                 replace HB := bst HB hb
                 (try clear hb)
                 (try clear hb2)
                 (try clear hk)
                 (try clear hi)
                 (try clear ho0)
                 (try clear ho1)
                 refine hK.out _ _ ⟨bce BK1156 0 _, bce BK1156 1 _, bce BK1156 2 _, bce BK1157 0 _, bce BK1157 1 _, bce BK1157 2 _⟩ (fun hHeld => ?_)
                 clear hK K
                 refine norm_ (a' := ?_) ?_ ?_
                 rotate_left
                 ·
                  show Act.put _ (some 99) _ = _
                  simp only [Act.put, List.setIfInBounds_toArray, List.set_cons_zero, List.set_cons_succ, i64_w, i32_w]
                  rfl
                 refine pure_ (i := 5) (N := some 94) (v := ?_) (a' := ?_) #[true, true, true, true, true, true, false, false, true, false, false] rfl rfl (any_of HT_.out (by kernel_rfl)) (fun _ _ _ h => h) (Or.inl ⟨by rfl, ?_⟩) ?_ ?_
                 rotate_left
                 ·
                  intro w'
                  go_simp
                  with_reducible rfl
                 rotate_left
                 ·
                  simp only [Act.put, List.setIfInBounds_toArray, List.set_cons_zero, List.set_cons_succ, i64_w, i32_w]
                  rfl
                 refine pure_ (i := 6) (N := some 100) (v := ?_) (a' := ?_) #[true, true, true, true, true, true, true, false, true, false, false] rfl rfl (any_of HT_.out (by kernel_rfl)) (fun _ _ _ h => h) (Or.inl ⟨by rfl, ?_⟩) ?_ ?_
                 rotate_left
                 ·
                  intro w'
                  go_simp
                  with_reducible rfl
                 rotate_left
                 ·
                  simp only [Act.put, List.setIfInBounds_toArray, List.set_cons_zero, List.set_cons_succ, i64_w, i32_w]
                  rfl
                 refine pure_ (i := 7) (N := some 101) (v := ?_) (a' := ?_) #[true, true, true, true, true, true, true, true, true, false, false] rfl rfl (any_of HT_.out (by kernel_rfl)) (fun _ _ _ h => h) (Or.inl ⟨by rfl, ?_⟩) ?_ ?_
                 rotate_left
                 ·
                  intro w'
                  go_simp
                  with_reducible rfl
                 rotate_left
                 ·
                  simp only [Act.put, List.setIfInBounds_toArray, List.set_cons_zero, List.set_cons_succ, i64_w, i32_w]
                  rfl
                 exact norm_ (by simp only [putAll, Act.put, List.setIfInBounds_toArray, List.set_cons_zero, List.set_cons_succ]) (hCont (.slice Ao195 t1237.length co195, .slice Ao196 t1240.length co196, .slice Ao197 t1244.length co197, .slice Ao198 t1247.length co198, v1252, v1255, gb1258) _ ⟨hHeld, (crM HO1239 fun _ hk => ⟨hk.1.1.1.1.1.1.1.1, hk.1.1.1.2, hk.1.1.2, hk.1.2, hk.2, hk.1.1.1.1.1.1.1.2, hk.1.1.1.1.1.1.2, hk.1.1.1.1.1.2, hk.1.1.1.1.2⟩), (crM HO1242 fun _ hk => ⟨hk.1.1.1.1.1.1.1.1, hk.1.1.1.2, hk.1.1.2, hk.1.2, hk.2, hk.1.1.1.1.1.1.1.2, hk.1.1.1.1.1.1.2, hk.1.1.1.1.1.2, hk.1.1.1.1.2⟩), (crM HO1246 fun _ hk => ⟨hk.1.1.1.2, hk.1.1.2, hk.1.1.1.1.1.1.1.1, hk.1.2, hk.2, hk.1.1.1.1.1.1.1.2, hk.1.1.1.1.1.1.2, hk.1.1.1.1.1.2, hk.1.1.1.1.2⟩), (crM HO1249 fun _ hk => ⟨hk.1.1.1.2, hk.1.1.2, hk.1.1.1.1.1.1.1.1, hk.1.2, hk.2, hk.1.1.1.1.1.1.1.2, hk.1.1.1.1.1.1.2, hk.1.1.1.1.1.2, hk.1.1.1.1.2⟩), (crM HO1253 fun _ hk => ⟨hk.1.1.1.2, hk.1.1.2, hk.1.2, hk.2, hk.1.1.1.1.1.1.1.1, hk.1.1.1.1.1.1.1.2, hk.1.1.1.1.1.1.2, hk.1.1.1.1.1.2, hk.1.1.1.1.2⟩), (crM HO1256 fun _ hk => ⟨hk.1.1.1.2, hk.1.1.2, hk.1.2, hk.2, hk.1.1.1.1.1.1.1.1, hk.1.1.1.1.1.1.1.2, hk.1.1.1.1.1.1.2, hk.1.1.1.1.1.2, hk.1.1.1.1.2⟩), (crM HO_1183001 fun _ hk => ⟨hk.1.1.1.1.1.2, hk.1.1.1.1.2, hk.1.1.1.2, hk.1.1.2, hk.1.2, hk.2, hk.1.1.1.1.1.1.1, hk.1.1.1.1.1.1.2.1, hk.1.1.1.1.1.1.2.2⟩), (crM HO_1183002 fun _ hk => ⟨hk.1.1.1.1.1.2, hk.1.1.1.1.2, hk.1.1.1.2, hk.1.1.2, hk.1.2, hk.2, hk.1.1.1.1.1.1.1, hk.1.1.1.1.1.1.2.1, hk.1.1.1.1.1.1.2.2⟩), (crM HO_1208001 fun _ hk => ⟨hk.1.1.1.1.1.2, hk.1.1.1.1.2, hk.1.1.1.2, hk.1.1.2, hk.1.2, hk.2, hk.1.1.1.1.1.1.1, hk.1.1.1.1.1.1.2.1, hk.1.1.1.1.1.1.2.2⟩), (crM HO_1208002 fun _ hk => ⟨hk.1.1.1.1.1.2, hk.1.1.1.1.2, hk.1.1.1.2, hk.1.1.2, hk.1.2, hk.2, hk.1.1.1.1.1.1.1, hk.1.1.1.1.1.1.2.1, hk.1.1.1.1.1.1.2.2⟩), (crb BK1156), (crb BK1157), (crb BK1182), (crb BK1207), (crb BK1258), GW1258.out, GE1258.out, NB1156_1258.out, NB1258_1156.out, NB1157_1258.out, NB1258_1157.out, NB1182_1258.out, NB1258_1182.out, NB1207_1258.out, NB1258_1207.out, (blw HB)⟩)
               ·
                skip
                refine box_step ?hg (N := 15) ?hd (cs := #[.bool false, .slice none 0 0, .slice none 0 0]) (t := 24) ?hr ?_; (case hd => rfl); (case hg => rfl); (case hr => first | (go_simp; done) | (go_simp; rfl))
                intro gb1258 hg w193 hbox hb
                replace HO_1183001 := rblR HO_1183001 hb
                replace HO_1183002 := rblR HO_1183002 hb
                replace HO_1208001 := rblR HO_1208001 hb
                replace HO_1208002 := rblR HO_1208002 hb
                replace HO1239 := rblR HO1239 hb
                replace HO1242 := rblR HO1242 hb
                have BK1258 := Aside0.mk (hbox)
                have GW1258 := geh hg HB
                have GE1258 := geh hg HB
                replace HB := bst HB hb
                have NB1156_1258 := nlt hg BK1156
                have NB1258_1156 := ngt hg BK1156
                replace BK1156 := bkb BK1156 hb
                have NB1157_1258 := nlt hg BK1157
                have NB1258_1157 := ngt hg BK1157
                replace BK1157 := bkb BK1157 hb
                have NB1182_1258 := nlt hg BK1182
                have NB1258_1182 := ngt hg BK1182
                replace BK1182 := bkb BK1182 hb
                have NB1207_1258 := nlt hg BK1207
                have NB1258_1207 := ngt hg BK1207
                replace BK1207 := bkb BK1207 hb
                clear hb hbox hg
                refine hK.out _ _ ⟨bce BK1156 0 _, bce BK1156 1 _, bce BK1156 2 _, bce BK1157 0 _, bce BK1157 1 _, bce BK1157 2 _⟩ (fun hHeld => ?_)
                clear hK K
                refine norm_ (a' := ?_) ?_ ?_
                rotate_left
                ·
                 show Act.put _ (some 15) _ = _
                 simp only [Act.put, List.setIfInBounds_toArray, List.set_cons_zero, List.set_cons_succ, i64_w, i32_w]
                 rfl
                refine one_ (i := 3) (N := some 98) #[true, true, true, true, false, false, false, false, true, false, false] rfl rfl (one_of HT_.out (by kernel_rfl)) (by decide) (fun K hK => ?_)
                refine goes_ Try.func22 (by kernel_rfl) rfl #[.agg #[.bool a1_0, .slice A1_1 l1_1.length c1_1, .slice A1_2 l1_2.length c1_2]] (by rfl) rfl rfl (by (try simp only [List.map_toArray, List.map_cons, List.map_nil]); first | done | rfl | (simp only [List.length_drop, List.length_take]; rfl)) ?_
                with_reducible refine (laws_toRat.calls kj116 a1_0 _ _ l1_1 _ _ l1_2 t1243 t1244 t1247 _ ?side1 ?side2 ?side3 ?side4 A181.out).mono ?_
                (case side1 => exact crC (Kd.C_below HR1_1.out HB.out))
                (case side2 => exact HC1_1.out)
                (case side3 => exact crC (Kd.C_below HR1_2.out HB.out))
                (case side4 => exact HC1_2.out)
                rintro e w194 ⟨v1245, v1248, rfl, ho0, ho1, hb⟩
                refine ⟨_, rfl, ?_⟩
                have HO1246 := lwR (nwR (nwR (nwR (nwR (nwR (nwR ho0 HO_1183001) HO_1183002) HO_1208001) HO_1208002) HO1239) HO1242) HB
                have HO1249 := lwR (nwR (nwR (nwR (nwR (nwR (nwR ho1 HO_1183001) HO_1183002) HO_1208001) HO_1208002) HO1239) HO1242) HB
                replace HO_1183001 := tldR HO_1183001 hb (Kd.R_base ho0) (Kd.R_base ho1)
                replace HO_1183002 := tldR HO_1183002 hb (Kd.R_base ho0) (Kd.R_base ho1)
                replace HO_1208001 := tldR HO_1208001 hb (Kd.R_base ho0) (Kd.R_base ho1)
                replace HO_1208002 := tldR HO_1208002 hb (Kd.R_base ho0) (Kd.R_base ho1)
                replace HO1239 := tldR HO1239 hb (Kd.R_base ho0) (Kd.R_base ho1)
                replace HO1242 := tldR HO1242 hb (Kd.R_base ho0) (Kd.R_base ho1)
                replace BK1156 := bkb BK1156 hb
                replace BK1157 := bkb BK1157 hb
                replace BK1182 := bkb BK1182 hb
                replace BK1207 := bkb BK1207 hb
                replace BK1258 := bkb BK1258 hb
                replace HB := bst HB hb
                (try clear hb)
                (try clear hb2)
                (try clear hk)
                (try clear hi)
                (try clear ho0)
                (try clear ho1)
                obtain ⟨Ao195, co195, eo195⟩ := Kd.R_slice HO1239.out
                (first | subst eo195 | (injection eo195 with f1_ f2_ f3_; have f4_ := f1_.symm; have f5_ := f3_.symm; clear f1_ f2_ f3_; subst f4_; subst f5_))
                obtain ⟨Ao196, co196, eo196⟩ := Kd.R_slice HO1242.out
                (first | subst eo196 | (injection eo196 with f1_ f2_ f3_; have f4_ := f1_.symm; have f5_ := f3_.symm; clear f1_ f2_ f3_; subst f4_; subst f5_))
                obtain ⟨Ao197, co197, eo197⟩ := Kd.R_slice HO1246.out
                (first | subst eo197 | (injection eo197 with f1_ f2_ f3_; have f4_ := f1_.symm; have f5_ := f3_.symm; clear f1_ f2_ f3_; subst f4_; subst f5_))
                obtain ⟨Ao198, co198, eo198⟩ := Kd.R_slice HO1249.out
                (first | subst eo198 | (injection eo198 with f1_ f2_ f3_; have f4_ := f1_.symm; have f5_ := f3_.symm; clear f1_ f2_ f3_; subst f4_; subst f5_))
                refine hK.out _ _ ⟨bce BK1156 0 _, bce BK1156 1 _, bce BK1156 2 _, bce BK1157 0 _, bce BK1157 1 _, bce BK1157 2 _⟩ (fun hHeld => ?_)
                clear hK K
                refine norm_ (a' := ?_) ?_ ?_
                rotate_left
                ·
                 show Act.put _ (some 98) _ = _
                 simp only [Act.put, List.setIfInBounds_toArray, List.set_cons_zero, List.set_cons_succ, i64_w, i32_w]
                 rfl
                refine one_ (i := 4) (N := some 99) #[true, true, true, true, true, false, false, false, true, false, false] rfl rfl (one_of HT_.out (by kernel_rfl)) (by decide) (fun K hK => ?_)
                refine goes_ Try.func33 (by kernel_rfl) rfl #[.agg #[.bool t1236, .slice Ao195 t1237.length co195, .slice Ao196 t1240.length co196], .agg #[.bool t1243, .slice Ao197 t1244.length co197, .slice Ao198 t1247.length co198]] (by rfl) rfl rfl (by (try simp only [List.map_toArray, List.map_cons, List.map_nil]); first | done | rfl | (simp only [List.length_drop, List.length_take]; rfl)) ?_
                with_reducible refine (impl_DivRat.calls kj116 t1236 (fun k_ => some k_ = (.slice Ao195 t1237.length co195 : Value).ownBlock) _ _ t1237 (fun k_ => some k_ = (.slice Ao196 t1240.length co196 : Value).ownBlock) _ _ t1240 t1243 (fun k_ => some k_ = (.slice Ao197 t1244.length co197 : Value).ownBlock) _ _ t1244 (fun k_ => some k_ = (.slice Ao198 t1247.length co198 : Value).ownBlock) _ _ t1247 t1250 t1251 t1254 t1257 _ ?side1 ?side2 ?side3 ?side4 A182.out).mono ?_
                (case side1 => exact Kd.R_V (Kd.R_tight rfl (Kd.R_types (Kd.R_types (Kd.R_types (Kd.R_types (Kd.R_types (HO1239.out) BK1156.out (by decide)) BK1157.out (by decide)) BK1182.out (by decide)) BK1207.out (by decide)) BK1258.out (by decide))))
                (case side2 => exact Kd.R_V (Kd.R_tight rfl (Kd.R_types (Kd.R_types (Kd.R_types (Kd.R_types (Kd.R_types (HO1242.out) BK1156.out (by decide)) BK1157.out (by decide)) BK1182.out (by decide)) BK1207.out (by decide)) BK1258.out (by decide))))
                (case side3 => exact Kd.R_V (Kd.R_tight rfl (Kd.R_types (Kd.R_types (Kd.R_types (Kd.R_types (Kd.R_types (HO1246.out) BK1156.out (by decide)) BK1157.out (by decide)) BK1182.out (by decide)) BK1207.out (by decide)) BK1258.out (by decide))))
                (case side4 => exact Kd.R_V (Kd.R_tight rfl (Kd.R_types (Kd.R_types (Kd.R_types (Kd.R_types (Kd.R_types (HO1249.out) BK1156.out (by decide)) BK1157.out (by decide)) BK1182.out (by decide)) BK1207.out (by decide)) BK1258.out (by decide))))
                rintro e w199 ⟨v1252, v1255, rfl, ho0, ho1, hb⟩
                refine ⟨_, rfl, ?_⟩
                have HO1253 := lwR (nwR (nwR (nwR (nwR (nwR (nwR (nwR (nwR (Kd.R_mono (ok' := fun k_ => nO k_ v1255) ho0 (fun _ hk_ => hk_.2)) HO_1183001) HO_1183002) HO_1208001) HO_1208002) HO1239) HO1242) HO1246) HO1249) HB
                have HO1256 := lwR (nwR (nwR (nwR (nwR (nwR (nwR (nwR (nwR (Kd.R_mono (ok' := fun k_ => nO k_ v1252) ho1 (fun _ hk_ => hk_.2)) HO_1183001) HO_1183002) HO_1208001) HO_1208002) HO1239) HO1242) HO1246) HO1249) HB
                replace HO_1183001 := tldR HO_1183001 hb (Kd.R_base ho0) (Kd.R_base ho1)
                replace HO_1183002 := tldR HO_1183002 hb (Kd.R_base ho0) (Kd.R_base ho1)
                replace HO_1208001 := tldR HO_1208001 hb (Kd.R_base ho0) (Kd.R_base ho1)
                replace HO_1208002 := tldR HO_1208002 hb (Kd.R_base ho0) (Kd.R_base ho1)
                replace HO1239 := tldR HO1239 hb (Kd.R_base ho0) (Kd.R_base ho1)
                replace HO1242 := tldR HO1242 hb (Kd.R_base ho0) (Kd.R_base ho1)
                replace HO1246 := tldR HO1246 hb (Kd.R_base ho0) (Kd.R_base ho1)
                replace HO1249 := tldR HO1249 hb (Kd.R_base ho0) (Kd.R_base ho1)
                replace BK1156 := bkb BK1156 hb
                replace BK1157 := bkb BK1157 hb
                replace BK1182 := bkb BK1182 hb
                replace BK1207 := bkb BK1207 hb
                replace BK1258 := bkb BK1258 hb
                replace HB := bst HB hb
                (try clear hb)
                (try clear hb2)
                (try clear hk)
                (try clear hi)
                (try clear ho0)
                (try clear ho1)
                refine hK.out _ _ ⟨bce BK1156 0 _, bce BK1156 1 _, bce BK1156 2 _, bce BK1157 0 _, bce BK1157 1 _, bce BK1157 2 _⟩ (fun hHeld => ?_)
                clear hK K
                refine norm_ (a' := ?_) ?_ ?_
                rotate_left
                ·
                 show Act.put _ (some 99) _ = _
                 simp only [Act.put, List.setIfInBounds_toArray, List.set_cons_zero, List.set_cons_succ, i64_w, i32_w]
                 rfl
                refine pure_ (i := 5) (N := some 94) (v := ?_) (a' := ?_) #[true, true, true, true, true, true, false, false, true, false, false] rfl rfl (any_of HT_.out (by kernel_rfl)) (fun _ _ _ h => h) (Or.inl ⟨by rfl, ?_⟩) ?_ ?_
                rotate_left
                ·
                 intro w'
                 go_simp
                 with_reducible rfl
                rotate_left
                ·
                 simp only [Act.put, List.setIfInBounds_toArray, List.set_cons_zero, List.set_cons_succ, i64_w, i32_w]
                 rfl
                refine pure_ (i := 6) (N := some 100) (v := ?_) (a' := ?_) #[true, true, true, true, true, true, true, false, true, false, false] rfl rfl (any_of HT_.out (by kernel_rfl)) (fun _ _ _ h => h) (Or.inl ⟨by rfl, ?_⟩) ?_ ?_
                rotate_left
                ·
                 intro w'
                 go_simp
                 with_reducible rfl
                rotate_left
                ·
                 simp only [Act.put, List.setIfInBounds_toArray, List.set_cons_zero, List.set_cons_succ, i64_w, i32_w]
                 rfl
                refine pure_ (i := 7) (N := some 101) (v := ?_) (a' := ?_) #[true, true, true, true, true, true, true, true, true, false, false] rfl rfl (any_of HT_.out (by kernel_rfl)) (fun _ _ _ h => h) (Or.inl ⟨by rfl, ?_⟩) ?_ ?_
                rotate_left
                ·
                 intro w'
                 go_simp
                 with_reducible rfl
                rotate_left
                ·
                 simp only [Act.put, List.setIfInBounds_toArray, List.set_cons_zero, List.set_cons_succ, i64_w, i32_w]
                 rfl
                exact norm_ (by simp only [putAll, Act.put, List.setIfInBounds_toArray, List.set_cons_zero, List.set_cons_succ]) (hCont (.slice Ao195 t1237.length co195, .slice Ao196 t1240.length co196, .slice Ao197 t1244.length co197, .slice Ao198 t1247.length co198, v1252, v1255, gb1258) _ ⟨hHeld, (crM HO1239 fun _ hk => ⟨hk.1.1.1.1.1.1.1.1, hk.1.1.1.2, hk.1.1.2, hk.1.2, hk.2, hk.1.1.1.1.1.1.1.2, hk.1.1.1.1.1.1.2, hk.1.1.1.1.1.2, hk.1.1.1.1.2⟩), (crM HO1242 fun _ hk => ⟨hk.1.1.1.1.1.1.1.1, hk.1.1.1.2, hk.1.1.2, hk.1.2, hk.2, hk.1.1.1.1.1.1.1.2, hk.1.1.1.1.1.1.2, hk.1.1.1.1.1.2, hk.1.1.1.1.2⟩), (crM HO1246 fun _ hk => ⟨hk.1.1.1.2, hk.1.1.2, hk.1.1.1.1.1.1.1.1, hk.1.2, hk.2, hk.1.1.1.1.1.1.1.2, hk.1.1.1.1.1.1.2, hk.1.1.1.1.1.2, hk.1.1.1.1.2⟩), (crM HO1249 fun _ hk => ⟨hk.1.1.1.2, hk.1.1.2, hk.1.1.1.1.1.1.1.1, hk.1.2, hk.2, hk.1.1.1.1.1.1.1.2, hk.1.1.1.1.1.1.2, hk.1.1.1.1.1.2, hk.1.1.1.1.2⟩), (crM HO1253 fun _ hk => ⟨hk.1.1.1.2, hk.1.1.2, hk.1.2, hk.2, hk.1.1.1.1.1.1.1.1, hk.1.1.1.1.1.1.1.2, hk.1.1.1.1.1.1.2, hk.1.1.1.1.1.2, hk.1.1.1.1.2⟩), (crM HO1256 fun _ hk => ⟨hk.1.1.1.2, hk.1.1.2, hk.1.2, hk.2, hk.1.1.1.1.1.1.1.1, hk.1.1.1.1.1.1.1.2, hk.1.1.1.1.1.1.2, hk.1.1.1.1.1.2, hk.1.1.1.1.2⟩), (crM HO_1183001 fun _ hk => ⟨hk.1.1.1.1.1.2, hk.1.1.1.1.2, hk.1.1.1.2, hk.1.1.2, hk.1.2, hk.2, hk.1.1.1.1.1.1.1, hk.1.1.1.1.1.1.2.1, hk.1.1.1.1.1.1.2.2⟩), (crM HO_1183002 fun _ hk => ⟨hk.1.1.1.1.1.2, hk.1.1.1.1.2, hk.1.1.1.2, hk.1.1.2, hk.1.2, hk.2, hk.1.1.1.1.1.1.1, hk.1.1.1.1.1.1.2.1, hk.1.1.1.1.1.1.2.2⟩), (crM HO_1208001 fun _ hk => ⟨hk.1.1.1.1.1.2, hk.1.1.1.1.2, hk.1.1.1.2, hk.1.1.2, hk.1.2, hk.2, hk.1.1.1.1.1.1.1, hk.1.1.1.1.1.1.2.1, hk.1.1.1.1.1.1.2.2⟩), (crM HO_1208002 fun _ hk => ⟨hk.1.1.1.1.1.2, hk.1.1.1.1.2, hk.1.1.1.2, hk.1.1.2, hk.1.2, hk.2, hk.1.1.1.1.1.1.1, hk.1.1.1.1.1.1.2.1, hk.1.1.1.1.1.1.2.2⟩), (crb BK1156), (crb BK1157), (crb BK1182), (crb BK1207), (crb BK1258), GW1258.out, GE1258.out, NB1156_1258.out, NB1258_1156.out, NB1157_1258.out, NB1258_1157.out, NB1182_1258.out, NB1258_1182.out, NB1207_1258.out, NB1258_1207.out, (blw HB)⟩)
              ·
               skip
               refine box_step ?hg (N := 15) ?hd (cs := #[.bool false, .slice none 0 0, .slice none 0 0]) (t := 24) ?hr ?_; (case hd => rfl); (case hg => rfl); (case hr => first | (go_simp; done) | (go_simp; rfl))
               intro gb1258 hg w192 hbox hb
               replace HO_1183001 := rblR HO_1183001 hb
               replace HO_1183002 := rblR HO_1183002 hb
               replace HO_1208001 := rblR HO_1208001 hb
               replace HO_1208002 := rblR HO_1208002 hb
               have BK1258 := Aside0.mk (hbox)
               have GW1258 := geh hg HB
               have GE1258 := geh hg HB
               replace HB := bst HB hb
               have NB1156_1258 := nlt hg BK1156
               have NB1258_1156 := ngt hg BK1156
               replace BK1156 := bkb BK1156 hb
               have NB1157_1258 := nlt hg BK1157
               have NB1258_1157 := ngt hg BK1157
               replace BK1157 := bkb BK1157 hb
               have NB1182_1258 := nlt hg BK1182
               have NB1258_1182 := ngt hg BK1182
               replace BK1182 := bkb BK1182 hb
               have NB1207_1258 := nlt hg BK1207
               have NB1258_1207 := ngt hg BK1207
               replace BK1207 := bkb BK1207 hb
               clear hb hbox hg
               refine hK.out _ _ ⟨bce BK1156 0 _, bce BK1156 1 _, bce BK1156 2 _, bce BK1157 0 _, bce BK1157 1 _, bce BK1157 2 _⟩ (fun hHeld => ?_)
               clear hK K
               refine norm_ (a' := ?_) ?_ ?_
               rotate_left
               ·
                show Act.put _ (some 15) _ = _
                simp only [Act.put, List.setIfInBounds_toArray, List.set_cons_zero, List.set_cons_succ, i64_w, i32_w]
                rfl
               refine one_ (i := 1) (N := some 96) #[true, true, true, false, false, false, false, false, true, false, false] rfl rfl (one_of HT_.out (by kernel_rfl)) (by decide) (fun K hK => ?_)
               refine goes_ Try.func22 (by kernel_rfl) rfl #[.agg #[.bool a0_0, .slice A0_1 l0_1.length c0_1, .slice A0_2 l0_2.length c0_2]] (by rfl) rfl rfl (by (try simp only [List.map_toArray, List.map_cons, List.map_nil]); first | done | rfl | (simp only [List.length_drop, List.length_take]; rfl)) ?_
               with_reducible refine (laws_toRat.calls kj116 a0_0 _ _ l0_1 _ _ l0_2 t1236 t1237 t1240 _ ?side1 ?side2 ?side3 ?side4 A180.out).mono ?_
               (case side1 => exact crC (Kd.C_below HR0_1.out HB.out))
               (case side2 => exact HC0_1.out)
               (case side3 => exact crC (Kd.C_below HR0_2.out HB.out))
               (case side4 => exact HC0_2.out)
               rintro e w193 ⟨v1238, v1241, rfl, ho0, ho1, hb⟩
               refine ⟨_, rfl, ?_⟩
               have HO1239 := lwR (nwR (nwR (nwR (nwR ho0 HO_1183001) HO_1183002) HO_1208001) HO_1208002) HB
               have HO1242 := lwR (nwR (nwR (nwR (nwR ho1 HO_1183001) HO_1183002) HO_1208001) HO_1208002) HB
               replace HO_1183001 := tldR HO_1183001 hb (Kd.R_base ho0) (Kd.R_base ho1)
               replace HO_1183002 := tldR HO_1183002 hb (Kd.R_base ho0) (Kd.R_base ho1)
               replace HO_1208001 := tldR HO_1208001 hb (Kd.R_base ho0) (Kd.R_base ho1)
               replace HO_1208002 := tldR HO_1208002 hb (Kd.R_base ho0) (Kd.R_base ho1)
               replace BK1156 := bkb BK1156 hb
               replace BK1157 := bkb BK1157 hb
               replace BK1182 := bkb BK1182 hb
               replace BK1207 := bkb BK1207 hb
               replace BK1258 := bkb BK1258 hb
               replace HB := bst HB hb
               (try clear hb)
               (try clear hb2)
               (try clear hk)
               (try clear hi)
               (try clear ho0)
               (try clear ho1)
               refine hK.out _ _ ⟨bce BK1156 0 _, bce BK1156 1 _, bce BK1156 2 _, bce BK1157 0 _, bce BK1157 1 _, bce BK1157 2 _⟩ (fun hHeld => ?_)
               clear hK K
               refine norm_ (a' := ?_) ?_ ?_
               rotate_left
               ·
                show Act.put _ (some 96) _ = _
                simp only [Act.put, List.setIfInBounds_toArray, List.set_cons_zero, List.set_cons_succ, i64_w, i32_w]
                rfl
               refine one_ (i := 3) (N := some 98) #[true, true, true, true, false, false, false, false, true, false, false] rfl rfl (one_of HT_.out (by kernel_rfl)) (by decide) (fun K hK => ?_)
               refine goes_ Try.func22 (by kernel_rfl) rfl #[.agg #[.bool a1_0, .slice A1_1 l1_1.length c1_1, .slice A1_2 l1_2.length c1_2]] (by rfl) rfl rfl (by (try simp only [List.map_toArray, List.map_cons, List.map_nil]); first | done | rfl | (simp only [List.length_drop, List.length_take]; rfl)) ?_
               with_reducible refine (laws_toRat.calls kj116 a1_0 _ _ l1_1 _ _ l1_2 t1243 t1244 t1247 _ ?side1 ?side2 ?side3 ?side4 A181.out).mono ?_
               (case side1 => exact crC (Kd.C_below HR1_1.out HB.out))
               (case side2 => exact HC1_1.out)
               (case side3 => exact crC (Kd.C_below HR1_2.out HB.out))
               (case side4 => exact HC1_2.out)
               rintro e w194 ⟨v1245, v1248, rfl, ho0, ho1, hb⟩
               refine ⟨_, rfl, ?_⟩
               have HO1246 := lwR (nwR (nwR (nwR (nwR (nwR (nwR ho0 HO_1183001) HO_1183002) HO_1208001) HO_1208002) HO1239) HO1242) HB
               have HO1249 := lwR (nwR (nwR (nwR (nwR (nwR (nwR ho1 HO_1183001) HO_1183002) HO_1208001) HO_1208002) HO1239) HO1242) HB
               replace HO_1183001 := tldR HO_1183001 hb (Kd.R_base ho0) (Kd.R_base ho1)
               replace HO_1183002 := tldR HO_1183002 hb (Kd.R_base ho0) (Kd.R_base ho1)
               replace HO_1208001 := tldR HO_1208001 hb (Kd.R_base ho0) (Kd.R_base ho1)
               replace HO_1208002 := tldR HO_1208002 hb (Kd.R_base ho0) (Kd.R_base ho1)
               replace HO1239 := tldR HO1239 hb (Kd.R_base ho0) (Kd.R_base ho1)
               replace HO1242 := tldR HO1242 hb (Kd.R_base ho0) (Kd.R_base ho1)
               replace BK1156 := bkb BK1156 hb
               replace BK1157 := bkb BK1157 hb
               replace BK1182 := bkb BK1182 hb
               replace BK1207 := bkb BK1207 hb
               replace BK1258 := bkb BK1258 hb
               replace HB := bst HB hb
               (try clear hb)
               (try clear hb2)
               (try clear hk)
               (try clear hi)
               (try clear ho0)
               (try clear ho1)
               obtain ⟨Ao195, co195, eo195⟩ := Kd.R_slice HO1239.out
               (first | subst eo195 | (injection eo195 with f1_ f2_ f3_; have f4_ := f1_.symm; have f5_ := f3_.symm; clear f1_ f2_ f3_; subst f4_; subst f5_))
               obtain ⟨Ao196, co196, eo196⟩ := Kd.R_slice HO1242.out
               (first | subst eo196 | (injection eo196 with f1_ f2_ f3_; have f4_ := f1_.symm; have f5_ := f3_.symm; clear f1_ f2_ f3_; subst f4_; subst f5_))
               obtain ⟨Ao197, co197, eo197⟩ := Kd.R_slice HO1246.out
               (first | subst eo197 | (injection eo197 with f1_ f2_ f3_; have f4_ := f1_.symm; have f5_ := f3_.symm; clear f1_ f2_ f3_; subst f4_; subst f5_))
               obtain ⟨Ao198, co198, eo198⟩ := Kd.R_slice HO1249.out
               (first | subst eo198 | (injection eo198 with f1_ f2_ f3_; have f4_ := f1_.symm; have f5_ := f3_.symm; clear f1_ f2_ f3_; subst f4_; subst f5_))
               refine hK.out _ _ ⟨bce BK1156 0 _, bce BK1156 1 _, bce BK1156 2 _, bce BK1157 0 _, bce BK1157 1 _, bce BK1157 2 _⟩ (fun hHeld => ?_)
               clear hK K
               refine norm_ (a' := ?_) ?_ ?_
               rotate_left
               ·
                show Act.put _ (some 98) _ = _
                simp only [Act.put, List.setIfInBounds_toArray, List.set_cons_zero, List.set_cons_succ, i64_w, i32_w]
                rfl
               refine one_ (i := 4) (N := some 99) #[true, true, true, true, true, false, false, false, true, false, false] rfl rfl (one_of HT_.out (by kernel_rfl)) (by decide) (fun K hK => ?_)
               refine goes_ Try.func33 (by kernel_rfl) rfl #[.agg #[.bool t1236, .slice Ao195 t1237.length co195, .slice Ao196 t1240.length co196], .agg #[.bool t1243, .slice Ao197 t1244.length co197, .slice Ao198 t1247.length co198]] (by rfl) rfl rfl (by (try simp only [List.map_toArray, List.map_cons, List.map_nil]); first | done | rfl | (simp only [List.length_drop, List.length_take]; rfl)) ?_
               with_reducible refine (impl_DivRat.calls kj116 t1236 (fun k_ => some k_ = (.slice Ao195 t1237.length co195 : Value).ownBlock) _ _ t1237 (fun k_ => some k_ = (.slice Ao196 t1240.length co196 : Value).ownBlock) _ _ t1240 t1243 (fun k_ => some k_ = (.slice Ao197 t1244.length co197 : Value).ownBlock) _ _ t1244 (fun k_ => some k_ = (.slice Ao198 t1247.length co198 : Value).ownBlock) _ _ t1247 t1250 t1251 t1254 t1257 _ ?side1 ?side2 ?side3 ?side4 A182.out).mono ?_
               (case side1 => exact Kd.R_V (Kd.R_tight rfl (Kd.R_types (Kd.R_types (Kd.R_types (Kd.R_types (Kd.R_types (HO1239.out) BK1156.out (by decide)) BK1157.out (by decide)) BK1182.out (by decide)) BK1207.out (by decide)) BK1258.out (by decide))))
               (case side2 => exact Kd.R_V (Kd.R_tight rfl (Kd.R_types (Kd.R_types (Kd.R_types (Kd.R_types (Kd.R_types (HO1242.out) BK1156.out (by decide)) BK1157.out (by decide)) BK1182.out (by decide)) BK1207.out (by decide)) BK1258.out (by decide))))
               (case side3 => exact Kd.R_V (Kd.R_tight rfl (Kd.R_types (Kd.R_types (Kd.R_types (Kd.R_types (Kd.R_types (HO1246.out) BK1156.out (by decide)) BK1157.out (by decide)) BK1182.out (by decide)) BK1207.out (by decide)) BK1258.out (by decide))))
               (case side4 => exact Kd.R_V (Kd.R_tight rfl (Kd.R_types (Kd.R_types (Kd.R_types (Kd.R_types (Kd.R_types (HO1249.out) BK1156.out (by decide)) BK1157.out (by decide)) BK1182.out (by decide)) BK1207.out (by decide)) BK1258.out (by decide))))
               rintro e w199 ⟨v1252, v1255, rfl, ho0, ho1, hb⟩
               refine ⟨_, rfl, ?_⟩
               have HO1253 := lwR (nwR (nwR (nwR (nwR (nwR (nwR (nwR (nwR (Kd.R_mono (ok' := fun k_ => nO k_ v1255) ho0 (fun _ hk_ => hk_.2)) HO_1183001) HO_1183002) HO_1208001) HO_1208002) HO1239) HO1242) HO1246) HO1249) HB
               have HO1256 := lwR (nwR (nwR (nwR (nwR (nwR (nwR (nwR (nwR (Kd.R_mono (ok' := fun k_ => nO k_ v1252) ho1 (fun _ hk_ => hk_.2)) HO_1183001) HO_1183002) HO_1208001) HO_1208002) HO1239) HO1242) HO1246) HO1249) HB
               replace HO_1183001 := tldR HO_1183001 hb (Kd.R_base ho0) (Kd.R_base ho1)
               replace HO_1183002 := tldR HO_1183002 hb (Kd.R_base ho0) (Kd.R_base ho1)
               replace HO_1208001 := tldR HO_1208001 hb (Kd.R_base ho0) (Kd.R_base ho1)
               replace HO_1208002 := tldR HO_1208002 hb (Kd.R_base ho0) (Kd.R_base ho1)
               replace HO1239 := tldR HO1239 hb (Kd.R_base ho0) (Kd.R_base ho1)
               replace HO1242 := tldR HO1242 hb (Kd.R_base ho0) (Kd.R_base ho1)
               replace HO1246 := tldR HO1246 hb (Kd.R_base ho0) (Kd.R_base ho1)
               replace HO1249 := tldR HO1249 hb (Kd.R_base ho0) (Kd.R_base ho1)
               replace BK1156 := bkb BK1156 hb
               replace BK1157 := bkb BK1157 hb
               replace BK1182 := bkb BK1182 hb
               replace BK1207 := bkb BK1207 hb
               replace BK1258 := bkb BK1258 hb
               replace HB := bst HB hb
               (try clear hb)
               (try clear hb2)
               (try clear hk)
               (try clear hi)
               (try clear ho0)
               (try clear ho1)
               refine hK.out _ _ ⟨bce BK1156 0 _, bce BK1156 1 _, bce BK1156 2 _, bce BK1157 0 _, bce BK1157 1 _, bce BK1157 2 _⟩ (fun hHeld => ?_)
               clear hK K
               refine norm_ (a' := ?_) ?_ ?_
               rotate_left
               ·
                show Act.put _ (some 99) _ = _
                simp only [Act.put, List.setIfInBounds_toArray, List.set_cons_zero, List.set_cons_succ, i64_w, i32_w]
                rfl
               refine pure_ (i := 5) (N := some 94) (v := ?_) (a' := ?_) #[true, true, true, true, true, true, false, false, true, false, false] rfl rfl (any_of HT_.out (by kernel_rfl)) (fun _ _ _ h => h) (Or.inl ⟨by rfl, ?_⟩) ?_ ?_
               rotate_left
               ·
                intro w'
                go_simp
                with_reducible rfl
               rotate_left
               ·
                simp only [Act.put, List.setIfInBounds_toArray, List.set_cons_zero, List.set_cons_succ, i64_w, i32_w]
                rfl
               refine pure_ (i := 6) (N := some 100) (v := ?_) (a' := ?_) #[true, true, true, true, true, true, true, false, true, false, false] rfl rfl (any_of HT_.out (by kernel_rfl)) (fun _ _ _ h => h) (Or.inl ⟨by rfl, ?_⟩) ?_ ?_
               rotate_left
               ·
                intro w'
                go_simp
                with_reducible rfl
               rotate_left
               ·
                simp only [Act.put, List.setIfInBounds_toArray, List.set_cons_zero, List.set_cons_succ, i64_w, i32_w]
                rfl
               refine pure_ (i := 7) (N := some 101) (v := ?_) (a' := ?_) #[true, true, true, true, true, true, true, true, true, false, false] rfl rfl (any_of HT_.out (by kernel_rfl)) (fun _ _ _ h => h) (Or.inl ⟨by rfl, ?_⟩) ?_ ?_
               rotate_left
               ·
                intro w'
                go_simp
                with_reducible rfl
               rotate_left
               ·
                simp only [Act.put, List.setIfInBounds_toArray, List.set_cons_zero, List.set_cons_succ, i64_w, i32_w]
                rfl
               exact norm_ (by simp only [putAll, Act.put, List.setIfInBounds_toArray, List.set_cons_zero, List.set_cons_succ]) (hCont (.slice Ao195 t1237.length co195, .slice Ao196 t1240.length co196, .slice Ao197 t1244.length co197, .slice Ao198 t1247.length co198, v1252, v1255, gb1258) _ ⟨hHeld, (crM HO1239 fun _ hk => ⟨hk.1.1.1.1.1.1.1.1, hk.1.1.1.2, hk.1.1.2, hk.1.2, hk.2, hk.1.1.1.1.1.1.1.2, hk.1.1.1.1.1.1.2, hk.1.1.1.1.1.2, hk.1.1.1.1.2⟩), (crM HO1242 fun _ hk => ⟨hk.1.1.1.1.1.1.1.1, hk.1.1.1.2, hk.1.1.2, hk.1.2, hk.2, hk.1.1.1.1.1.1.1.2, hk.1.1.1.1.1.1.2, hk.1.1.1.1.1.2, hk.1.1.1.1.2⟩), (crM HO1246 fun _ hk => ⟨hk.1.1.1.2, hk.1.1.2, hk.1.1.1.1.1.1.1.1, hk.1.2, hk.2, hk.1.1.1.1.1.1.1.2, hk.1.1.1.1.1.1.2, hk.1.1.1.1.1.2, hk.1.1.1.1.2⟩), (crM HO1249 fun _ hk => ⟨hk.1.1.1.2, hk.1.1.2, hk.1.1.1.1.1.1.1.1, hk.1.2, hk.2, hk.1.1.1.1.1.1.1.2, hk.1.1.1.1.1.1.2, hk.1.1.1.1.1.2, hk.1.1.1.1.2⟩), (crM HO1253 fun _ hk => ⟨hk.1.1.1.2, hk.1.1.2, hk.1.2, hk.2, hk.1.1.1.1.1.1.1.1, hk.1.1.1.1.1.1.1.2, hk.1.1.1.1.1.1.2, hk.1.1.1.1.1.2, hk.1.1.1.1.2⟩), (crM HO1256 fun _ hk => ⟨hk.1.1.1.2, hk.1.1.2, hk.1.2, hk.2, hk.1.1.1.1.1.1.1.1, hk.1.1.1.1.1.1.1.2, hk.1.1.1.1.1.1.2, hk.1.1.1.1.1.2, hk.1.1.1.1.2⟩), (crM HO_1183001 fun _ hk => ⟨hk.1.1.1.1.1.2, hk.1.1.1.1.2, hk.1.1.1.2, hk.1.1.2, hk.1.2, hk.2, hk.1.1.1.1.1.1.1, hk.1.1.1.1.1.1.2.1, hk.1.1.1.1.1.1.2.2⟩), (crM HO_1183002 fun _ hk => ⟨hk.1.1.1.1.1.2, hk.1.1.1.1.2, hk.1.1.1.2, hk.1.1.2, hk.1.2, hk.2, hk.1.1.1.1.1.1.1, hk.1.1.1.1.1.1.2.1, hk.1.1.1.1.1.1.2.2⟩), (crM HO_1208001 fun _ hk => ⟨hk.1.1.1.1.1.2, hk.1.1.1.1.2, hk.1.1.1.2, hk.1.1.2, hk.1.2, hk.2, hk.1.1.1.1.1.1.1, hk.1.1.1.1.1.1.2.1, hk.1.1.1.1.1.1.2.2⟩), (crM HO_1208002 fun _ hk => ⟨hk.1.1.1.1.1.2, hk.1.1.1.1.2, hk.1.1.1.2, hk.1.1.2, hk.1.2, hk.2, hk.1.1.1.1.1.1.1, hk.1.1.1.1.1.1.2.1, hk.1.1.1.1.1.1.2.2⟩), (crb BK1156), (crb BK1157), (crb BK1182), (crb BK1207), (crb BK1258), GW1258.out, GE1258.out, NB1156_1258.out, NB1258_1156.out, NB1157_1258.out, NB1258_1157.out, NB1182_1258.out, NB1258_1182.out, NB1207_1258.out, NB1258_1207.out, (blw HB)⟩)
             rintro ⟨v1238, v1241, v1245, v1248, v1252, v1255, gb1258⟩ w200 ⟨hS_, h0_, h1_, h2_, h3_, h4_, h5_, h6_, h7_, h8_, h9_, h10_, h11_, h12_, h13_, h14_, h15_, h16_, h17_, h18_, h19_, h20_, h21_, h22_, h23_, h24_, h25_⟩
             have HO1239 : Aside0 (Kd.R (Kd.int .i64) 3 w200 w.heap.size (fun k_ => nO k_ v1241 ∧ nO k_ v1245 ∧ nO k_ v1248 ∧ nO k_ v1252 ∧ nO k_ v1255 ∧ nO k_ (.slice Ao44 t1175.length co44) ∧ nO k_ (.slice Ao46 t1178.length co46) ∧ nO k_ (.slice Ao80 t1200.length co80) ∧ nO k_ (.slice Ao81 t1203.length co81)) v1238 t1237) := ⟨h0_⟩
             have HO1242 : Aside0 (Kd.R (Kd.int .i64) 3 w200 w.heap.size (fun k_ => nO k_ v1238 ∧ nO k_ v1245 ∧ nO k_ v1248 ∧ nO k_ v1252 ∧ nO k_ v1255 ∧ nO k_ (.slice Ao44 t1175.length co44) ∧ nO k_ (.slice Ao46 t1178.length co46) ∧ nO k_ (.slice Ao80 t1200.length co80) ∧ nO k_ (.slice Ao81 t1203.length co81)) v1241 t1240) := ⟨h1_⟩
             have HO1246 : Aside0 (Kd.R (Kd.int .i64) 3 w200 w.heap.size (fun k_ => nO k_ v1238 ∧ nO k_ v1241 ∧ nO k_ v1248 ∧ nO k_ v1252 ∧ nO k_ v1255 ∧ nO k_ (.slice Ao44 t1175.length co44) ∧ nO k_ (.slice Ao46 t1178.length co46) ∧ nO k_ (.slice Ao80 t1200.length co80) ∧ nO k_ (.slice Ao81 t1203.length co81)) v1245 t1244) := ⟨h2_⟩
             have HO1249 : Aside0 (Kd.R (Kd.int .i64) 3 w200 w.heap.size (fun k_ => nO k_ v1238 ∧ nO k_ v1241 ∧ nO k_ v1245 ∧ nO k_ v1252 ∧ nO k_ v1255 ∧ nO k_ (.slice Ao44 t1175.length co44) ∧ nO k_ (.slice Ao46 t1178.length co46) ∧ nO k_ (.slice Ao80 t1200.length co80) ∧ nO k_ (.slice Ao81 t1203.length co81)) v1248 t1247) := ⟨h3_⟩
             have HO1253 : Aside0 (Kd.R (Kd.int .i64) 3 w200 w.heap.size (fun k_ => nO k_ v1238 ∧ nO k_ v1241 ∧ nO k_ v1245 ∧ nO k_ v1248 ∧ nO k_ v1255 ∧ nO k_ (.slice Ao44 t1175.length co44) ∧ nO k_ (.slice Ao46 t1178.length co46) ∧ nO k_ (.slice Ao80 t1200.length co80) ∧ nO k_ (.slice Ao81 t1203.length co81)) v1252 t1251) := ⟨h4_⟩
             have HO1256 : Aside0 (Kd.R (Kd.int .i64) 3 w200 w.heap.size (fun k_ => nO k_ v1238 ∧ nO k_ v1241 ∧ nO k_ v1245 ∧ nO k_ v1248 ∧ nO k_ v1252 ∧ nO k_ (.slice Ao44 t1175.length co44) ∧ nO k_ (.slice Ao46 t1178.length co46) ∧ nO k_ (.slice Ao80 t1200.length co80) ∧ nO k_ (.slice Ao81 t1203.length co81)) v1255 t1254) := ⟨h5_⟩
             replace HO_1183001 : Aside0 (Kd.R (Kd.int .i64) 3 w200 w.heap.size (fun k_ => nO k_ v1238 ∧ nO k_ v1241 ∧ nO k_ v1245 ∧ nO k_ v1248 ∧ nO k_ v1252 ∧ nO k_ v1255 ∧ nO k_ (.slice Ao46 t1178.length co46) ∧ nO k_ (.slice Ao80 t1200.length co80) ∧ nO k_ (.slice Ao81 t1203.length co81)) (.slice Ao44 t1175.length co44) t1175) := ⟨h6_⟩
             replace HO_1183002 : Aside0 (Kd.R (Kd.int .i64) 3 w200 w.heap.size (fun k_ => nO k_ v1238 ∧ nO k_ v1241 ∧ nO k_ v1245 ∧ nO k_ v1248 ∧ nO k_ v1252 ∧ nO k_ v1255 ∧ nO k_ (.slice Ao44 t1175.length co44) ∧ nO k_ (.slice Ao80 t1200.length co80) ∧ nO k_ (.slice Ao81 t1203.length co81)) (.slice Ao46 t1178.length co46) t1178) := ⟨h7_⟩
             replace HO_1208001 : Aside0 (Kd.R (Kd.int .i64) 3 w200 w.heap.size (fun k_ => nO k_ v1238 ∧ nO k_ v1241 ∧ nO k_ v1245 ∧ nO k_ v1248 ∧ nO k_ v1252 ∧ nO k_ v1255 ∧ nO k_ (.slice Ao44 t1175.length co44) ∧ nO k_ (.slice Ao46 t1178.length co46) ∧ nO k_ (.slice Ao81 t1203.length co81)) (.slice Ao80 t1200.length co80) t1233) := ⟨h8_⟩
             replace HO_1208002 : Aside0 (Kd.R (Kd.int .i64) 3 w200 w.heap.size (fun k_ => nO k_ v1238 ∧ nO k_ v1241 ∧ nO k_ v1245 ∧ nO k_ v1248 ∧ nO k_ v1252 ∧ nO k_ v1255 ∧ nO k_ (.slice Ao44 t1175.length co44) ∧ nO k_ (.slice Ao46 t1178.length co46) ∧ nO k_ (.slice Ao80 t1200.length co80)) (.slice Ao81 t1203.length co81) t1234) := ⟨h9_⟩
             replace BK1156 : Aside0 (w200.heap[gb1156]? = some (.cells #[.bool a0_0, .slice A0_1 l0_1.length c0_1, .slice A0_2 l0_2.length c0_2] 30 (0, 0))) := ⟨h10_⟩
             replace BK1157 : Aside0 (w200.heap[gb1157]? = some (.cells #[.bool a1_0, .slice A1_1 l1_1.length c1_1, .slice A1_2 l1_2.length c1_2] 30 (0, 0))) := ⟨h11_⟩
             replace BK1182 : Aside0 (w200.heap[gb1182]? = some (.cells #[.bool t1174, .slice Ao44 t1175.length co44, .slice Ao46 t1178.length co46] 24 (0, 0))) := ⟨h12_⟩
             replace BK1207 : Aside0 (w200.heap[gb1207]? = some (.cells #[.bool t1199, .slice Ao80 t1200.length co80, .slice Ao81 t1203.length co81] 24 (0, 0))) := ⟨h13_⟩
             have BK1258 : Aside0 (w200.heap[gb1258]? = some (.cells #[.bool false, .slice none 0 0, .slice none 0 0] 24 (0, 0))) := ⟨h14_⟩
             have GW1258 : Aside0 (w.heap.size ≤ gb1258) := ⟨h15_⟩
             have GE1258 : Aside0 (w.heap.size ≤ gb1258) := ⟨h16_⟩
             have NB1156_1258 : Aside0 (gb1156 ≠ gb1258) := ⟨h17_⟩
             have NB1258_1156 : Aside0 (gb1258 ≠ gb1156) := ⟨h18_⟩
             have NB1157_1258 : Aside0 (gb1157 ≠ gb1258) := ⟨h19_⟩
             have NB1258_1157 : Aside0 (gb1258 ≠ gb1157) := ⟨h20_⟩
             have NB1182_1258 : Aside0 (gb1182 ≠ gb1258) := ⟨h21_⟩
             have NB1258_1182 : Aside0 (gb1258 ≠ gb1182) := ⟨h22_⟩
             have NB1207_1258 : Aside0 (gb1207 ≠ gb1258) := ⟨h23_⟩
             have NB1258_1207 : Aside0 (gb1258 ≠ gb1207) := ⟨h24_⟩
             replace HB : Aside0 (Below w.heap.size w w200) := ⟨h25_⟩
             clear h0_ h1_ h2_ h3_ h4_ h5_ h6_ h7_ h8_ h9_ h10_ h11_ h12_ h13_ h14_ h15_ h16_ h17_ h18_ h19_ h20_ h21_ h22_ h23_ h24_ h25_
             have hHeld : w200.cell? ⟨gb1156, 0, none⟩ = some (.bool a0_0) ∧ w200.cell? ⟨gb1156, 1, none⟩ = some (.slice A0_1 l0_1.length c0_1) ∧ w200.cell? ⟨gb1156, 2, none⟩ = some (.slice A0_2 l0_2.length c0_2) ∧ w200.cell? ⟨gb1157, 0, none⟩ = some (.bool a1_0) ∧ w200.cell? ⟨gb1157, 1, none⟩ = some (.slice A1_1 l1_1.length c1_1) ∧ w200.cell? ⟨gb1157, 2, none⟩ = some (.slice A1_2 l1_2.length c1_2) := hS_
             obtain ⟨Ao202, co202, eo202⟩ := Kd.R_slice HO1253.out
             (first | subst eo202 | (injection eo202 with f1_ f2_ f3_; have f4_ := f1_.symm; have f5_ := f3_.symm; clear f1_ f2_ f3_; subst f4_; subst f5_))
             obtain ⟨Ao204, co204, eo204⟩ := Kd.R_slice HO1256.out
             (first | subst eo204 | (injection eo204 with f1_ f2_ f3_; have f4_ := f1_.symm; have f5_ := f3_.symm; clear f1_ f2_ f3_; subst f4_; subst f5_))
             refine norm_ (a' := ?_) ?_ ?_
             rotate_left
             ·
              simp only [putAll, Act.put, List.setIfInBounds_toArray, List.set_cons_zero, List.set_cons_succ]
              rfl
             refine one_ (i := 9) (N := none) #[true, true, true, true, true, true, true, true, true, true, false] rfl rfl (one_of HT_.out (by kernel_rfl)) (by decide) (fun K hK => ?_)
             have hs201 : w200.cell? ⟨gb1258, 0, none⟩ = some (.bool false) := bce BK1258 0 _
             have hfs201 := blk_frozen BK1258.out 0
             have hns201_0 := NB1156_1258.out
             have hns201_1 := NB1157_1258.out
             have hns201_2 := NB1182_1258.out
             have hns201_3 := NB1207_1258.out
             have hms201_0 := NB1258_1156.out
             have hms201_1 := NB1258_1157.out
             have hms201_2 := NB1258_1182.out
             have hms201_3 := NB1258_1207.out
             have hs203 : w200.cell? ⟨gb1258, 1, none⟩ = some (.slice none 0 0) := bce BK1258 1 _
             have hfs203 := blk_frozen BK1258.out 1
             have hns203_0 := NB1156_1258.out
             have hns203_1 := NB1157_1258.out
             have hns203_2 := NB1182_1258.out
             have hns203_3 := NB1207_1258.out
             have hms203_0 := NB1258_1156.out
             have hms203_1 := NB1258_1157.out
             have hms203_2 := NB1258_1182.out
             have hms203_3 := NB1258_1207.out
             have hs205 : w200.cell? ⟨gb1258, 2, none⟩ = some (.slice none 0 0) := bce BK1258 2 _
             have hfs205 := blk_frozen BK1258.out 2
             have hns205_0 := NB1156_1258.out
             have hns205_1 := NB1157_1258.out
             have hns205_2 := NB1182_1258.out
             have hns205_3 := NB1207_1258.out
             have hms205_0 := NB1258_1156.out
             have hms205_1 := NB1258_1157.out
             have hms205_2 := NB1258_1182.out
             have hms205_3 := NB1258_1207.out
             refine skip_ (w1 := ?_) (by rfl) rfl ?_ ?_
             rotate_left
             ·
              go_simp
              rfl
             refine hK.out _ _ ⟨((cell_far (p := ⟨gb1258, _, none⟩) NB1156_1258.out _).trans (((cell_far (p := ⟨gb1258, _, none⟩) NB1156_1258.out _).trans (((cell_far (p := ⟨gb1258, _, none⟩) NB1156_1258.out _).trans (hHeld.1)))))), ((cell_far (p := ⟨gb1258, _, none⟩) NB1156_1258.out _).trans (((cell_far (p := ⟨gb1258, _, none⟩) NB1156_1258.out _).trans (((cell_far (p := ⟨gb1258, _, none⟩) NB1156_1258.out _).trans (hHeld.2.1)))))), ((cell_far (p := ⟨gb1258, _, none⟩) NB1156_1258.out _).trans (((cell_far (p := ⟨gb1258, _, none⟩) NB1156_1258.out _).trans (((cell_far (p := ⟨gb1258, _, none⟩) NB1156_1258.out _).trans (hHeld.2.2.1)))))), ((cell_far (p := ⟨gb1258, _, none⟩) NB1157_1258.out _).trans (((cell_far (p := ⟨gb1258, _, none⟩) NB1157_1258.out _).trans (((cell_far (p := ⟨gb1258, _, none⟩) NB1157_1258.out _).trans (hHeld.2.2.2.1)))))), ((cell_far (p := ⟨gb1258, _, none⟩) NB1157_1258.out _).trans (((cell_far (p := ⟨gb1258, _, none⟩) NB1157_1258.out _).trans (((cell_far (p := ⟨gb1258, _, none⟩) NB1157_1258.out _).trans (hHeld.2.2.2.2.1)))))), ((cell_far (p := ⟨gb1258, _, none⟩) NB1157_1258.out _).trans (((cell_far (p := ⟨gb1258, _, none⟩) NB1157_1258.out _).trans (((cell_far (p := ⟨gb1258, _, none⟩) NB1157_1258.out _).trans (hHeld.2.2.2.2.2))))))⟩ (fun hHeld => ?_)
             clear hK K
             refine pure_ (i := 10) (N := some 16) (v := ?_) (a' := ?_) #[true, true, true, true, true, true, true, true, true, true, true] rfl rfl (any_of HT_.out (by kernel_rfl)) (fun _ _ _ h => h) (Or.inl ⟨by rfl, ?_⟩) ?_ ?_
             rotate_left
             ·
              intro w'
              go_simp
              with_reducible rfl
             rotate_left
             ·
              simp only [Act.put, List.setIfInBounds_toArray, List.set_cons_zero, List.set_cons_succ, i64_w, i32_w]
              rfl
             refine done_ (done_of HT_.out (by kernel_rfl)) ?_
             go_upto_region 32 with (fail)
             go_cut [110] (fun v110 wc => ∃ (kq : Nat) (x110_182 : Bool), v110 = .bool x110_182 ∧ Aside0 (laws_FnExactDivRat.j2 kq t1232 x110_182 t1199 t1233 t1234 = some r) ∧ Aside0 (kq ≤ kj116) ∧ Aside0 (Kd.R (Kd.int .i64) 3 wc w.heap.size (fun k_ => nO k_ (.slice Ao81 t1203.length co81)) (.slice Ao80 t1200.length co80) t1233) ∧ Aside0 (Kd.R (Kd.int .i64) 3 wc w.heap.size (fun k_ => nO k_ (.slice Ao80 t1200.length co80)) (.slice Ao81 t1203.length co81) t1234) ∧ Aside0 (wc.heap[gb1207]? = some (.cells #[.bool t1199, (.slice Ao80 t1200.length co80), (.slice Ao81 t1203.length co81)] 24 (0, 0))) ∧ Aside0 (Below w.heap.size w wc))
             case first =>
              have H := HC183.out
              clear HC183
              replace H := Option.bind_eq_some_iff.mp H
              obtain ⟨t1259, A2060, H⟩ := H
              replace H : (if t1259 = true then (laws_FnExactDivRat.j2 kj116 t1232 (t1257 != t1181) t1199 t1233 t1234) else (laws_FnExactDivRat.j2 kj116 t1232 true t1199 t1233 t1234)) = some r := H
              have A206 := Aside0.mk A2060
              clear A2060
              by_cases c207 : t1259 = true
              ·
               subst c207
               have H1 : (laws_FnExactDivRat.j2 kj116 t1232 (t1257 != t1181) t1199 t1233 t1234) = some r := by rw [if_pos rfl] at H; exact H
               clear H
               have H := H1
               clear H1
               have H' := Aside0.mk H
               clear H
               have hnb208 := NB1258_1156.out
               have hnc208 := NB1156_1258.out
               have hnb209 := NB1258_1157.out
               have hnc209 := NB1157_1258.out
               have hnb210 := NB1258_1182.out
               have hnc210 := NB1182_1258.out
               have hnb211 := NB1258_1207.out
               have hnc211 := NB1207_1258.out
               have hcz212_0 := bce BK1258 0 (.bool false)
               have hcz212_1 := bce BK1258 1 (.slice none 0 0)
               have hcz212_2 := bce BK1258 2 (.slice none 0 0)
               have hfz212_0 := blk_frozen BK1258.out 0
               have hfz212_1 := blk_frozen BK1258.out 1
               have hfz212_2 := blk_frozen BK1258.out 2
               have hnb213 := NB1182_1156.out
               have hnc213 := NB1156_1182.out
               have hnb214 := NB1182_1157.out
               have hnc214 := NB1157_1182.out
               have hnb215 := NB1182_1207.out
               have hnc215 := NB1207_1182.out
               have hcz216_0 := bce BK1182 0 (.bool t1174)
               have hcz216_1 := bce BK1182 1 (.slice Ao44 t1175.length co44)
               have hcz216_2 := bce BK1182 2 (.slice Ao46 t1178.length co46)
               have hfz216_0 := blk_frozen BK1182.out 0
               have hfz216_1 := blk_frozen BK1182.out 1
               have hfz216_2 := blk_frozen BK1182.out 2
               go_wp2_with (first | ((with_reducible refine gate_callee (f := 17) rfl ?_); refine goesL_ (some 104) rfl rfl Try.func17 (by kernel_rfl) rfl #[.agg #[.bool t1250, .slice Ao202 t1251.length co202, .slice Ao204 t1254.length co204], .agg #[.bool t1174, .slice Ao44 t1175.length co44, .slice Ao46 t1178.length co46]] rfl (by (try simp only [List.map_toArray, List.map_cons, List.map_nil]); first | done | rfl | (simp only [List.length_drop, List.length_take]; rfl)) ?_; (with_reducible refine (laws_eqRat.calls kj116 t1250 _ _ t1251 _ _ t1254 t1174 _ _ t1175 _ _ t1178 true _ ?side1 ?side2 ?side3 ?side4 ?side5 ?side6 ?side7 ?side8 A206.out).mono ?_); (case side1 => refine (Kd.R_reads' (e := 3) (base := w.heap.size) (ok := fun k_ => (nO k_ v1238 ∧ (nO k_ v1241 ∧ (nO k_ v1245 ∧ (nO k_ v1248 ∧ (nO k_ (.slice Ao204 t1254.length co204) ∧ (nO k_ (.slice Ao44 t1175.length co44) ∧ (nO k_ (.slice Ao46 t1178.length co46) ∧ (nO k_ (.slice Ao80 t1200.length co80) ∧ nO k_ (.slice Ao81 t1203.length co81)))))))))) (n := t1251.length) (c := co202) ?_).2.2; exact (crF HO1253 BK1258)); (case side2 => exact (Kd.R_reads' HO1253.out).2.1); (case side3 => refine (Kd.R_reads' (e := 3) (base := w.heap.size) (ok := fun k_ => (nO k_ v1238 ∧ (nO k_ v1241 ∧ (nO k_ v1245 ∧ (nO k_ v1248 ∧ (nO k_ (.slice Ao202 t1251.length co202) ∧ (nO k_ (.slice Ao44 t1175.length co44) ∧ (nO k_ (.slice Ao46 t1178.length co46) ∧ (nO k_ (.slice Ao80 t1200.length co80) ∧ nO k_ (.slice Ao81 t1203.length co81)))))))))) (n := t1254.length) (c := co204) ?_).2.2; exact (crF HO1256 BK1258)); (case side4 => exact (Kd.R_reads' HO1256.out).2.1); (case side5 => refine (Kd.R_reads' (e := 3) (base := w.heap.size) (ok := fun k_ => (nO k_ v1238 ∧ (nO k_ v1241 ∧ (nO k_ v1245 ∧ (nO k_ v1248 ∧ (nO k_ (.slice Ao202 t1251.length co202) ∧ (nO k_ (.slice Ao204 t1254.length co204) ∧ (nO k_ (.slice Ao46 t1178.length co46) ∧ (nO k_ (.slice Ao80 t1200.length co80) ∧ nO k_ (.slice Ao81 t1203.length co81)))))))))) (n := t1175.length) (c := co44) ?_).2.2; exact (crF HO_1183001 BK1258)); (case side6 => exact (Kd.R_reads' HO_1183001.out).2.1); (case side7 => refine (Kd.R_reads' (e := 3) (base := w.heap.size) (ok := fun k_ => (nO k_ v1238 ∧ (nO k_ v1241 ∧ (nO k_ v1245 ∧ (nO k_ v1248 ∧ (nO k_ (.slice Ao202 t1251.length co202) ∧ (nO k_ (.slice Ao204 t1254.length co204) ∧ (nO k_ (.slice Ao44 t1175.length co44) ∧ (nO k_ (.slice Ao80 t1200.length co80) ∧ nO k_ (.slice Ao81 t1203.length co81)))))))))) (n := t1178.length) (c := co46) ?_).2.2; exact (crF HO_1183002 BK1258)); (case side8 => exact (Kd.R_reads' HO_1183002.out).2.1); rintro e w217 ⟨rfl, hb⟩; refine ⟨_, rfl, ?_⟩; replace HO_1183001 := rblF HO_1183001 BK1258 hb; replace HO_1183002 := rblF HO_1183002 BK1258 hb; replace HO_1208001 := rblF HO_1208001 BK1258 hb; replace HO_1208002 := rblF HO_1208002 BK1258 hb; replace HO1239 := rblF HO1239 BK1258 hb; replace HO1242 := rblF HO1242 BK1258 hb; replace HO1246 := rblF HO1246 BK1258 hb; replace HO1249 := rblF HO1249 BK1258 hb; replace HO1253 := rblF HO1253 BK1258 hb; replace HO1256 := rblF HO1256 BK1258 hb; replace BK1156 := bkf BK1156 hb; replace BK1157 := bkf BK1157 hb; replace BK1182 := bkf BK1182 hb; replace BK1207 := bkf BK1207 hb; replace BK1258 := bkp BK1258 (.bool t1250) (.slice Ao202 t1251.length co202) (.slice Ao204 t1254.length co204) hb; replace HB := bst HB hb; (try clear hb); (try clear hb2); (try clear hk); (try clear hi)))
               go_meet
               case rel => exact ⟨_, ((t1257 != t1181)), (by first | rfl | (simp; done) | (simp [*]; done)), H', ⟨by have := HJ24.out; have := HJ116.out; first | omega | exact Nat.le_refl _⟩, ⟨crM HO_1208001 fun _ hk => hk.2.2.2.2.2.2.2.2⟩, ⟨crM HO_1208002 fun _ hk => hk.2.2.2.2.2.2.2.2⟩, ⟨crb BK1207⟩, ⟨blw HB⟩⟩
              ·
               replace c207 := Bool.eq_false_iff.mpr c207
               subst c207
               have H1 : (laws_FnExactDivRat.j2 kj116 t1232 true t1199 t1233 t1234) = some r := by rw [if_neg (show ¬ (false = true) by decide)] at H; exact H
               clear H
               have H := H1
               clear H1
               have H' := Aside0.mk H
               clear H
               have hnb218 := NB1258_1156.out
               have hnc218 := NB1156_1258.out
               have hnb219 := NB1258_1157.out
               have hnc219 := NB1157_1258.out
               have hnb220 := NB1258_1182.out
               have hnc220 := NB1182_1258.out
               have hnb221 := NB1258_1207.out
               have hnc221 := NB1207_1258.out
               have hcz222_0 := bce BK1258 0 (.bool false)
               have hcz222_1 := bce BK1258 1 (.slice none 0 0)
               have hcz222_2 := bce BK1258 2 (.slice none 0 0)
               have hfz222_0 := blk_frozen BK1258.out 0
               have hfz222_1 := blk_frozen BK1258.out 1
               have hfz222_2 := blk_frozen BK1258.out 2
               have hnb223 := NB1182_1156.out
               have hnc223 := NB1156_1182.out
               have hnb224 := NB1182_1157.out
               have hnc224 := NB1157_1182.out
               have hnb225 := NB1182_1207.out
               have hnc225 := NB1207_1182.out
               have hcz226_0 := bce BK1182 0 (.bool t1174)
               have hcz226_1 := bce BK1182 1 (.slice Ao44 t1175.length co44)
               have hcz226_2 := bce BK1182 2 (.slice Ao46 t1178.length co46)
               have hfz226_0 := blk_frozen BK1182.out 0
               have hfz226_1 := blk_frozen BK1182.out 1
               have hfz226_2 := blk_frozen BK1182.out 2
               go_wp2_with (first | ((with_reducible refine gate_callee (f := 17) rfl ?_); refine goesL_ (some 104) rfl rfl Try.func17 (by kernel_rfl) rfl #[.agg #[.bool t1250, .slice Ao202 t1251.length co202, .slice Ao204 t1254.length co204], .agg #[.bool t1174, .slice Ao44 t1175.length co44, .slice Ao46 t1178.length co46]] rfl (by (try simp only [List.map_toArray, List.map_cons, List.map_nil]); first | done | rfl | (simp only [List.length_drop, List.length_take]; rfl)) ?_; (with_reducible refine (laws_eqRat.calls kj116 t1250 _ _ t1251 _ _ t1254 t1174 _ _ t1175 _ _ t1178 false _ ?side1 ?side2 ?side3 ?side4 ?side5 ?side6 ?side7 ?side8 A206.out).mono ?_); (case side1 => refine (Kd.R_reads' (e := 3) (base := w.heap.size) (ok := fun k_ => (nO k_ v1238 ∧ (nO k_ v1241 ∧ (nO k_ v1245 ∧ (nO k_ v1248 ∧ (nO k_ (.slice Ao204 t1254.length co204) ∧ (nO k_ (.slice Ao44 t1175.length co44) ∧ (nO k_ (.slice Ao46 t1178.length co46) ∧ (nO k_ (.slice Ao80 t1200.length co80) ∧ nO k_ (.slice Ao81 t1203.length co81)))))))))) (n := t1251.length) (c := co202) ?_).2.2; exact (crF HO1253 BK1258)); (case side2 => exact (Kd.R_reads' HO1253.out).2.1); (case side3 => refine (Kd.R_reads' (e := 3) (base := w.heap.size) (ok := fun k_ => (nO k_ v1238 ∧ (nO k_ v1241 ∧ (nO k_ v1245 ∧ (nO k_ v1248 ∧ (nO k_ (.slice Ao202 t1251.length co202) ∧ (nO k_ (.slice Ao44 t1175.length co44) ∧ (nO k_ (.slice Ao46 t1178.length co46) ∧ (nO k_ (.slice Ao80 t1200.length co80) ∧ nO k_ (.slice Ao81 t1203.length co81)))))))))) (n := t1254.length) (c := co204) ?_).2.2; exact (crF HO1256 BK1258)); (case side4 => exact (Kd.R_reads' HO1256.out).2.1); (case side5 => refine (Kd.R_reads' (e := 3) (base := w.heap.size) (ok := fun k_ => (nO k_ v1238 ∧ (nO k_ v1241 ∧ (nO k_ v1245 ∧ (nO k_ v1248 ∧ (nO k_ (.slice Ao202 t1251.length co202) ∧ (nO k_ (.slice Ao204 t1254.length co204) ∧ (nO k_ (.slice Ao46 t1178.length co46) ∧ (nO k_ (.slice Ao80 t1200.length co80) ∧ nO k_ (.slice Ao81 t1203.length co81)))))))))) (n := t1175.length) (c := co44) ?_).2.2; exact (crF HO_1183001 BK1258)); (case side6 => exact (Kd.R_reads' HO_1183001.out).2.1); (case side7 => refine (Kd.R_reads' (e := 3) (base := w.heap.size) (ok := fun k_ => (nO k_ v1238 ∧ (nO k_ v1241 ∧ (nO k_ v1245 ∧ (nO k_ v1248 ∧ (nO k_ (.slice Ao202 t1251.length co202) ∧ (nO k_ (.slice Ao204 t1254.length co204) ∧ (nO k_ (.slice Ao44 t1175.length co44) ∧ (nO k_ (.slice Ao80 t1200.length co80) ∧ nO k_ (.slice Ao81 t1203.length co81)))))))))) (n := t1178.length) (c := co46) ?_).2.2; exact (crF HO_1183002 BK1258)); (case side8 => exact (Kd.R_reads' HO_1183002.out).2.1); rintro e w227 ⟨rfl, hb⟩; refine ⟨_, rfl, ?_⟩; replace HO_1183001 := rblF HO_1183001 BK1258 hb; replace HO_1183002 := rblF HO_1183002 BK1258 hb; replace HO_1208001 := rblF HO_1208001 BK1258 hb; replace HO_1208002 := rblF HO_1208002 BK1258 hb; replace HO1239 := rblF HO1239 BK1258 hb; replace HO1242 := rblF HO1242 BK1258 hb; replace HO1246 := rblF HO1246 BK1258 hb; replace HO1249 := rblF HO1249 BK1258 hb; replace HO1253 := rblF HO1253 BK1258 hb; replace HO1256 := rblF HO1256 BK1258 hb; replace BK1156 := bkf BK1156 hb; replace BK1157 := bkf BK1157 hb; replace BK1182 := bkf BK1182 hb; replace BK1207 := bkf BK1207 hb; replace BK1258 := bkp BK1258 (.bool t1250) (.slice Ao202 t1251.length co202) (.slice Ao204 t1254.length co204) hb; replace HB := bst HB hb; (try clear hb); (try clear hb2); (try clear hk); (try clear hi)))
               go_meet
               case rel => exact ⟨_, (true), (by first | rfl | (simp; done) | (simp [*]; done)), H', ⟨by have := HJ24.out; have := HJ116.out; first | omega | exact Nat.le_refl _⟩, ⟨crM HO_1208001 fun _ hk => hk.2.2.2.2.2.2.2.2⟩, ⟨crM HO_1208002 fun _ hk => hk.2.2.2.2.2.2.2.2⟩, ⟨crb BK1207⟩, ⟨blw HB⟩⟩
             case rest =>
              clear HC183
              try clear c1
              try clear c2
              try clear p2
              try clear c3
              try clear c17
              try clear c20
              try clear c21
              try clear c22
              try clear c33
              try clear c207
              try clear c208
              try clear c209
              try clear c210
              try clear c211
              try clear c213
              try clear c214
              try clear c215
              try clear c218
              try clear c219
              try clear c220
              try clear c221
              try clear c223
              try clear c224
              try clear c225
              try clear hcz212_0
              try clear hcz212_1
              try clear hcz212_2
              try clear hcz216_0
              try clear hcz216_1
              try clear hcz216_2
              try clear hcz222_0
              try clear hcz222_1
              try clear hcz222_2
              try clear hcz226_0
              try clear hcz226_1
              try clear hcz226_2
              try clear hfz212_0
              try clear hfz212_1
              try clear hfz212_2
              try clear hfz216_0
              try clear hfz216_1
              try clear hfz216_2
              try clear hfz222_0
              try clear hfz222_1
              try clear hfz222_2
              try clear hfz226_0
              try clear hfz226_1
              try clear hfz226_2
              obtain ⟨kq, x110_182, rfl, HA, HJ182, HO_1208001, HO_1208002, BK1207, HB⟩ := hcut
              have hl1208001_182 := (Kd.R_reads' HO_1208001.out).1
              rw [hl1208001_182] at HO_1208001
              (try simp only [hl1208001_182])
              (try simp only [hl1208001_182] at BK1207)
              (try simp only [hl1208001_182] at HO_1208002)
              have hl1208002_182 := (Kd.R_reads' HO_1208002.out).1
              rw [hl1208002_182] at HO_1208002
              (try simp only [hl1208002_182])
              (try simp only [hl1208002_182] at BK1207)
              (try simp only [hl1208002_182] at HO_1208001)
              cases kq with
              | zero => exact absurd HA.out (by simp [laws_FnExactDivRat.j2])
              | succ kj182 =>
               have H := HA.out
               clear HA
               simp only [laws_FnExactDivRat.j2] at H
               by_cases c228 : x110_182 = true
               ·
                subst c228
                have H1 : (some false) = some r := by rw [if_pos rfl] at H; exact H
                clear H
                have H := H1
                clear H1
                obtain rfl := Option.some.inj H
                exact absurd hr_ (by decide)
               ·
                replace c228 := Bool.eq_false_iff.mpr c228
                subst c228
                have H1 : ((laws_heldRat.f kj182 t1199 t1233 t1234 1).bind fun t1260 => (if t1260 < 0 then (some false) else (if t1260 = t1232 then (some true) else (some false)))) = some r := by rw [if_neg (show ¬ (false = true) by decide)] at H; exact H
                clear H
                have H := H1
                clear H1
                replace H := Option.bind_eq_some_iff.mp H
                obtain ⟨t1260, A2290, H⟩ := H
                replace H : (if t1260 < 0 then (some false) else (if t1260 = t1232 then (some true) else (some false))) = some r := H
                have A229 := Aside0.mk A2290
                clear A2290
                by_cases c230 : t1260 < 0
                ·
                 rw [if_pos c230] at H
                 have c230b0 : decide (t1260 < 0) = true := decide_eq_true c230
                 clear c230
                 obtain rfl := Option.some.inj H
                 exact absurd hr_ (by decide)
                ·
                 rw [if_neg c230] at H
                 have c230b0 : decide (t1260 < 0) = false := decide_eq_false c230
                 clear c230
                 by_cases c233 : t1260 = t1232
                 ·
                  rw [if_pos c233] at H
                  have c233b0 : (t1260 == t1232) = true := beq_iff_eq.mpr c233
                  have c233b1 : (t1260 != t1232) = false := bne_eq_false_iff_eq.mpr c233
                  clear c233
                  obtain rfl := Option.some.inj H
                  have hcz234_0 := bce BK1207 0 (.bool t1199)
                  have hcz234_1 := bce BK1207 1 (.slice Ao80 t1233.length co80)
                  have hcz234_2 := bce BK1207 2 (.slice Ao81 t1234.length co81)
                  have hfz234_0 := blk_frozen BK1207.out 0
                  have hfz234_1 := blk_frozen BK1207.out 1
                  have hfz234_2 := blk_frozen BK1207.out 2
                  go_wp2_with (first | ((with_reducible refine gate_callee (f := 19) rfl ?_); refine goesL_ (some 113) rfl rfl Try.func19 (by kernel_rfl) rfl #[.agg #[.bool t1199, .slice Ao80 t1233.length co80, .slice Ao81 t1234.length co81], .int .i64 1] rfl (by (try simp only [List.map_toArray, List.map_cons, List.map_nil]); first | done | rfl | (simp only [List.length_drop, List.length_take]; rfl)) ?_; (with_reducible refine (laws_heldRat.calls kj182 t1199 _ _ t1233 _ _ t1234 1 t1260 _ ?side1 ?side2 ?side3 ?side4 A229.out).mono ?_); (case side1 => exact crC (Kd.R_reads' HO_1208001.out).2.2); (case side2 => exact (Kd.R_reads' HO_1208001.out).2.1); (case side3 => exact crC (Kd.R_reads' HO_1208002.out).2.2); (case side4 => exact (Kd.R_reads' HO_1208002.out).2.1); rintro e w235 ⟨rfl, hb⟩; refine ⟨_, rfl, ?_⟩; replace HO_1208001 := rblR HO_1208001 hb; replace HO_1208002 := rblR HO_1208002 hb; replace BK1207 := bkb BK1207 hb; replace HB := bst HB hb; (try clear hb); (try clear hb2); (try clear hk); (try clear hi)))
                  go_ret
                  exact ⟨by first | rfl | (simp [errW_none, errW_some] <;> rfl) | (simp [*, errW_none, errW_some] <;> rfl), blw HB⟩
                 ·
                  rw [if_neg c233] at H
                  have c233b0 : (t1260 == t1232) = false := beq_eq_false_iff_ne.mpr c233
                  have c233b1 : (t1260 != t1232) = true := bne_iff_ne.mpr c233
                  obtain rfl := Option.some.inj H
                  exact absurd hr_ (by decide)
            ·
             rw [if_neg c179] at H
             have c179b0 : (t1235 == t1232) = false := beq_eq_false_iff_ne.mpr c179
             have c179b1 : (t1235 != t1232) = true := bne_iff_ne.mpr c179
             obtain rfl := Option.some.inj H
             exact absurd hr_ (by decide)
       ·
        replace c114 := Bool.eq_false_iff.mpr c114
        subst c114
        have H1 : (some false) = some r := by rw [if_neg (show ¬ (false = true) by decide)] at H; exact H
        clear H
        have H := H1
        clear H1
        obtain rfl := Option.some.inj H
        exact absurd hr_ (by decide)
      ·
       replace c111 := Bool.eq_false_iff.mpr c111
       subst c111
       have H1 : (some false) = some r := by rw [if_neg (show ¬ (false = true) by decide)] at H; exact H
       clear H
       have H := H1
       clear H1
       obtain rfl := Option.some.inj H
       exact absurd hr_ (by decide)

/-- THE ONE PURE STATEMENT of laws_FnExactDivRat: yours. -/
def laws_FnExactDivRat.Pure : Prop := ∀ (a0_0 : Bool) (l0_1 : List Int) (l0_2 : List Int) (a1_0 : Bool) (l1_1 : List Int) (l1_2 : List Int), (True ∧ (l0_1.length ≤ maxLen ∧ ∀ y0_ ∈ l0_1, (Lit.int .i64 y0_).wf = true) ∧ (l0_2.length ≤ maxLen ∧ ∀ y0_ ∈ l0_2, (Lit.int .i64 y0_).wf = true)) → (True ∧ (l1_1.length ≤ maxLen ∧ ∀ y0_ ∈ l1_1, (Lit.int .i64 y0_).wf = true) ∧ (l1_2.length ≤ maxLen ∧ ∀ y0_ ∈ l1_2, (Lit.int .i64 y0_).wf = true)) → ∃ k, laws_FnExactDivRat.f k a0_0 l0_1 l0_2 a1_0 l1_1 l1_2 = some true

end Go.Proofs.Ytacdaijalkkogaa.Q
