-- written by a program of this claim's session (myprint.py) out of the translation; Lean checks it.
import Derived.Test.YtegbmillbbcmfaaQx0
import Derived.Test.YtegbmillbbcmfaaSq
import Derived.Test.YtegbmillbbcmfaaQxcmp
import Derived.Test.YtegbmillbbcmfaaQxmul
import Derived.Test.YtegbmillbbcmfaaQxsub
import Derived.Test.YtegbmillbbcmfaaQxrmk
import Derived.Test.YtegbmillbbcmfaaQxadd
namespace Go.Proofs.Ytegbmillbbcmfaa.Q
open Go.RowKit Go.Proofs.YtegbmillbbcmfaaW.PrintWords Go.Proofs.YtegbmillbbcmfaaW.PrintLast Go.Proofs.YtegbmillbbcmfaaW.PrintMore
attribute [local go_sem] max2_int min2_int max_two min_two max_three min_three max_four min_four   -- for this text's walks alone
set_option linter.unusedVariables false
set_option linter.unusedSimpArgs false

def spec_l02Zero.f (a0_0 : Bool) (l0_1 : List Int) (l0_2 : List Int) : Option (Bool) := some ((l0_1.length : Int) == 0)
set_option maxHeartbeats 8000000 in
set_option maxRecDepth 100000 in
theorem spec_l02Zero.calls (a0_0 : Bool) (A0_1 : Option Addr) (c0_1 : Nat) (l0_1 : List Int) (A0_2 : Option Addr) (c0_2 : Nat) (l0_2 : List Int) (r : Bool) (w : World) (hr0_1 : Kd.C (Kd.int .i64) w A0_1 l0_1.length l0_1) (hc0_1 : l0_1.length ≤ c0_1) (hr0_2 : Kd.C (Kd.int .i64) w A0_2 l0_2.length l0_2) (hc0_2 : l0_2.length ≤ c0_2) (h : spec_l02Zero.f a0_0 l0_1 l0_2 = some r) :
  Calls Try.prog 88 #[.agg #[.bool a0_0, .slice A0_1 l0_1.length c0_1, .slice A0_2 l0_2.length c0_2]] w fun e w' => e = .returned (.bool r) ∧ Below w.heap.size w w' := by
 have hu32 := Try.underlying32
 have HR0_1 := Aside0.mk hr0_1
 have HC0_1 := Aside0.mk hc0_1
 clear hr0_1 hc0_1
 have HR0_2 := Aside0.mk hr0_2
 have HC0_2 := Aside0.mk hc0_2
 clear hr0_2 hc0_2
 have HB := Aside0.mk (Below.refl w.heap.size w)
 have H : (some ((l0_1.length : Int) == 0)) = some r := h
 clear h
 obtain rfl := Option.some.inj H
 go_enter Try.func88, Try.ntmps88
 go_wp2_with (first | ((with_reducible refine gate_dst (N := 1) rfl ?_); refine bx_ (N := 1) (cs := #[.bool a0_0, .slice A0_1 l0_1.length c0_1, .slice A0_2 l0_2.length c0_2]) (t := 32) ?_; intro gbE8 hg w2 hbox hb; have BKE8 := Aside0.mk (hbox); have GWE8 := geh hg HB; have GEE8 := geh hg HB; replace HB := bst HB hb; clear hb hbox hg; obtain ⟨hcz3_0, hcz3_1, hcz3_2, hfz3_0, hfz3_1, hfz3_2⟩ := bc3 BKE8))
 go_ret
 exact ⟨er_, blw HB⟩

def spec_l02Sign.f (a0_0 : Bool) (l0_1 : List Int) (l0_2 : List Int) : Option (Int) := (spec_l02Zero.f a0_0 l0_1 l0_2).bind fun tE3 => (if tE3 = true then (some 0) else (if a0_0 = true then (some (-1)) else (some 1)))
set_option maxHeartbeats 8000000 in
set_option maxRecDepth 100000 in
theorem spec_l02Sign.calls (a0_0 : Bool) (A0_1 : Option Addr) (c0_1 : Nat) (l0_1 : List Int) (A0_2 : Option Addr) (c0_2 : Nat) (l0_2 : List Int) (r : Int) (w : World) (hr0_1 : Kd.C (Kd.int .i64) w A0_1 l0_1.length l0_1) (hc0_1 : l0_1.length ≤ c0_1) (hr0_2 : Kd.C (Kd.int .i64) w A0_2 l0_2.length l0_2) (hc0_2 : l0_2.length ≤ c0_2) (h : spec_l02Sign.f a0_0 l0_1 l0_2 = some r) :
  Calls Try.prog 69 #[.agg #[.bool a0_0, .slice A0_1 l0_1.length c0_1, .slice A0_2 l0_2.length c0_2]] w fun e w' => e = .returned (.int .i64 r) ∧ Below w.heap.size w w' := by
 have hu32 := Try.underlying32
 have HR0_1 := Aside0.mk hr0_1
 have HC0_1 := Aside0.mk hc0_1
 clear hr0_1 hc0_1
 have HR0_2 := Aside0.mk hr0_2
 have HC0_2 := Aside0.mk hc0_2
 clear hr0_2 hc0_2
 have HB := Aside0.mk (Below.refl w.heap.size w)
 have H : ((spec_l02Zero.f a0_0 l0_1 l0_2).bind fun tE3 => (if tE3 = true then (some 0) else (if a0_0 = true then (some (-1)) else (some 1)))) = some r := h
 clear h
 replace H := Option.bind_eq_some_iff.mp H
 obtain ⟨tE3, A20, H⟩ := H
 replace H : (if tE3 = true then (some 0) else (if a0_0 = true then (some (-1)) else (some 1))) = some r := H
 have A2 := Aside0.mk A20
 clear A20
 by_cases c3 : tE3 = true
 ·
  subst c3
  have H1 : (some 0) = some r := by rw [if_pos rfl] at H; exact H
  clear H
  have H := H1
  clear H1
  obtain rfl := Option.some.inj H
  go_enter Try.func69, Try.ntmps69
  go_wp2_with (first | ((with_reducible refine gate_dst (N := 1) rfl ?_); refine bx_ (N := 1) (cs := #[.bool a0_0, .slice A0_1 l0_1.length c0_1, .slice A0_2 l0_2.length c0_2]) (t := 32) ?_; intro gbC2 hg w4 hbox hb; have BKC2 := Aside0.mk (hbox); have GWC2 := geh hg HB; have GEC2 := geh hg HB; replace HB := bst HB hb; clear hb hbox hg; obtain ⟨hcz5_0, hcz5_1, hcz5_2, hfz5_0, hfz5_1, hfz5_2⟩ := bc3 BKC2) | ((with_reducible refine gate_callee (f := 88) rfl ?_); refine gL_ (some 5) Try.func88 #[.agg #[.bool a0_0, .slice A0_1 l0_1.length c0_1, .slice A0_2 l0_2.length c0_2]] ?_; (with_reducible refine (spec_l02Zero.calls a0_0 _ _ l0_1 _ _ l0_2 true _ ?side1 ?side2 ?side3 ?side4 A2.out).mono ?_); (case side1 => exact crC (Kd.C_below HR0_1.out HB.out)); (case side2 => exact HC0_1.out); (case side3 => exact crC (Kd.C_below HR0_2.out HB.out)); (case side4 => exact HC0_2.out); rintro e w6 ⟨rfl, hb⟩; refine ⟨_, rfl, ?_⟩; replace BKC2 := bkb BKC2 hb; replace HB := bst HB hb; (try clear hb); (try clear hb2); (try clear hk); (try clear hi)))
  go_ret
  exact ⟨er_, blw HB⟩
 ·
  replace c3 := Bool.eq_false_iff.mpr c3
  subst c3
  have H1 : (if a0_0 = true then (some (-1)) else (some 1)) = some r := by rw [if_neg (show ¬ (false = true) by decide)] at H; exact H
  clear H
  have H := H1
  clear H1
  by_cases c7 : a0_0 = true
  ·
   subst c7
   have H1 : (some (-1)) = some r := by rw [if_pos rfl] at H; exact H
   clear H
   have H := H1
   clear H1
   obtain rfl := Option.some.inj H
   go_enter Try.func69, Try.ntmps69
   go_wp2_with (first | ((with_reducible refine gate_dst (N := 1) rfl ?_); refine bx_ (N := 1) (cs := #[.bool true, .slice A0_1 l0_1.length c0_1, .slice A0_2 l0_2.length c0_2]) (t := 32) ?_; intro gbC2 hg w8 hbox hb; have BKC2 := Aside0.mk (hbox); have GWC2 := geh hg HB; have GEC2 := geh hg HB; replace HB := bst HB hb; clear hb hbox hg; obtain ⟨hcz9_0, hcz9_1, hcz9_2, hfz9_0, hfz9_1, hfz9_2⟩ := bc3 BKC2) | ((with_reducible refine gate_callee (f := 88) rfl ?_); refine gL_ (some 5) Try.func88 #[.agg #[.bool true, .slice A0_1 l0_1.length c0_1, .slice A0_2 l0_2.length c0_2]] ?_; (with_reducible refine (spec_l02Zero.calls true _ _ l0_1 _ _ l0_2 false _ ?side1 ?side2 ?side3 ?side4 A2.out).mono ?_); (case side1 => exact crC (Kd.C_below HR0_1.out HB.out)); (case side2 => exact HC0_1.out); (case side3 => exact crC (Kd.C_below HR0_2.out HB.out)); (case side4 => exact HC0_2.out); rintro e w10 ⟨rfl, hb⟩; refine ⟨_, rfl, ?_⟩; replace BKC2 := bkb BKC2 hb; replace HB := bst HB hb; (try clear hb); (try clear hb2); (try clear hk); (try clear hi); obtain ⟨hcz11_0, hcz11_1, hcz11_2, hfz11_0, hfz11_1, hfz11_2⟩ := bc3 BKC2))
   go_ret
   exact ⟨er_, blw HB⟩
  ·
   replace c7 := Bool.eq_false_iff.mpr c7
   subst c7
   have H1 : (some 1) = some r := by rw [if_neg (show ¬ (false = true) by decide)] at H; exact H
   clear H
   have H := H1
   clear H1
   obtain rfl := Option.some.inj H
   go_enter Try.func69, Try.ntmps69
   go_wp2_with (first | ((with_reducible refine gate_dst (N := 1) rfl ?_); refine bx_ (N := 1) (cs := #[.bool false, .slice A0_1 l0_1.length c0_1, .slice A0_2 l0_2.length c0_2]) (t := 32) ?_; intro gbC2 hg w12 hbox hb; have BKC2 := Aside0.mk (hbox); have GWC2 := geh hg HB; have GEC2 := geh hg HB; replace HB := bst HB hb; clear hb hbox hg; obtain ⟨hcz13_0, hcz13_1, hcz13_2, hfz13_0, hfz13_1, hfz13_2⟩ := bc3 BKC2) | ((with_reducible refine gate_callee (f := 88) rfl ?_); refine gL_ (some 5) Try.func88 #[.agg #[.bool false, .slice A0_1 l0_1.length c0_1, .slice A0_2 l0_2.length c0_2]] ?_; (with_reducible refine (spec_l02Zero.calls false _ _ l0_1 _ _ l0_2 false _ ?side1 ?side2 ?side3 ?side4 A2.out).mono ?_); (case side1 => exact crC (Kd.C_below HR0_1.out HB.out)); (case side2 => exact HC0_1.out); (case side3 => exact crC (Kd.C_below HR0_2.out HB.out)); (case side4 => exact HC0_2.out); rintro e w14 ⟨rfl, hb⟩; refine ⟨_, rfl, ?_⟩; replace BKC2 := bkb BKC2 hb; replace HB := bst HB hb; (try clear hb); (try clear hb2); (try clear hk); (try clear hi); obtain ⟨hcz15_0, hcz15_1, hcz15_2, hfz15_0, hfz15_1, hfz15_2⟩ := bc3 BKC2))
   go_ret
   exact ⟨er_, blw HB⟩

def spec_l02Add.f (k : Nat) (a0_0 : Bool) (l0_1 : List Int) (l0_2 : List Int) (a1_0 : Bool) (l1_1 : List Int) (l1_2 : List Int) : Option (Bool × List Int × List Int) := (spec_l01Mul.f k l0_1 l1_2).bind fun tB2 => ((spec_l01Mul.f k l1_1 l0_2).bind fun tB1 => ((spec_l01Mul.f k l0_2 l1_2).bind fun tB6 => (if (a0_0 == a1_0) = true then ((spec_l01Add.f k tB2 tB1).bind fun tC9 => ((spec_l02Make.f k a0_0 tC9 tB6).bind fun btC0 => (some (btC0.1, btC0.2.1, btC0.2.2)))) else ((spec_l01Cmp.f k tB2 tB1).bind fun tC5 => (if tC5 ≥ 0 then ((spec_l01Sub.f k tB2 tB1).bind fun tC6 => ((spec_l02Make.f k a0_0 tC6 tB6).bind fun btB7 => (some (btB7.1, btB7.2.1, btB7.2.2)))) else ((spec_l01Sub.f k tB1 tB2).bind fun tC7 => ((spec_l02Make.f k a1_0 tC7 tB6).bind fun btB8 => (some (btB8.1, btB8.2.1, btB8.2.2)))))))))
theorem spec_l02Add.mono : ∀ a0 a1 a2 a3 a4 a5 k, LeO (spec_l02Add.f k a0 a1 a2 a3 a4 a5) (spec_l02Add.f (k + 1) a0 a1 a2 a3 a4 a5) := by
 intro a0 a1 a2 a3 a4 a5 k
 unfold spec_l02Add.f
 repeat' first
   | (with_reducible exact spec_l01Add.mono _ _ _)
   | (with_reducible exact spec_l01Cmp.mono _ _ _)
   | (with_reducible exact spec_l01Mul.mono _ _ _)
   | (with_reducible exact spec_l01Sub.mono _ _ _)
   | (with_reducible exact spec_l02Make.mono _ _ _ _)
   | (with_reducible exact LeO.refl _)
   | (with_reducible exact LeO.none _)
   | (with_reducible refine LeO.ite ?_ ?_)
   | (with_reducible refine LeO.bind ?_ (fun _ => ?_))
   | exact spec_l01Add.mono _ _ _
   | exact spec_l01Cmp.mono _ _ _
   | exact spec_l01Mul.mono _ _ _
   | exact spec_l01Sub.mono _ _ _
   | exact spec_l02Make.mono _ _ _ _
   | exact LeO.none _
   | refine LeO.ite ?_ ?_
   | refine LeO.bind ?_ (fun _ => ?_)
def spec_l02Add.T5 : Bool × List (List Nat × List Nat) := (true, [([], []), ([0], [0]), ([], []), ([], []), ([2, 3], [2, 3]), ([], []), ([1, 4, 5, 4], [1, 4, 5]), ([6, 6, 0, 1, 2, 3, 4, 5, 6], [6])])
def spec_l02Add.B5 : List Nat := [0, 1, 0, 0, 12, 0, 63, 127]
theorem spec_l02Add.tab5 : rtab .any (opsOf Try.f54 5) = spec_l02Add.T5 := by kernel_rfl
theorem spec_l02Add.bits5 : waitsOk spec_l02Add.T5.2 spec_l02Add.B5 = true := by kernel_rfl
def spec_l02Add.T7 : Bool × List (List Nat × List Nat) := (true, [([], []), ([0], [0]), ([], []), ([], []), ([2, 3], [2, 3]), ([], []), ([1, 4, 5, 4], [1, 4, 5]), ([6, 6, 0, 1, 2, 3, 4, 5, 6], [6])])
def spec_l02Add.B7 : List Nat := [0, 1, 0, 0, 12, 0, 63, 127]
theorem spec_l02Add.tab7 : rtab .any (opsOf Try.f54 7) = spec_l02Add.T7 := by kernel_rfl
theorem spec_l02Add.bits7 : waitsOk spec_l02Add.T7.2 spec_l02Add.B7 = true := by kernel_rfl
def spec_l02Add.T8 : Bool × List (List Nat × List Nat) := (true, [([], []), ([0], [0]), ([], []), ([], []), ([2, 3], [2, 3]), ([], []), ([1, 4, 5, 4], [1, 4, 5]), ([6, 6, 0, 1, 2, 3, 4, 5, 6], [6])])
def spec_l02Add.B8 : List Nat := [0, 1, 0, 0, 12, 0, 63, 127]
theorem spec_l02Add.tab8 : rtab .any (opsOf Try.f54 8) = spec_l02Add.T8 := by kernel_rfl
theorem spec_l02Add.bits8 : waitsOk spec_l02Add.T8.2 spec_l02Add.B8 = true := by kernel_rfl
set_option maxHeartbeats 8000000 in
set_option maxRecDepth 100000 in
theorem spec_l02Add.calls (k : Nat) (a0_0 : Bool) (A0_1 : Option Addr) (c0_1 : Nat) (l0_1 : List Int) (A0_2 : Option Addr) (c0_2 : Nat) (l0_2 : List Int) (a1_0 : Bool) (A1_1 : Option Addr) (c1_1 : Nat) (l1_1 : List Int) (A1_2 : Option Addr) (c1_2 : Nat) (l1_2 : List Int) (r1 : Bool) (r2 : List Int) (r3 : List Int) (w : World) (hr0_1 : Kd.C (Kd.int .i64) w A0_1 l0_1.length l0_1) (hc0_1 : l0_1.length ≤ c0_1) (hr0_2 : Kd.C (Kd.int .i64) w A0_2 l0_2.length l0_2) (hc0_2 : l0_2.length ≤ c0_2) (hr1_1 : Kd.C (Kd.int .i64) w A1_1 l1_1.length l1_1) (hc1_1 : l1_1.length ≤ c1_1) (hr1_2 : Kd.C (Kd.int .i64) w A1_2 l1_2.length l1_2) (hc1_2 : l1_2.length ≤ c1_2) (h : spec_l02Add.f k a0_0 l0_1 l0_2 a1_0 l1_1 l1_2 = some (r1, r2, r3)) :
  Calls Try.prog 54 #[.agg #[.bool a0_0, .slice A0_1 l0_1.length c0_1, .slice A0_2 l0_2.length c0_2], .agg #[.bool a1_0, .slice A1_1 l1_1.length c1_1, .slice A1_2 l1_2.length c1_2]] w fun e w' => ∃ v1_ v2_ : Value, e = .returned (.agg #[.bool r1, v1_, v2_]) ∧ Kd.R (Kd.int .i64) 3 w' w.heap.size (fun k_ => nO k_ v2_) v1_ r2 ∧ Kd.R (Kd.int .i64) 3 w' w.heap.size (fun k_ => nO k_ v1_) v2_ r3 ∧ Below w.heap.size w w' := by
 have hu32 := Try.underlying32
 have HR0_1 := Aside0.mk hr0_1
 have HC0_1 := Aside0.mk hc0_1
 clear hr0_1 hc0_1
 have HR0_2 := Aside0.mk hr0_2
 have HC0_2 := Aside0.mk hc0_2
 clear hr0_2 hc0_2
 have HR1_1 := Aside0.mk hr1_1
 have HC1_1 := Aside0.mk hc1_1
 clear hr1_1 hc1_1
 have HR1_2 := Aside0.mk hr1_2
 have HC1_2 := Aside0.mk hc1_2
 clear hr1_2 hc1_2
 have HB := Aside0.mk (Below.refl w.heap.size w)
 have H : ((spec_l01Mul.f k l0_1 l1_2).bind fun tB2 => ((spec_l01Mul.f k l1_1 l0_2).bind fun tB1 => ((spec_l01Mul.f k l0_2 l1_2).bind fun tB6 => (if (a0_0 == a1_0) = true then ((spec_l01Add.f k tB2 tB1).bind fun tC9 => ((spec_l02Make.f k a0_0 tC9 tB6).bind fun btC0 => (some (btC0.1, btC0.2.1, btC0.2.2)))) else ((spec_l01Cmp.f k tB2 tB1).bind fun tC5 => (if tC5 ≥ 0 then ((spec_l01Sub.f k tB2 tB1).bind fun tC6 => ((spec_l02Make.f k a0_0 tC6 tB6).bind fun btB7 => (some (btB7.1, btB7.2.1, btB7.2.2)))) else ((spec_l01Sub.f k tB1 tB2).bind fun tC7 => ((spec_l02Make.f k a1_0 tC7 tB6).bind fun btB8 => (some (btB8.1, btB8.2.1, btB8.2.2)))))))))) = some (r1, r2, r3) := h
 clear h
 replace H := Option.bind_eq_some_iff.mp H
 obtain ⟨tB2, A30, H⟩ := H
 replace H : ((spec_l01Mul.f k l1_1 l0_2).bind fun tB1 => ((spec_l01Mul.f k l0_2 l1_2).bind fun tB6 => (if (a0_0 == a1_0) = true then ((spec_l01Add.f k tB2 tB1).bind fun tC9 => ((spec_l02Make.f k a0_0 tC9 tB6).bind fun btC0 => (some (btC0.1, btC0.2.1, btC0.2.2)))) else ((spec_l01Cmp.f k tB2 tB1).bind fun tC5 => (if tC5 ≥ 0 then ((spec_l01Sub.f k tB2 tB1).bind fun tC6 => ((spec_l02Make.f k a0_0 tC6 tB6).bind fun btB7 => (some (btB7.1, btB7.2.1, btB7.2.2)))) else ((spec_l01Sub.f k tB1 tB2).bind fun tC7 => ((spec_l02Make.f k a1_0 tC7 tB6).bind fun btB8 => (some (btB8.1, btB8.2.1, btB8.2.2))))))))) = some (r1, r2, r3) := H
 have A3 := Aside0.mk A30
 clear A30
 replace H := Option.bind_eq_some_iff.mp H
 obtain ⟨tB1, A40, H⟩ := H
 replace H : ((spec_l01Mul.f k l0_2 l1_2).bind fun tB6 => (if (a0_0 == a1_0) = true then ((spec_l01Add.f k tB2 tB1).bind fun tC9 => ((spec_l02Make.f k a0_0 tC9 tB6).bind fun btC0 => (some (btC0.1, btC0.2.1, btC0.2.2)))) else ((spec_l01Cmp.f k tB2 tB1).bind fun tC5 => (if tC5 ≥ 0 then ((spec_l01Sub.f k tB2 tB1).bind fun tC6 => ((spec_l02Make.f k a0_0 tC6 tB6).bind fun btB7 => (some (btB7.1, btB7.2.1, btB7.2.2)))) else ((spec_l01Sub.f k tB1 tB2).bind fun tC7 => ((spec_l02Make.f k a1_0 tC7 tB6).bind fun btB8 => (some (btB8.1, btB8.2.1, btB8.2.2)))))))) = some (r1, r2, r3) := H
 have A4 := Aside0.mk A40
 clear A40
 replace H := Option.bind_eq_some_iff.mp H
 obtain ⟨tB6, A50, H⟩ := H
 replace H : (if (a0_0 == a1_0) = true then ((spec_l01Add.f k tB2 tB1).bind fun tC9 => ((spec_l02Make.f k a0_0 tC9 tB6).bind fun btC0 => (some (btC0.1, btC0.2.1, btC0.2.2)))) else ((spec_l01Cmp.f k tB2 tB1).bind fun tC5 => (if tC5 ≥ 0 then ((spec_l01Sub.f k tB2 tB1).bind fun tC6 => ((spec_l02Make.f k a0_0 tC6 tB6).bind fun btB7 => (some (btB7.1, btB7.2.1, btB7.2.2)))) else ((spec_l01Sub.f k tB1 tB2).bind fun tC7 => ((spec_l02Make.f k a1_0 tC7 tB6).bind fun btB8 => (some (btB8.1, btB8.2.1, btB8.2.2))))))) = some (r1, r2, r3) := H
 have A5 := Aside0.mk A50
 clear A50
 by_cases c6 : (a0_0 == a1_0) = true
 ·
  rw [if_pos c6] at H
  have c6b0 : (a0_0 == a1_0) = true := c6
  (try (have c6b1 : decide (a0_0 = a1_0) = true := by simpa using c6))
  (try (have c6b2 : (a0_0 == a1_0) = true := by simpa using c6))
  clear c6
  replace H := Option.bind_eq_some_iff.mp H
  obtain ⟨tC9, A70, H⟩ := H
  replace H : ((spec_l02Make.f k a0_0 tC9 tB6).bind fun btC0 => (some (btC0.1, btC0.2.1, btC0.2.2))) = some (r1, r2, r3) := H
  have A7 := Aside0.mk A70
  clear A70
  replace H := Option.bind_eq_some_iff.mp H
  obtain ⟨⟨tC0, tF3, tF4⟩, A80, H⟩ := H
  replace H : (some (tC0, tF3, tF4)) = some (r1, r2, r3) := H
  have A8 := Aside0.mk A80
  clear A80
  simp only [Option.some.injEq, Prod.mk.injEq] at H
  obtain ⟨rfl, rfl, rfl⟩ := H
  go_enter Try.func54, Try.ntmps54
  try go_wp2_with (first | ((with_reducible refine gate_dst (N := 2) rfl ?_); refine bx_ (N := 2) (cs := #[.bool a0_0, .slice A0_1 l0_1.length c0_1, .slice A0_2 l0_2.length c0_2]) (t := 32) ?_; intro gbA1 hg w9 hbox hb; have BKA1 := Aside0.mk (hbox); have GWA1 := geh hg HB; have GEA1 := geh hg HB; replace HB := bst HB hb; clear hb hbox hg) | ((with_reducible refine gate_dst (N := 3) rfl ?_); refine bx_ (N := 3) (cs := #[.bool a1_0, .slice A1_1 l1_1.length c1_1, .slice A1_2 l1_2.length c1_2]) (t := 32) ?_; intro gbA3 hg w10 hbox hb; have BKA3 := Aside0.mk (hbox); have GWA3 := geh hg HB; have GEA3 := geh hg HB; replace HB := bst HB hb; have NBA1_A3 := nlt hg BKA1; have NBA3_A1 := ngt hg BKA1; replace BKA1 := bkb BKA1 hb; clear hb hbox hg) | ((with_reducible refine gate_dst (N := 4) rfl ?_); refine bx_ (N := 4) (cs := #[.bool false, .slice none 0 0, .slice none 0 0]) (t := 32) ?_; intro gbA0 hg w11 hbox hb; have BKA0 := Aside0.mk (hbox); have GWA0 := geh hg HB; have GEA0 := geh hg HB; replace HB := bst HB hb; have NBA1_A0 := nlt hg BKA1; have NBA0_A1 := ngt hg BKA1; replace BKA1 := bkb BKA1 hb; have NBA3_A0 := nlt hg BKA3; have NBA0_A3 := ngt hg BKA3; replace BKA3 := bkb BKA3 hb; clear hb hbox hg; have hnb12 := NBA1_A3.out; have hnc12 := NBA3_A1.out; have hnb13 := NBA1_A0.out; have hnc13 := NBA0_A1.out; obtain ⟨hcz14_0, hcz14_1, hcz14_2, hfz14_0, hfz14_1, hfz14_2⟩ := bc3 BKA1; have hnb15 := NBA3_A0.out; have hnc15 := NBA0_A3.out; obtain ⟨hcz16_0, hcz16_1, hcz16_2, hfz16_0, hfz16_1, hfz16_2⟩ := bc3 BKA3) | ((with_reducible refine gate_callee (f := 74) rfl ?_); refine gL_ (some 12) Try.func74 #[.slice A0_1 l0_1.length c0_1, .slice A1_2 l1_2.length c1_2] ?_; (with_reducible refine (spec_l01Mul.calls k _ _ l0_1 _ _ l1_2 tB2 _ ?side1 ?side2 ?side3 ?side4 A3.out).mono ?_); (case side1 => exact crC (Kd.C_below HR0_1.out HB.out)); (case side2 => exact HC0_1.out); (case side3 => exact crC (Kd.C_below HR1_2.out HB.out)); (case side4 => exact HC1_2.out); rintro e w17 ⟨vG6, rfl, ho0, hb⟩; refine ⟨_, rfl, ?_⟩; have HOA7 := lwR ho0 HB; replace BKA1 := bkb BKA1 hb; replace BKA3 := bkb BKA3 hb; replace BKA0 := bkb BKA0 hb; replace HB := bst HB hb; (try clear hb); (try clear hb2); (try clear hk); (try clear hi); (try clear ho0); obtain ⟨hcz18_0, hcz18_1, hcz18_2, hfz18_0, hfz18_1, hfz18_2⟩ := bc3 BKA3; obtain ⟨hcz19_0, hcz19_1, hcz19_2, hfz19_0, hfz19_1, hfz19_2⟩ := bc3 BKA1) | ((with_reducible refine gate_callee (f := 74) rfl ?_); refine gL_ (some 17) Try.func74 #[.slice A1_1 l1_1.length c1_1, .slice A0_2 l0_2.length c0_2] ?_; (with_reducible refine (spec_l01Mul.calls k _ _ l1_1 _ _ l0_2 tB1 _ ?side1 ?side2 ?side3 ?side4 A4.out).mono ?_); (case side1 => exact crC (Kd.C_below HR1_1.out HB.out)); (case side2 => exact HC1_1.out); (case side3 => exact crC (Kd.C_below HR0_2.out HB.out)); (case side4 => exact HC0_2.out); rintro e w20 ⟨vG7, rfl, ho0, hb⟩; refine ⟨_, rfl, ?_⟩; have HOB0 := lwR (nwR ho0 HOA7) HB; replace HOA7 := eldR HOA7 (Kd.R_base ho0) hb; replace BKA1 := bkb BKA1 hb; replace BKA3 := bkb BKA3 hb; replace BKA0 := bkb BKA0 hb; replace HB := bst HB hb; (try clear hb); (try clear hb2); (try clear hk); (try clear hi); (try clear ho0); obtain ⟨hcz21_0, hcz21_1, hcz21_2, hfz21_0, hfz21_1, hfz21_2⟩ := bc3 BKA1; obtain ⟨hcz22_0, hcz22_1, hcz22_2, hfz22_0, hfz22_1, hfz22_2⟩ := bc3 BKA3) | ((with_reducible refine gate_callee (f := 74) rfl ?_); refine gL_ (some 22) Try.func74 #[.slice A0_2 l0_2.length c0_2, .slice A1_2 l1_2.length c1_2] ?_; (with_reducible refine (spec_l01Mul.calls k _ _ l0_2 _ _ l1_2 tB6 _ ?side1 ?side2 ?side3 ?side4 A5.out).mono ?_); (case side1 => exact crC (Kd.C_below HR0_2.out HB.out)); (case side2 => exact HC0_2.out); (case side3 => exact crC (Kd.C_below HR1_2.out HB.out)); (case side4 => exact HC1_2.out); rintro e w23 ⟨vD4, rfl, ho0, hb⟩; refine ⟨_, rfl, ?_⟩; have HOB3 := lwR (nwR (nwR ho0 HOA7) HOB0) HB; replace HOA7 := eldR HOA7 (Kd.R_base ho0) hb; replace HOB0 := eldR HOB0 (Kd.R_base ho0) hb; replace BKA1 := bkb BKA1 hb; replace BKA3 := bkb BKA3 hb; replace BKA0 := bkb BKA0 hb; replace HB := bst HB hb; (try clear hb); (try clear hb2); (try clear hk); (try clear hi); (try clear ho0); obtain ⟨hcz24_0, hcz24_1, hcz24_2, hfz24_0, hfz24_1, hfz24_2⟩ := bc3 BKA1; obtain ⟨hcz25_0, hcz25_1, hcz25_2, hfz25_0, hfz25_1, hfz25_2⟩ := bc3 BKA3))
  replace HOA7 := Aside0.mk (Kd.R_drew HOA7.out)
  replace HOB0 := Aside0.mk (Kd.R_drew HOB0.out)
  replace HOB3 := Aside0.mk (Kd.R_drew HOB3.out)
  replace BKA1 := Aside0.mk (blk_drew BKA1.out)
  replace BKA3 := Aside0.mk (blk_drew BKA3.out)
  replace BKA0 := Aside0.mk (blk_drew BKA0.out)
  replace HB := Aside0.mk (below_drew1 HB.out)
  obtain ⟨Ao27, co27, eo27⟩ := Kd.R_slice HOA7.out
  (first | subst eo27 | (injection eo27 with f1_ f2_ f3_; have f4_ := f1_.symm; have f5_ := f3_.symm; clear f1_ f2_ f3_; subst f4_; subst f5_))
  obtain ⟨Ao28, co28, eo28⟩ := Kd.R_slice HOB0.out
  (first | subst eo28 | (injection eo28 with f1_ f2_ f3_; have f4_ := f1_.symm; have f5_ := f3_.symm; clear f1_ f2_ f3_; subst f4_; subst f5_))
  refine start_ (n := 8) (S := fun w' => w'.cell? ⟨gbA1, 0, none⟩ = some (.bool a0_0) ∧ w'.cell? ⟨gbA1, 1, none⟩ = some (.slice A0_1 l0_1.length c0_1) ∧ w'.cell? ⟨gbA1, 2, none⟩ = some (.slice A0_2 l0_2.length c0_2)) (ds := []) (bm 8 0) (by kernel_rfl) rfl rfl ⟨bce BKA1 0 _, bce BKA1 1 _, bce BKA1 2 _⟩ (fun hHeld => ?_); refine with_tabW spec_l02Add.tab5 spec_l02Add.bits5 (fun HT_ HW_ => ?_)
  generalize w23.drew = w26 at HOA7 HOB0 HOB3 BKA1 BKA3 BKA0 HB hHeld ⊢
  refine pu_ 0 (some 28) (bm 8 1) HT_.out ?_
  refine pu_ 2 (some 30) (bm 8 5) HT_.out ?_
  refine pu_ 3 (some 31) (bm 8 13) HT_.out ?_
  refine pu_ 5 (some 33) (bm 8 45) HT_.out ?_
  refine tk_ 1 (some 29) (bm 8 47) HT_.out HW_.out hHeld ?_
  refine one_ (i := 4) (N := some 32) (bm 8 63) rfl rfl (one_of HT_.out (by kernel_rfl)) (by decide) (fun K hK => ?_)
  refine g_ Try.func76 #[.slice Ao27 tB2.length co27, .slice Ao28 tB1.length co28] ?_
  with_reducible refine (spec_l01Add.calls k _ _ tB2 _ _ tB1 tC9 _ ?side1 ?side2 ?side3 ?side4 A7.out).mono ?_
  (case side1 => exact crC (Kd.R_reads' HOA7.out).2.2)
  (case side2 => exact (Kd.R_reads' HOA7.out).2.1)
  (case side3 => exact crC (Kd.R_reads' HOB0.out).2.2)
  (case side4 => exact (Kd.R_reads' HOB0.out).2.1)
  rintro e w29 ⟨vI4, rfl, ho0, hb⟩
  refine ⟨_, rfl, ?_⟩
  have HOD6 := lwR (nwR (nwR (nwR ho0 HOA7) HOB0) HOB3) HB
  replace HOA7 := eldR HOA7 (Kd.R_base ho0) hb
  replace HOB0 := eldR HOB0 (Kd.R_base ho0) hb
  replace HOB3 := eldR HOB3 (Kd.R_base ho0) hb
  replace BKA1 := bkb BKA1 hb
  replace BKA3 := bkb BKA3 hb
  replace BKA0 := bkb BKA0 hb
  replace HB := bst HB hb
  (try clear hb)
  (try clear hb2)
  (try clear hk)
  (try clear hi)
  (try clear ho0)
  obtain ⟨Ao30, co30, eo30⟩ := Kd.R_slice HOD6.out
  (first | subst eo30 | (injection eo30 with f1_ f2_ f3_; have f4_ := f1_.symm; have f5_ := f3_.symm; clear f1_ f2_ f3_; subst f4_; subst f5_))
  obtain ⟨Ao31, co31, eo31⟩ := Kd.R_slice HOB3.out
  (first | subst eo31 | (injection eo31 with f1_ f2_ f3_; have f4_ := f1_.symm; have f5_ := f3_.symm; clear f1_ f2_ f3_; subst f4_; subst f5_))
  refine hK.out _ _ ⟨bce BKA1 0 _, bce BKA1 1 _, bce BKA1 2 _⟩ (fun hHeld => ?_)
  clear hK K
  refine nm_ 32 ?_
  refine one_ (i := 6) (N := some 34) (bm 8 127) rfl rfl (one_of HT_.out (by kernel_rfl)) (by decide) (fun K hK => ?_)
  refine g_ Try.func75 #[.bool a0_0, .slice Ao30 tC9.length co30, .slice Ao31 tB6.length co31] ?_
  with_reducible refine (spec_l02Make.calls k a0_0 _ _ tC9 _ _ tB6 tC0 tF3 tF4 _ ?side1 ?side2 ?side3 ?side4 A8.out).mono ?_
  (case side1 => exact crC (Kd.R_reads' HOD6.out).2.2)
  (case side2 => exact (Kd.R_reads' HOD6.out).2.1)
  (case side3 => exact crC (Kd.R_reads' HOB3.out).2.2)
  (case side4 => exact (Kd.R_reads' HOB3.out).2.1)
  rintro e w32 ⟨vI5, vI6, rfl, ho0, ho1, hb⟩
  refine ⟨_, rfl, ?_⟩
  have HOG8 := lwR (nwR (nwR (nwR (nwR ho0 HOA7) HOB0) HOB3) HOD6) HB
  have HOG9 := lwR (nwR (nwR (nwR (nwR ho1 HOA7) HOB0) HOB3) HOD6) HB
  replace HOA7 := tldR HOA7 hb (Kd.R_base ho0) (Kd.R_base ho1)
  replace HOB0 := tldR HOB0 hb (Kd.R_base ho0) (Kd.R_base ho1)
  replace HOB3 := tldR HOB3 hb (Kd.R_base ho0) (Kd.R_base ho1)
  replace HOD6 := tldR HOD6 hb (Kd.R_base ho0) (Kd.R_base ho1)
  replace BKA1 := bkb BKA1 hb
  replace BKA3 := bkb BKA3 hb
  replace BKA0 := bkb BKA0 hb
  replace HB := bst HB hb
  (try clear hb)
  (try clear hb2)
  (try clear hk)
  (try clear hi)
  (try clear ho0)
  (try clear ho1)
  obtain ⟨Ao34, co34, eo34⟩ := Kd.R_slice HOG8.out
  (first | subst eo34 | (injection eo34 with f1_ f2_ f3_; have f4_ := f1_.symm; have f5_ := f3_.symm; clear f1_ f2_ f3_; subst f4_; subst f5_))
  obtain ⟨Ao36, co36, eo36⟩ := Kd.R_slice HOG9.out
  (first | subst eo36 | (injection eo36 with f1_ f2_ f3_; have f4_ := f1_.symm; have f5_ := f3_.symm; clear f1_ f2_ f3_; subst f4_; subst f5_))
  refine hK.out _ _ ⟨bce BKA1 0 _, bce BKA1 1 _, bce BKA1 2 _⟩ (fun hHeld => ?_)
  clear hK K
  refine nm_ 34 ?_
  refine one_ (i := 7) (N := none) (bm 8 255) rfl rfl (one_of HT_.out (by kernel_rfl)) (by decide) (fun K hK => ?_)
  have hs33 : w32.cell? ⟨gbA0, 0, none⟩ = some (.bool false) := bce BKA0 0 _
  have hfs33 := blk_frozen BKA0.out 0
  have hns33_0 := NBA1_A0.out
  have hns33_1 := NBA3_A0.out
  have hms33_0 := NBA0_A1.out
  have hms33_1 := NBA0_A3.out
  have hs35 : w32.cell? ⟨gbA0, 1, none⟩ = some (.slice none 0 0) := bce BKA0 1 _
  have hfs35 := blk_frozen BKA0.out 1
  have hns35_0 := NBA1_A0.out
  have hns35_1 := NBA3_A0.out
  have hms35_0 := NBA0_A1.out
  have hms35_1 := NBA0_A3.out
  have hs37 : w32.cell? ⟨gbA0, 2, none⟩ = some (.slice none 0 0) := bce BKA0 2 _
  have hfs37 := blk_frozen BKA0.out 2
  have hns37_0 := NBA1_A0.out
  have hns37_1 := NBA3_A0.out
  have hms37_0 := NBA0_A1.out
  have hms37_1 := NBA0_A3.out
  refine skip_ (w1 := ?_) (by rfl) rfl ?_ ?_
  rotate_left
  ·
   go_simp
   rfl
  refine hK.out _ _ ⟨((cell_far (p := ⟨gbA0, _, none⟩) NBA1_A0.out _).trans (((cell_far (p := ⟨gbA0, _, none⟩) NBA1_A0.out _).trans (((cell_far (p := ⟨gbA0, _, none⟩) NBA1_A0.out _).trans (hHeld.1)))))), ((cell_far (p := ⟨gbA0, _, none⟩) NBA1_A0.out _).trans (((cell_far (p := ⟨gbA0, _, none⟩) NBA1_A0.out _).trans (((cell_far (p := ⟨gbA0, _, none⟩) NBA1_A0.out _).trans (hHeld.2.1)))))), ((cell_far (p := ⟨gbA0, _, none⟩) NBA1_A0.out _).trans (((cell_far (p := ⟨gbA0, _, none⟩) NBA1_A0.out _).trans (((cell_far (p := ⟨gbA0, _, none⟩) NBA1_A0.out _).trans (hHeld.2.2))))))⟩ (fun hHeld => ?_)
  clear hK K
  refine done_ (done_of HT_.out (by kernel_rfl)) ?_
  try go_wp2
  refine bodyPost_ret (results_cell_row rfl _ _ gbA0 32 #[.bool tC0, .slice Ao34 tF3.length co34, .slice Ao36 tF4.length co36] (0, 0) _ rfl (bp3 BKA0 _ _ _) Try.underlying32 rfl (by kernel_rfl)) rfl ?_
  exact ⟨_, _, er_, (crN HOG8 BKA0 fun _ hk => hk.1.1.1.1.1), (crN HOG9 BKA0 fun _ hk => hk.1.1.1.1.1), blw HB⟩
 ·
  rw [if_neg c6] at H
  have c6b0 : (a0_0 == a1_0) = false := by simpa using c6
  (try (have c6b1 : decide (a0_0 = a1_0) = false := by simpa using c6))
  (try (have c6b2 : (a0_0 == a1_0) = false := by simpa using c6))
  (try (have c6b3 : ¬ (a0_0 = a1_0) := by simpa using c6))
  clear c6
  replace H := Option.bind_eq_some_iff.mp H
  obtain ⟨tC5, AF5, H⟩ := H
  replace H : (if tC5 ≥ 0 then ((spec_l01Sub.f k tB2 tB1).bind fun tC6 => ((spec_l02Make.f k a0_0 tC6 tB6).bind fun btB7 => (some (btB7.1, btB7.2.1, btB7.2.2)))) else ((spec_l01Sub.f k tB1 tB2).bind fun tC7 => ((spec_l02Make.f k a1_0 tC7 tB6).bind fun btB8 => (some (btB8.1, btB8.2.1, btB8.2.2))))) = some (r1, r2, r3) := H
  have A38 := Aside0.mk AF5
  clear AF5
  by_cases c39 : tC5 ≥ 0
  ·
   rw [if_pos c39] at H
   have c39b0 : decide (0 ≤ tC5) = true := decide_eq_true c39
   clear c39
   replace H := Option.bind_eq_some_iff.mp H
   obtain ⟨tC6, AH0, H⟩ := H
   replace H : ((spec_l02Make.f k a0_0 tC6 tB6).bind fun btB7 => (some (btB7.1, btB7.2.1, btB7.2.2))) = some (r1, r2, r3) := H
   have A40 := Aside0.mk AH0
   clear AH0
   replace H := Option.bind_eq_some_iff.mp H
   obtain ⟨⟨tB7, tF6, tF7⟩, AH1, H⟩ := H
   replace H : (some (tB7, tF6, tF7)) = some (r1, r2, r3) := H
   have A41 := Aside0.mk AH1
   clear AH1
   simp only [Option.some.injEq, Prod.mk.injEq] at H
   obtain ⟨rfl, rfl, rfl⟩ := H
   go_enter Try.func54, Try.ntmps54
   try go_wp2_with (first | ((with_reducible refine gate_dst (N := 2) rfl ?_); refine bx_ (N := 2) (cs := #[.bool a0_0, .slice A0_1 l0_1.length c0_1, .slice A0_2 l0_2.length c0_2]) (t := 32) ?_; intro gbA1 hg w42 hbox hb; have BKA1 := Aside0.mk (hbox); have GWA1 := geh hg HB; have GEA1 := geh hg HB; replace HB := bst HB hb; clear hb hbox hg) | ((with_reducible refine gate_dst (N := 3) rfl ?_); refine bx_ (N := 3) (cs := #[.bool a1_0, .slice A1_1 l1_1.length c1_1, .slice A1_2 l1_2.length c1_2]) (t := 32) ?_; intro gbA3 hg w43 hbox hb; have BKA3 := Aside0.mk (hbox); have GWA3 := geh hg HB; have GEA3 := geh hg HB; replace HB := bst HB hb; have NBA1_A3 := nlt hg BKA1; have NBA3_A1 := ngt hg BKA1; replace BKA1 := bkb BKA1 hb; clear hb hbox hg) | ((with_reducible refine gate_dst (N := 4) rfl ?_); refine bx_ (N := 4) (cs := #[.bool false, .slice none 0 0, .slice none 0 0]) (t := 32) ?_; intro gbA0 hg w44 hbox hb; have BKA0 := Aside0.mk (hbox); have GWA0 := geh hg HB; have GEA0 := geh hg HB; replace HB := bst HB hb; have NBA1_A0 := nlt hg BKA1; have NBA0_A1 := ngt hg BKA1; replace BKA1 := bkb BKA1 hb; have NBA3_A0 := nlt hg BKA3; have NBA0_A3 := ngt hg BKA3; replace BKA3 := bkb BKA3 hb; clear hb hbox hg; have hnb45 := NBA1_A3.out; have hnc45 := NBA3_A1.out; have hnb46 := NBA1_A0.out; have hnc46 := NBA0_A1.out; obtain ⟨hcz47_0, hcz47_1, hcz47_2, hfz47_0, hfz47_1, hfz47_2⟩ := bc3 BKA1; have hnb48 := NBA3_A0.out; have hnc48 := NBA0_A3.out; obtain ⟨hcz49_0, hcz49_1, hcz49_2, hfz49_0, hfz49_1, hfz49_2⟩ := bc3 BKA3) | ((with_reducible refine gate_callee (f := 74) rfl ?_); refine gL_ (some 12) Try.func74 #[.slice A0_1 l0_1.length c0_1, .slice A1_2 l1_2.length c1_2] ?_; (with_reducible refine (spec_l01Mul.calls k _ _ l0_1 _ _ l1_2 tB2 _ ?side1 ?side2 ?side3 ?side4 A3.out).mono ?_); (case side1 => exact crC (Kd.C_below HR0_1.out HB.out)); (case side2 => exact HC0_1.out); (case side3 => exact crC (Kd.C_below HR1_2.out HB.out)); (case side4 => exact HC1_2.out); rintro e w50 ⟨vG6, rfl, ho0, hb⟩; refine ⟨_, rfl, ?_⟩; have HOA7 := lwR ho0 HB; replace BKA1 := bkb BKA1 hb; replace BKA3 := bkb BKA3 hb; replace BKA0 := bkb BKA0 hb; replace HB := bst HB hb; (try clear hb); (try clear hb2); (try clear hk); (try clear hi); (try clear ho0); obtain ⟨hcz51_0, hcz51_1, hcz51_2, hfz51_0, hfz51_1, hfz51_2⟩ := bc3 BKA3; obtain ⟨hcz52_0, hcz52_1, hcz52_2, hfz52_0, hfz52_1, hfz52_2⟩ := bc3 BKA1) | ((with_reducible refine gate_callee (f := 74) rfl ?_); refine gL_ (some 17) Try.func74 #[.slice A1_1 l1_1.length c1_1, .slice A0_2 l0_2.length c0_2] ?_; (with_reducible refine (spec_l01Mul.calls k _ _ l1_1 _ _ l0_2 tB1 _ ?side1 ?side2 ?side3 ?side4 A4.out).mono ?_); (case side1 => exact crC (Kd.C_below HR1_1.out HB.out)); (case side2 => exact HC1_1.out); (case side3 => exact crC (Kd.C_below HR0_2.out HB.out)); (case side4 => exact HC0_2.out); rintro e w53 ⟨vG7, rfl, ho0, hb⟩; refine ⟨_, rfl, ?_⟩; have HOB0 := lwR (nwR ho0 HOA7) HB; replace HOA7 := eldR HOA7 (Kd.R_base ho0) hb; replace BKA1 := bkb BKA1 hb; replace BKA3 := bkb BKA3 hb; replace BKA0 := bkb BKA0 hb; replace HB := bst HB hb; (try clear hb); (try clear hb2); (try clear hk); (try clear hi); (try clear ho0); obtain ⟨hcz54_0, hcz54_1, hcz54_2, hfz54_0, hfz54_1, hfz54_2⟩ := bc3 BKA1; obtain ⟨hcz55_0, hcz55_1, hcz55_2, hfz55_0, hfz55_1, hfz55_2⟩ := bc3 BKA3) | ((with_reducible refine gate_callee (f := 74) rfl ?_); refine gL_ (some 22) Try.func74 #[.slice A0_2 l0_2.length c0_2, .slice A1_2 l1_2.length c1_2] ?_; (with_reducible refine (spec_l01Mul.calls k _ _ l0_2 _ _ l1_2 tB6 _ ?side1 ?side2 ?side3 ?side4 A5.out).mono ?_); (case side1 => exact crC (Kd.C_below HR0_2.out HB.out)); (case side2 => exact HC0_2.out); (case side3 => exact crC (Kd.C_below HR1_2.out HB.out)); (case side4 => exact HC1_2.out); rintro e w56 ⟨vD4, rfl, ho0, hb⟩; refine ⟨_, rfl, ?_⟩; have HOB3 := lwR (nwR (nwR ho0 HOA7) HOB0) HB; replace HOA7 := eldR HOA7 (Kd.R_base ho0) hb; replace HOB0 := eldR HOB0 (Kd.R_base ho0) hb; replace BKA1 := bkb BKA1 hb; replace BKA3 := bkb BKA3 hb; replace BKA0 := bkb BKA0 hb; replace HB := bst HB hb; (try clear hb); (try clear hb2); (try clear hk); (try clear hi); (try clear ho0); obtain ⟨hcz57_0, hcz57_1, hcz57_2, hfz57_0, hfz57_1, hfz57_2⟩ := bc3 BKA1; obtain ⟨hcz58_0, hcz58_1, hcz58_2, hfz58_0, hfz58_1, hfz58_2⟩ := bc3 BKA3; obtain ⟨Ao59, co59, eo59⟩ := Kd.R_slice HOA7.out; subst eo59; obtain ⟨Ao60, co60, eo60⟩ := Kd.R_slice HOB0.out; subst eo60) | ((with_reducible refine gate_callee (f := 40) rfl ?_); refine gL_ (some 37) Try.func40 #[.slice Ao59 tB2.length co59, .slice Ao60 tB1.length co60] ?_; (with_reducible refine (spec_l01Cmp.calls k _ _ tB2 _ _ tB1 tC5 _ ?side1 ?side2 ?side3 ?side4 A38.out).mono ?_); (case side1 => exact crC (Kd.R_reads' HOA7.out).2.2); (case side2 => exact (Kd.R_reads' HOA7.out).2.1); (case side3 => exact crC (Kd.R_reads' HOB0.out).2.2); (case side4 => exact (Kd.R_reads' HOB0.out).2.1); rintro e w' ⟨rfl, ⟨nd, rfl⟩⟩; refine ⟨_, rfl, ?_⟩; (try (rw [drewN_self w56]; generalize hq_ : World.drewN w56 _ = w56; replace HOA7 : Aside0 (Kd.R (Kd.int .i64) 3 w56 w.heap.size (fun k_ => nO k_ (.slice Ao60 tB1.length co60) ∧ nO k_ vD4) (.slice Ao59 tB2.length co59) tB2) := ⟨by rw [← hq_]; exact (crM HOA7 fun _ hk => ⟨hk.1.2, hk.2⟩)⟩; replace HOB0 : Aside0 (Kd.R (Kd.int .i64) 3 w56 w.heap.size (fun k_ => nO k_ (.slice Ao59 tB2.length co59) ∧ nO k_ vD4) (.slice Ao60 tB1.length co60) tB1) := ⟨by rw [← hq_]; exact (crM HOB0 fun _ hk => ⟨hk.1.2, hk.2⟩)⟩; replace HOB3 : Aside0 (Kd.R (Kd.int .i64) 3 w56 w.heap.size (fun k_ => nO k_ (.slice Ao59 tB2.length co59) ∧ nO k_ (.slice Ao60 tB1.length co60)) vD4 tB6) := ⟨by rw [← hq_]; exact (crM HOB3 fun _ hk => ⟨hk.1.2, hk.2⟩)⟩; replace BKA1 : Aside0 (w56.heap[gbA1]? = some (.cells #[.bool a0_0, .slice A0_1 l0_1.length c0_1, .slice A0_2 l0_2.length c0_2] 32 (0, 0))) := ⟨by rw [← hq_]; exact (crb BKA1)⟩; replace BKA3 : Aside0 (w56.heap[gbA3]? = some (.cells #[.bool a1_0, .slice A1_1 l1_1.length c1_1, .slice A1_2 l1_2.length c1_2] 32 (0, 0))) := ⟨by rw [← hq_]; exact (crb BKA3)⟩; replace BKA0 : Aside0 (w56.heap[gbA0]? = some (.cells #[.bool false, .slice none 0 0, .slice none 0 0] 32 (0, 0))) := ⟨by rw [← hq_]; exact (crb BKA0)⟩; replace HB : Aside0 (Below w.heap.size w w56) := ⟨by rw [← hq_]; exact (blw HB)⟩; clear hq_))))
   replace HOA7 := Aside0.mk (Kd.R_drew HOA7.out)
   replace HOB0 := Aside0.mk (Kd.R_drew HOB0.out)
   replace HOB3 := Aside0.mk (Kd.R_drew HOB3.out)
   replace BKA1 := Aside0.mk (blk_drew BKA1.out)
   replace BKA3 := Aside0.mk (blk_drew BKA3.out)
   replace BKA0 := Aside0.mk (blk_drew BKA0.out)
   replace HB := Aside0.mk (below_drew1 HB.out)
   refine start_ (n := 8) (S := fun w' => w'.cell? ⟨gbA1, 0, none⟩ = some (.bool a0_0) ∧ w'.cell? ⟨gbA1, 1, none⟩ = some (.slice A0_1 l0_1.length c0_1) ∧ w'.cell? ⟨gbA1, 2, none⟩ = some (.slice A0_2 l0_2.length c0_2)) (ds := []) (bm 8 0) (by kernel_rfl) rfl rfl ⟨bce BKA1 0 _, bce BKA1 1 _, bce BKA1 2 _⟩ (fun hHeld => ?_); refine with_tabW spec_l02Add.tab7 spec_l02Add.bits7 (fun HT_ HW_ => ?_)
   generalize w56.drew = w61 at HOA7 HOB0 HOB3 BKA1 BKA3 BKA0 HB hHeld ⊢
   refine pu_ 0 (some 39) (bm 8 1) HT_.out ?_
   refine pu_ 2 (some 41) (bm 8 5) HT_.out ?_
   refine pu_ 3 (some 42) (bm 8 13) HT_.out ?_
   refine pu_ 5 (some 44) (bm 8 45) HT_.out ?_
   refine tk_ 1 (some 40) (bm 8 47) HT_.out HW_.out hHeld ?_
   refine one_ (i := 4) (N := some 43) (bm 8 63) rfl rfl (one_of HT_.out (by kernel_rfl)) (by decide) (fun K hK => ?_)
   refine g_ Try.func77 #[.slice Ao59 tB2.length co59, .slice Ao60 tB1.length co60] ?_
   with_reducible refine (spec_l01Sub.calls k _ _ tB2 _ _ tB1 tC6 _ ?side1 ?side2 ?side3 ?side4 A40.out).mono ?_
   (case side1 => exact crC (Kd.R_reads' HOA7.out).2.2)
   (case side2 => exact (Kd.R_reads' HOA7.out).2.1)
   (case side3 => exact crC (Kd.R_reads' HOB0.out).2.2)
   (case side4 => exact (Kd.R_reads' HOB0.out).2.1)
   rintro e w62 ⟨vI7, rfl, ho0, hb⟩
   refine ⟨_, rfl, ?_⟩
   have HOD7 := lwR (nwR (nwR (nwR ho0 HOA7) HOB0) HOB3) HB
   replace HOA7 := eldR HOA7 (Kd.R_base ho0) hb
   replace HOB0 := eldR HOB0 (Kd.R_base ho0) hb
   replace HOB3 := eldR HOB3 (Kd.R_base ho0) hb
   replace BKA1 := bkb BKA1 hb
   replace BKA3 := bkb BKA3 hb
   replace BKA0 := bkb BKA0 hb
   replace HB := bst HB hb
   (try clear hb)
   (try clear hb2)
   (try clear hk)
   (try clear hi)
   (try clear ho0)
   obtain ⟨Ao63, co63, eo63⟩ := Kd.R_slice HOD7.out
   (first | subst eo63 | (injection eo63 with f1_ f2_ f3_; have f4_ := f1_.symm; have f5_ := f3_.symm; clear f1_ f2_ f3_; subst f4_; subst f5_))
   obtain ⟨Ao64, co64, eo64⟩ := Kd.R_slice HOB3.out
   (first | subst eo64 | (injection eo64 with f1_ f2_ f3_; have f4_ := f1_.symm; have f5_ := f3_.symm; clear f1_ f2_ f3_; subst f4_; subst f5_))
   refine hK.out _ _ ⟨bce BKA1 0 _, bce BKA1 1 _, bce BKA1 2 _⟩ (fun hHeld => ?_)
   clear hK K
   refine nm_ 43 ?_
   refine one_ (i := 6) (N := some 45) (bm 8 127) rfl rfl (one_of HT_.out (by kernel_rfl)) (by decide) (fun K hK => ?_)
   refine g_ Try.func75 #[.bool a0_0, .slice Ao63 tC6.length co63, .slice Ao64 tB6.length co64] ?_
   with_reducible refine (spec_l02Make.calls k a0_0 _ _ tC6 _ _ tB6 tB7 tF6 tF7 _ ?side1 ?side2 ?side3 ?side4 A41.out).mono ?_
   (case side1 => exact crC (Kd.R_reads' HOD7.out).2.2)
   (case side2 => exact (Kd.R_reads' HOD7.out).2.1)
   (case side3 => exact crC (Kd.R_reads' HOB3.out).2.2)
   (case side4 => exact (Kd.R_reads' HOB3.out).2.1)
   rintro e w65 ⟨vI8, vI9, rfl, ho0, ho1, hb⟩
   refine ⟨_, rfl, ?_⟩
   have HOH2 := lwR (nwR (nwR (nwR (nwR ho0 HOA7) HOB0) HOB3) HOD7) HB
   have HOH3 := lwR (nwR (nwR (nwR (nwR ho1 HOA7) HOB0) HOB3) HOD7) HB
   replace HOA7 := tldR HOA7 hb (Kd.R_base ho0) (Kd.R_base ho1)
   replace HOB0 := tldR HOB0 hb (Kd.R_base ho0) (Kd.R_base ho1)
   replace HOB3 := tldR HOB3 hb (Kd.R_base ho0) (Kd.R_base ho1)
   replace HOD7 := tldR HOD7 hb (Kd.R_base ho0) (Kd.R_base ho1)
   replace BKA1 := bkb BKA1 hb
   replace BKA3 := bkb BKA3 hb
   replace BKA0 := bkb BKA0 hb
   replace HB := bst HB hb
   (try clear hb)
   (try clear hb2)
   (try clear hk)
   (try clear hi)
   (try clear ho0)
   (try clear ho1)
   obtain ⟨Ao67, co67, eo67⟩ := Kd.R_slice HOH2.out
   (first | subst eo67 | (injection eo67 with f1_ f2_ f3_; have f4_ := f1_.symm; have f5_ := f3_.symm; clear f1_ f2_ f3_; subst f4_; subst f5_))
   obtain ⟨Ao69, co69, eo69⟩ := Kd.R_slice HOH3.out
   (first | subst eo69 | (injection eo69 with f1_ f2_ f3_; have f4_ := f1_.symm; have f5_ := f3_.symm; clear f1_ f2_ f3_; subst f4_; subst f5_))
   refine hK.out _ _ ⟨bce BKA1 0 _, bce BKA1 1 _, bce BKA1 2 _⟩ (fun hHeld => ?_)
   clear hK K
   refine nm_ 45 ?_
   refine one_ (i := 7) (N := none) (bm 8 255) rfl rfl (one_of HT_.out (by kernel_rfl)) (by decide) (fun K hK => ?_)
   have hs66 : w65.cell? ⟨gbA0, 0, none⟩ = some (.bool false) := bce BKA0 0 _
   have hfs66 := blk_frozen BKA0.out 0
   have hns66_0 := NBA1_A0.out
   have hns66_1 := NBA3_A0.out
   have hms66_0 := NBA0_A1.out
   have hms66_1 := NBA0_A3.out
   have hs68 : w65.cell? ⟨gbA0, 1, none⟩ = some (.slice none 0 0) := bce BKA0 1 _
   have hfs68 := blk_frozen BKA0.out 1
   have hns68_0 := NBA1_A0.out
   have hns68_1 := NBA3_A0.out
   have hms68_0 := NBA0_A1.out
   have hms68_1 := NBA0_A3.out
   have hs70 : w65.cell? ⟨gbA0, 2, none⟩ = some (.slice none 0 0) := bce BKA0 2 _
   have hfs70 := blk_frozen BKA0.out 2
   have hns70_0 := NBA1_A0.out
   have hns70_1 := NBA3_A0.out
   have hms70_0 := NBA0_A1.out
   have hms70_1 := NBA0_A3.out
   refine skip_ (w1 := ?_) (by rfl) rfl ?_ ?_
   rotate_left
   ·
    go_simp
    rfl
   refine hK.out _ _ ⟨((cell_far (p := ⟨gbA0, _, none⟩) NBA1_A0.out _).trans (((cell_far (p := ⟨gbA0, _, none⟩) NBA1_A0.out _).trans (((cell_far (p := ⟨gbA0, _, none⟩) NBA1_A0.out _).trans (hHeld.1)))))), ((cell_far (p := ⟨gbA0, _, none⟩) NBA1_A0.out _).trans (((cell_far (p := ⟨gbA0, _, none⟩) NBA1_A0.out _).trans (((cell_far (p := ⟨gbA0, _, none⟩) NBA1_A0.out _).trans (hHeld.2.1)))))), ((cell_far (p := ⟨gbA0, _, none⟩) NBA1_A0.out _).trans (((cell_far (p := ⟨gbA0, _, none⟩) NBA1_A0.out _).trans (((cell_far (p := ⟨gbA0, _, none⟩) NBA1_A0.out _).trans (hHeld.2.2))))))⟩ (fun hHeld => ?_)
   clear hK K
   refine done_ (done_of HT_.out (by kernel_rfl)) ?_
   try go_wp2
   refine bodyPost_ret (results_cell_row rfl _ _ gbA0 32 #[.bool tB7, .slice Ao67 tF6.length co67, .slice Ao69 tF7.length co69] (0, 0) _ rfl (bp3 BKA0 _ _ _) Try.underlying32 rfl (by kernel_rfl)) rfl ?_
   exact ⟨_, _, er_, (crN HOH2 BKA0 fun _ hk => hk.1.1.1.1.1), (crN HOH3 BKA0 fun _ hk => hk.1.1.1.1.1), blw HB⟩
  ·
   rw [if_neg c39] at H
   have c39b0 : decide (0 ≤ tC5) = false := decide_eq_false c39
   clear c39
   replace H := Option.bind_eq_some_iff.mp H
   obtain ⟨tC7, AH4, H⟩ := H
   replace H : ((spec_l02Make.f k a1_0 tC7 tB6).bind fun btB8 => (some (btB8.1, btB8.2.1, btB8.2.2))) = some (r1, r2, r3) := H
   have A71 := Aside0.mk AH4
   clear AH4
   replace H := Option.bind_eq_some_iff.mp H
   obtain ⟨⟨tB8, tF8, tF9⟩, AH5, H⟩ := H
   replace H : (some (tB8, tF8, tF9)) = some (r1, r2, r3) := H
   have A72 := Aside0.mk AH5
   clear AH5
   simp only [Option.some.injEq, Prod.mk.injEq] at H
   obtain ⟨rfl, rfl, rfl⟩ := H
   go_enter Try.func54, Try.ntmps54
   try go_wp2_with (first | ((with_reducible refine gate_dst (N := 2) rfl ?_); refine bx_ (N := 2) (cs := #[.bool a0_0, .slice A0_1 l0_1.length c0_1, .slice A0_2 l0_2.length c0_2]) (t := 32) ?_; intro gbA1 hg w73 hbox hb; have BKA1 := Aside0.mk (hbox); have GWA1 := geh hg HB; have GEA1 := geh hg HB; replace HB := bst HB hb; clear hb hbox hg) | ((with_reducible refine gate_dst (N := 3) rfl ?_); refine bx_ (N := 3) (cs := #[.bool a1_0, .slice A1_1 l1_1.length c1_1, .slice A1_2 l1_2.length c1_2]) (t := 32) ?_; intro gbA3 hg w74 hbox hb; have BKA3 := Aside0.mk (hbox); have GWA3 := geh hg HB; have GEA3 := geh hg HB; replace HB := bst HB hb; have NBA1_A3 := nlt hg BKA1; have NBA3_A1 := ngt hg BKA1; replace BKA1 := bkb BKA1 hb; clear hb hbox hg) | ((with_reducible refine gate_dst (N := 4) rfl ?_); refine bx_ (N := 4) (cs := #[.bool false, .slice none 0 0, .slice none 0 0]) (t := 32) ?_; intro gbA0 hg w75 hbox hb; have BKA0 := Aside0.mk (hbox); have GWA0 := geh hg HB; have GEA0 := geh hg HB; replace HB := bst HB hb; have NBA1_A0 := nlt hg BKA1; have NBA0_A1 := ngt hg BKA1; replace BKA1 := bkb BKA1 hb; have NBA3_A0 := nlt hg BKA3; have NBA0_A3 := ngt hg BKA3; replace BKA3 := bkb BKA3 hb; clear hb hbox hg; have hnb76 := NBA1_A3.out; have hnc76 := NBA3_A1.out; have hnb77 := NBA1_A0.out; have hnc77 := NBA0_A1.out; obtain ⟨hcz78_0, hcz78_1, hcz78_2, hfz78_0, hfz78_1, hfz78_2⟩ := bc3 BKA1; have hnb79 := NBA3_A0.out; have hnc79 := NBA0_A3.out; obtain ⟨hcz80_0, hcz80_1, hcz80_2, hfz80_0, hfz80_1, hfz80_2⟩ := bc3 BKA3) | ((with_reducible refine gate_callee (f := 74) rfl ?_); refine gL_ (some 12) Try.func74 #[.slice A0_1 l0_1.length c0_1, .slice A1_2 l1_2.length c1_2] ?_; (with_reducible refine (spec_l01Mul.calls k _ _ l0_1 _ _ l1_2 tB2 _ ?side1 ?side2 ?side3 ?side4 A3.out).mono ?_); (case side1 => exact crC (Kd.C_below HR0_1.out HB.out)); (case side2 => exact HC0_1.out); (case side3 => exact crC (Kd.C_below HR1_2.out HB.out)); (case side4 => exact HC1_2.out); rintro e w81 ⟨vG6, rfl, ho0, hb⟩; refine ⟨_, rfl, ?_⟩; have HOA7 := lwR ho0 HB; replace BKA1 := bkb BKA1 hb; replace BKA3 := bkb BKA3 hb; replace BKA0 := bkb BKA0 hb; replace HB := bst HB hb; (try clear hb); (try clear hb2); (try clear hk); (try clear hi); (try clear ho0); obtain ⟨hcz82_0, hcz82_1, hcz82_2, hfz82_0, hfz82_1, hfz82_2⟩ := bc3 BKA3; obtain ⟨hcz83_0, hcz83_1, hcz83_2, hfz83_0, hfz83_1, hfz83_2⟩ := bc3 BKA1) | ((with_reducible refine gate_callee (f := 74) rfl ?_); refine gL_ (some 17) Try.func74 #[.slice A1_1 l1_1.length c1_1, .slice A0_2 l0_2.length c0_2] ?_; (with_reducible refine (spec_l01Mul.calls k _ _ l1_1 _ _ l0_2 tB1 _ ?side1 ?side2 ?side3 ?side4 A4.out).mono ?_); (case side1 => exact crC (Kd.C_below HR1_1.out HB.out)); (case side2 => exact HC1_1.out); (case side3 => exact crC (Kd.C_below HR0_2.out HB.out)); (case side4 => exact HC0_2.out); rintro e w84 ⟨vG7, rfl, ho0, hb⟩; refine ⟨_, rfl, ?_⟩; have HOB0 := lwR (nwR ho0 HOA7) HB; replace HOA7 := eldR HOA7 (Kd.R_base ho0) hb; replace BKA1 := bkb BKA1 hb; replace BKA3 := bkb BKA3 hb; replace BKA0 := bkb BKA0 hb; replace HB := bst HB hb; (try clear hb); (try clear hb2); (try clear hk); (try clear hi); (try clear ho0); obtain ⟨hcz85_0, hcz85_1, hcz85_2, hfz85_0, hfz85_1, hfz85_2⟩ := bc3 BKA1; obtain ⟨hcz86_0, hcz86_1, hcz86_2, hfz86_0, hfz86_1, hfz86_2⟩ := bc3 BKA3) | ((with_reducible refine gate_callee (f := 74) rfl ?_); refine gL_ (some 22) Try.func74 #[.slice A0_2 l0_2.length c0_2, .slice A1_2 l1_2.length c1_2] ?_; (with_reducible refine (spec_l01Mul.calls k _ _ l0_2 _ _ l1_2 tB6 _ ?side1 ?side2 ?side3 ?side4 A5.out).mono ?_); (case side1 => exact crC (Kd.C_below HR0_2.out HB.out)); (case side2 => exact HC0_2.out); (case side3 => exact crC (Kd.C_below HR1_2.out HB.out)); (case side4 => exact HC1_2.out); rintro e w87 ⟨vD4, rfl, ho0, hb⟩; refine ⟨_, rfl, ?_⟩; have HOB3 := lwR (nwR (nwR ho0 HOA7) HOB0) HB; replace HOA7 := eldR HOA7 (Kd.R_base ho0) hb; replace HOB0 := eldR HOB0 (Kd.R_base ho0) hb; replace BKA1 := bkb BKA1 hb; replace BKA3 := bkb BKA3 hb; replace BKA0 := bkb BKA0 hb; replace HB := bst HB hb; (try clear hb); (try clear hb2); (try clear hk); (try clear hi); (try clear ho0); obtain ⟨hcz88_0, hcz88_1, hcz88_2, hfz88_0, hfz88_1, hfz88_2⟩ := bc3 BKA1; obtain ⟨hcz89_0, hcz89_1, hcz89_2, hfz89_0, hfz89_1, hfz89_2⟩ := bc3 BKA3; obtain ⟨Ao90, co90, eo90⟩ := Kd.R_slice HOA7.out; subst eo90; obtain ⟨Ao91, co91, eo91⟩ := Kd.R_slice HOB0.out; subst eo91) | ((with_reducible refine gate_callee (f := 40) rfl ?_); refine gL_ (some 37) Try.func40 #[.slice Ao90 tB2.length co90, .slice Ao91 tB1.length co91] ?_; (with_reducible refine (spec_l01Cmp.calls k _ _ tB2 _ _ tB1 tC5 _ ?side1 ?side2 ?side3 ?side4 A38.out).mono ?_); (case side1 => exact crC (Kd.R_reads' HOA7.out).2.2); (case side2 => exact (Kd.R_reads' HOA7.out).2.1); (case side3 => exact crC (Kd.R_reads' HOB0.out).2.2); (case side4 => exact (Kd.R_reads' HOB0.out).2.1); rintro e w' ⟨rfl, ⟨nd, rfl⟩⟩; refine ⟨_, rfl, ?_⟩; (try (rw [drewN_self w87]; generalize hq_ : World.drewN w87 _ = w87; replace HOA7 : Aside0 (Kd.R (Kd.int .i64) 3 w87 w.heap.size (fun k_ => nO k_ (.slice Ao91 tB1.length co91) ∧ nO k_ vD4) (.slice Ao90 tB2.length co90) tB2) := ⟨by rw [← hq_]; exact (crM HOA7 fun _ hk => ⟨hk.1.2, hk.2⟩)⟩; replace HOB0 : Aside0 (Kd.R (Kd.int .i64) 3 w87 w.heap.size (fun k_ => nO k_ (.slice Ao90 tB2.length co90) ∧ nO k_ vD4) (.slice Ao91 tB1.length co91) tB1) := ⟨by rw [← hq_]; exact (crM HOB0 fun _ hk => ⟨hk.1.2, hk.2⟩)⟩; replace HOB3 : Aside0 (Kd.R (Kd.int .i64) 3 w87 w.heap.size (fun k_ => nO k_ (.slice Ao90 tB2.length co90) ∧ nO k_ (.slice Ao91 tB1.length co91)) vD4 tB6) := ⟨by rw [← hq_]; exact (crM HOB3 fun _ hk => ⟨hk.1.2, hk.2⟩)⟩; replace BKA1 : Aside0 (w87.heap[gbA1]? = some (.cells #[.bool a0_0, .slice A0_1 l0_1.length c0_1, .slice A0_2 l0_2.length c0_2] 32 (0, 0))) := ⟨by rw [← hq_]; exact (crb BKA1)⟩; replace BKA3 : Aside0 (w87.heap[gbA3]? = some (.cells #[.bool a1_0, .slice A1_1 l1_1.length c1_1, .slice A1_2 l1_2.length c1_2] 32 (0, 0))) := ⟨by rw [← hq_]; exact (crb BKA3)⟩; replace BKA0 : Aside0 (w87.heap[gbA0]? = some (.cells #[.bool false, .slice none 0 0, .slice none 0 0] 32 (0, 0))) := ⟨by rw [← hq_]; exact (crb BKA0)⟩; replace HB : Aside0 (Below w.heap.size w w87) := ⟨by rw [← hq_]; exact (blw HB)⟩; clear hq_))))
   replace HOA7 := Aside0.mk (Kd.R_drew HOA7.out)
   replace HOB0 := Aside0.mk (Kd.R_drew HOB0.out)
   replace HOB3 := Aside0.mk (Kd.R_drew HOB3.out)
   replace BKA1 := Aside0.mk (blk_drew BKA1.out)
   replace BKA3 := Aside0.mk (blk_drew BKA3.out)
   replace BKA0 := Aside0.mk (blk_drew BKA0.out)
   replace HB := Aside0.mk (below_drew1 HB.out)
   refine start_ (n := 8) (S := fun w' => w'.cell? ⟨gbA3, 0, none⟩ = some (.bool a1_0) ∧ w'.cell? ⟨gbA3, 1, none⟩ = some (.slice A1_1 l1_1.length c1_1) ∧ w'.cell? ⟨gbA3, 2, none⟩ = some (.slice A1_2 l1_2.length c1_2)) (ds := []) (bm 8 0) (by kernel_rfl) rfl rfl ⟨bce BKA3 0 _, bce BKA3 1 _, bce BKA3 2 _⟩ (fun hHeld => ?_); refine with_tabW spec_l02Add.tab8 spec_l02Add.bits8 (fun HT_ HW_ => ?_)
   generalize w87.drew = w92 at HOA7 HOB0 HOB3 BKA1 BKA3 BKA0 HB hHeld ⊢
   refine pu_ 0 (some 46) (bm 8 1) HT_.out ?_
   refine pu_ 2 (some 48) (bm 8 5) HT_.out ?_
   refine pu_ 3 (some 49) (bm 8 13) HT_.out ?_
   refine pu_ 5 (some 51) (bm 8 45) HT_.out ?_
   refine tk_ 1 (some 47) (bm 8 47) HT_.out HW_.out hHeld ?_
   refine one_ (i := 4) (N := some 50) (bm 8 63) rfl rfl (one_of HT_.out (by kernel_rfl)) (by decide) (fun K hK => ?_)
   refine g_ Try.func77 #[.slice Ao91 tB1.length co91, .slice Ao90 tB2.length co90] ?_
   with_reducible refine (spec_l01Sub.calls k _ _ tB1 _ _ tB2 tC7 _ ?side1 ?side2 ?side3 ?side4 A71.out).mono ?_
   (case side1 => exact crC (Kd.R_reads' HOB0.out).2.2)
   (case side2 => exact (Kd.R_reads' HOB0.out).2.1)
   (case side3 => exact crC (Kd.R_reads' HOA7.out).2.2)
   (case side4 => exact (Kd.R_reads' HOA7.out).2.1)
   rintro e w93 ⟨vJ0, rfl, ho0, hb⟩
   refine ⟨_, rfl, ?_⟩
   have HOD8 := lwR (nwR (nwR (nwR ho0 HOA7) HOB0) HOB3) HB
   replace HOA7 := eldR HOA7 (Kd.R_base ho0) hb
   replace HOB0 := eldR HOB0 (Kd.R_base ho0) hb
   replace HOB3 := eldR HOB3 (Kd.R_base ho0) hb
   replace BKA1 := bkb BKA1 hb
   replace BKA3 := bkb BKA3 hb
   replace BKA0 := bkb BKA0 hb
   replace HB := bst HB hb
   (try clear hb)
   (try clear hb2)
   (try clear hk)
   (try clear hi)
   (try clear ho0)
   obtain ⟨Ao94, co94, eo94⟩ := Kd.R_slice HOD8.out
   (first | subst eo94 | (injection eo94 with f1_ f2_ f3_; have f4_ := f1_.symm; have f5_ := f3_.symm; clear f1_ f2_ f3_; subst f4_; subst f5_))
   obtain ⟨Ao95, co95, eo95⟩ := Kd.R_slice HOB3.out
   (first | subst eo95 | (injection eo95 with f1_ f2_ f3_; have f4_ := f1_.symm; have f5_ := f3_.symm; clear f1_ f2_ f3_; subst f4_; subst f5_))
   refine hK.out _ _ ⟨bce BKA3 0 _, bce BKA3 1 _, bce BKA3 2 _⟩ (fun hHeld => ?_)
   clear hK K
   refine nm_ 50 ?_
   refine one_ (i := 6) (N := some 52) (bm 8 127) rfl rfl (one_of HT_.out (by kernel_rfl)) (by decide) (fun K hK => ?_)
   refine g_ Try.func75 #[.bool a1_0, .slice Ao94 tC7.length co94, .slice Ao95 tB6.length co95] ?_
   with_reducible refine (spec_l02Make.calls k a1_0 _ _ tC7 _ _ tB6 tB8 tF8 tF9 _ ?side1 ?side2 ?side3 ?side4 A72.out).mono ?_
   (case side1 => exact crC (Kd.R_reads' HOD8.out).2.2)
   (case side2 => exact (Kd.R_reads' HOD8.out).2.1)
   (case side3 => exact crC (Kd.R_reads' HOB3.out).2.2)
   (case side4 => exact (Kd.R_reads' HOB3.out).2.1)
   rintro e w96 ⟨vJ1, vJ2, rfl, ho0, ho1, hb⟩
   refine ⟨_, rfl, ?_⟩
   have HOH6 := lwR (nwR (nwR (nwR (nwR ho0 HOA7) HOB0) HOB3) HOD8) HB
   have HOH7 := lwR (nwR (nwR (nwR (nwR ho1 HOA7) HOB0) HOB3) HOD8) HB
   replace HOA7 := tldR HOA7 hb (Kd.R_base ho0) (Kd.R_base ho1)
   replace HOB0 := tldR HOB0 hb (Kd.R_base ho0) (Kd.R_base ho1)
   replace HOB3 := tldR HOB3 hb (Kd.R_base ho0) (Kd.R_base ho1)
   replace HOD8 := tldR HOD8 hb (Kd.R_base ho0) (Kd.R_base ho1)
   replace BKA1 := bkb BKA1 hb
   replace BKA3 := bkb BKA3 hb
   replace BKA0 := bkb BKA0 hb
   replace HB := bst HB hb
   (try clear hb)
   (try clear hb2)
   (try clear hk)
   (try clear hi)
   (try clear ho0)
   (try clear ho1)
   obtain ⟨Ao98, co98, eo98⟩ := Kd.R_slice HOH6.out
   (first | subst eo98 | (injection eo98 with f1_ f2_ f3_; have f4_ := f1_.symm; have f5_ := f3_.symm; clear f1_ f2_ f3_; subst f4_; subst f5_))
   obtain ⟨AoE4, coE4, eoE4⟩ := Kd.R_slice HOH7.out
   (first | subst eoE4 | (injection eoE4 with f1_ f2_ f3_; have f4_ := f1_.symm; have f5_ := f3_.symm; clear f1_ f2_ f3_; subst f4_; subst f5_))
   refine hK.out _ _ ⟨bce BKA3 0 _, bce BKA3 1 _, bce BKA3 2 _⟩ (fun hHeld => ?_)
   clear hK K
   refine nm_ 52 ?_
   refine one_ (i := 7) (N := none) (bm 8 255) rfl rfl (one_of HT_.out (by kernel_rfl)) (by decide) (fun K hK => ?_)
   have hs97 : w96.cell? ⟨gbA0, 0, none⟩ = some (.bool false) := bce BKA0 0 _
   have hfs97 := blk_frozen BKA0.out 0
   have hns97_0 := NBA1_A0.out
   have hns97_1 := NBA3_A0.out
   have hms97_0 := NBA0_A1.out
   have hms97_1 := NBA0_A3.out
   have hs99 : w96.cell? ⟨gbA0, 1, none⟩ = some (.slice none 0 0) := bce BKA0 1 _
   have hfs99 := blk_frozen BKA0.out 1
   have hns99_0 := NBA1_A0.out
   have hns99_1 := NBA3_A0.out
   have hms99_0 := NBA0_A1.out
   have hms99_1 := NBA0_A3.out
   have hsE5 : w96.cell? ⟨gbA0, 2, none⟩ = some (.slice none 0 0) := bce BKA0 2 _
   have hfsE5 := blk_frozen BKA0.out 2
   have hnsE5_0 := NBA1_A0.out
   have hnsE5_1 := NBA3_A0.out
   have hmsE5_0 := NBA0_A1.out
   have hmsE5_1 := NBA0_A3.out
   refine skip_ (w1 := ?_) (by rfl) rfl ?_ ?_
   rotate_left
   ·
    go_simp
    rfl
   refine hK.out _ _ ⟨((cell_far (p := ⟨gbA0, _, none⟩) NBA3_A0.out _).trans (((cell_far (p := ⟨gbA0, _, none⟩) NBA3_A0.out _).trans (((cell_far (p := ⟨gbA0, _, none⟩) NBA3_A0.out _).trans (hHeld.1)))))), ((cell_far (p := ⟨gbA0, _, none⟩) NBA3_A0.out _).trans (((cell_far (p := ⟨gbA0, _, none⟩) NBA3_A0.out _).trans (((cell_far (p := ⟨gbA0, _, none⟩) NBA3_A0.out _).trans (hHeld.2.1)))))), ((cell_far (p := ⟨gbA0, _, none⟩) NBA3_A0.out _).trans (((cell_far (p := ⟨gbA0, _, none⟩) NBA3_A0.out _).trans (((cell_far (p := ⟨gbA0, _, none⟩) NBA3_A0.out _).trans (hHeld.2.2))))))⟩ (fun hHeld => ?_)
   clear hK K
   refine done_ (done_of HT_.out (by kernel_rfl)) ?_
   try go_wp2
   refine bodyPost_ret (results_cell_row rfl _ _ gbA0 32 #[.bool tB8, .slice Ao98 tF8.length co98, .slice AoE4 tF9.length coE4] (0, 0) _ rfl (bp3 BKA0 _ _ _) Try.underlying32 rfl (by kernel_rfl)) rfl ?_
   exact ⟨_, _, er_, (crN HOH6 BKA0 fun _ hk => hk.1.1.1.1.1), (crN HOH7 BKA0 fun _ hk => hk.1.1.1.1.1), blw HB⟩

theorem l02NegC_gt (l : List Int) : decide (0 < l.length) = decide ((l.length : Int) > 0) := by simp only [decide_eq_decide]; omega
def spec_l02NegC.f (a0_0 : Bool) (l0_1 : List Int) (l0_2 : List Int) : Option (Bool × List Int × List Int) := if a0_0 = true then (some (false, l0_1, l0_2)) else (some (decide ((l0_1.length : Int) > 0), l0_1, l0_2))
theorem spec_l02NegC.two {a : Bool} {x y : List Int} {r1 : Bool} {r2 r3 : List Int} (h : spec_l02NegC.f a x y = some (r1, r2, r3)) : x = r2 ∧ y = r3 := by
 unfold spec_l02NegC.f at h
 cases a <;> simp at h <;> exact ⟨h.2.1, h.2.2⟩
set_option maxHeartbeats 8000000 in
set_option maxRecDepth 100000 in
theorem spec_l02NegC.calls (a0_0 : Bool) (A0_1 : Option Addr) (c0_1 : Nat) (l0_1 : List Int) (A0_2 : Option Addr) (c0_2 : Nat) (l0_2 : List Int) (r1 : Bool) (w : World) (h : spec_l02NegC.f a0_0 l0_1 l0_2 = some (r1, l0_1, l0_2)) :
  Calls Try.prog 89 #[.agg #[.bool a0_0, .slice A0_1 l0_1.length c0_1, .slice A0_2 l0_2.length c0_2]] w fun e w' => e = .returned (.agg #[.bool r1, .slice A0_1 l0_1.length c0_1, .slice A0_2 l0_2.length c0_2]) ∧ Below w.heap.size w w' := by
 have hu24 := Try.underlying32
 have HB := Aside0.mk (Below.refl w.heap.size w)
 unfold spec_l02NegC.f at h
 cases a0_0 with
 | true =>
  rw [if_pos rfl] at h
  simp only [Option.some.injEq, Prod.mk.injEq, and_true] at h
  subst h
  go_enter Try.func89, Try.ntmps89
  go_wp2_with (first | ((with_reducible refine gate_dst (N := 1) rfl ?_); (try (refine gate_guard (by rfl) ?_; dsimp only)); refine bx_ (N := 1) (cs := #[.bool true, .slice A0_1 l0_1.length c0_1, .slice A0_2 l0_2.length c0_2]) (t := 32) ?_; intro gb1 hg w5 hbox hb; have BK1 := Aside0.mk (hbox); have GE1 := geh hg HB; replace HB := bst HB hb; clear hb hbox hg) | ((with_reducible refine gate_dst (N := 2) rfl ?_); (try (refine gate_guard (by rfl) ?_; dsimp only)); refine bx_ (N := 2) (cs := #[.bool false, .slice none 0 0, .slice none 0 0]) (t := 32) ?_; intro gb2 hg w6 hbox hb; have BK2 := Aside0.mk (hbox); have GE2 := geh hg HB; replace HB := bst HB hb; have NB1_2 := nlt hg BK1; have NB2_1 := ngt hg BK1; replace BK1 := bkb BK1 hb; clear hb hbox hg; have hnb7 := NB1_2.out; have hnc7 := NB2_1.out; obtain ⟨hcz8_0, hcz8_1, hcz8_2, hfz8_0, hfz8_1, hfz8_2⟩ := bc3 BK1; obtain ⟨hcz9_0, hcz9_1, hcz9_2, hfz9_0, hfz9_1, hfz9_2⟩ := bc3 BK2))
  refine bodyPost_ret (results_cell_row rfl _ _ gb2 32 #[.bool false, .slice A0_1 l0_1.length c0_1, .slice A0_2 l0_2.length c0_2] (0, 0) _ rfl (by (with_reducible repeat (first | refine blk_drewN ?_ _ | refine blk_drew ?_ | refine blk_alloc ?_ _)); refine blk_put (cs := #[.bool false, .slice A0_1 l0_1.length c0_1, .slice none 0 0]) ?_ 2 _ rfl; (with_reducible repeat (first | refine blk_drewN ?_ _ | refine blk_drew ?_ | refine blk_alloc ?_ _)); refine blk_put (cs := #[.bool false, .slice none 0 0, .slice none 0 0]) ?_ 1 _ rfl; (with_reducible repeat (first | refine blk_drewN ?_ _ | refine blk_drew ?_ | refine blk_alloc ?_ _)); refine blk_put (cs := #[.bool false, .slice none 0 0, .slice none 0 0]) ?_ 0 _ rfl; (with_reducible repeat (first | refine blk_drewN ?_ _ | refine blk_drew ?_ | refine blk_alloc ?_ _)); refine blk_far ?_ NB2_1.out _; (with_reducible repeat (first | refine blk_drewN ?_ _ | refine blk_drew ?_ | refine blk_alloc ?_ _)); exact BK2.out) Try.underlying32 rfl (by kernel_rfl)) rfl ?_
  exact ⟨by first | rfl | (simp only [l02NegC_gt]; done) | (simp only [l02NegC_gt]; rfl), blw HB⟩
 | false =>
  rw [if_neg (by decide)] at h
  simp only [Option.some.injEq, Prod.mk.injEq, and_true] at h
  subst h
  go_enter Try.func89, Try.ntmps89
  go_wp2_with (first | ((with_reducible refine gate_dst (N := 1) rfl ?_); (try (refine gate_guard (by rfl) ?_; dsimp only)); refine bx_ (N := 1) (cs := #[.bool false, .slice A0_1 l0_1.length c0_1, .slice A0_2 l0_2.length c0_2]) (t := 32) ?_; intro gb1 hg w5 hbox hb; have BK1 := Aside0.mk (hbox); have GE1 := geh hg HB; replace HB := bst HB hb; clear hb hbox hg) | ((with_reducible refine gate_dst (N := 2) rfl ?_); (try (refine gate_guard (by rfl) ?_; dsimp only)); refine bx_ (N := 2) (cs := #[.bool false, .slice none 0 0, .slice none 0 0]) (t := 32) ?_; intro gb2 hg w6 hbox hb; have BK2 := Aside0.mk (hbox); have GE2 := geh hg HB; replace HB := bst HB hb; have NB1_2 := nlt hg BK1; have NB2_1 := ngt hg BK1; replace BK1 := bkb BK1 hb; clear hb hbox hg; have hnb7 := NB1_2.out; have hnc7 := NB2_1.out; obtain ⟨hcz8_0, hcz8_1, hcz8_2, hfz8_0, hfz8_1, hfz8_2⟩ := bc3 BK1; obtain ⟨hcz9_0, hcz9_1, hcz9_2, hfz9_0, hfz9_1, hfz9_2⟩ := bc3 BK2))
  refine bodyPost_ret (results_cell_row rfl _ _ gb2 32 #[.bool (decide (0 < l0_1.length)), .slice A0_1 l0_1.length c0_1, .slice A0_2 l0_2.length c0_2] (0, 0) _ rfl (by (with_reducible repeat (first | refine blk_drewN ?_ _ | refine blk_drew ?_ | refine blk_alloc ?_ _)); refine blk_put (cs := #[.bool (decide (0 < l0_1.length)), .slice A0_1 l0_1.length c0_1, .slice none 0 0]) ?_ 2 _ rfl; (with_reducible repeat (first | refine blk_drewN ?_ _ | refine blk_drew ?_ | refine blk_alloc ?_ _)); refine blk_put (cs := #[.bool (decide (0 < l0_1.length)), .slice none 0 0, .slice none 0 0]) ?_ 1 _ rfl; (with_reducible repeat (first | refine blk_drewN ?_ _ | refine blk_drew ?_ | refine blk_alloc ?_ _)); refine blk_put (cs := #[.bool false, .slice none 0 0, .slice none 0 0]) ?_ 0 _ rfl; (with_reducible repeat (first | refine blk_drewN ?_ _ | refine blk_drew ?_ | refine blk_alloc ?_ _)); refine blk_far ?_ NB2_1.out _; (with_reducible repeat (first | refine blk_drewN ?_ _ | refine blk_drew ?_ | refine blk_alloc ?_ _)); exact BK2.out) Try.underlying32 rfl (by kernel_rfl)) rfl ?_
  exact ⟨by first | rfl | (simp only [l02NegC_gt]; done) | (simp only [l02NegC_gt]; rfl), blw HB⟩
def spec_l02SubC.f (k : Nat) (a0_0 : Bool) (l0_1 : List Int) (l0_2 : List Int) (a1_0 : Bool) (l1_1 : List Int) (l1_2 : List Int) : Option (Bool × List Int × List Int) := (spec_l02NegC.f a1_0 l1_1 l1_2).bind fun btC1 => ((spec_l02Add.f k a0_0 l0_1 l0_2 btC1.1 btC1.2.1 btC1.2.2).bind fun btB9 => (some (btB9.1, btB9.2.1, btB9.2.2)))
theorem spec_l02SubC.mono : ∀ a0 a1 a2 a3 a4 a5 k, LeO (spec_l02SubC.f k a0 a1 a2 a3 a4 a5) (spec_l02SubC.f (k + 1) a0 a1 a2 a3 a4 a5) := by
 intro a0 a1 a2 a3 a4 a5 k
 unfold spec_l02SubC.f
 repeat' first
   | (with_reducible exact spec_l02Add.mono _ _ _ _ _ _ _)
   | (with_reducible exact LeO.refl _)
   | (with_reducible exact LeO.none _)
   | (with_reducible refine LeO.ite ?_ ?_)
   | (with_reducible refine LeO.bind ?_ (fun _ => ?_))
   | exact spec_l02Add.mono _ _ _ _ _ _ _
   | exact LeO.none _
   | refine LeO.ite ?_ ?_
   | refine LeO.bind ?_ (fun _ => ?_)
set_option maxHeartbeats 8000000 in
set_option maxRecDepth 100000 in
theorem spec_l02SubC.calls (k : Nat) (a0_0 : Bool) (A0_1 : Option Addr) (c0_1 : Nat) (l0_1 : List Int) (A0_2 : Option Addr) (c0_2 : Nat) (l0_2 : List Int) (a1_0 : Bool) (A1_1 : Option Addr) (c1_1 : Nat) (l1_1 : List Int) (A1_2 : Option Addr) (c1_2 : Nat) (l1_2 : List Int) (r1 : Bool) (r2 : List Int) (r3 : List Int) (w : World) (hr0_1 : Kd.C (Kd.int .i64) w A0_1 l0_1.length l0_1) (hc0_1 : l0_1.length ≤ c0_1) (hr0_2 : Kd.C (Kd.int .i64) w A0_2 l0_2.length l0_2) (hc0_2 : l0_2.length ≤ c0_2) (hr1_1 : Kd.C (Kd.int .i64) w A1_1 l1_1.length l1_1) (hc1_1 : l1_1.length ≤ c1_1) (hr1_2 : Kd.C (Kd.int .i64) w A1_2 l1_2.length l1_2) (hc1_2 : l1_2.length ≤ c1_2) (h : spec_l02SubC.f k a0_0 l0_1 l0_2 a1_0 l1_1 l1_2 = some (r1, r2, r3)) :
  Calls Try.prog 70 #[.agg #[.bool a0_0, .slice A0_1 l0_1.length c0_1, .slice A0_2 l0_2.length c0_2], .agg #[.bool a1_0, .slice A1_1 l1_1.length c1_1, .slice A1_2 l1_2.length c1_2]] w fun e w' => ∃ v1_ v2_ : Value, e = .returned (.agg #[.bool r1, v1_, v2_]) ∧ Kd.R (Kd.int .i64) 3 w' w.heap.size (fun k_ => nO k_ v2_) v1_ r2 ∧ Kd.R (Kd.int .i64) 3 w' w.heap.size (fun k_ => nO k_ v1_) v2_ r3 ∧ Below w.heap.size w w' := by
 have hu24 := Try.underlying32
 have HR0_1 := Aside0.mk hr0_1
 have HC0_1 := Aside0.mk hc0_1
 clear hr0_1 hc0_1
 have HR0_2 := Aside0.mk hr0_2
 have HC0_2 := Aside0.mk hc0_2
 clear hr0_2 hc0_2
 have HR1_1 := Aside0.mk hr1_1
 have HC1_1 := Aside0.mk hc1_1
 clear hr1_1 hc1_1
 have HR1_2 := Aside0.mk hr1_2
 have HC1_2 := Aside0.mk hc1_2
 clear hr1_2 hc1_2
 have HB := Aside0.mk (Below.refl w.heap.size w)
 have H : ((spec_l02NegC.f a1_0 l1_1 l1_2).bind fun btC1 => ((spec_l02Add.f k a0_0 l0_1 l0_2 btC1.1 btC1.2.1 btC1.2.2).bind fun btB9 => (some (btB9.1, btB9.2.1, btB9.2.2)))) = some (r1, r2, r3) := h
 clear h
 replace H := Option.bind_eq_some_iff.mp H
 obtain ⟨⟨tC1, tG2, tG3⟩, A30, H⟩ := H
 replace H : ((spec_l02Add.f k a0_0 l0_1 l0_2 tC1 tG2 tG3).bind fun btB9 => (some (btB9.1, btB9.2.1, btB9.2.2))) = some (r1, r2, r3) := H
 obtain ⟨ez1, ez2⟩ := spec_l02NegC.two A30
 subst ez1
 subst ez2
 have A3 := Aside0.mk A30
 clear A30
 replace H := Option.bind_eq_some_iff.mp H
 obtain ⟨⟨tB9, tE1, tE2⟩, A40, H⟩ := H
 replace H : (some (tB9, tE1, tE2)) = some (r1, r2, r3) := H
 have A4 := Aside0.mk A40
 clear A40
 simp only [Option.some.injEq, Prod.mk.injEq] at H
 obtain ⟨rfl, rfl, rfl⟩ := H
 go_enter Try.func70, Try.ntmps70
 try go_wp2_with (first | ((with_reducible refine gate_dst (N := 2) rfl ?_); refine bx_ (N := 2) (cs := #[.bool a0_0, .slice A0_1 l0_1.length c0_1, .slice A0_2 l0_2.length c0_2]) (t := 32) ?_; intro gbA4 hg w5 hbox hb; have BKA4 := Aside0.mk (hbox); have GWA4 := geh hg HB; have GEA4 := geh hg HB; replace HB := bst HB hb; clear hb hbox hg) | ((with_reducible refine gate_dst (N := 3) rfl ?_); refine bx_ (N := 3) (cs := #[.bool a1_0, .slice A1_1 l1_1.length c1_1, .slice A1_2 l1_2.length c1_2]) (t := 32) ?_; intro gbA5 hg w6 hbox hb; have BKA5 := Aside0.mk (hbox); have GWA5 := geh hg HB; have GEA5 := geh hg HB; replace HB := bst HB hb; have NBA4_A5 := nlt hg BKA4; have NBA5_A4 := ngt hg BKA4; replace BKA4 := bkb BKA4 hb; clear hb hbox hg) | ((with_reducible refine gate_dst (N := 4) rfl ?_); refine bx_ (N := 4) (cs := #[.bool false, .slice none 0 0, .slice none 0 0]) (t := 32) ?_; intro gbA2 hg w7 hbox hb; have BKA2 := Aside0.mk (hbox); have GWA2 := geh hg HB; have GEA2 := geh hg HB; replace HB := bst HB hb; have NBA4_A2 := nlt hg BKA4; have NBA2_A4 := ngt hg BKA4; replace BKA4 := bkb BKA4 hb; have NBA5_A2 := nlt hg BKA5; have NBA2_A5 := ngt hg BKA5; replace BKA5 := bkb BKA5 hb; clear hb hbox hg))
 replace BKA4 := Aside0.mk (blk_drew BKA4.out)
 replace BKA5 := Aside0.mk (blk_drew BKA5.out)
 replace BKA2 := Aside0.mk (blk_drew BKA2.out)
 replace HB := Aside0.mk (below_drew1 HB.out)
 refine start_ (n := 5) (S := fun w' => w'.cell? ⟨gbA4, 0, none⟩ = some (.bool a0_0) ∧ w'.cell? ⟨gbA4, 1, none⟩ = some (.slice A0_1 l0_1.length c0_1) ∧ w'.cell? ⟨gbA4, 2, none⟩ = some (.slice A0_2 l0_2.length c0_2) ∧ w'.cell? ⟨gbA5, 0, none⟩ = some (.bool a1_0) ∧ w'.cell? ⟨gbA5, 1, none⟩ = some (.slice A1_1 l1_1.length c1_1) ∧ w'.cell? ⟨gbA5, 2, none⟩ = some (.slice A1_2 l1_2.length c1_2)) (ds := []) #[false, false, false, false, false] (by kernel_rfl) rfl rfl ⟨bce BKA4 0 _, bce BKA4 1 _, bce BKA4 2 _, bce BKA5 0 _, bce BKA5 1 _, bce BKA5 2 _⟩ (fun hHeld => ?_)
 generalize w7.drew = w8 at BKA4 BKA5 BKA2 HB hHeld ⊢
 refine take_ (i := 0) (N := some 5) (v := ?_) (a' := ?_) #[true, false, false, false, false] rfl rfl (by kernel_rfl) (fun _ _ _ h => h) (Or.inl ⟨by rfl, ?_⟩) hHeld ?_ ?_
 rotate_left
 ·
  rintro w' ⟨s0, s1, s2, s3, s4, s5⟩
  go_simp
  with_reducible rfl
 rotate_left
 ·
  simp only [Act.put, List.setIfInBounds_toArray, List.set_cons_zero, List.set_cons_succ, i64_w, i32_w]
  rfl
 refine take_ (i := 1) (N := some 6) (v := ?_) (a' := ?_) #[true, true, false, false, false] rfl rfl (by kernel_rfl) (fun _ _ _ h => h) (Or.inl ⟨by rfl, ?_⟩) hHeld ?_ ?_
 rotate_left
 ·
  rintro w' ⟨s0, s1, s2, s3, s4, s5⟩
  go_simp
  with_reducible rfl
 rotate_left
 ·
  simp only [Act.put, List.setIfInBounds_toArray, List.set_cons_zero, List.set_cons_succ, i64_w, i32_w]
  rfl
 refine one_ (i := 2) (N := some 7) #[true, true, true, false, false] rfl rfl (by kernel_rfl) (by decide) (fun K hK => ?_)
 refine g_ Try.func89 #[.agg #[.bool a1_0, .slice A1_1 l1_1.length c1_1, .slice A1_2 l1_2.length c1_2]] ?_
 with_reducible refine (spec_l02NegC.calls a1_0 _ _ l1_1 _ _ l1_2 tC1 _ A3.out).mono ?_
 rintro e w9 ⟨rfl, hb⟩
 refine ⟨_, rfl, ?_⟩
 replace BKA4 := bkb BKA4 hb
 replace BKA5 := bkb BKA5 hb
 replace BKA2 := bkb BKA2 hb
 replace HB := bst HB hb
 (try clear hb)
 refine hK.out _ _ ⟨bce BKA4 0 _, bce BKA4 1 _, bce BKA4 2 _, bce BKA5 0 _, bce BKA5 1 _, bce BKA5 2 _⟩ (fun hHeld => ?_)
 clear hK K
 refine nm_ 7 ?_
 refine one_ (i := 3) (N := some 8) #[true, true, true, true, false] rfl rfl (by kernel_rfl) (by decide) (fun K hK => ?_)
 refine g_ Try.func54 #[.agg #[.bool a0_0, .slice A0_1 l0_1.length c0_1, .slice A0_2 l0_2.length c0_2], .agg #[.bool tC1, .slice A1_1 l1_1.length c1_1, .slice A1_2 l1_2.length c1_2]] ?_
 with_reducible refine (spec_l02Add.calls k a0_0 _ _ l0_1 _ _ l0_2 tC1 _ _ l1_1 _ _ l1_2 tB9 tE1 tE2 _ ?side1 ?side2 ?side3 ?side4 ?side5 ?side6 ?side7 ?side8 A4.out).mono ?_
 (case side1 => exact crC (Kd.C_below HR0_1.out HB.out))
 (case side2 => exact HC0_1.out)
 (case side3 => exact crC (Kd.C_below HR0_2.out HB.out))
 (case side4 => exact HC0_2.out)
 (case side5 => exact crC (Kd.C_below HR1_1.out HB.out))
 (case side6 => exact HC1_1.out)
 (case side7 => exact crC (Kd.C_below HR1_2.out HB.out))
 (case side8 => exact HC1_2.out)
 rintro e w12 ⟨vI2, vI3, rfl, ho0, ho1, hb⟩
 refine ⟨_, rfl, ?_⟩
 have HOE6 := lwR ho0 HB
 have HOE7 := lwR ho1 HB
 replace BKA4 := bkb BKA4 hb
 replace BKA5 := bkb BKA5 hb
 replace BKA2 := bkb BKA2 hb
 replace HB := bst HB hb
 (try clear hb)
 (try clear hb2)
 (try clear hk)
 (try clear hi)
 (try clear ho0)
 (try clear ho1)
 obtain ⟨Ao14, co14, eo14⟩ := Kd.R_slice HOE6.out
 (first | subst eo14 | (injection eo14 with f1_ f2_ f3_; have f4_ := f1_.symm; have f5_ := f3_.symm; clear f1_ f2_ f3_; subst f4_; subst f5_))
 obtain ⟨Ao16, co16, eo16⟩ := Kd.R_slice HOE7.out
 (first | subst eo16 | (injection eo16 with f1_ f2_ f3_; have f4_ := f1_.symm; have f5_ := f3_.symm; clear f1_ f2_ f3_; subst f4_; subst f5_))
 refine hK.out _ _ ⟨bce BKA4 0 _, bce BKA4 1 _, bce BKA4 2 _, bce BKA5 0 _, bce BKA5 1 _, bce BKA5 2 _⟩ (fun hHeld => ?_)
 clear hK K
 refine nm_ 8 ?_
 refine one_ (i := 4) (N := none) #[true, true, true, true, true] rfl rfl (by kernel_rfl) (by decide) (fun K hK => ?_)
 have hs13 : w12.cell? ⟨gbA2, 0, none⟩ = some (.bool false) := bce BKA2 0 _
 have hfs13 := blk_frozen BKA2.out 0
 have hns13_0 := NBA4_A2.out
 have hns13_1 := NBA5_A2.out
 have hms13_0 := NBA2_A4.out
 have hms13_1 := NBA2_A5.out
 have hs15 : w12.cell? ⟨gbA2, 1, none⟩ = some (.slice none 0 0) := bce BKA2 1 _
 have hfs15 := blk_frozen BKA2.out 1
 have hns15_0 := NBA4_A2.out
 have hns15_1 := NBA5_A2.out
 have hms15_0 := NBA2_A4.out
 have hms15_1 := NBA2_A5.out
 have hs17 : w12.cell? ⟨gbA2, 2, none⟩ = some (.slice none 0 0) := bce BKA2 2 _
 have hfs17 := blk_frozen BKA2.out 2
 have hns17_0 := NBA4_A2.out
 have hns17_1 := NBA5_A2.out
 have hms17_0 := NBA2_A4.out
 have hms17_1 := NBA2_A5.out
 refine skip_ (w1 := ?_) (by rfl) rfl ?_ ?_
 rotate_left
 ·
  go_simp
  rfl
 refine hK.out _ _ ⟨((cell_far (p := ⟨gbA2, _, none⟩) NBA4_A2.out _).trans (((cell_far (p := ⟨gbA2, _, none⟩) NBA4_A2.out _).trans (((cell_far (p := ⟨gbA2, _, none⟩) NBA4_A2.out _).trans (hHeld.1)))))), ((cell_far (p := ⟨gbA2, _, none⟩) NBA4_A2.out _).trans (((cell_far (p := ⟨gbA2, _, none⟩) NBA4_A2.out _).trans (((cell_far (p := ⟨gbA2, _, none⟩) NBA4_A2.out _).trans (hHeld.2.1)))))), ((cell_far (p := ⟨gbA2, _, none⟩) NBA4_A2.out _).trans (((cell_far (p := ⟨gbA2, _, none⟩) NBA4_A2.out _).trans (((cell_far (p := ⟨gbA2, _, none⟩) NBA4_A2.out _).trans (hHeld.2.2.1)))))), ((cell_far (p := ⟨gbA2, _, none⟩) NBA5_A2.out _).trans (((cell_far (p := ⟨gbA2, _, none⟩) NBA5_A2.out _).trans (((cell_far (p := ⟨gbA2, _, none⟩) NBA5_A2.out _).trans (hHeld.2.2.2.1)))))), ((cell_far (p := ⟨gbA2, _, none⟩) NBA5_A2.out _).trans (((cell_far (p := ⟨gbA2, _, none⟩) NBA5_A2.out _).trans (((cell_far (p := ⟨gbA2, _, none⟩) NBA5_A2.out _).trans (hHeld.2.2.2.2.1)))))), ((cell_far (p := ⟨gbA2, _, none⟩) NBA5_A2.out _).trans (((cell_far (p := ⟨gbA2, _, none⟩) NBA5_A2.out _).trans (((cell_far (p := ⟨gbA2, _, none⟩) NBA5_A2.out _).trans (hHeld.2.2.2.2.2))))))⟩ (fun hHeld => ?_)
 clear hK K
 refine done_ (by kernel_rfl) ?_
 try go_wp2
 refine bodyPost_ret (results_cell_row rfl _ _ gbA2 32 #[.bool tB9, .slice Ao14 tE1.length co14, .slice Ao16 tE2.length co16] (0, 0) _ rfl (bp3 BKA2 _ _ _) Try.underlying32 rfl (by kernel_rfl)) rfl ?_
 exact ⟨_, _, er_, (crN HOE6 BKA2 fun _ hk => hk.1), (crN HOE7 BKA2 fun _ hk => hk.1), blw HB⟩
def spec_l02Cmp.f (k : Nat) (a0_0 : Bool) (l0_1 : List Int) (l0_2 : List Int) (a1_0 : Bool) (l1_1 : List Int) (l1_2 : List Int) : Option (Int) := (spec_l02SubC.f k a0_0 l0_1 l0_2 a1_0 l1_1 l1_2).bind fun btD2 => ((spec_l02Sign.f btD2.1 btD2.2.1 btD2.2.2).bind fun tD5 => (some tD5))
theorem spec_l02Cmp.mono : ∀ a0 a1 a2 a3 a4 a5 k, LeO (spec_l02Cmp.f k a0 a1 a2 a3 a4 a5) (spec_l02Cmp.f (k + 1) a0 a1 a2 a3 a4 a5) := by
 intro a0 a1 a2 a3 a4 a5 k
 unfold spec_l02Cmp.f
 repeat' first
   | (with_reducible exact spec_l02SubC.mono _ _ _ _ _ _ _)
   | (with_reducible exact LeO.refl _)
   | (with_reducible exact LeO.none _)
   | (with_reducible refine LeO.ite ?_ ?_)
   | (with_reducible refine LeO.bind ?_ (fun _ => ?_))
   | exact spec_l02SubC.mono _ _ _ _ _ _ _
   | exact LeO.none _
   | refine LeO.ite ?_ ?_
   | refine LeO.bind ?_ (fun _ => ?_)
set_option maxHeartbeats 8000000 in
set_option maxRecDepth 100000 in
theorem spec_l02Cmp.calls (k : Nat) (a0_0 : Bool) (A0_1 : Option Addr) (c0_1 : Nat) (l0_1 : List Int) (A0_2 : Option Addr) (c0_2 : Nat) (l0_2 : List Int) (a1_0 : Bool) (A1_1 : Option Addr) (c1_1 : Nat) (l1_1 : List Int) (A1_2 : Option Addr) (c1_2 : Nat) (l1_2 : List Int) (r : Int) (w : World) (hr0_1 : Kd.C (Kd.int .i64) w A0_1 l0_1.length l0_1) (hc0_1 : l0_1.length ≤ c0_1) (hr0_2 : Kd.C (Kd.int .i64) w A0_2 l0_2.length l0_2) (hc0_2 : l0_2.length ≤ c0_2) (hr1_1 : Kd.C (Kd.int .i64) w A1_1 l1_1.length l1_1) (hc1_1 : l1_1.length ≤ c1_1) (hr1_2 : Kd.C (Kd.int .i64) w A1_2 l1_2.length l1_2) (hc1_2 : l1_2.length ≤ c1_2) (h : spec_l02Cmp.f k a0_0 l0_1 l0_2 a1_0 l1_1 l1_2 = some r) :
  Calls Try.prog 47 #[.agg #[.bool a0_0, .slice A0_1 l0_1.length c0_1, .slice A0_2 l0_2.length c0_2], .agg #[.bool a1_0, .slice A1_1 l1_1.length c1_1, .slice A1_2 l1_2.length c1_2]] w fun e w' => e = .returned (.int .i64 r) ∧ Below w.heap.size w w' := by
 have hu24 := Try.underlying32
 have HR0_1 := Aside0.mk hr0_1
 have HC0_1 := Aside0.mk hc0_1
 clear hr0_1 hc0_1
 have HR0_2 := Aside0.mk hr0_2
 have HC0_2 := Aside0.mk hc0_2
 clear hr0_2 hc0_2
 have HR1_1 := Aside0.mk hr1_1
 have HC1_1 := Aside0.mk hc1_1
 clear hr1_1 hc1_1
 have HR1_2 := Aside0.mk hr1_2
 have HC1_2 := Aside0.mk hc1_2
 clear hr1_2 hc1_2
 have HB := Aside0.mk (Below.refl w.heap.size w)
 have H : ((spec_l02SubC.f k a0_0 l0_1 l0_2 a1_0 l1_1 l1_2).bind fun btD2 => ((spec_l02Sign.f btD2.1 btD2.2.1 btD2.2.2).bind fun tD5 => (some tD5))) = some r := h
 clear h
 replace H := Option.bind_eq_some_iff.mp H
 obtain ⟨⟨tD2, tF1, tF2⟩, A30, H⟩ := H
 replace H : ((spec_l02Sign.f tD2 tF1 tF2).bind fun tD5 => (some tD5)) = some r := H
 have A3 := Aside0.mk A30
 clear A30
 replace H := Option.bind_eq_some_iff.mp H
 obtain ⟨tD5, A40, H⟩ := H
 replace H : (some tD5) = some r := H
 have A4 := Aside0.mk A40
 clear A40
 obtain rfl := Option.some.inj H
 go_enter Try.func47, Try.ntmps47
 go_wp2_with (first | ((with_reducible refine gate_dst (N := 2) rfl ?_); refine bx_ (N := 2) (cs := #[.bool a0_0, .slice A0_1 l0_1.length c0_1, .slice A0_2 l0_2.length c0_2]) (t := 32) ?_; intro gbD0 hg w5 hbox hb; have BKD0 := Aside0.mk (hbox); have GED0 := geh hg HB; replace HB := bst HB hb; clear hb hbox hg) | ((with_reducible refine gate_dst (N := 3) rfl ?_); refine bx_ (N := 3) (cs := #[.bool a1_0, .slice A1_1 l1_1.length c1_1, .slice A1_2 l1_2.length c1_2]) (t := 32) ?_; intro gbD3 hg w6 hbox hb; have BKD3 := Aside0.mk (hbox); have GED3 := geh hg HB; replace HB := bst HB hb; have NBD0_D3 := nlt hg BKD0; have NBD3_D0 := ngt hg BKD0; replace BKD0 := bkb BKD0 hb; clear hb hbox hg; have hnb9 := NBD0_D3.out; have hnc9 := NBD3_D0.out; obtain ⟨hcz8_0, hcz8_1, hcz8_2, hfz8_0, hfz8_1, hfz8_2⟩ := bc3 BKD0; obtain ⟨hcz9_0, hcz9_1, hcz9_2, hfz9_0, hfz9_1, hfz9_2⟩ := bc3 BKD3) | ((with_reducible refine gate_callee (f := 70) rfl ?_); refine gL_ (some 7) Try.func70 #[.agg #[.bool a0_0, .slice A0_1 l0_1.length c0_1, .slice A0_2 l0_2.length c0_2], .agg #[.bool a1_0, .slice A1_1 l1_1.length c1_1, .slice A1_2 l1_2.length c1_2]] ?_; (with_reducible refine (spec_l02SubC.calls k a0_0 _ _ l0_1 _ _ l0_2 a1_0 _ _ l1_1 _ _ l1_2 tD2 tF1 tF2 _ ?side1 ?side2 ?side3 ?side4 ?side5 ?side6 ?side7 ?side8 A3.out).mono ?_); (case side1 => exact crC (Kd.C_below HR0_1.out HB.out)); (case side2 => exact HC0_1.out); (case side3 => exact crC (Kd.C_below HR0_2.out HB.out)); (case side4 => exact HC0_2.out); (case side5 => exact crC (Kd.C_below HR1_1.out HB.out)); (case side6 => exact HC1_1.out); (case side7 => exact crC (Kd.C_below HR1_2.out HB.out)); (case side8 => exact HC1_2.out); rintro e w12 ⟨vJ4, vJ5, rfl, ho0, ho1, hb⟩; refine ⟨_, rfl, ?_⟩; have HOG4 := lwR ho0 HB; have HOG5 := lwR ho1 HB; replace BKD0 := bkb BKD0 hb; replace BKD3 := bkb BKD3 hb; replace HB := bst HB hb; (try clear hb); (try clear ho0); (try clear ho1); obtain ⟨Ao13, co13, eo13⟩ := Kd.R_slice HOG4.out; subst eo13; obtain ⟨Ao14, co14, eo14⟩ := Kd.R_slice HOG5.out; subst eo14) | ((with_reducible refine gate_callee (f := 69) rfl ?_); refine gL_ (some 8) Try.func69 #[.agg #[.bool tD2, .slice Ao13 tF1.length co13, .slice Ao14 tF2.length co14]] ?_; (with_reducible refine (spec_l02Sign.calls tD2 _ _ tF1 _ _ tF2 tD5 _ ?side1 ?side2 ?side3 ?side4 A4.out).mono ?_); (case side1 => exact crC (Kd.R_reads' HOG4.out).2.2); (case side2 => exact (Kd.R_reads' HOG4.out).2.1); (case side3 => exact crC (Kd.R_reads' HOG5.out).2.2); (case side4 => exact (Kd.R_reads' HOG5.out).2.1); rintro e w15 ⟨rfl, hb⟩; refine ⟨_, rfl, ?_⟩; replace HB := bst HB hb; (try clear hb)))
 go_ret
 exact ⟨er_, blw HB⟩

end Go.Proofs.Ytegbmillbbcmfaa.Q
