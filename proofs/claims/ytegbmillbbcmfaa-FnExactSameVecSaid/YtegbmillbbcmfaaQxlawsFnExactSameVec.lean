-- written by a program of this claim's session (myprint.py) out of the translation; Lean checks it.
import Derived.Test.YtegbmillbbcmfaaQx0
import Derived.Test.YtegbmillbbcmfaaSq
import Derived.Test.YtegbmillbbcmfaaQxrsv
import Derived.Test.YtegbmillbbcmfaaQxrv
namespace Go.Proofs.Ytegbmillbbcmfaa.Q
open Go.RowKit Go.Proofs.YtegbmillbbcmfaaW.PrintWords Go.Proofs.YtegbmillbbcmfaaW.PrintLast Go.Proofs.YtegbmillbbcmfaaW.PrintMore
attribute [local go_sem] max2_int min2_int max_two min_two max_three min_three max_four min_four   -- for this text's walks alone
set_option linter.unusedVariables false
set_option linter.unusedSimpArgs false

def laws_FnExactSameVec.f (k : Nat) (l0 : List (S40)) (l1 : List (S40)) : Option (Bool) := (laws_szRatS.f k l0 1048576).bind fun tB1 => (if tB1 < 0 then (some true) else ((laws_szRatS.f k l1 tB1).bind fun tB5 => (if tB5 < 0 then (some true) else ((laws_toRatS.f k l0).bind fun tB4 => ((laws_toRatS.f k l1).bind fun tB3 => ((spec_SameVec.f k tB4 tB3).bind fun tA6 => ((laws_toRatS.f k l0).bind fun tA1 => ((laws_toRatS.f k l1).bind fun tA0 => ((impl_SameVec.f k tA1 tA0).bind fun tA4 => (if (tA4 != tA6) = true then (some false) else ((laws_toRatS.f k l0).bind fun tA7 => ((laws_eqRatS.f k tA1 tA7).bind fun tA8 => (if tA8 = true then ((laws_toRatS.f k l1).bind fun tA2 => ((laws_eqRatS.f k tA0 tA2).bind fun tA3 => (if tA3 = true then (some true) else (some false)))) else (some false))))))))))))))
theorem laws_FnExactSameVec.mono : ∀ a0 a1 k, LeO (laws_FnExactSameVec.f k a0 a1) (laws_FnExactSameVec.f (k + 1) a0 a1) := by
 intro a0 a1 k
 unfold laws_FnExactSameVec.f
 repeat' first
   | (with_reducible exact impl_SameVec.mono _ _ _)
   | (with_reducible exact laws_eqRatS.mono _ _ _)
   | (with_reducible exact laws_szRatS.mono _ _ _)
   | (with_reducible exact laws_toRatS.mono _ _)
   | (with_reducible exact spec_SameVec.mono _ _ _)
   | (with_reducible exact LeO.refl _)
   | (with_reducible exact LeO.none _)
   | (with_reducible refine LeO.ite ?_ ?_)
   | (with_reducible refine LeO.bind ?_ (fun _ => ?_))
   | exact impl_SameVec.mono _ _ _
   | exact laws_eqRatS.mono _ _ _
   | exact laws_szRatS.mono _ _ _
   | exact laws_toRatS.mono _ _
   | exact spec_SameVec.mono _ _ _
   | exact LeO.none _
   | refine LeO.ite ?_ ?_
   | refine LeO.bind ?_ (fun _ => ?_)
set_option maxHeartbeats 8000000 in
set_option maxRecDepth 100000 in
theorem laws_FnExactSameVec.calls (k : Nat) (A0 : Option Addr) (c0 : Nat) (l0 : List (S40)) (A1 : Option Addr) (c1 : Nat) (l1 : List (S40)) (r : Bool) (w : World) (hr0 : Kd.C k40 w A0 l0.length l0) (hc0 : l0.length ≤ c0) (hr1 : Kd.C k40 w A1 l1.length l1) (hc1 : l1.length ≤ c1) (h : laws_FnExactSameVec.f k l0 l1 = some r) (hr_ : r = true) :
  Calls Try.prog 4 #[.slice A0 l0.length c0, .slice A1 l1.length c1] w fun e w' => e = .returned (.bool r) ∧ Below w.heap.size w w' := by
 have HR0 := Aside0.mk hr0
 have HC0 := Aside0.mk hc0
 clear hr0 hc0
 have HR1 := Aside0.mk hr1
 have HC1 := Aside0.mk hc1
 clear hr1 hc1
 have HB := Aside0.mk (Below.refl w.heap.size w)
 have H : ((laws_szRatS.f k l0 1048576).bind fun tB1 => (if tB1 < 0 then (some true) else ((laws_szRatS.f k l1 tB1).bind fun tB5 => (if tB5 < 0 then (some true) else ((laws_toRatS.f k l0).bind fun tB4 => ((laws_toRatS.f k l1).bind fun tB3 => ((spec_SameVec.f k tB4 tB3).bind fun tA6 => ((laws_toRatS.f k l0).bind fun tA1 => ((laws_toRatS.f k l1).bind fun tA0 => ((impl_SameVec.f k tA1 tA0).bind fun tA4 => (if (tA4 != tA6) = true then (some false) else ((laws_toRatS.f k l0).bind fun tA7 => ((laws_eqRatS.f k tA1 tA7).bind fun tA8 => (if tA8 = true then ((laws_toRatS.f k l1).bind fun tA2 => ((laws_eqRatS.f k tA0 tA2).bind fun tA3 => (if tA3 = true then (some true) else (some false)))) else (some false))))))))))))))) = some r := h
 clear h
 replace H := Option.bind_eq_some_iff.mp H
 obtain ⟨tB1, A30, H⟩ := H
 replace H : (if tB1 < 0 then (some true) else ((laws_szRatS.f k l1 tB1).bind fun tB5 => (if tB5 < 0 then (some true) else ((laws_toRatS.f k l0).bind fun tB4 => ((laws_toRatS.f k l1).bind fun tB3 => ((spec_SameVec.f k tB4 tB3).bind fun tA6 => ((laws_toRatS.f k l0).bind fun tA1 => ((laws_toRatS.f k l1).bind fun tA0 => ((impl_SameVec.f k tA1 tA0).bind fun tA4 => (if (tA4 != tA6) = true then (some false) else ((laws_toRatS.f k l0).bind fun tA7 => ((laws_eqRatS.f k tA1 tA7).bind fun tA8 => (if tA8 = true then ((laws_toRatS.f k l1).bind fun tA2 => ((laws_eqRatS.f k tA0 tA2).bind fun tA3 => (if tA3 = true then (some true) else (some false)))) else (some false)))))))))))))) = some r := H
 have A3 := Aside0.mk A30
 clear A30
 by_cases c4 : tB1 < 0
 ·
  rw [if_pos c4] at H
  have c4b0 : decide (tB1 < 0) = true := decide_eq_true c4
  clear c4
  obtain rfl := Option.some.inj H
  go_enter Try.func4, Try.ntmps4
  go_wp2_with (first | ((with_reducible refine gate_callee (f := 7) rfl ?_); refine gL_ (some 12) Try.func7 #[.slice A0 l0.length c0, .int .i64 1048576] ?_; (with_reducible refine (laws_szRatS.calls k _ _ l0 1048576 tB1 _ ?side1 ?side2 A3.out).mono ?_); (case side1 => repeat (first | exact HR0.out | (with_reducible refine Kd.C_alloc ?_ _) | (with_reducible refine Kd.C_drewN ?_ _) | (with_reducible refine Kd.C_drew ?_))); (case side2 => exact HC0.out); rintro e w5 ⟨rfl, hb⟩; refine ⟨_, rfl, ?_⟩; replace HB := bst HB hb; (try clear hb); (try clear hb2); (try clear hk); (try clear hi)))
  go_ret
  exact ⟨er_, blw HB⟩
 ·
  rw [if_neg c4] at H
  have c4b0 : decide (tB1 < 0) = false := decide_eq_false c4
  clear c4
  replace H := Option.bind_eq_some_iff.mp H
  obtain ⟨tB5, A60, H⟩ := H
  replace H : (if tB5 < 0 then (some true) else ((laws_toRatS.f k l0).bind fun tB4 => ((laws_toRatS.f k l1).bind fun tB3 => ((spec_SameVec.f k tB4 tB3).bind fun tA6 => ((laws_toRatS.f k l0).bind fun tA1 => ((laws_toRatS.f k l1).bind fun tA0 => ((impl_SameVec.f k tA1 tA0).bind fun tA4 => (if (tA4 != tA6) = true then (some false) else ((laws_toRatS.f k l0).bind fun tA7 => ((laws_eqRatS.f k tA1 tA7).bind fun tA8 => (if tA8 = true then ((laws_toRatS.f k l1).bind fun tA2 => ((laws_eqRatS.f k tA0 tA2).bind fun tA3 => (if tA3 = true then (some true) else (some false)))) else (some false)))))))))))) = some r := H
  have A6 := Aside0.mk A60
  clear A60
  by_cases c7 : tB5 < 0
  ·
   rw [if_pos c7] at H
   have c7b0 : decide (tB5 < 0) = true := decide_eq_true c7
   clear c7
   obtain rfl := Option.some.inj H
   go_enter Try.func4, Try.ntmps4
   go_wp2_with (first | ((with_reducible refine gate_callee (f := 7) rfl ?_); refine gL_ (some 12) Try.func7 #[.slice A0 l0.length c0, .int .i64 1048576] ?_; (with_reducible refine (laws_szRatS.calls k _ _ l0 1048576 tB1 _ ?side1 ?side2 A3.out).mono ?_); (case side1 => repeat (first | exact HR0.out | (with_reducible refine Kd.C_alloc ?_ _) | (with_reducible refine Kd.C_drewN ?_ _) | (with_reducible refine Kd.C_drew ?_))); (case side2 => exact HC0.out); rintro e w8 ⟨rfl, hb⟩; refine ⟨_, rfl, ?_⟩; replace HB := bst HB hb; (try clear hb); (try clear hb2); (try clear hk); (try clear hi)) | ((with_reducible refine gate_callee (f := 7) rfl ?_); refine gL_ (some 17) Try.func7 #[.slice A1 l1.length c1, .int .i64 tB1] ?_; (with_reducible refine (laws_szRatS.calls k _ _ l1 tB1 tB5 _ ?side1 ?side2 A6.out).mono ?_); (case side1 => exact crC (Kd.C_below HR1.out HB.out)); (case side2 => exact HC1.out); rintro e w9 ⟨rfl, hb⟩; refine ⟨_, rfl, ?_⟩; replace HB := bst HB hb; (try clear hb); (try clear hb2); (try clear hk); (try clear hi)))
   go_ret
   exact ⟨er_, blw HB⟩
  ·
   rw [if_neg c7] at H
   have c7b0 : decide (tB5 < 0) = false := decide_eq_false c7
   clear c7
   replace H := Option.bind_eq_some_iff.mp H
   obtain ⟨tB4, AB8, H⟩ := H
   replace H : ((laws_toRatS.f k l1).bind fun tB3 => ((spec_SameVec.f k tB4 tB3).bind fun tA6 => ((laws_toRatS.f k l0).bind fun tA1 => ((laws_toRatS.f k l1).bind fun tA0 => ((impl_SameVec.f k tA1 tA0).bind fun tA4 => (if (tA4 != tA6) = true then (some false) else ((laws_toRatS.f k l0).bind fun tA7 => ((laws_eqRatS.f k tA1 tA7).bind fun tA8 => (if tA8 = true then ((laws_toRatS.f k l1).bind fun tA2 => ((laws_eqRatS.f k tA0 tA2).bind fun tA3 => (if tA3 = true then (some true) else (some false)))) else (some false)))))))))) = some r := H
   have A10 := Aside0.mk AB8
   clear AB8
   replace H := Option.bind_eq_some_iff.mp H
   obtain ⟨tB3, AB9, H⟩ := H
   replace H : ((spec_SameVec.f k tB4 tB3).bind fun tA6 => ((laws_toRatS.f k l0).bind fun tA1 => ((laws_toRatS.f k l1).bind fun tA0 => ((impl_SameVec.f k tA1 tA0).bind fun tA4 => (if (tA4 != tA6) = true then (some false) else ((laws_toRatS.f k l0).bind fun tA7 => ((laws_eqRatS.f k tA1 tA7).bind fun tA8 => (if tA8 = true then ((laws_toRatS.f k l1).bind fun tA2 => ((laws_eqRatS.f k tA0 tA2).bind fun tA3 => (if tA3 = true then (some true) else (some false)))) else (some false))))))))) = some r := H
   have A11 := Aside0.mk AB9
   clear AB9
   replace H := Option.bind_eq_some_iff.mp H
   obtain ⟨tA6, AC0, H⟩ := H
   replace H : ((laws_toRatS.f k l0).bind fun tA1 => ((laws_toRatS.f k l1).bind fun tA0 => ((impl_SameVec.f k tA1 tA0).bind fun tA4 => (if (tA4 != tA6) = true then (some false) else ((laws_toRatS.f k l0).bind fun tA7 => ((laws_eqRatS.f k tA1 tA7).bind fun tA8 => (if tA8 = true then ((laws_toRatS.f k l1).bind fun tA2 => ((laws_eqRatS.f k tA0 tA2).bind fun tA3 => (if tA3 = true then (some true) else (some false)))) else (some false)))))))) = some r := H
   have A12 := Aside0.mk AC0
   clear AC0
   replace H := Option.bind_eq_some_iff.mp H
   obtain ⟨tA1, AC1, H⟩ := H
   replace H : ((laws_toRatS.f k l1).bind fun tA0 => ((impl_SameVec.f k tA1 tA0).bind fun tA4 => (if (tA4 != tA6) = true then (some false) else ((laws_toRatS.f k l0).bind fun tA7 => ((laws_eqRatS.f k tA1 tA7).bind fun tA8 => (if tA8 = true then ((laws_toRatS.f k l1).bind fun tA2 => ((laws_eqRatS.f k tA0 tA2).bind fun tA3 => (if tA3 = true then (some true) else (some false)))) else (some false))))))) = some r := H
   have A13 := Aside0.mk AC1
   clear AC1
   replace H := Option.bind_eq_some_iff.mp H
   obtain ⟨tA0, AC2, H⟩ := H
   replace H : ((impl_SameVec.f k tA1 tA0).bind fun tA4 => (if (tA4 != tA6) = true then (some false) else ((laws_toRatS.f k l0).bind fun tA7 => ((laws_eqRatS.f k tA1 tA7).bind fun tA8 => (if tA8 = true then ((laws_toRatS.f k l1).bind fun tA2 => ((laws_eqRatS.f k tA0 tA2).bind fun tA3 => (if tA3 = true then (some true) else (some false)))) else (some false)))))) = some r := H
   have A14 := Aside0.mk AC2
   clear AC2
   replace H := Option.bind_eq_some_iff.mp H
   obtain ⟨tA4, AC3, H⟩ := H
   replace H : (if (tA4 != tA6) = true then (some false) else ((laws_toRatS.f k l0).bind fun tA7 => ((laws_eqRatS.f k tA1 tA7).bind fun tA8 => (if tA8 = true then ((laws_toRatS.f k l1).bind fun tA2 => ((laws_eqRatS.f k tA0 tA2).bind fun tA3 => (if tA3 = true then (some true) else (some false)))) else (some false))))) = some r := H
   have A15 := Aside0.mk AC3
   clear AC3
   by_cases c16 : (tA4 != tA6) = true
   ·
    rw [if_pos c16] at H
    have c16b0 : (tA4 != tA6) = true := c16
    (try (have c16b1 : decide (tA4 = tA6) = false := by simpa using c16))
    (try (have c16b2 : (tA4 == tA6) = false := by simpa using c16))
    (try (have c16b3 : ¬ (tA4 = tA6) := by simpa using c16))
    clear c16
    obtain rfl := Option.some.inj H
    exact absurd hr_ (by decide)
   ·
    rw [if_neg c16] at H
    have c16b0 : (tA4 != tA6) = false := by simpa using c16
    (try (have c16b1 : decide (tA4 = tA6) = true := by simpa using c16))
    (try (have c16b2 : (tA4 == tA6) = true := by simpa using c16))
    clear c16
    replace H := Option.bind_eq_some_iff.mp H
    obtain ⟨tA7, AC4, H⟩ := H
    replace H : ((laws_eqRatS.f k tA1 tA7).bind fun tA8 => (if tA8 = true then ((laws_toRatS.f k l1).bind fun tA2 => ((laws_eqRatS.f k tA0 tA2).bind fun tA3 => (if tA3 = true then (some true) else (some false)))) else (some false))) = some r := H
    have A29 := Aside0.mk AC4
    clear AC4
    replace H := Option.bind_eq_some_iff.mp H
    obtain ⟨tA8, AC5, H⟩ := H
    replace H : (if tA8 = true then ((laws_toRatS.f k l1).bind fun tA2 => ((laws_eqRatS.f k tA0 tA2).bind fun tA3 => (if tA3 = true then (some true) else (some false)))) else (some false)) = some r := H
    have A30 := Aside0.mk AC5
    clear AC5
    by_cases c31 : tA8 = true
    ·
     subst c31
     have H1 : ((laws_toRatS.f k l1).bind fun tA2 => ((laws_eqRatS.f k tA0 tA2).bind fun tA3 => (if tA3 = true then (some true) else (some false)))) = some r := by rw [if_pos rfl] at H; exact H
     clear H
     have H := H1
     clear H1
     replace H := Option.bind_eq_some_iff.mp H
     obtain ⟨tA2, AC6, H⟩ := H
     replace H : ((laws_eqRatS.f k tA0 tA2).bind fun tA3 => (if tA3 = true then (some true) else (some false))) = some r := H
     have A32 := Aside0.mk AC6
     clear AC6
     replace H := Option.bind_eq_some_iff.mp H
     obtain ⟨tA3, AC7, H⟩ := H
     replace H : (if tA3 = true then (some true) else (some false)) = some r := H
     have A33 := Aside0.mk AC7
     clear AC7
     by_cases c34 : tA3 = true
     ·
      subst c34
      have H1 : (some true) = some r := by rw [if_pos rfl] at H; exact H
      clear H
      have H := H1
      clear H1
      obtain rfl := Option.some.inj H
      go_enter Try.func4, Try.ntmps4
      go_wp2_with (first | ((with_reducible refine gate_callee (f := 7) rfl ?_); refine gL_ (some 12) Try.func7 #[.slice A0 l0.length c0, .int .i64 1048576] ?_; (with_reducible refine (laws_szRatS.calls k _ _ l0 1048576 tB1 _ ?side1 ?side2 A3.out).mono ?_); (case side1 => repeat (first | exact HR0.out | (with_reducible refine Kd.C_alloc ?_ _) | (with_reducible refine Kd.C_drewN ?_ _) | (with_reducible refine Kd.C_drew ?_))); (case side2 => exact HC0.out); rintro e w35 ⟨rfl, hb⟩; refine ⟨_, rfl, ?_⟩; replace HB := bst HB hb; (try clear hb); (try clear hb2); (try clear hk); (try clear hi)) | ((with_reducible refine gate_callee (f := 7) rfl ?_); refine gL_ (some 17) Try.func7 #[.slice A1 l1.length c1, .int .i64 tB1] ?_; (with_reducible refine (laws_szRatS.calls k _ _ l1 tB1 tB5 _ ?side1 ?side2 A6.out).mono ?_); (case side1 => exact crC (Kd.C_below HR1.out HB.out)); (case side2 => exact HC1.out); rintro e w36 ⟨rfl, hb⟩; refine ⟨_, rfl, ?_⟩; replace HB := bst HB hb; (try clear hb); (try clear hb2); (try clear hk); (try clear hi)) | ((with_reducible refine gate_callee (f := 9) rfl ?_); refine gL_ (some 21) Try.func9 #[.slice A0 l0.length c0] ?_; (with_reducible refine (laws_toRatS.calls k _ _ l0 tB4 _ ?side1 ?side2 A10.out).mono ?_); (case side1 => exact crC (Kd.C_below HR0.out HB.out)); (case side2 => exact HC0.out); rintro e w37 ⟨vC8, rfl, ho0, hb⟩; refine ⟨_, rfl, ?_⟩; have HOA5 := Aside0.mk (Kd.S_lower ho0 (bsz HB)); replace HB := bst HB hb; (try clear hb); (try clear hb2); (try clear hk); (try clear hi); (try clear ho0)) | ((with_reducible refine gate_callee (f := 9) rfl ?_); refine gL_ (some 23) Try.func9 #[.slice A1 l1.length c1] ?_; (with_reducible refine (laws_toRatS.calls k _ _ l1 tB3 _ ?side1 ?side2 A11.out).mono ?_); (case side1 => exact crC (Kd.C_below HR1.out HB.out)); (case side2 => exact HC1.out); rintro e w38 ⟨vC9, rfl, ho0, hb⟩; refine ⟨_, rfl, ?_⟩; have HOA9 := Aside0.mk (Kd.S_lower (Kd.S_new' ho0 (Kd.S_lt (by (with_reducible repeat (first | apply Kd.S_alloc | apply Kd.S_drewN | apply Kd.S_drew)); exact HOA5.out))) (bsz HB)); replace HOA5 := Aside0.mk (Kd.S_elder' (by (with_reducible repeat (first | apply Kd.S_alloc | apply Kd.S_drewN | apply Kd.S_drew)); exact HOA5.out) (Kd.S_base ho0) hb); replace HB := bst HB hb; (try clear hb); (try clear hb2); (try clear hk); (try clear hi); (try clear ho0); obtain ⟨Ao39, co39, eo39⟩ := Kd.S_slice HOA5.out; subst eo39; obtain ⟨Ao40, co40, eo40⟩ := Kd.S_slice HOA9.out; subst eo40) | ((with_reducible refine gate_callee (f := 12) rfl ?_); refine gL_ (some 24) Try.func12 #[.slice Ao39 tB4.length co39, .slice Ao40 tB3.length co40] ?_; (with_reducible refine (spec_SameVec.calls k _ _ tB4 _ _ tB3 tA6 _ ?side1 ?side2 ?side3 ?side4 A12.out).mono ?_); (case side1 => exact crC (Kd.S_reads' HOA5.out).2.2); (case side2 => exact (Kd.S_reads' HOA5.out).2.1); (case side3 => exact crC (Kd.S_reads' HOA9.out).2.2); (case side4 => exact (Kd.S_reads' HOA9.out).2.1); rintro e w41 ⟨rfl, hb⟩; refine ⟨_, rfl, ?_⟩; replace HOA5 := Aside0.mk (Kd.S_below (by (with_reducible repeat (first | apply Kd.S_alloc | apply Kd.S_drewN | apply Kd.S_drew)); exact HOA5.out) hb); replace HOA9 := Aside0.mk (Kd.S_below (by (with_reducible repeat (first | apply Kd.S_alloc | apply Kd.S_drewN | apply Kd.S_drew)); exact HOA9.out) hb); replace HB := bst HB hb; (try clear hb); (try clear hb2); (try clear hk); (try clear hi)) | ((with_reducible refine gate_callee (f := 9) rfl ?_); refine gL_ (some 26) Try.func9 #[.slice A0 l0.length c0] ?_; (with_reducible refine (laws_toRatS.calls k _ _ l0 tA1 _ ?side1 ?side2 A13.out).mono ?_); (case side1 => exact crC (Kd.C_below HR0.out HB.out)); (case side2 => exact HC0.out); rintro e w42 ⟨vD0, rfl, ho0, hb⟩; refine ⟨_, rfl, ?_⟩; have HOB0 := Aside0.mk (Kd.S_lower (Kd.S_new' (Kd.S_new' ho0 (Kd.S_lt (by (with_reducible repeat (first | apply Kd.S_alloc | apply Kd.S_drewN | apply Kd.S_drew)); exact HOA5.out))) (Kd.S_lt (by (with_reducible repeat (first | apply Kd.S_alloc | apply Kd.S_drewN | apply Kd.S_drew)); exact HOA9.out))) (bsz HB)); replace HOA5 := Aside0.mk (Kd.S_elder' (by (with_reducible repeat (first | apply Kd.S_alloc | apply Kd.S_drewN | apply Kd.S_drew)); exact HOA5.out) (Kd.S_base ho0) hb); replace HOA9 := Aside0.mk (Kd.S_elder' (by (with_reducible repeat (first | apply Kd.S_alloc | apply Kd.S_drewN | apply Kd.S_drew)); exact HOA9.out) (Kd.S_base ho0) hb); replace HB := bst HB hb; (try clear hb); (try clear hb2); (try clear hk); (try clear hi); (try clear ho0)) | ((with_reducible refine gate_callee (f := 9) rfl ?_); refine gL_ (some 28) Try.func9 #[.slice A1 l1.length c1] ?_; (with_reducible refine (laws_toRatS.calls k _ _ l1 tA0 _ ?side1 ?side2 A14.out).mono ?_); (case side1 => exact crC (Kd.C_below HR1.out HB.out)); (case side2 => exact HC1.out); rintro e w43 ⟨vD1, rfl, ho0, hb⟩; refine ⟨_, rfl, ?_⟩; have HOB2 := Aside0.mk (Kd.S_lower (Kd.S_new' (Kd.S_new' (Kd.S_new' ho0 (Kd.S_lt (by (with_reducible repeat (first | apply Kd.S_alloc | apply Kd.S_drewN | apply Kd.S_drew)); exact HOA5.out))) (Kd.S_lt (by (with_reducible repeat (first | apply Kd.S_alloc | apply Kd.S_drewN | apply Kd.S_drew)); exact HOA9.out))) (Kd.S_lt (by (with_reducible repeat (first | apply Kd.S_alloc | apply Kd.S_drewN | apply Kd.S_drew)); exact HOB0.out))) (bsz HB)); replace HOA5 := Aside0.mk (Kd.S_elder' (by (with_reducible repeat (first | apply Kd.S_alloc | apply Kd.S_drewN | apply Kd.S_drew)); exact HOA5.out) (Kd.S_base ho0) hb); replace HOA9 := Aside0.mk (Kd.S_elder' (by (with_reducible repeat (first | apply Kd.S_alloc | apply Kd.S_drewN | apply Kd.S_drew)); exact HOA9.out) (Kd.S_base ho0) hb); replace HOB0 := Aside0.mk (Kd.S_elder' (by (with_reducible repeat (first | apply Kd.S_alloc | apply Kd.S_drewN | apply Kd.S_drew)); exact HOB0.out) (Kd.S_base ho0) hb); replace HB := bst HB hb; (try clear hb); (try clear hb2); (try clear hk); (try clear hi); (try clear ho0); obtain ⟨Ao44, co44, eo44⟩ := Kd.S_slice HOB0.out; subst eo44; obtain ⟨Ao45, co45, eo45⟩ := Kd.S_slice HOB2.out; subst eo45) | ((with_reducible refine gate_callee (f := 13) rfl ?_); refine gL_ (some 31) Try.func13 #[.slice Ao44 tA1.length co44, .slice Ao45 tA0.length co45] ?_; (with_reducible refine (impl_SameVec.calls k _ _ tA1 _ _ tA0 tA4 _ ?side1 ?side2 ?side3 ?side4 A15.out).mono ?_); (case side1 => exact crC (Kd.S_reads' HOB0.out).2.2); (case side2 => exact (Kd.S_reads' HOB0.out).2.1); (case side3 => exact crC (Kd.S_reads' HOB2.out).2.2); (case side4 => exact (Kd.S_reads' HOB2.out).2.1); rintro e w46 ⟨rfl, hb⟩; refine ⟨_, rfl, ?_⟩; replace HOA5 := Aside0.mk (Kd.S_below (by (with_reducible repeat (first | apply Kd.S_alloc | apply Kd.S_drewN | apply Kd.S_drew)); exact HOA5.out) hb); replace HOA9 := Aside0.mk (Kd.S_below (by (with_reducible repeat (first | apply Kd.S_alloc | apply Kd.S_drewN | apply Kd.S_drew)); exact HOA9.out) hb); replace HOB0 := Aside0.mk (Kd.S_below (by (with_reducible repeat (first | apply Kd.S_alloc | apply Kd.S_drewN | apply Kd.S_drew)); exact HOB0.out) hb); replace HOB2 := Aside0.mk (Kd.S_below (by (with_reducible repeat (first | apply Kd.S_alloc | apply Kd.S_drewN | apply Kd.S_drew)); exact HOB2.out) hb); replace HB := bst HB hb; (try clear hb); (try clear hb2); (try clear hk); (try clear hi)) | ((with_reducible refine gate_callee (f := 9) rfl ?_); refine gL_ (some 37) Try.func9 #[.slice A0 l0.length c0] ?_; (with_reducible refine (laws_toRatS.calls k _ _ l0 tA7 _ ?side1 ?side2 A29.out).mono ?_); (case side1 => exact crC (Kd.C_below HR0.out HB.out)); (case side2 => exact HC0.out); rintro e w47 ⟨vD2, rfl, ho0, hb⟩; refine ⟨_, rfl, ?_⟩; have HOB6 := Aside0.mk (Kd.S_lower (Kd.S_new' (Kd.S_new' (Kd.S_new' (Kd.S_new' ho0 (Kd.S_lt (by (with_reducible repeat (first | apply Kd.S_alloc | apply Kd.S_drewN | apply Kd.S_drew)); exact HOA5.out))) (Kd.S_lt (by (with_reducible repeat (first | apply Kd.S_alloc | apply Kd.S_drewN | apply Kd.S_drew)); exact HOA9.out))) (Kd.S_lt (by (with_reducible repeat (first | apply Kd.S_alloc | apply Kd.S_drewN | apply Kd.S_drew)); exact HOB0.out))) (Kd.S_lt (by (with_reducible repeat (first | apply Kd.S_alloc | apply Kd.S_drewN | apply Kd.S_drew)); exact HOB2.out))) (bsz HB)); replace HOA5 := Aside0.mk (Kd.S_elder' (by (with_reducible repeat (first | apply Kd.S_alloc | apply Kd.S_drewN | apply Kd.S_drew)); exact HOA5.out) (Kd.S_base ho0) hb); replace HOA9 := Aside0.mk (Kd.S_elder' (by (with_reducible repeat (first | apply Kd.S_alloc | apply Kd.S_drewN | apply Kd.S_drew)); exact HOA9.out) (Kd.S_base ho0) hb); replace HOB0 := Aside0.mk (Kd.S_elder' (by (with_reducible repeat (first | apply Kd.S_alloc | apply Kd.S_drewN | apply Kd.S_drew)); exact HOB0.out) (Kd.S_base ho0) hb); replace HOB2 := Aside0.mk (Kd.S_elder' (by (with_reducible repeat (first | apply Kd.S_alloc | apply Kd.S_drewN | apply Kd.S_drew)); exact HOB2.out) (Kd.S_base ho0) hb); replace HB := bst HB hb; (try clear hb); (try clear hb2); (try clear hk); (try clear hi); (try clear ho0); obtain ⟨Ao48, co48, eo48⟩ := Kd.S_slice HOB6.out; subst eo48) | ((with_reducible refine gate_callee (f := 11) rfl ?_); refine gL_ (some 38) Try.func11 #[.slice Ao44 tA1.length co44, .slice Ao48 tA7.length co48] ?_; (with_reducible refine (laws_eqRatS.calls k _ _ tA1 _ _ tA7 true _ ?side1 ?side2 ?side3 ?side4 A30.out).mono ?_); (case side1 => exact crC (Kd.S_reads' HOB0.out).2.2); (case side2 => exact (Kd.S_reads' HOB0.out).2.1); (case side3 => exact crC (Kd.S_reads' HOB6.out).2.2); (case side4 => exact (Kd.S_reads' HOB6.out).2.1); rintro e w49 ⟨rfl, hb⟩; refine ⟨_, rfl, ?_⟩; replace HOA5 := Aside0.mk (Kd.S_below (by (with_reducible repeat (first | apply Kd.S_alloc | apply Kd.S_drewN | apply Kd.S_drew)); exact HOA5.out) hb); replace HOA9 := Aside0.mk (Kd.S_below (by (with_reducible repeat (first | apply Kd.S_alloc | apply Kd.S_drewN | apply Kd.S_drew)); exact HOA9.out) hb); replace HOB0 := Aside0.mk (Kd.S_below (by (with_reducible repeat (first | apply Kd.S_alloc | apply Kd.S_drewN | apply Kd.S_drew)); exact HOB0.out) hb); replace HOB2 := Aside0.mk (Kd.S_below (by (with_reducible repeat (first | apply Kd.S_alloc | apply Kd.S_drewN | apply Kd.S_drew)); exact HOB2.out) hb); replace HOB6 := Aside0.mk (Kd.S_below (by (with_reducible repeat (first | apply Kd.S_alloc | apply Kd.S_drewN | apply Kd.S_drew)); exact HOB6.out) hb); replace HB := bst HB hb; (try clear hb); (try clear hb2); (try clear hk); (try clear hi)) | ((with_reducible refine gate_callee (f := 9) rfl ?_); refine gL_ (some 42) Try.func9 #[.slice A1 l1.length c1] ?_; (with_reducible refine (laws_toRatS.calls k _ _ l1 tA2 _ ?side1 ?side2 A32.out).mono ?_); (case side1 => exact crC (Kd.C_below HR1.out HB.out)); (case side2 => exact HC1.out); rintro e w50 ⟨vD3, rfl, ho0, hb⟩; refine ⟨_, rfl, ?_⟩; have HOB7 := Aside0.mk (Kd.S_lower (Kd.S_new' (Kd.S_new' (Kd.S_new' (Kd.S_new' (Kd.S_new' ho0 (Kd.S_lt (by (with_reducible repeat (first | apply Kd.S_alloc | apply Kd.S_drewN | apply Kd.S_drew)); exact HOA5.out))) (Kd.S_lt (by (with_reducible repeat (first | apply Kd.S_alloc | apply Kd.S_drewN | apply Kd.S_drew)); exact HOA9.out))) (Kd.S_lt (by (with_reducible repeat (first | apply Kd.S_alloc | apply Kd.S_drewN | apply Kd.S_drew)); exact HOB0.out))) (Kd.S_lt (by (with_reducible repeat (first | apply Kd.S_alloc | apply Kd.S_drewN | apply Kd.S_drew)); exact HOB2.out))) (Kd.S_lt (by (with_reducible repeat (first | apply Kd.S_alloc | apply Kd.S_drewN | apply Kd.S_drew)); exact HOB6.out))) (bsz HB)); replace HOA5 := Aside0.mk (Kd.S_elder' (by (with_reducible repeat (first | apply Kd.S_alloc | apply Kd.S_drewN | apply Kd.S_drew)); exact HOA5.out) (Kd.S_base ho0) hb); replace HOA9 := Aside0.mk (Kd.S_elder' (by (with_reducible repeat (first | apply Kd.S_alloc | apply Kd.S_drewN | apply Kd.S_drew)); exact HOA9.out) (Kd.S_base ho0) hb); replace HOB0 := Aside0.mk (Kd.S_elder' (by (with_reducible repeat (first | apply Kd.S_alloc | apply Kd.S_drewN | apply Kd.S_drew)); exact HOB0.out) (Kd.S_base ho0) hb); replace HOB2 := Aside0.mk (Kd.S_elder' (by (with_reducible repeat (first | apply Kd.S_alloc | apply Kd.S_drewN | apply Kd.S_drew)); exact HOB2.out) (Kd.S_base ho0) hb); replace HOB6 := Aside0.mk (Kd.S_elder' (by (with_reducible repeat (first | apply Kd.S_alloc | apply Kd.S_drewN | apply Kd.S_drew)); exact HOB6.out) (Kd.S_base ho0) hb); replace HB := bst HB hb; (try clear hb); (try clear hb2); (try clear hk); (try clear hi); (try clear ho0); obtain ⟨Ao51, co51, eo51⟩ := Kd.S_slice HOB7.out; subst eo51) | ((with_reducible refine gate_callee (f := 11) rfl ?_); refine gL_ (some 43) Try.func11 #[.slice Ao45 tA0.length co45, .slice Ao51 tA2.length co51] ?_; (with_reducible refine (laws_eqRatS.calls k _ _ tA0 _ _ tA2 true _ ?side1 ?side2 ?side3 ?side4 A33.out).mono ?_); (case side1 => exact crC (Kd.S_reads' HOB2.out).2.2); (case side2 => exact (Kd.S_reads' HOB2.out).2.1); (case side3 => exact crC (Kd.S_reads' HOB7.out).2.2); (case side4 => exact (Kd.S_reads' HOB7.out).2.1); rintro e w52 ⟨rfl, hb⟩; refine ⟨_, rfl, ?_⟩; replace HOA5 := Aside0.mk (Kd.S_below (by (with_reducible repeat (first | apply Kd.S_alloc | apply Kd.S_drewN | apply Kd.S_drew)); exact HOA5.out) hb); replace HOA9 := Aside0.mk (Kd.S_below (by (with_reducible repeat (first | apply Kd.S_alloc | apply Kd.S_drewN | apply Kd.S_drew)); exact HOA9.out) hb); replace HOB0 := Aside0.mk (Kd.S_below (by (with_reducible repeat (first | apply Kd.S_alloc | apply Kd.S_drewN | apply Kd.S_drew)); exact HOB0.out) hb); replace HOB2 := Aside0.mk (Kd.S_below (by (with_reducible repeat (first | apply Kd.S_alloc | apply Kd.S_drewN | apply Kd.S_drew)); exact HOB2.out) hb); replace HOB6 := Aside0.mk (Kd.S_below (by (with_reducible repeat (first | apply Kd.S_alloc | apply Kd.S_drewN | apply Kd.S_drew)); exact HOB6.out) hb); replace HOB7 := Aside0.mk (Kd.S_below (by (with_reducible repeat (first | apply Kd.S_alloc | apply Kd.S_drewN | apply Kd.S_drew)); exact HOB7.out) hb); replace HB := bst HB hb; (try clear hb); (try clear hb2); (try clear hk); (try clear hi)))
      go_ret
      exact ⟨er_, blw HB⟩
     ·
      replace c34 := Bool.eq_false_iff.mpr c34
      subst c34
      have H1 : (some false) = some r := by rw [if_neg (show ¬ (false = true) by decide)] at H; exact H
      clear H
      have H := H1
      clear H1
      obtain rfl := Option.some.inj H
      exact absurd hr_ (by decide)
    ·
     replace c31 := Bool.eq_false_iff.mpr c31
     subst c31
     have H1 : (some false) = some r := by rw [if_neg (show ¬ (false = true) by decide)] at H; exact H
     clear H
     have H := H1
     clear H1
     obtain rfl := Option.some.inj H
     exact absurd hr_ (by decide)

/-- THE ONE PURE STATEMENT of laws_FnExactSameVec: yours. -/
def laws_FnExactSameVec.Pure : Prop := ∀ (l0 : List (S40)) (l1 : List (S40)), (l0.length ≤ maxLen ∧ ∀ y0_ ∈ l0, (True ∧ (y0_.f1.length ≤ maxLen ∧ ∀ y1_ ∈ y0_.f1, (Lit.int .i64 y1_).wf = true) ∧ (y0_.f2.length ≤ maxLen ∧ ∀ y1_ ∈ y0_.f2, (Lit.int .i64 y1_).wf = true))) → (l1.length ≤ maxLen ∧ ∀ y0_ ∈ l1, (True ∧ (y0_.f1.length ≤ maxLen ∧ ∀ y1_ ∈ y0_.f1, (Lit.int .i64 y1_).wf = true) ∧ (y0_.f2.length ≤ maxLen ∧ ∀ y1_ ∈ y0_.f2, (Lit.int .i64 y1_).wf = true))) → ∃ k, laws_FnExactSameVec.f k l0 l1 = some true

end Go.Proofs.Ytegbmillbbcmfaa.Q
