-- written by a program of this claim's session (myprint.py) out of the translation; Lean checks it.
import Derived.Test.YtegbmillbbcmfaaQx0
import Derived.Test.YtegbmillbbcmfaaSq
import Derived.Test.YtegbmillbbcmfaaQxrv
import Derived.Test.YtegbmillbbcmfaaQxrim
namespace Go.Proofs.Ytegbmillbbcmfaa.Q
open Go.RowKit Go.Proofs.YtegbmillbbcmfaaW.PrintWords Go.Proofs.YtegbmillbbcmfaaW.PrintLast Go.Proofs.YtegbmillbbcmfaaW.PrintMore
attribute [local go_sem] max2_int min2_int max_two min_two max_three min_three max_four min_four   -- for this text's walks alone
set_option linter.unusedVariables false
set_option linter.unusedSimpArgs false

/-! ### laws_FnExactVecOK: function 3 -/
def laws_FnExactVecOK.f (k : Nat) (l0 : List (S40)) : Option (Bool) := (laws_szRatS.f k l0 1048576).bind fun t246 => (if t246 < 0 then (some true) else ((laws_toRatS.f k l0).bind fun t247 => ((spec_VecOK.f k t247).bind fun t250 => ((laws_toRatS.f k l0).bind fun t251 => ((impl_VecOK.f k t251).bind fun t254 => (if (t254 != t250) = true then (some false) else ((laws_toRatS.f k l0).bind fun t255 => ((laws_eqRatS.f k t251 t255).bind fun t258 => (if t258 = true then (some true) else (some false))))))))))
theorem laws_FnExactVecOK.mono : ∀ a0 k, LeO (laws_FnExactVecOK.f k a0) (laws_FnExactVecOK.f (k + 1) a0) := by
 intro a0 k
 unfold laws_FnExactVecOK.f
 repeat' first
   | (with_reducible exact impl_VecOK.mono _ _)
   | (with_reducible exact laws_eqRatS.mono _ _ _)
   | (with_reducible exact laws_szRatS.mono _ _ _)
   | (with_reducible exact laws_toRatS.mono _ _)
   | (with_reducible exact spec_VecOK.mono _ _)
   | (with_reducible exact LeO.refl _)
   | (with_reducible exact LeO.none _)
   | (with_reducible refine LeO.ite ?_ ?_)
   | (with_reducible refine LeO.bind ?_ (fun _ => ?_))
   | exact impl_VecOK.mono _ _
   | exact laws_eqRatS.mono _ _ _
   | exact laws_szRatS.mono _ _ _
   | exact laws_toRatS.mono _ _
   | exact spec_VecOK.mono _ _
   | exact LeO.none _
   | refine LeO.ite ?_ ?_
   | refine LeO.bind ?_ (fun _ => ?_)
set_option maxHeartbeats 8000000 in
set_option maxRecDepth 100000 in
theorem laws_FnExactVecOK.calls (k : Nat) (A0 : Option Addr) (c0 : Nat) (l0 : List (S40)) (r : Bool) (w : World) (hr0 : Kd.C k40 w A0 l0.length l0) (hc0 : l0.length ≤ c0) (h : laws_FnExactVecOK.f k l0 = some r) (hr_ : r = true) :
  Calls Try.prog 3 #[.slice A0 l0.length c0] w fun e w' => e = .returned (.bool r) ∧ Below w.heap.size w w' := by
 have HR0 := Aside0.mk hr0
 have HC0 := Aside0.mk hc0
 clear hr0 hc0
 have HB := Aside0.mk (Below.refl w.heap.size w)
 have H : ((laws_szRatS.f k l0 1048576).bind fun t246 => (if t246 < 0 then (some true) else ((laws_toRatS.f k l0).bind fun t247 => ((spec_VecOK.f k t247).bind fun t250 => ((laws_toRatS.f k l0).bind fun t251 => ((impl_VecOK.f k t251).bind fun t254 => (if (t254 != t250) = true then (some false) else ((laws_toRatS.f k l0).bind fun t255 => ((laws_eqRatS.f k t251 t255).bind fun t258 => (if t258 = true then (some true) else (some false))))))))))) = some r := h
 clear h
 replace H := Option.bind_eq_some_iff.mp H
 obtain ⟨t246, A20, H⟩ := H
 replace H : (if t246 < 0 then (some true) else ((laws_toRatS.f k l0).bind fun t247 => ((spec_VecOK.f k t247).bind fun t250 => ((laws_toRatS.f k l0).bind fun t251 => ((impl_VecOK.f k t251).bind fun t254 => (if (t254 != t250) = true then (some false) else ((laws_toRatS.f k l0).bind fun t255 => ((laws_eqRatS.f k t251 t255).bind fun t258 => (if t258 = true then (some true) else (some false)))))))))) = some r := H
 have A2 := Aside0.mk A20
 clear A20
 by_cases c3 : t246 < 0
 ·
  rw [if_pos c3] at H
  have c3b0 : decide (t246 < 0) = true := decide_eq_true c3
  clear c3
  obtain rfl := Option.some.inj H
  go_enter Try.func3, Try.ntmps3
  go_wp2_with (first | ((with_reducible refine gate_callee (f := 7) rfl ?_); refine gL_ (some 9) Try.func7 #[.slice A0 l0.length c0, .int .i64 1048576] ?_; (with_reducible refine (laws_szRatS.calls k _ _ l0 1048576 t246 _ ?side1 ?side2 A2.out).mono ?_); (case side1 => repeat (first | exact HR0.out | (with_reducible refine Kd.C_alloc ?_ _) | (with_reducible refine Kd.C_drewN ?_ _) | (with_reducible refine Kd.C_drew ?_))); (case side2 => exact HC0.out); rintro e w4 ⟨rfl, hb⟩; refine ⟨_, rfl, ?_⟩; replace HB := bst HB hb; (try clear hb); (try clear hb2); (try clear hk); (try clear hi)))
  go_ret
  exact ⟨er_, blw HB⟩
 ·
  rw [if_neg c3] at H
  have c3b0 : decide (t246 < 0) = false := decide_eq_false c3
  clear c3
  replace H := Option.bind_eq_some_iff.mp H
  obtain ⟨t247, A50, H⟩ := H
  replace H : ((spec_VecOK.f k t247).bind fun t250 => ((laws_toRatS.f k l0).bind fun t251 => ((impl_VecOK.f k t251).bind fun t254 => (if (t254 != t250) = true then (some false) else ((laws_toRatS.f k l0).bind fun t255 => ((laws_eqRatS.f k t251 t255).bind fun t258 => (if t258 = true then (some true) else (some false)))))))) = some r := H
  have A5 := Aside0.mk A50
  clear A50
  replace H := Option.bind_eq_some_iff.mp H
  obtain ⟨t250, A60, H⟩ := H
  replace H : ((laws_toRatS.f k l0).bind fun t251 => ((impl_VecOK.f k t251).bind fun t254 => (if (t254 != t250) = true then (some false) else ((laws_toRatS.f k l0).bind fun t255 => ((laws_eqRatS.f k t251 t255).bind fun t258 => (if t258 = true then (some true) else (some false))))))) = some r := H
  have A6 := Aside0.mk A60
  clear A60
  replace H := Option.bind_eq_some_iff.mp H
  obtain ⟨t251, A70, H⟩ := H
  replace H : ((impl_VecOK.f k t251).bind fun t254 => (if (t254 != t250) = true then (some false) else ((laws_toRatS.f k l0).bind fun t255 => ((laws_eqRatS.f k t251 t255).bind fun t258 => (if t258 = true then (some true) else (some false)))))) = some r := H
  have A7 := Aside0.mk A70
  clear A70
  replace H := Option.bind_eq_some_iff.mp H
  obtain ⟨t254, A80, H⟩ := H
  replace H : (if (t254 != t250) = true then (some false) else ((laws_toRatS.f k l0).bind fun t255 => ((laws_eqRatS.f k t251 t255).bind fun t258 => (if t258 = true then (some true) else (some false))))) = some r := H
  have A8 := Aside0.mk A80
  clear A80
  by_cases c9 : (t254 != t250) = true
  ·
   rw [if_pos c9] at H
   have c9b0 : (t254 != t250) = true := c9
   (try (have c9b1 : decide (t254 = t250) = false := by simpa using c9))
   (try (have c9b2 : (t254 == t250) = false := by simpa using c9))
   (try (have c9b3 : ¬ (t254 = t250) := by simpa using c9))
   clear c9
   obtain rfl := Option.some.inj H
   exact absurd hr_ (by decide)
  ·
   rw [if_neg c9] at H
   have c9b0 : (t254 != t250) = false := by simpa using c9
   (try (have c9b1 : decide (t254 = t250) = true := by simpa using c9))
   (try (have c9b2 : (t254 == t250) = true := by simpa using c9))
   clear c9
   replace H := Option.bind_eq_some_iff.mp H
   obtain ⟨t255, A170, H⟩ := H
   replace H : ((laws_eqRatS.f k t251 t255).bind fun t258 => (if t258 = true then (some true) else (some false))) = some r := H
   have A17 := Aside0.mk A170
   clear A170
   replace H := Option.bind_eq_some_iff.mp H
   obtain ⟨t258, A180, H⟩ := H
   replace H : (if t258 = true then (some true) else (some false)) = some r := H
   have A18 := Aside0.mk A180
   clear A180
   by_cases c19 : t258 = true
   ·
    subst c19
    have H1 : (some true) = some r := by rw [if_pos rfl] at H; exact H
    clear H
    have H := H1
    clear H1
    obtain rfl := Option.some.inj H
    go_enter Try.func3, Try.ntmps3
    go_wp2_with (first | ((with_reducible refine gate_callee (f := 7) rfl ?_); refine gL_ (some 9) Try.func7 #[.slice A0 l0.length c0, .int .i64 1048576] ?_; (with_reducible refine (laws_szRatS.calls k _ _ l0 1048576 t246 _ ?side1 ?side2 A2.out).mono ?_); (case side1 => repeat (first | exact HR0.out | (with_reducible refine Kd.C_alloc ?_ _) | (with_reducible refine Kd.C_drewN ?_ _) | (with_reducible refine Kd.C_drew ?_))); (case side2 => exact HC0.out); rintro e w20 ⟨rfl, hb⟩; refine ⟨_, rfl, ?_⟩; replace HB := bst HB hb; (try clear hb); (try clear hb2); (try clear hk); (try clear hi)) | ((with_reducible refine gate_callee (f := 9) rfl ?_); refine gL_ (some 13) Try.func9 #[.slice A0 l0.length c0] ?_; (with_reducible refine (laws_toRatS.calls k _ _ l0 t247 _ ?side1 ?side2 A5.out).mono ?_); (case side1 => exact crC (Kd.C_below HR0.out HB.out)); (case side2 => exact HC0.out); rintro e w21 ⟨v248, rfl, ho0, hb⟩; refine ⟨_, rfl, ?_⟩; have HO249 := Aside0.mk (Kd.S_lower ho0 (bsz HB)); replace HB := bst HB hb; (try clear hb); (try clear hb2); (try clear hk); (try clear hi); (try clear ho0); obtain ⟨Ao22, co22, eo22⟩ := Kd.S_slice HO249.out; subst eo22) | ((with_reducible refine gate_callee (f := 8) rfl ?_); refine gL_ (some 14) Try.func8 #[.slice Ao22 t247.length co22] ?_; (with_reducible refine (spec_VecOK.calls k _ _ t247 t250 _ ?side1 ?side2 A6.out).mono ?_); (case side1 => exact crC (Kd.S_reads' HO249.out).2.2); (case side2 => exact (Kd.S_reads' HO249.out).2.1); rintro e w23 ⟨rfl, hb⟩; refine ⟨_, rfl, ?_⟩; replace HO249 := Aside0.mk (Kd.S_below (by (with_reducible repeat (first | apply Kd.S_alloc | apply Kd.S_drewN | apply Kd.S_drew)); exact HO249.out) hb); replace HB := bst HB hb; (try clear hb); (try clear hb2); (try clear hk); (try clear hi)) | ((with_reducible refine gate_callee (f := 9) rfl ?_); refine gL_ (some 16) Try.func9 #[.slice A0 l0.length c0] ?_; (with_reducible refine (laws_toRatS.calls k _ _ l0 t251 _ ?side1 ?side2 A7.out).mono ?_); (case side1 => exact crC (Kd.C_below HR0.out HB.out)); (case side2 => exact HC0.out); rintro e w24 ⟨v252, rfl, ho0, hb⟩; refine ⟨_, rfl, ?_⟩; have HO253 := Aside0.mk (Kd.S_lower (Kd.S_new' ho0 (Kd.S_lt (by (with_reducible repeat (first | apply Kd.S_alloc | apply Kd.S_drewN | apply Kd.S_drew)); exact HO249.out))) (bsz HB)); replace HO249 := Aside0.mk (Kd.S_elder' (by (with_reducible repeat (first | apply Kd.S_alloc | apply Kd.S_drewN | apply Kd.S_drew)); exact HO249.out) (Kd.S_base ho0) hb); replace HB := bst HB hb; (try clear hb); (try clear hb2); (try clear hk); (try clear hi); (try clear ho0); obtain ⟨Ao25, co25, eo25⟩ := Kd.S_slice HO253.out; subst eo25) | ((with_reducible refine gate_callee (f := 10) rfl ?_); refine gL_ (some 18) Try.func10 #[.slice Ao25 t251.length co25] ?_; (with_reducible refine (impl_VecOK.calls k _ _ t251 t254 _ ?side1 ?side2 A8.out).mono ?_); (case side1 => exact crC (Kd.S_reads' HO253.out).2.2); (case side2 => exact (Kd.S_reads' HO253.out).2.1); rintro e w26 ⟨rfl, hb⟩; refine ⟨_, rfl, ?_⟩; replace HO249 := Aside0.mk (Kd.S_below (by (with_reducible repeat (first | apply Kd.S_alloc | apply Kd.S_drewN | apply Kd.S_drew)); exact HO249.out) hb); replace HO253 := Aside0.mk (Kd.S_below (by (with_reducible repeat (first | apply Kd.S_alloc | apply Kd.S_drewN | apply Kd.S_drew)); exact HO253.out) hb); replace HB := bst HB hb; (try clear hb); (try clear hb2); (try clear hk); (try clear hi)) | ((with_reducible refine gate_callee (f := 9) rfl ?_); refine gL_ (some 24) Try.func9 #[.slice A0 l0.length c0] ?_; (with_reducible refine (laws_toRatS.calls k _ _ l0 t255 _ ?side1 ?side2 A17.out).mono ?_); (case side1 => exact crC (Kd.C_below HR0.out HB.out)); (case side2 => exact HC0.out); rintro e w27 ⟨v256, rfl, ho0, hb⟩; refine ⟨_, rfl, ?_⟩; have HO257 := Aside0.mk (Kd.S_lower (Kd.S_new' (Kd.S_new' ho0 (Kd.S_lt (by (with_reducible repeat (first | apply Kd.S_alloc | apply Kd.S_drewN | apply Kd.S_drew)); exact HO249.out))) (Kd.S_lt (by (with_reducible repeat (first | apply Kd.S_alloc | apply Kd.S_drewN | apply Kd.S_drew)); exact HO253.out))) (bsz HB)); replace HO249 := Aside0.mk (Kd.S_elder' (by (with_reducible repeat (first | apply Kd.S_alloc | apply Kd.S_drewN | apply Kd.S_drew)); exact HO249.out) (Kd.S_base ho0) hb); replace HO253 := Aside0.mk (Kd.S_elder' (by (with_reducible repeat (first | apply Kd.S_alloc | apply Kd.S_drewN | apply Kd.S_drew)); exact HO253.out) (Kd.S_base ho0) hb); replace HB := bst HB hb; (try clear hb); (try clear hb2); (try clear hk); (try clear hi); (try clear ho0); obtain ⟨Ao28, co28, eo28⟩ := Kd.S_slice HO257.out; subst eo28) | ((with_reducible refine gate_callee (f := 11) rfl ?_); refine gL_ (some 25) Try.func11 #[.slice Ao25 t251.length co25, .slice Ao28 t255.length co28] ?_; (with_reducible refine (laws_eqRatS.calls k _ _ t251 _ _ t255 true _ ?side1 ?side2 ?side3 ?side4 A18.out).mono ?_); (case side1 => exact crC (Kd.S_reads' HO253.out).2.2); (case side2 => exact (Kd.S_reads' HO253.out).2.1); (case side3 => exact crC (Kd.S_reads' HO257.out).2.2); (case side4 => exact (Kd.S_reads' HO257.out).2.1); rintro e w29 ⟨rfl, hb⟩; refine ⟨_, rfl, ?_⟩; replace HO249 := Aside0.mk (Kd.S_below (by (with_reducible repeat (first | apply Kd.S_alloc | apply Kd.S_drewN | apply Kd.S_drew)); exact HO249.out) hb); replace HO253 := Aside0.mk (Kd.S_below (by (with_reducible repeat (first | apply Kd.S_alloc | apply Kd.S_drewN | apply Kd.S_drew)); exact HO253.out) hb); replace HO257 := Aside0.mk (Kd.S_below (by (with_reducible repeat (first | apply Kd.S_alloc | apply Kd.S_drewN | apply Kd.S_drew)); exact HO257.out) hb); replace HB := bst HB hb; (try clear hb); (try clear hb2); (try clear hk); (try clear hi)))
    go_ret
    exact ⟨er_, blw HB⟩
   ·
    replace c19 := Bool.eq_false_iff.mpr c19
    subst c19
    have H1 : (some false) = some r := by rw [if_neg (show ¬ (false = true) by decide)] at H; exact H
    clear H
    have H := H1
    clear H1
    obtain rfl := Option.some.inj H
    exact absurd hr_ (by decide)

/-- THE ONE PURE STATEMENT of laws_FnExactVecOK: yours. -/
def laws_FnExactVecOK.Pure : Prop := ∀ (l0 : List (S40)), (l0.length ≤ maxLen ∧ ∀ y0_ ∈ l0, (True ∧ (y0_.f1.length ≤ maxLen ∧ ∀ y1_ ∈ y0_.f1, (Lit.int .i64 y1_).wf = true) ∧ (y0_.f2.length ≤ maxLen ∧ ∀ y1_ ∈ y0_.f2, (Lit.int .i64 y1_).wf = true))) → ∃ k, laws_FnExactVecOK.f k l0 = some true

end Go.Proofs.Ytegbmillbbcmfaa.Q
