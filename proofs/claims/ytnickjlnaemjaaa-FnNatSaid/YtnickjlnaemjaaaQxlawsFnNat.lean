-- written by a program of this claim's session (myprint.py) out of the translation; Lean checks it.
import Derived.Test.YtnickjlnaemjaaaQx0
import Derived.Test.YtnickjlnaemjaaaQxbase
import Derived.Test.YtnickjlnaemjaaaQxCmpNat
import Derived.Test.YtnickjlnaemjaaaQxAddNat
import Derived.Test.YtnickjlnaemjaaaQxSubNat
import Derived.Test.YtnickjlnaemjaaaQxsrc
namespace Go.Proofs.Ytnickjlnaemjaaa.Q
open Go.RowKit Go.Proofs.YtnickjlnaemjaaaW.PrintWords Go.Proofs.YtnickjlnaemjaaaW.PrintLast Go.Proofs.YtnickjlnaemjaaaW.PrintMore
attribute [local go_sem] max2_int min2_int max_two min_two max_three min_three max_four min_four   -- for this text's walks alone
set_option linter.unusedVariables false
set_option linter.unusedSimpArgs false

/-! ### laws_FnNat: function 9 -/
def laws_FnNat.j0 : Nat → List Int → List Int → Bool → Option (Bool)
  | 0, _, _, _ => none
  | k + 1, x0, x1, x30 => if x30 = true then (some true) else ((spec_NatDrawn.f k x0).bind fun t1019 => ((spec_NatDrawn.f k x1).bind fun t1022 => ((impl_AddNat.f k t1019 t1022).bind fun bt1025 => ((spec_AddNat.f k t1019 t1022).bind fun bt1029 => ((impl_AddNat.f k t1022 t1019).bind fun bt1033 => ((impl_SubNat.f k bt1025.1 t1022).bind fun bt1037 => ((impl_CmpNat.f k bt1025.1 t1019).bind fun bt1041 => ((impl_CmpNat.f k t1019 t1022).bind fun bt1043 => ((impl_CmpNat.f k t1022 t1019).bind fun bt1045 => ((impl_SubNat.f k t1019 t1022).bind fun bt1047 => (if bt1025.2 = 0 then ((laws_sameInts.f k bt1025.1 bt1029.1).bind fun t1051 => (if t1051 = true then (if bt1033.2 = 0 then ((laws_sameInts.f k bt1033.1 bt1025.1).bind fun t1052 => (if t1052 = true then (if bt1037.2 = 0 then ((laws_sameInts.f k bt1037.1 t1019).bind fun t1053 => (if t1053 = true then (if bt1041.2 = 0 then (if ((bt1041.1 == 0) == ((t1022.length : Int) == 0)) = true then (if bt1041.1 ≥ 0 then (if bt1043.2 = 0 then (if bt1045.2 = 0 then (if bt1043.1 = (wrap64 (-bt1045.1)) then (if ((bt1047.2 == 11) == (decide (bt1043.1 < 0))) = true then ((impl_NatOK.f bt1025.1).bind fun t1054 => (some t1054)) else (some false)) else (some false)) else (some false)) else (some false)) else (some false)) else (some false)) else (some false)) else (some false))) else (some false)) else (some false))) else (some false)) else (some false))) else (some false))))))))))))
def laws_FnNat.f (k : Nat) (l0 : List Int) (l1 : List Int) : Option (Bool) := if (l0.length : Int) > 1048576 then (laws_FnNat.j0 k l0 l1 true) else (laws_FnNat.j0 k l0 l1 (decide ((l1.length : Int) > 1048576)))
theorem laws_FnNat.mono_l : ∀ k, (∀ y0 y1 y2, LeO (laws_FnNat.j0 k y0 y1 y2) (laws_FnNat.j0 (k + 1) y0 y1 y2))
  | 0 => fun _ _ _ r h => by simp [laws_FnNat.j0] at h
  | k + 1 => by
    have ih0 := laws_FnNat.mono_l k
    · intro y0 y1 y2
      unfold laws_FnNat.j0
      repeat' first
      | (with_reducible exact ih0 _ _ _)
      | (with_reducible exact impl_AddNat.mono _ _ _)
      | (with_reducible exact impl_CmpNat.mono _ _ _)
      | (with_reducible exact impl_SubNat.mono _ _ _)
      | (with_reducible exact laws_sameInts.mono _ _ _)
      | (with_reducible exact spec_AddNat.mono _ _ _)
      | (with_reducible exact spec_NatDrawn.mono _ _)
      | (with_reducible exact LeO.refl _)
      | (with_reducible exact LeO.none _)
      | (with_reducible refine LeO.ite ?_ ?_)
      | (with_reducible refine LeO.bind ?_ (fun _ => ?_))
      | exact ih0 _ _ _
      | exact impl_AddNat.mono _ _ _
      | exact impl_CmpNat.mono _ _ _
      | exact impl_SubNat.mono _ _ _
      | exact laws_sameInts.mono _ _ _
      | exact spec_AddNat.mono _ _ _
      | exact spec_NatDrawn.mono _ _
      | exact LeO.none _
      | refine LeO.ite ?_ ?_
      | refine LeO.bind ?_ (fun _ => ?_)
theorem laws_FnNat.mono : ∀ a0 a1 k, LeO (laws_FnNat.f k a0 a1) (laws_FnNat.f (k + 1) a0 a1) := by
  intro a0 a1 k
  have ih0 := laws_FnNat.mono_l k
  unfold laws_FnNat.f
  repeat' first
      | (with_reducible exact ih0 _ _ _)
      | (with_reducible exact impl_AddNat.mono _ _ _)
      | (with_reducible exact impl_CmpNat.mono _ _ _)
      | (with_reducible exact impl_SubNat.mono _ _ _)
      | (with_reducible exact laws_sameInts.mono _ _ _)
      | (with_reducible exact spec_AddNat.mono _ _ _)
      | (with_reducible exact spec_NatDrawn.mono _ _)
      | (with_reducible exact LeO.refl _)
      | (with_reducible exact LeO.none _)
      | (with_reducible refine LeO.ite ?_ ?_)
      | (with_reducible refine LeO.bind ?_ (fun _ => ?_))
      | exact ih0 _ _ _
      | exact impl_AddNat.mono _ _ _
      | exact impl_CmpNat.mono _ _ _
      | exact impl_SubNat.mono _ _ _
      | exact laws_sameInts.mono _ _ _
      | exact spec_AddNat.mono _ _ _
      | exact spec_NatDrawn.mono _ _
      | exact LeO.none _
      | refine LeO.ite ?_ ?_
      | refine LeO.bind ?_ (fun _ => ?_)
set_option maxHeartbeats 8000000 in
set_option maxRecDepth 100000 in
theorem laws_FnNat.calls (k : Nat) (A0 : Option Addr) (c0 : Nat) (l0 : List Int) (A1 : Option Addr) (c1 : Nat) (l1 : List Int) (r : Bool) (w : World) (hr0 : Kd.C (Kd.int .u8) w A0 l0.length l0) (hc0 : l0.length ≤ c0) (hr1 : Kd.C (Kd.int .u8) w A1 l1.length l1) (hc1 : l1.length ≤ c1) (h : laws_FnNat.f k l0 l1 = some r) (hr_ : r = true) :
    Calls Try.prog 9 #[.slice A0 l0.length c0, .slice A1 l1.length c1] w fun e w' => e = .returned (.bool r) ∧ Below w.heap.size w w' := by
  have HR0 := Aside0.mk hr0
  have HC0 := Aside0.mk hc0
  clear hr0 hc0
  have HR1 := Aside0.mk hr1
  have HC1 := Aside0.mk hc1
  clear hr1 hc1
  have HB := Aside0.mk (Below.refl w.heap.size w)
  have H : (if (l0.length : Int) > 1048576 then (laws_FnNat.j0 k l0 l1 true) else (laws_FnNat.j0 k l0 l1 (decide ((l1.length : Int) > 1048576)))) = some r := h
  clear h
  have HC3 := Aside0.mk H
  clear H
  go_enter Try.func9, Try.ntmps9
  go_upto_region 1 with (fail)
  go_cut [30] (fun v30 wc => ∃ (kq : Nat) (x30_2 : Bool), v30 = .bool x30_2 ∧ Aside0 (laws_FnNat.j0 kq l0 l1 x30_2 = some r) ∧ Aside0 (kq ≤ k) ∧ Aside0 (Below w.heap.size w wc))
  case first =>
    have H := HC3.out
    clear HC3
    by_cases c4 : (l0.length : Int) > 1048576
    · rw [if_pos c4] at H
      have c4b0 : decide (1048576 < (l0.length : Int)) = true := decide_eq_true c4
      have c4b1 : decide (1048576 < l0.length) = true := decide_eq_true (by omega)
      clear c4
      (first | rw [c4b0] | (simp only [i64_w, i32_w]; rw [c4b0]) | skip)
      have H' := Aside0.mk H
      clear H
      go_wp2
      go_meet
      case rel => exact ⟨_, (true), (by first | rfl | (simp; done) | (simp [*]; done)), H', ⟨by first | omega | exact Nat.le_refl _⟩, ⟨by repeat (first | (with_reducible first | exact HB.out | apply below_alloc | apply pw_below_drewN | apply below_drew1) | exact HB.out)⟩⟩
    · rw [if_neg c4] at H
      have c4b0 : decide (1048576 < (l0.length : Int)) = false := decide_eq_false c4
      have c4b1 : decide (1048576 < l0.length) = false := decide_eq_false (by omega)
      clear c4
      (first | rw [c4b0] | (simp only [i64_w, i32_w]; rw [c4b0]) | skip)
      have H' := Aside0.mk H
      clear H
      go_wp2
      go_meet
      case rel => exact ⟨_, (decide ((l1.length : Int) > 1048576)), (by first | rfl | (simp; done) | (simp [*]; done)), H', ⟨by first | omega | exact Nat.le_refl _⟩, ⟨by repeat (first | (with_reducible first | exact HB.out | apply below_alloc | apply pw_below_drewN | apply below_drew1) | exact HB.out)⟩⟩
  case rest =>
    clear HC3
    try clear c1
    try clear p2
    try clear c4
    try clear c4b0
    try clear c4b1
    obtain ⟨kq, x30_2, rfl, HA, HJ2, HB⟩ := hcut
    cases kq with
    | zero => exact absurd HA.out (by simp [laws_FnNat.j0])
    | succ kj2 =>
      have H := HA.out
      clear HA
      simp only [laws_FnNat.j0] at H
      by_cases c5 : x30_2 = true
      · subst c5
        have H1 : (some true) = some r := by rw [if_pos rfl] at H; exact H
        clear H
        have H := H1
        clear H1
        obtain rfl := Option.some.inj H
        go_wp2
        go_ret
        exact ⟨by first | rfl | (simp [errW_none, errW_some] <;> rfl) | (simp [*, errW_none, errW_some] <;> rfl), by repeat (first | (with_reducible first | exact HB.out | apply below_alloc | apply pw_below_drewN | apply below_drew1) | exact HB.out)⟩
      · replace c5 := Bool.eq_false_iff.mpr c5
        subst c5
        have H1 : ((spec_NatDrawn.f kj2 l0).bind fun t1019 => ((spec_NatDrawn.f kj2 l1).bind fun t1022 => ((impl_AddNat.f kj2 t1019 t1022).bind fun bt1025 => ((spec_AddNat.f kj2 t1019 t1022).bind fun bt1029 => ((impl_AddNat.f kj2 t1022 t1019).bind fun bt1033 => ((impl_SubNat.f kj2 bt1025.1 t1022).bind fun bt1037 => ((impl_CmpNat.f kj2 bt1025.1 t1019).bind fun bt1041 => ((impl_CmpNat.f kj2 t1019 t1022).bind fun bt1043 => ((impl_CmpNat.f kj2 t1022 t1019).bind fun bt1045 => ((impl_SubNat.f kj2 t1019 t1022).bind fun bt1047 => (if bt1025.2 = 0 then ((laws_sameInts.f kj2 bt1025.1 bt1029.1).bind fun t1051 => (if t1051 = true then (if bt1033.2 = 0 then ((laws_sameInts.f kj2 bt1033.1 bt1025.1).bind fun t1052 => (if t1052 = true then (if bt1037.2 = 0 then ((laws_sameInts.f kj2 bt1037.1 t1019).bind fun t1053 => (if t1053 = true then (if bt1041.2 = 0 then (if ((bt1041.1 == 0) == ((t1022.length : Int) == 0)) = true then (if bt1041.1 ≥ 0 then (if bt1043.2 = 0 then (if bt1045.2 = 0 then (if bt1043.1 = (wrap64 (-bt1045.1)) then (if ((bt1047.2 == 11) == (decide (bt1043.1 < 0))) = true then ((impl_NatOK.f bt1025.1).bind fun t1054 => (some t1054)) else (some false)) else (some false)) else (some false)) else (some false)) else (some false)) else (some false)) else (some false)) else (some false))) else (some false)) else (some false))) else (some false)) else (some false))) else (some false)))))))))))) = some r := by rw [if_neg (show ¬ (false = true) by decide)] at H; exact H
        clear H
        have H := H1
        clear H1
        replace H := Option.bind_eq_some_iff.mp H
        obtain ⟨t1019, A60, H⟩ := H
        replace H : ((spec_NatDrawn.f kj2 l1).bind fun t1022 => ((impl_AddNat.f kj2 t1019 t1022).bind fun bt1025 => ((spec_AddNat.f kj2 t1019 t1022).bind fun bt1029 => ((impl_AddNat.f kj2 t1022 t1019).bind fun bt1033 => ((impl_SubNat.f kj2 bt1025.1 t1022).bind fun bt1037 => ((impl_CmpNat.f kj2 bt1025.1 t1019).bind fun bt1041 => ((impl_CmpNat.f kj2 t1019 t1022).bind fun bt1043 => ((impl_CmpNat.f kj2 t1022 t1019).bind fun bt1045 => ((impl_SubNat.f kj2 t1019 t1022).bind fun bt1047 => (if bt1025.2 = 0 then ((laws_sameInts.f kj2 bt1025.1 bt1029.1).bind fun t1051 => (if t1051 = true then (if bt1033.2 = 0 then ((laws_sameInts.f kj2 bt1033.1 bt1025.1).bind fun t1052 => (if t1052 = true then (if bt1037.2 = 0 then ((laws_sameInts.f kj2 bt1037.1 t1019).bind fun t1053 => (if t1053 = true then (if bt1041.2 = 0 then (if ((bt1041.1 == 0) == ((t1022.length : Int) == 0)) = true then (if bt1041.1 ≥ 0 then (if bt1043.2 = 0 then (if bt1045.2 = 0 then (if bt1043.1 = (wrap64 (-bt1045.1)) then (if ((bt1047.2 == 11) == (decide (bt1043.1 < 0))) = true then ((impl_NatOK.f bt1025.1).bind fun t1054 => (some t1054)) else (some false)) else (some false)) else (some false)) else (some false)) else (some false)) else (some false)) else (some false)) else (some false))) else (some false)) else (some false))) else (some false)) else (some false))) else (some false))))))))))) = some r := H
        have A6 := Aside0.mk A60
        clear A60
        replace H := Option.bind_eq_some_iff.mp H
        obtain ⟨t1022, A70, H⟩ := H
        replace H : ((impl_AddNat.f kj2 t1019 t1022).bind fun bt1025 => ((spec_AddNat.f kj2 t1019 t1022).bind fun bt1029 => ((impl_AddNat.f kj2 t1022 t1019).bind fun bt1033 => ((impl_SubNat.f kj2 bt1025.1 t1022).bind fun bt1037 => ((impl_CmpNat.f kj2 bt1025.1 t1019).bind fun bt1041 => ((impl_CmpNat.f kj2 t1019 t1022).bind fun bt1043 => ((impl_CmpNat.f kj2 t1022 t1019).bind fun bt1045 => ((impl_SubNat.f kj2 t1019 t1022).bind fun bt1047 => (if bt1025.2 = 0 then ((laws_sameInts.f kj2 bt1025.1 bt1029.1).bind fun t1051 => (if t1051 = true then (if bt1033.2 = 0 then ((laws_sameInts.f kj2 bt1033.1 bt1025.1).bind fun t1052 => (if t1052 = true then (if bt1037.2 = 0 then ((laws_sameInts.f kj2 bt1037.1 t1019).bind fun t1053 => (if t1053 = true then (if bt1041.2 = 0 then (if ((bt1041.1 == 0) == ((t1022.length : Int) == 0)) = true then (if bt1041.1 ≥ 0 then (if bt1043.2 = 0 then (if bt1045.2 = 0 then (if bt1043.1 = (wrap64 (-bt1045.1)) then (if ((bt1047.2 == 11) == (decide (bt1043.1 < 0))) = true then ((impl_NatOK.f bt1025.1).bind fun t1054 => (some t1054)) else (some false)) else (some false)) else (some false)) else (some false)) else (some false)) else (some false)) else (some false)) else (some false))) else (some false)) else (some false))) else (some false)) else (some false))) else (some false)))))))))) = some r := H
        have A7 := Aside0.mk A70
        clear A70
        replace H := Option.bind_eq_some_iff.mp H
        obtain ⟨⟨t1025, t1028⟩, A80, H⟩ := H
        replace H : ((spec_AddNat.f kj2 t1019 t1022).bind fun bt1029 => ((impl_AddNat.f kj2 t1022 t1019).bind fun bt1033 => ((impl_SubNat.f kj2 t1025 t1022).bind fun bt1037 => ((impl_CmpNat.f kj2 t1025 t1019).bind fun bt1041 => ((impl_CmpNat.f kj2 t1019 t1022).bind fun bt1043 => ((impl_CmpNat.f kj2 t1022 t1019).bind fun bt1045 => ((impl_SubNat.f kj2 t1019 t1022).bind fun bt1047 => (if t1028 = 0 then ((laws_sameInts.f kj2 t1025 bt1029.1).bind fun t1051 => (if t1051 = true then (if bt1033.2 = 0 then ((laws_sameInts.f kj2 bt1033.1 t1025).bind fun t1052 => (if t1052 = true then (if bt1037.2 = 0 then ((laws_sameInts.f kj2 bt1037.1 t1019).bind fun t1053 => (if t1053 = true then (if bt1041.2 = 0 then (if ((bt1041.1 == 0) == ((t1022.length : Int) == 0)) = true then (if bt1041.1 ≥ 0 then (if bt1043.2 = 0 then (if bt1045.2 = 0 then (if bt1043.1 = (wrap64 (-bt1045.1)) then (if ((bt1047.2 == 11) == (decide (bt1043.1 < 0))) = true then ((impl_NatOK.f t1025).bind fun t1054 => (some t1054)) else (some false)) else (some false)) else (some false)) else (some false)) else (some false)) else (some false)) else (some false)) else (some false))) else (some false)) else (some false))) else (some false)) else (some false))) else (some false))))))))) = some r := H
        have A8 := Aside0.mk A80
        clear A80
        replace H := Option.bind_eq_some_iff.mp H
        obtain ⟨⟨t1029, t1030⟩, A90, H⟩ := H
        replace H : ((impl_AddNat.f kj2 t1022 t1019).bind fun bt1033 => ((impl_SubNat.f kj2 t1025 t1022).bind fun bt1037 => ((impl_CmpNat.f kj2 t1025 t1019).bind fun bt1041 => ((impl_CmpNat.f kj2 t1019 t1022).bind fun bt1043 => ((impl_CmpNat.f kj2 t1022 t1019).bind fun bt1045 => ((impl_SubNat.f kj2 t1019 t1022).bind fun bt1047 => (if t1028 = 0 then ((laws_sameInts.f kj2 t1025 t1029).bind fun t1051 => (if t1051 = true then (if bt1033.2 = 0 then ((laws_sameInts.f kj2 bt1033.1 t1025).bind fun t1052 => (if t1052 = true then (if bt1037.2 = 0 then ((laws_sameInts.f kj2 bt1037.1 t1019).bind fun t1053 => (if t1053 = true then (if bt1041.2 = 0 then (if ((bt1041.1 == 0) == ((t1022.length : Int) == 0)) = true then (if bt1041.1 ≥ 0 then (if bt1043.2 = 0 then (if bt1045.2 = 0 then (if bt1043.1 = (wrap64 (-bt1045.1)) then (if ((bt1047.2 == 11) == (decide (bt1043.1 < 0))) = true then ((impl_NatOK.f t1025).bind fun t1054 => (some t1054)) else (some false)) else (some false)) else (some false)) else (some false)) else (some false)) else (some false)) else (some false)) else (some false))) else (some false)) else (some false))) else (some false)) else (some false))) else (some false)))))))) = some r := H
        have A9 := Aside0.mk A90
        clear A90
        replace H := Option.bind_eq_some_iff.mp H
        obtain ⟨⟨t1033, t1036⟩, A100, H⟩ := H
        replace H : ((impl_SubNat.f kj2 t1025 t1022).bind fun bt1037 => ((impl_CmpNat.f kj2 t1025 t1019).bind fun bt1041 => ((impl_CmpNat.f kj2 t1019 t1022).bind fun bt1043 => ((impl_CmpNat.f kj2 t1022 t1019).bind fun bt1045 => ((impl_SubNat.f kj2 t1019 t1022).bind fun bt1047 => (if t1028 = 0 then ((laws_sameInts.f kj2 t1025 t1029).bind fun t1051 => (if t1051 = true then (if t1036 = 0 then ((laws_sameInts.f kj2 t1033 t1025).bind fun t1052 => (if t1052 = true then (if bt1037.2 = 0 then ((laws_sameInts.f kj2 bt1037.1 t1019).bind fun t1053 => (if t1053 = true then (if bt1041.2 = 0 then (if ((bt1041.1 == 0) == ((t1022.length : Int) == 0)) = true then (if bt1041.1 ≥ 0 then (if bt1043.2 = 0 then (if bt1045.2 = 0 then (if bt1043.1 = (wrap64 (-bt1045.1)) then (if ((bt1047.2 == 11) == (decide (bt1043.1 < 0))) = true then ((impl_NatOK.f t1025).bind fun t1054 => (some t1054)) else (some false)) else (some false)) else (some false)) else (some false)) else (some false)) else (some false)) else (some false)) else (some false))) else (some false)) else (some false))) else (some false)) else (some false))) else (some false))))))) = some r := H
        have A10 := Aside0.mk A100
        clear A100
        replace H := Option.bind_eq_some_iff.mp H
        obtain ⟨⟨t1037, t1040⟩, A110, H⟩ := H
        replace H : ((impl_CmpNat.f kj2 t1025 t1019).bind fun bt1041 => ((impl_CmpNat.f kj2 t1019 t1022).bind fun bt1043 => ((impl_CmpNat.f kj2 t1022 t1019).bind fun bt1045 => ((impl_SubNat.f kj2 t1019 t1022).bind fun bt1047 => (if t1028 = 0 then ((laws_sameInts.f kj2 t1025 t1029).bind fun t1051 => (if t1051 = true then (if t1036 = 0 then ((laws_sameInts.f kj2 t1033 t1025).bind fun t1052 => (if t1052 = true then (if t1040 = 0 then ((laws_sameInts.f kj2 t1037 t1019).bind fun t1053 => (if t1053 = true then (if bt1041.2 = 0 then (if ((bt1041.1 == 0) == ((t1022.length : Int) == 0)) = true then (if bt1041.1 ≥ 0 then (if bt1043.2 = 0 then (if bt1045.2 = 0 then (if bt1043.1 = (wrap64 (-bt1045.1)) then (if ((bt1047.2 == 11) == (decide (bt1043.1 < 0))) = true then ((impl_NatOK.f t1025).bind fun t1054 => (some t1054)) else (some false)) else (some false)) else (some false)) else (some false)) else (some false)) else (some false)) else (some false)) else (some false))) else (some false)) else (some false))) else (some false)) else (some false))) else (some false)))))) = some r := H
        have A11 := Aside0.mk A110
        clear A110
        replace H := Option.bind_eq_some_iff.mp H
        obtain ⟨⟨t1041, t1042⟩, A120, H⟩ := H
        replace H : ((impl_CmpNat.f kj2 t1019 t1022).bind fun bt1043 => ((impl_CmpNat.f kj2 t1022 t1019).bind fun bt1045 => ((impl_SubNat.f kj2 t1019 t1022).bind fun bt1047 => (if t1028 = 0 then ((laws_sameInts.f kj2 t1025 t1029).bind fun t1051 => (if t1051 = true then (if t1036 = 0 then ((laws_sameInts.f kj2 t1033 t1025).bind fun t1052 => (if t1052 = true then (if t1040 = 0 then ((laws_sameInts.f kj2 t1037 t1019).bind fun t1053 => (if t1053 = true then (if t1042 = 0 then (if ((t1041 == 0) == ((t1022.length : Int) == 0)) = true then (if t1041 ≥ 0 then (if bt1043.2 = 0 then (if bt1045.2 = 0 then (if bt1043.1 = (wrap64 (-bt1045.1)) then (if ((bt1047.2 == 11) == (decide (bt1043.1 < 0))) = true then ((impl_NatOK.f t1025).bind fun t1054 => (some t1054)) else (some false)) else (some false)) else (some false)) else (some false)) else (some false)) else (some false)) else (some false)) else (some false))) else (some false)) else (some false))) else (some false)) else (some false))) else (some false))))) = some r := H
        have A12 := Aside0.mk A120
        clear A120
        replace H := Option.bind_eq_some_iff.mp H
        obtain ⟨⟨t1043, t1044⟩, A130, H⟩ := H
        replace H : ((impl_CmpNat.f kj2 t1022 t1019).bind fun bt1045 => ((impl_SubNat.f kj2 t1019 t1022).bind fun bt1047 => (if t1028 = 0 then ((laws_sameInts.f kj2 t1025 t1029).bind fun t1051 => (if t1051 = true then (if t1036 = 0 then ((laws_sameInts.f kj2 t1033 t1025).bind fun t1052 => (if t1052 = true then (if t1040 = 0 then ((laws_sameInts.f kj2 t1037 t1019).bind fun t1053 => (if t1053 = true then (if t1042 = 0 then (if ((t1041 == 0) == ((t1022.length : Int) == 0)) = true then (if t1041 ≥ 0 then (if t1044 = 0 then (if bt1045.2 = 0 then (if t1043 = (wrap64 (-bt1045.1)) then (if ((bt1047.2 == 11) == (decide (t1043 < 0))) = true then ((impl_NatOK.f t1025).bind fun t1054 => (some t1054)) else (some false)) else (some false)) else (some false)) else (some false)) else (some false)) else (some false)) else (some false)) else (some false))) else (some false)) else (some false))) else (some false)) else (some false))) else (some false)))) = some r := H
        have A13 := Aside0.mk A130
        clear A130
        replace H := Option.bind_eq_some_iff.mp H
        obtain ⟨⟨t1045, t1046⟩, A140, H⟩ := H
        replace H : ((impl_SubNat.f kj2 t1019 t1022).bind fun bt1047 => (if t1028 = 0 then ((laws_sameInts.f kj2 t1025 t1029).bind fun t1051 => (if t1051 = true then (if t1036 = 0 then ((laws_sameInts.f kj2 t1033 t1025).bind fun t1052 => (if t1052 = true then (if t1040 = 0 then ((laws_sameInts.f kj2 t1037 t1019).bind fun t1053 => (if t1053 = true then (if t1042 = 0 then (if ((t1041 == 0) == ((t1022.length : Int) == 0)) = true then (if t1041 ≥ 0 then (if t1044 = 0 then (if t1046 = 0 then (if t1043 = (wrap64 (-t1045)) then (if ((bt1047.2 == 11) == (decide (t1043 < 0))) = true then ((impl_NatOK.f t1025).bind fun t1054 => (some t1054)) else (some false)) else (some false)) else (some false)) else (some false)) else (some false)) else (some false)) else (some false)) else (some false))) else (some false)) else (some false))) else (some false)) else (some false))) else (some false))) = some r := H
        have A14 := Aside0.mk A140
        clear A140
        replace H := Option.bind_eq_some_iff.mp H
        obtain ⟨⟨t1047, t1050⟩, A150, H⟩ := H
        replace H : (if t1028 = 0 then ((laws_sameInts.f kj2 t1025 t1029).bind fun t1051 => (if t1051 = true then (if t1036 = 0 then ((laws_sameInts.f kj2 t1033 t1025).bind fun t1052 => (if t1052 = true then (if t1040 = 0 then ((laws_sameInts.f kj2 t1037 t1019).bind fun t1053 => (if t1053 = true then (if t1042 = 0 then (if ((t1041 == 0) == ((t1022.length : Int) == 0)) = true then (if t1041 ≥ 0 then (if t1044 = 0 then (if t1046 = 0 then (if t1043 = (wrap64 (-t1045)) then (if ((t1050 == 11) == (decide (t1043 < 0))) = true then ((impl_NatOK.f t1025).bind fun t1054 => (some t1054)) else (some false)) else (some false)) else (some false)) else (some false)) else (some false)) else (some false)) else (some false)) else (some false))) else (some false)) else (some false))) else (some false)) else (some false))) else (some false)) = some r := H
        have A15 := Aside0.mk A150
        clear A150
        by_cases c16 : t1028 = 0
        · rw [if_pos c16] at H
          have c16b0 : (t1028 == 0) = true := beq_iff_eq.mpr c16
          have c16b1 : (t1028 != 0) = false := bne_eq_false_iff_eq.mpr c16
          clear c16
          replace H := Option.bind_eq_some_iff.mp H
          obtain ⟨t1051, A170, H⟩ := H
          replace H : (if t1051 = true then (if t1036 = 0 then ((laws_sameInts.f kj2 t1033 t1025).bind fun t1052 => (if t1052 = true then (if t1040 = 0 then ((laws_sameInts.f kj2 t1037 t1019).bind fun t1053 => (if t1053 = true then (if t1042 = 0 then (if ((t1041 == 0) == ((t1022.length : Int) == 0)) = true then (if t1041 ≥ 0 then (if t1044 = 0 then (if t1046 = 0 then (if t1043 = (wrap64 (-t1045)) then (if ((t1050 == 11) == (decide (t1043 < 0))) = true then ((impl_NatOK.f t1025).bind fun t1054 => (some t1054)) else (some false)) else (some false)) else (some false)) else (some false)) else (some false)) else (some false)) else (some false)) else (some false))) else (some false)) else (some false))) else (some false)) else (some false)) = some r := H
          have A17 := Aside0.mk A170
          clear A170
          by_cases c18 : t1051 = true
          · subst c18
            have H1 : (if t1036 = 0 then ((laws_sameInts.f kj2 t1033 t1025).bind fun t1052 => (if t1052 = true then (if t1040 = 0 then ((laws_sameInts.f kj2 t1037 t1019).bind fun t1053 => (if t1053 = true then (if t1042 = 0 then (if ((t1041 == 0) == ((t1022.length : Int) == 0)) = true then (if t1041 ≥ 0 then (if t1044 = 0 then (if t1046 = 0 then (if t1043 = (wrap64 (-t1045)) then (if ((t1050 == 11) == (decide (t1043 < 0))) = true then ((impl_NatOK.f t1025).bind fun t1054 => (some t1054)) else (some false)) else (some false)) else (some false)) else (some false)) else (some false)) else (some false)) else (some false)) else (some false))) else (some false)) else (some false))) else (some false)) = some r := by rw [if_pos rfl] at H; exact H
            clear H
            have H := H1
            clear H1
            by_cases c19 : t1036 = 0
            · rw [if_pos c19] at H
              have c19b0 : (t1036 == 0) = true := beq_iff_eq.mpr c19
              have c19b1 : (t1036 != 0) = false := bne_eq_false_iff_eq.mpr c19
              clear c19
              replace H := Option.bind_eq_some_iff.mp H
              obtain ⟨t1052, A200, H⟩ := H
              replace H : (if t1052 = true then (if t1040 = 0 then ((laws_sameInts.f kj2 t1037 t1019).bind fun t1053 => (if t1053 = true then (if t1042 = 0 then (if ((t1041 == 0) == ((t1022.length : Int) == 0)) = true then (if t1041 ≥ 0 then (if t1044 = 0 then (if t1046 = 0 then (if t1043 = (wrap64 (-t1045)) then (if ((t1050 == 11) == (decide (t1043 < 0))) = true then ((impl_NatOK.f t1025).bind fun t1054 => (some t1054)) else (some false)) else (some false)) else (some false)) else (some false)) else (some false)) else (some false)) else (some false)) else (some false))) else (some false)) else (some false)) = some r := H
              have A20 := Aside0.mk A200
              clear A200
              by_cases c21 : t1052 = true
              · subst c21
                have H1 : (if t1040 = 0 then ((laws_sameInts.f kj2 t1037 t1019).bind fun t1053 => (if t1053 = true then (if t1042 = 0 then (if ((t1041 == 0) == ((t1022.length : Int) == 0)) = true then (if t1041 ≥ 0 then (if t1044 = 0 then (if t1046 = 0 then (if t1043 = (wrap64 (-t1045)) then (if ((t1050 == 11) == (decide (t1043 < 0))) = true then ((impl_NatOK.f t1025).bind fun t1054 => (some t1054)) else (some false)) else (some false)) else (some false)) else (some false)) else (some false)) else (some false)) else (some false)) else (some false))) else (some false)) = some r := by rw [if_pos rfl] at H; exact H
                clear H
                have H := H1
                clear H1
                by_cases c22 : t1040 = 0
                · rw [if_pos c22] at H
                  have c22b0 : (t1040 == 0) = true := beq_iff_eq.mpr c22
                  have c22b1 : (t1040 != 0) = false := bne_eq_false_iff_eq.mpr c22
                  clear c22
                  replace H := Option.bind_eq_some_iff.mp H
                  obtain ⟨t1053, A230, H⟩ := H
                  replace H : (if t1053 = true then (if t1042 = 0 then (if ((t1041 == 0) == ((t1022.length : Int) == 0)) = true then (if t1041 ≥ 0 then (if t1044 = 0 then (if t1046 = 0 then (if t1043 = (wrap64 (-t1045)) then (if ((t1050 == 11) == (decide (t1043 < 0))) = true then ((impl_NatOK.f t1025).bind fun t1054 => (some t1054)) else (some false)) else (some false)) else (some false)) else (some false)) else (some false)) else (some false)) else (some false)) else (some false)) = some r := H
                  have A23 := Aside0.mk A230
                  clear A230
                  by_cases c24 : t1053 = true
                  · subst c24
                    have H1 : (if t1042 = 0 then (if ((t1041 == 0) == ((t1022.length : Int) == 0)) = true then (if t1041 ≥ 0 then (if t1044 = 0 then (if t1046 = 0 then (if t1043 = (wrap64 (-t1045)) then (if ((t1050 == 11) == (decide (t1043 < 0))) = true then ((impl_NatOK.f t1025).bind fun t1054 => (some t1054)) else (some false)) else (some false)) else (some false)) else (some false)) else (some false)) else (some false)) else (some false)) = some r := by rw [if_pos rfl] at H; exact H
                    clear H
                    have H := H1
                    clear H1
                    by_cases c25 : t1042 = 0
                    · rw [if_pos c25] at H
                      have c25b0 : (t1042 == 0) = true := beq_iff_eq.mpr c25
                      have c25b1 : (t1042 != 0) = false := bne_eq_false_iff_eq.mpr c25
                      clear c25
                      by_cases c26 : ((t1041 == 0) == ((t1022.length : Int) == 0)) = true
                      · rw [if_pos c26] at H
                        have c26b0 : ((t1041 == 0) == ((t1022.length : Int) == 0)) = true := c26
                        (try (have c26b1 : decide ((t1041 == 0) = ((t1022.length : Int) == 0)) = true := by simpa using c26))
                        (try (have c26b2 : ((t1041 == 0) == ((t1022.length : Int) == 0)) = true := by simpa using c26))
                        clear c26
                        by_cases c27 : t1041 ≥ 0
                        · rw [if_pos c27] at H
                          have c27b0 : decide (0 ≤ t1041) = true := decide_eq_true c27
                          clear c27
                          by_cases c28 : t1044 = 0
                          · rw [if_pos c28] at H
                            have c28b0 : (t1044 == 0) = true := beq_iff_eq.mpr c28
                            have c28b1 : (t1044 != 0) = false := bne_eq_false_iff_eq.mpr c28
                            clear c28
                            by_cases c29 : t1046 = 0
                            · rw [if_pos c29] at H
                              have c29b0 : (t1046 == 0) = true := beq_iff_eq.mpr c29
                              have c29b1 : (t1046 != 0) = false := bne_eq_false_iff_eq.mpr c29
                              clear c29
                              by_cases c30 : t1043 = (wrap64 (-t1045))
                              · rw [if_pos c30] at H
                                have c30b0 : (t1043 == (wrap64 (-t1045))) = true := beq_iff_eq.mpr c30
                                have c30b1 : (t1043 != (wrap64 (-t1045))) = false := bne_eq_false_iff_eq.mpr c30
                                clear c30
                                by_cases c31 : ((t1050 == 11) == (decide (t1043 < 0))) = true
                                · rw [if_pos c31] at H
                                  have c31b0 : ((t1050 == 11) == (decide (t1043 < 0))) = true := c31
                                  (try (have c31b1 : decide ((t1050 == 11) = (decide (t1043 < 0))) = true := by simpa using c31))
                                  (try (have c31b2 : ((t1050 == 11) == (decide (t1043 < 0))) = true := by simpa using c31))
                                  clear c31
                                  replace H := Option.bind_eq_some_iff.mp H
                                  obtain ⟨t1054, A320, H⟩ := H
                                  replace H : (some t1054) = some r := H
                                  have A32 := Aside0.mk A320
                                  clear A320
                                  obtain rfl := Option.some.inj H
                                  go_wp2_with (first | ((with_reducible refine gate_callee (f := 28) rfl ?_); refine goesL_ (some 32) rfl rfl Try.func28 (by kernel_rfl) rfl #[.slice A0 l0.length c0] rfl (by (try simp only [List.map_toArray, List.map_cons, List.map_nil]); first | done | rfl | (simp only [List.length_drop, List.length_take]; rfl)) ?_; (with_reducible refine (spec_NatDrawn.calls kj2 _ _ l0 t1019 _ ?side1 ?side2 A6.out).mono ?_); (case side1 => repeat (first | exact (Kd.C_below HR0.out HB.out) | (with_reducible refine Kd.C_alloc ?_ _) | (with_reducible refine Kd.C_drewN ?_ _) | (with_reducible refine Kd.C_drew ?_))); (case side2 => exact HC0.out); rintro e w33 ⟨v1020, rfl, ho0, hb⟩; refine ⟨_, rfl, ?_⟩; have n0_ := Aside0.mk (Kd.R_lower ho0 (below_size (by repeat (first | (with_reducible first | exact HB.out | apply below_alloc | apply pw_below_drewN | apply below_drew1) | exact HB.out)))); have n1_ := Aside0.mk (below_step (by repeat (first | (with_reducible first | exact HB.out | apply below_alloc | apply pw_below_drewN | apply below_drew1) | exact HB.out)) hb); clear HB; have HO1021 := n0_; have HB := n1_; clear n0_ n1_; (try clear hb); (try clear hb2); (try clear hk); (try clear hi); (try clear ho0)) | ((with_reducible refine gate_callee (f := 28) rfl ?_); refine goesL_ (some 34) rfl rfl Try.func28 (by kernel_rfl) rfl #[.slice A1 l1.length c1] rfl (by (try simp only [List.map_toArray, List.map_cons, List.map_nil]); first | done | rfl | (simp only [List.length_drop, List.length_take]; rfl)) ?_; (with_reducible refine (spec_NatDrawn.calls kj2 _ _ l1 t1022 _ ?side1 ?side2 A7.out).mono ?_); (case side1 => repeat (first | exact (Kd.C_below HR1.out HB.out) | (with_reducible refine Kd.C_alloc ?_ _) | (with_reducible refine Kd.C_drewN ?_ _) | (with_reducible refine Kd.C_drew ?_))); (case side2 => exact HC1.out); rintro e w34 ⟨v1023, rfl, ho0, hb⟩; refine ⟨_, rfl, ?_⟩; have n0_ := Aside0.mk (Kd.R_elder' (by (with_reducible repeat (first | apply Kd.R_alloc | apply Kd.R_drewN | apply Kd.R_drew)); exact HO1021.out) (Kd.R_base ho0) hb); have n1_ := Aside0.mk (Kd.R_lower (Kd.R_new' ho0 (Kd.R_lt (by (with_reducible repeat (first | apply Kd.R_alloc | apply Kd.R_drewN | apply Kd.R_drew)); exact HO1021.out))) (below_size (by repeat (first | (with_reducible first | exact HB.out | apply below_alloc | apply pw_below_drewN | apply below_drew1) | exact HB.out)))); have n2_ := Aside0.mk (below_step (by repeat (first | (with_reducible first | exact HB.out | apply below_alloc | apply pw_below_drewN | apply below_drew1) | exact HB.out)) hb); clear HO1021; clear HB; have HO1021 := n0_; have HO1024 := n1_; have HB := n2_; clear n0_ n1_ n2_; (try clear hb); (try clear hb2); (try clear hk); (try clear hi); (try clear ho0); obtain ⟨Ao35, co35, eo35⟩ := Kd.R_slice HO1021.out; subst eo35; obtain ⟨Ao36, co36, eo36⟩ := Kd.R_slice HO1024.out; subst eo36) | ((with_reducible refine gate_callee (f := 23) rfl ?_); refine goesL_ (some 38) rfl rfl Try.func23 (by kernel_rfl) rfl #[.slice Ao35 t1019.length co35, .slice Ao36 t1022.length co36] rfl (by (try simp only [List.map_toArray, List.map_cons, List.map_nil]); first | done | rfl | (simp only [List.length_drop, List.length_take]; rfl)) ?_; (with_reducible refine (impl_AddNat.calls kj2 (fun k_ => some k_ = (.slice Ao35 t1019.length co35 : Value).ownBlock) _ _ t1019 (fun k_ => some k_ = (.slice Ao36 t1022.length co36 : Value).ownBlock) _ _ t1022 t1025 t1028 _ ?side1 ?side2 A8.out).mono ?_); (case side1 => exact Kd.R_V (Kd.R_tight rfl (HO1021.out))); (case side2 => exact Kd.R_V (Kd.R_tight rfl (HO1024.out))); rintro e w37 ⟨v1026, rfl, ho0, hb⟩; refine ⟨_, rfl, ?_⟩; have n0_ := Aside0.mk (Kd.R_elder' (by (with_reducible repeat (first | apply Kd.R_alloc | apply Kd.R_drewN | apply Kd.R_drew)); exact HO1021.out) (Kd.R_base ho0) hb); have n1_ := Aside0.mk (Kd.R_elder' (by (with_reducible repeat (first | apply Kd.R_alloc | apply Kd.R_drewN | apply Kd.R_drew)); exact HO1024.out) (Kd.R_base ho0) hb); have n2_ := Aside0.mk (Kd.R_lower (Kd.R_new' (Kd.R_new' (Kd.R_mono (ok' := fun k_ => True) ho0 (fun _ hk_ => trivial)) (Kd.R_lt (by (with_reducible repeat (first | apply Kd.R_alloc | apply Kd.R_drewN | apply Kd.R_drew)); exact HO1021.out))) (Kd.R_lt (by (with_reducible repeat (first | apply Kd.R_alloc | apply Kd.R_drewN | apply Kd.R_drew)); exact HO1024.out))) (below_size (by repeat (first | (with_reducible first | exact HB.out | apply below_alloc | apply pw_below_drewN | apply below_drew1) | exact HB.out)))); have n3_ := Aside0.mk (below_step (by repeat (first | (with_reducible first | exact HB.out | apply below_alloc | apply pw_below_drewN | apply below_drew1) | exact HB.out)) hb); clear HO1021; clear HO1024; clear HB; have HO1021 := n0_; have HO1024 := n1_; have HO1027 := n2_; have HB := n3_; clear n0_ n1_ n2_ n3_; (try clear hb); (try clear hb2); (try clear hk); (try clear hi); (try clear ho0)) | ((with_reducible refine gate_callee (f := 22) rfl ?_); refine goesL_ (some 44) rfl rfl Try.func22 (by kernel_rfl) rfl #[.slice Ao35 t1019.length co35, .slice Ao36 t1022.length co36] rfl (by (try simp only [List.map_toArray, List.map_cons, List.map_nil]); first | done | rfl | (simp only [List.length_drop, List.length_take]; rfl)) ?_; (with_reducible refine (spec_AddNat.calls kj2 _ _ t1019 _ _ t1022 t1029 t1030 _ ?side1 ?side2 ?side3 ?side4 A9.out).mono ?_); (case side1 => repeat (first | exact (Kd.R_reads' HO1021.out).2.2 | (with_reducible refine Kd.C_alloc ?_ _) | (with_reducible refine Kd.C_drewN ?_ _) | (with_reducible refine Kd.C_drew ?_))); (case side2 => exact (Kd.R_reads' HO1021.out).2.1); (case side3 => repeat (first | exact (Kd.R_reads' HO1024.out).2.2 | (with_reducible refine Kd.C_alloc ?_ _) | (with_reducible refine Kd.C_drewN ?_ _) | (with_reducible refine Kd.C_drew ?_))); (case side4 => exact (Kd.R_reads' HO1024.out).2.1); rintro e w38 ⟨v1031, rfl, ho0, hb⟩; refine ⟨_, rfl, ?_⟩; have n0_ := Aside0.mk (Kd.R_elder' (by (with_reducible repeat (first | apply Kd.R_alloc | apply Kd.R_drewN | apply Kd.R_drew)); exact HO1021.out) (Kd.R_base ho0) hb); have n1_ := Aside0.mk (Kd.R_elder' (by (with_reducible repeat (first | apply Kd.R_alloc | apply Kd.R_drewN | apply Kd.R_drew)); exact HO1024.out) (Kd.R_base ho0) hb); have n2_ := Aside0.mk (Kd.R_elder' (by (with_reducible repeat (first | apply Kd.R_alloc | apply Kd.R_drewN | apply Kd.R_drew)); exact HO1027.out) (Kd.R_base ho0) hb); have n3_ := Aside0.mk (Kd.R_lower (Kd.R_new' (Kd.R_new' (Kd.R_new' ho0 (Kd.R_lt (by (with_reducible repeat (first | apply Kd.R_alloc | apply Kd.R_drewN | apply Kd.R_drew)); exact HO1021.out))) (Kd.R_lt (by (with_reducible repeat (first | apply Kd.R_alloc | apply Kd.R_drewN | apply Kd.R_drew)); exact HO1024.out))) (Kd.R_lt (by (with_reducible repeat (first | apply Kd.R_alloc | apply Kd.R_drewN | apply Kd.R_drew)); exact HO1027.out))) (below_size (by repeat (first | (with_reducible first | exact HB.out | apply below_alloc | apply pw_below_drewN | apply below_drew1) | exact HB.out)))); have n4_ := Aside0.mk (below_step (by repeat (first | (with_reducible first | exact HB.out | apply below_alloc | apply pw_below_drewN | apply below_drew1) | exact HB.out)) hb); clear HO1021; clear HO1024; clear HO1027; clear HB; have HO1021 := n0_; have HO1024 := n1_; have HO1027 := n2_; have HO1032 := n3_; have HB := n4_; clear n0_ n1_ n2_ n3_ n4_; (try clear hb); (try clear hb2); (try clear hk); (try clear hi); (try clear ho0)) | ((with_reducible refine gate_callee (f := 23) rfl ?_); refine goesL_ (some 50) rfl rfl Try.func23 (by kernel_rfl) rfl #[.slice Ao36 t1022.length co36, .slice Ao35 t1019.length co35] rfl (by (try simp only [List.map_toArray, List.map_cons, List.map_nil]); first | done | rfl | (simp only [List.length_drop, List.length_take]; rfl)) ?_; (with_reducible refine (impl_AddNat.calls kj2 (fun k_ => some k_ = (.slice Ao36 t1022.length co36 : Value).ownBlock) _ _ t1022 (fun k_ => some k_ = (.slice Ao35 t1019.length co35 : Value).ownBlock) _ _ t1019 t1033 t1036 _ ?side1 ?side2 A10.out).mono ?_); (case side1 => exact Kd.R_V (Kd.R_tight rfl (HO1024.out))); (case side2 => exact Kd.R_V (Kd.R_tight rfl (HO1021.out))); rintro e w39 ⟨v1034, rfl, ho0, hb⟩; refine ⟨_, rfl, ?_⟩; have n0_ := Aside0.mk (Kd.R_elder' (by (with_reducible repeat (first | apply Kd.R_alloc | apply Kd.R_drewN | apply Kd.R_drew)); exact HO1021.out) (Kd.R_base ho0) hb); have n1_ := Aside0.mk (Kd.R_elder' (by (with_reducible repeat (first | apply Kd.R_alloc | apply Kd.R_drewN | apply Kd.R_drew)); exact HO1024.out) (Kd.R_base ho0) hb); have n2_ := Aside0.mk (Kd.R_elder' (by (with_reducible repeat (first | apply Kd.R_alloc | apply Kd.R_drewN | apply Kd.R_drew)); exact HO1027.out) (Kd.R_base ho0) hb); have n3_ := Aside0.mk (Kd.R_elder' (by (with_reducible repeat (first | apply Kd.R_alloc | apply Kd.R_drewN | apply Kd.R_drew)); exact HO1032.out) (Kd.R_base ho0) hb); have n4_ := Aside0.mk (Kd.R_lower (Kd.R_new' (Kd.R_new' (Kd.R_new' (Kd.R_new' (Kd.R_mono (ok' := fun k_ => True) ho0 (fun _ hk_ => trivial)) (Kd.R_lt (by (with_reducible repeat (first | apply Kd.R_alloc | apply Kd.R_drewN | apply Kd.R_drew)); exact HO1021.out))) (Kd.R_lt (by (with_reducible repeat (first | apply Kd.R_alloc | apply Kd.R_drewN | apply Kd.R_drew)); exact HO1024.out))) (Kd.R_lt (by (with_reducible repeat (first | apply Kd.R_alloc | apply Kd.R_drewN | apply Kd.R_drew)); exact HO1027.out))) (Kd.R_lt (by (with_reducible repeat (first | apply Kd.R_alloc | apply Kd.R_drewN | apply Kd.R_drew)); exact HO1032.out))) (below_size (by repeat (first | (with_reducible first | exact HB.out | apply below_alloc | apply pw_below_drewN | apply below_drew1) | exact HB.out)))); have n5_ := Aside0.mk (below_step (by repeat (first | (with_reducible first | exact HB.out | apply below_alloc | apply pw_below_drewN | apply below_drew1) | exact HB.out)) hb); clear HO1021; clear HO1024; clear HO1027; clear HO1032; clear HB; have HO1021 := n0_; have HO1024 := n1_; have HO1027 := n2_; have HO1032 := n3_; have HO1035 := n4_; have HB := n5_; clear n0_ n1_ n2_ n3_ n4_ n5_; (try clear hb); (try clear hb2); (try clear hk); (try clear hi); (try clear ho0); obtain ⟨Ao40, co40, eo40⟩ := Kd.R_slice HO1027.out; subst eo40) | ((with_reducible refine gate_callee (f := 31) rfl ?_); refine goesL_ (some 56) rfl rfl Try.func31 (by kernel_rfl) rfl #[.slice Ao40 t1025.length co40, .slice Ao36 t1022.length co36] rfl (by (try simp only [List.map_toArray, List.map_cons, List.map_nil]); first | done | rfl | (simp only [List.length_drop, List.length_take]; rfl)) ?_; (with_reducible refine (impl_SubNat.calls kj2 (fun k_ => some k_ = (.slice Ao40 t1025.length co40 : Value).ownBlock) _ _ t1025 (fun k_ => some k_ = (.slice Ao36 t1022.length co36 : Value).ownBlock) _ _ t1022 t1037 t1040 _ ?side1 ?side2 A11.out).mono ?_); (case side1 => exact Kd.R_V (Kd.R_tight rfl (HO1027.out))); (case side2 => exact Kd.R_V (Kd.R_tight rfl (HO1024.out))); rintro e w41 ⟨v1038, rfl, ho0, hb⟩; refine ⟨_, rfl, ?_⟩; have n0_ := Aside0.mk (Kd.R_elder' (by (with_reducible repeat (first | apply Kd.R_alloc | apply Kd.R_drewN | apply Kd.R_drew)); exact HO1021.out) (Kd.R_base ho0) hb); have n1_ := Aside0.mk (Kd.R_elder' (by (with_reducible repeat (first | apply Kd.R_alloc | apply Kd.R_drewN | apply Kd.R_drew)); exact HO1024.out) (Kd.R_base ho0) hb); have n2_ := Aside0.mk (Kd.R_elder' (by (with_reducible repeat (first | apply Kd.R_alloc | apply Kd.R_drewN | apply Kd.R_drew)); exact HO1027.out) (Kd.R_base ho0) hb); have n3_ := Aside0.mk (Kd.R_elder' (by (with_reducible repeat (first | apply Kd.R_alloc | apply Kd.R_drewN | apply Kd.R_drew)); exact HO1032.out) (Kd.R_base ho0) hb); have n4_ := Aside0.mk (Kd.R_elder' (by (with_reducible repeat (first | apply Kd.R_alloc | apply Kd.R_drewN | apply Kd.R_drew)); exact HO1035.out) (Kd.R_base ho0) hb); have n5_ := Aside0.mk (Kd.R_lower (Kd.R_new' (Kd.R_new' (Kd.R_new' (Kd.R_new' (Kd.R_new' (Kd.R_mono (ok' := fun k_ => True) ho0 (fun _ hk_ => trivial)) (Kd.R_lt (by (with_reducible repeat (first | apply Kd.R_alloc | apply Kd.R_drewN | apply Kd.R_drew)); exact HO1021.out))) (Kd.R_lt (by (with_reducible repeat (first | apply Kd.R_alloc | apply Kd.R_drewN | apply Kd.R_drew)); exact HO1024.out))) (Kd.R_lt (by (with_reducible repeat (first | apply Kd.R_alloc | apply Kd.R_drewN | apply Kd.R_drew)); exact HO1027.out))) (Kd.R_lt (by (with_reducible repeat (first | apply Kd.R_alloc | apply Kd.R_drewN | apply Kd.R_drew)); exact HO1032.out))) (Kd.R_lt (by (with_reducible repeat (first | apply Kd.R_alloc | apply Kd.R_drewN | apply Kd.R_drew)); exact HO1035.out))) (below_size (by repeat (first | (with_reducible first | exact HB.out | apply below_alloc | apply pw_below_drewN | apply below_drew1) | exact HB.out)))); have n6_ := Aside0.mk (below_step (by repeat (first | (with_reducible first | exact HB.out | apply below_alloc | apply pw_below_drewN | apply below_drew1) | exact HB.out)) hb); clear HO1021; clear HO1024; clear HO1027; clear HO1032; clear HO1035; clear HB; have HO1021 := n0_; have HO1024 := n1_; have HO1027 := n2_; have HO1032 := n3_; have HO1035 := n4_; have HO1039 := n5_; have HB := n6_; clear n0_ n1_ n2_ n3_ n4_ n5_ n6_; (try clear hb); (try clear hb2); (try clear hk); (try clear hi); (try clear ho0)) | ((with_reducible refine gate_callee (f := 21) rfl ?_); refine goesL_ (some 62) rfl rfl Try.func21 (by kernel_rfl) rfl #[.slice Ao40 t1025.length co40, .slice Ao35 t1019.length co35] rfl (by (try simp only [List.map_toArray, List.map_cons, List.map_nil]); first | done | rfl | (simp only [List.length_drop, List.length_take]; rfl)) ?_; (with_reducible refine (impl_CmpNat.calls kj2 (fun k_ => some k_ = (.slice Ao40 t1025.length co40 : Value).ownBlock) _ _ t1025 (fun k_ => some k_ = (.slice Ao35 t1019.length co35 : Value).ownBlock) _ _ t1019 t1041 t1042 _ ?side1 ?side2 A12.out).mono ?_); (case side1 => exact Kd.R_V (Kd.R_tight rfl (HO1027.out))); (case side2 => exact Kd.R_V (Kd.R_tight rfl (HO1021.out))); rintro e w42 ⟨rfl, hb⟩; refine ⟨_, rfl, ?_⟩; have n0_ := Aside0.mk (Kd.R_below (by (with_reducible repeat (first | apply Kd.R_alloc | apply Kd.R_drewN | apply Kd.R_drew)); exact HO1021.out) hb); have n1_ := Aside0.mk (Kd.R_below (by (with_reducible repeat (first | apply Kd.R_alloc | apply Kd.R_drewN | apply Kd.R_drew)); exact HO1024.out) hb); have n2_ := Aside0.mk (Kd.R_below (by (with_reducible repeat (first | apply Kd.R_alloc | apply Kd.R_drewN | apply Kd.R_drew)); exact HO1027.out) hb); have n3_ := Aside0.mk (Kd.R_below (by (with_reducible repeat (first | apply Kd.R_alloc | apply Kd.R_drewN | apply Kd.R_drew)); exact HO1032.out) hb); have n4_ := Aside0.mk (Kd.R_below (by (with_reducible repeat (first | apply Kd.R_alloc | apply Kd.R_drewN | apply Kd.R_drew)); exact HO1035.out) hb); have n5_ := Aside0.mk (Kd.R_below (by (with_reducible repeat (first | apply Kd.R_alloc | apply Kd.R_drewN | apply Kd.R_drew)); exact HO1039.out) hb); have n6_ := Aside0.mk (below_step (by repeat (first | (with_reducible first | exact HB.out | apply below_alloc | apply pw_below_drewN | apply below_drew1) | exact HB.out)) hb); clear HO1021; clear HO1024; clear HO1027; clear HO1032; clear HO1035; clear HO1039; clear HB; have HO1021 := n0_; have HO1024 := n1_; have HO1027 := n2_; have HO1032 := n3_; have HO1035 := n4_; have HO1039 := n5_; have HB := n6_; clear n0_ n1_ n2_ n3_ n4_ n5_ n6_; (try clear hb); (try clear hb2); (try clear hk); (try clear hi)) | ((with_reducible refine gate_callee (f := 21) rfl ?_); refine goesL_ (some 68) rfl rfl Try.func21 (by kernel_rfl) rfl #[.slice Ao35 t1019.length co35, .slice Ao36 t1022.length co36] rfl (by (try simp only [List.map_toArray, List.map_cons, List.map_nil]); first | done | rfl | (simp only [List.length_drop, List.length_take]; rfl)) ?_; (with_reducible refine (impl_CmpNat.calls kj2 (fun k_ => some k_ = (.slice Ao35 t1019.length co35 : Value).ownBlock) _ _ t1019 (fun k_ => some k_ = (.slice Ao36 t1022.length co36 : Value).ownBlock) _ _ t1022 t1043 t1044 _ ?side1 ?side2 A13.out).mono ?_); (case side1 => exact Kd.R_V (Kd.R_tight rfl (HO1021.out))); (case side2 => exact Kd.R_V (Kd.R_tight rfl (HO1024.out))); rintro e w43 ⟨rfl, hb⟩; refine ⟨_, rfl, ?_⟩; have n0_ := Aside0.mk (Kd.R_below (by (with_reducible repeat (first | apply Kd.R_alloc | apply Kd.R_drewN | apply Kd.R_drew)); exact HO1021.out) hb); have n1_ := Aside0.mk (Kd.R_below (by (with_reducible repeat (first | apply Kd.R_alloc | apply Kd.R_drewN | apply Kd.R_drew)); exact HO1024.out) hb); have n2_ := Aside0.mk (Kd.R_below (by (with_reducible repeat (first | apply Kd.R_alloc | apply Kd.R_drewN | apply Kd.R_drew)); exact HO1027.out) hb); have n3_ := Aside0.mk (Kd.R_below (by (with_reducible repeat (first | apply Kd.R_alloc | apply Kd.R_drewN | apply Kd.R_drew)); exact HO1032.out) hb); have n4_ := Aside0.mk (Kd.R_below (by (with_reducible repeat (first | apply Kd.R_alloc | apply Kd.R_drewN | apply Kd.R_drew)); exact HO1035.out) hb); have n5_ := Aside0.mk (Kd.R_below (by (with_reducible repeat (first | apply Kd.R_alloc | apply Kd.R_drewN | apply Kd.R_drew)); exact HO1039.out) hb); have n6_ := Aside0.mk (below_step (by repeat (first | (with_reducible first | exact HB.out | apply below_alloc | apply pw_below_drewN | apply below_drew1) | exact HB.out)) hb); clear HO1021; clear HO1024; clear HO1027; clear HO1032; clear HO1035; clear HO1039; clear HB; have HO1021 := n0_; have HO1024 := n1_; have HO1027 := n2_; have HO1032 := n3_; have HO1035 := n4_; have HO1039 := n5_; have HB := n6_; clear n0_ n1_ n2_ n3_ n4_ n5_ n6_; (try clear hb); (try clear hb2); (try clear hk); (try clear hi)) | ((with_reducible refine gate_callee (f := 21) rfl ?_); refine goesL_ (some 74) rfl rfl Try.func21 (by kernel_rfl) rfl #[.slice Ao36 t1022.length co36, .slice Ao35 t1019.length co35] rfl (by (try simp only [List.map_toArray, List.map_cons, List.map_nil]); first | done | rfl | (simp only [List.length_drop, List.length_take]; rfl)) ?_; (with_reducible refine (impl_CmpNat.calls kj2 (fun k_ => some k_ = (.slice Ao36 t1022.length co36 : Value).ownBlock) _ _ t1022 (fun k_ => some k_ = (.slice Ao35 t1019.length co35 : Value).ownBlock) _ _ t1019 t1045 t1046 _ ?side1 ?side2 A14.out).mono ?_); (case side1 => exact Kd.R_V (Kd.R_tight rfl (HO1024.out))); (case side2 => exact Kd.R_V (Kd.R_tight rfl (HO1021.out))); rintro e w44 ⟨rfl, hb⟩; refine ⟨_, rfl, ?_⟩; have n0_ := Aside0.mk (Kd.R_below (by (with_reducible repeat (first | apply Kd.R_alloc | apply Kd.R_drewN | apply Kd.R_drew)); exact HO1021.out) hb); have n1_ := Aside0.mk (Kd.R_below (by (with_reducible repeat (first | apply Kd.R_alloc | apply Kd.R_drewN | apply Kd.R_drew)); exact HO1024.out) hb); have n2_ := Aside0.mk (Kd.R_below (by (with_reducible repeat (first | apply Kd.R_alloc | apply Kd.R_drewN | apply Kd.R_drew)); exact HO1027.out) hb); have n3_ := Aside0.mk (Kd.R_below (by (with_reducible repeat (first | apply Kd.R_alloc | apply Kd.R_drewN | apply Kd.R_drew)); exact HO1032.out) hb); have n4_ := Aside0.mk (Kd.R_below (by (with_reducible repeat (first | apply Kd.R_alloc | apply Kd.R_drewN | apply Kd.R_drew)); exact HO1035.out) hb); have n5_ := Aside0.mk (Kd.R_below (by (with_reducible repeat (first | apply Kd.R_alloc | apply Kd.R_drewN | apply Kd.R_drew)); exact HO1039.out) hb); have n6_ := Aside0.mk (below_step (by repeat (first | (with_reducible first | exact HB.out | apply below_alloc | apply pw_below_drewN | apply below_drew1) | exact HB.out)) hb); clear HO1021; clear HO1024; clear HO1027; clear HO1032; clear HO1035; clear HO1039; clear HB; have HO1021 := n0_; have HO1024 := n1_; have HO1027 := n2_; have HO1032 := n3_; have HO1035 := n4_; have HO1039 := n5_; have HB := n6_; clear n0_ n1_ n2_ n3_ n4_ n5_ n6_; (try clear hb); (try clear hb2); (try clear hk); (try clear hi)) | ((with_reducible refine gate_callee (f := 31) rfl ?_); refine goesL_ (some 80) rfl rfl Try.func31 (by kernel_rfl) rfl #[.slice Ao35 t1019.length co35, .slice Ao36 t1022.length co36] rfl (by (try simp only [List.map_toArray, List.map_cons, List.map_nil]); first | done | rfl | (simp only [List.length_drop, List.length_take]; rfl)) ?_; (with_reducible refine (impl_SubNat.calls kj2 (fun k_ => some k_ = (.slice Ao35 t1019.length co35 : Value).ownBlock) _ _ t1019 (fun k_ => some k_ = (.slice Ao36 t1022.length co36 : Value).ownBlock) _ _ t1022 t1047 t1050 _ ?side1 ?side2 A15.out).mono ?_); (case side1 => exact Kd.R_V (Kd.R_tight rfl (HO1021.out))); (case side2 => exact Kd.R_V (Kd.R_tight rfl (HO1024.out))); rintro e w45 ⟨v1048, rfl, ho0, hb⟩; refine ⟨_, rfl, ?_⟩; have n0_ := Aside0.mk (Kd.R_elder' (by (with_reducible repeat (first | apply Kd.R_alloc | apply Kd.R_drewN | apply Kd.R_drew)); exact HO1021.out) (Kd.R_base ho0) hb); have n1_ := Aside0.mk (Kd.R_elder' (by (with_reducible repeat (first | apply Kd.R_alloc | apply Kd.R_drewN | apply Kd.R_drew)); exact HO1024.out) (Kd.R_base ho0) hb); have n2_ := Aside0.mk (Kd.R_elder' (by (with_reducible repeat (first | apply Kd.R_alloc | apply Kd.R_drewN | apply Kd.R_drew)); exact HO1027.out) (Kd.R_base ho0) hb); have n3_ := Aside0.mk (Kd.R_elder' (by (with_reducible repeat (first | apply Kd.R_alloc | apply Kd.R_drewN | apply Kd.R_drew)); exact HO1032.out) (Kd.R_base ho0) hb); have n4_ := Aside0.mk (Kd.R_elder' (by (with_reducible repeat (first | apply Kd.R_alloc | apply Kd.R_drewN | apply Kd.R_drew)); exact HO1035.out) (Kd.R_base ho0) hb); have n5_ := Aside0.mk (Kd.R_elder' (by (with_reducible repeat (first | apply Kd.R_alloc | apply Kd.R_drewN | apply Kd.R_drew)); exact HO1039.out) (Kd.R_base ho0) hb); have n6_ := Aside0.mk (Kd.R_lower (Kd.R_new' (Kd.R_new' (Kd.R_new' (Kd.R_new' (Kd.R_new' (Kd.R_new' (Kd.R_mono (ok' := fun k_ => True) ho0 (fun _ hk_ => trivial)) (Kd.R_lt (by (with_reducible repeat (first | apply Kd.R_alloc | apply Kd.R_drewN | apply Kd.R_drew)); exact HO1021.out))) (Kd.R_lt (by (with_reducible repeat (first | apply Kd.R_alloc | apply Kd.R_drewN | apply Kd.R_drew)); exact HO1024.out))) (Kd.R_lt (by (with_reducible repeat (first | apply Kd.R_alloc | apply Kd.R_drewN | apply Kd.R_drew)); exact HO1027.out))) (Kd.R_lt (by (with_reducible repeat (first | apply Kd.R_alloc | apply Kd.R_drewN | apply Kd.R_drew)); exact HO1032.out))) (Kd.R_lt (by (with_reducible repeat (first | apply Kd.R_alloc | apply Kd.R_drewN | apply Kd.R_drew)); exact HO1035.out))) (Kd.R_lt (by (with_reducible repeat (first | apply Kd.R_alloc | apply Kd.R_drewN | apply Kd.R_drew)); exact HO1039.out))) (below_size (by repeat (first | (with_reducible first | exact HB.out | apply below_alloc | apply pw_below_drewN | apply below_drew1) | exact HB.out)))); have n7_ := Aside0.mk (below_step (by repeat (first | (with_reducible first | exact HB.out | apply below_alloc | apply pw_below_drewN | apply below_drew1) | exact HB.out)) hb); clear HO1021; clear HO1024; clear HO1027; clear HO1032; clear HO1035; clear HO1039; clear HB; have HO1021 := n0_; have HO1024 := n1_; have HO1027 := n2_; have HO1032 := n3_; have HO1035 := n4_; have HO1039 := n5_; have HO1049 := n6_; have HB := n7_; clear n0_ n1_ n2_ n3_ n4_ n5_ n6_ n7_; (try clear hb); (try clear hb2); (try clear hk); (try clear hi); (try clear ho0); obtain ⟨Ao46, co46, eo46⟩ := Kd.R_slice HO1032.out; subst eo46) | (go_at_call 29; (with_reducible refine (laws_sameInts.calls kj2 _ _ t1025 _ _ t1029 true _ ?side1 ?side2 ?side3 ?side4 A17.out).mono ?_); (case side1 => repeat (first | exact (Kd.R_reads' HO1027.out).2.2 | (with_reducible refine Kd.C_alloc ?_ _) | (with_reducible refine Kd.C_drewN ?_ _) | (with_reducible refine Kd.C_drew ?_))); (case side2 => exact (Kd.R_reads' HO1027.out).2.1); (case side3 => repeat (first | exact (Kd.R_reads' HO1032.out).2.2 | (with_reducible refine Kd.C_alloc ?_ _) | (with_reducible refine Kd.C_drewN ?_ _) | (with_reducible refine Kd.C_drew ?_))); (case side4 => exact (Kd.R_reads' HO1032.out).2.1); rintro e w' ⟨rfl, ⟨nd, rfl⟩⟩; obtain ⟨Ao47, co47, eo47⟩ := Kd.R_slice HO1035.out; subst eo47) | (go_at_call 29; (with_reducible refine (laws_sameInts.calls kj2 _ _ t1033 _ _ t1025 true _ ?side1 ?side2 ?side3 ?side4 A20.out).mono ?_); (case side1 => repeat (first | exact (Kd.R_reads' HO1035.out).2.2 | (with_reducible refine Kd.C_alloc ?_ _) | (with_reducible refine Kd.C_drewN ?_ _) | (with_reducible refine Kd.C_drew ?_))); (case side2 => exact (Kd.R_reads' HO1035.out).2.1); (case side3 => repeat (first | exact (Kd.R_reads' HO1027.out).2.2 | (with_reducible refine Kd.C_alloc ?_ _) | (with_reducible refine Kd.C_drewN ?_ _) | (with_reducible refine Kd.C_drew ?_))); (case side4 => exact (Kd.R_reads' HO1027.out).2.1); rintro e w' ⟨rfl, ⟨nd, rfl⟩⟩; obtain ⟨Ao48, co48, eo48⟩ := Kd.R_slice HO1039.out; subst eo48) | (go_at_call 29; (with_reducible refine (laws_sameInts.calls kj2 _ _ t1037 _ _ t1019 true _ ?side1 ?side2 ?side3 ?side4 A23.out).mono ?_); (case side1 => repeat (first | exact (Kd.R_reads' HO1039.out).2.2 | (with_reducible refine Kd.C_alloc ?_ _) | (with_reducible refine Kd.C_drewN ?_ _) | (with_reducible refine Kd.C_drew ?_))); (case side2 => exact (Kd.R_reads' HO1039.out).2.1); (case side3 => repeat (first | exact (Kd.R_reads' HO1021.out).2.2 | (with_reducible refine Kd.C_alloc ?_ _) | (with_reducible refine Kd.C_drewN ?_ _) | (with_reducible refine Kd.C_drew ?_))); (case side4 => exact (Kd.R_reads' HO1021.out).2.1); rintro e w' ⟨rfl, ⟨nd, rfl⟩⟩) | (go_at_call 18; (with_reducible refine (impl_NatOK.calls _ _ t1025 t1054 _ ?side1 ?side2 A32.out).mono ?_); (case side1 => repeat (first | exact (Kd.R_reads' HO1027.out).2.2 | (with_reducible refine Kd.C_alloc ?_ _) | (with_reducible refine Kd.C_drewN ?_ _) | (with_reducible refine Kd.C_drew ?_))); (case side2 => exact (Kd.R_reads' HO1027.out).2.1); rintro e w' ⟨rfl, ⟨nd, rfl⟩⟩))
                                  go_ret
                                  exact ⟨by first | rfl | (simp [errW_none, errW_some] <;> rfl) | (simp [*, errW_none, errW_some] <;> rfl), by repeat (first | (with_reducible first | exact HB.out | apply below_alloc | apply pw_below_drewN | apply below_drew1) | exact HB.out)⟩
                                · rw [if_neg c31] at H
                                  obtain rfl := Option.some.inj H
                                  exact absurd hr_ (by decide)
                              · rw [if_neg c30] at H
                                obtain rfl := Option.some.inj H
                                exact absurd hr_ (by decide)
                            · rw [if_neg c29] at H
                              obtain rfl := Option.some.inj H
                              exact absurd hr_ (by decide)
                          · rw [if_neg c28] at H
                            obtain rfl := Option.some.inj H
                            exact absurd hr_ (by decide)
                        · rw [if_neg c27] at H
                          obtain rfl := Option.some.inj H
                          exact absurd hr_ (by decide)
                      · rw [if_neg c26] at H
                        obtain rfl := Option.some.inj H
                        exact absurd hr_ (by decide)
                    · rw [if_neg c25] at H
                      obtain rfl := Option.some.inj H
                      exact absurd hr_ (by decide)
                  · replace c24 := Bool.eq_false_iff.mpr c24
                    subst c24
                    have H1 : (some false) = some r := by rw [if_neg (show ¬ (false = true) by decide)] at H; exact H
                    clear H
                    have H := H1
                    clear H1
                    obtain rfl := Option.some.inj H
                    exact absurd hr_ (by decide)
                · rw [if_neg c22] at H
                  obtain rfl := Option.some.inj H
                  exact absurd hr_ (by decide)
              · replace c21 := Bool.eq_false_iff.mpr c21
                subst c21
                have H1 : (some false) = some r := by rw [if_neg (show ¬ (false = true) by decide)] at H; exact H
                clear H
                have H := H1
                clear H1
                obtain rfl := Option.some.inj H
                exact absurd hr_ (by decide)
            · rw [if_neg c19] at H
              obtain rfl := Option.some.inj H
              exact absurd hr_ (by decide)
          · replace c18 := Bool.eq_false_iff.mpr c18
            subst c18
            have H1 : (some false) = some r := by rw [if_neg (show ¬ (false = true) by decide)] at H; exact H
            clear H
            have H := H1
            clear H1
            obtain rfl := Option.some.inj H
            exact absurd hr_ (by decide)
        · rw [if_neg c16] at H
          obtain rfl := Option.some.inj H
          exact absurd hr_ (by decide)

/-- THE ONE PURE STATEMENT of laws_FnNat: yours. -/
def laws_FnNat.Pure : Prop := ∀ (l0 : List Int) (l1 : List Int), l0.length ≤ maxLen → l0.length * 1 ≤ 140737488351232 → (∀ x ∈ l0, (Lit.int .u8 x).wf = true) → l1.length ≤ maxLen → l1.length * 1 ≤ 140737488351232 → (∀ x ∈ l1, (Lit.int .u8 x).wf = true) → ∃ k, laws_FnNat.f k l0 l1 = some true
theorem laws_FnNat.walk (P : laws_FnNat.Pure) (a0 : Option Addr) (len0 cap0 : Nat) (z0 : List Int) (a1 : Option Addr) (len1 cap1 : Nat) (z1 : List Int) (w : World) (w0 : (a0 = none ∧ len0 = 0 ∧ cap0 = 0 ∧ z0 = []) ∨ ∃ x, a0 = some x ∧ len0 ≤ cap0 ∧ cap0 ≤ maxLen ∧ z0.length = cap0 ∧ (∀ i, i < z0.length → w.cell? (x.add i) = some (.int .u8 (z0.getD i 0))) ∧ ∀ n ∈ z0, (Lit.int .u8 n).wf = true) (y0 : len0 * 1 ≤ 140737488351232) (w1 : (a1 = none ∧ len1 = 0 ∧ cap1 = 0 ∧ z1 = []) ∨ ∃ x, a1 = some x ∧ len1 ≤ cap1 ∧ cap1 ≤ maxLen ∧ z1.length = cap1 ∧ (∀ i, i < z1.length → w.cell? (x.add i) = some (.int .u8 (z1.getD i 0))) ∧ ∀ n ∈ z1, (Lit.int .u8 n).wf = true) (y1 : len1 * 1 ≤ 140737488351232) :
    Calls Try.prog 9 #[.slice a0 len0 cap0, .slice a1 len1 cap1] w fun e w' => e = .returned (.bool true) ∧ Below w.heap.size w w' := by
  obtain ⟨l0, rfl, hr0, hm0, hw0, hc0⟩ := ReadsInt.ofRowC w0
  obtain ⟨l1, rfl, hr1, hm1, hw1, hc1⟩ := ReadsInt.ofRowC w1
  obtain ⟨k, h⟩ := P l0 l1 hm0 y0 hw0 hm1 y1 hw1
  refine (laws_FnNat.calls k _ _ l0 _ _ l1 true w (Kd.C_of_reads (d := (0 : Int)) (h1 := fun _ => rfl) hr0) hc0 (Kd.C_of_reads (d := (0 : Int)) (h1 := fun _ => rfl) hr1) hc1 h rfl).mono ?_
  rintro e w' ⟨rfl, hd⟩
  exact ⟨rfl, hd⟩

end Go.Proofs.Ytnickjlnaemjaaa.Q
