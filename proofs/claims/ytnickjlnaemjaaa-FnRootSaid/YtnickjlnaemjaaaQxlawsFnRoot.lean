-- written by a program of this claim's session (myprint.py) out of the translation; Lean checks it.
import Derived.Test.YtnickjlnaemjaaaQx0
import Derived.Test.YtnickjlnaemjaaaQxCmpNat
import Derived.Test.YtnickjlnaemjaaaQxAddNat
import Derived.Test.YtnickjlnaemjaaaQxMulNat
import Derived.Test.YtnickjlnaemjaaaQxsrc
import Derived.Test.YtnickjlnaemjaaaQxRootNat
namespace Go.Proofs.Ytnickjlnaemjaaa.Q
open Go.RowKit Go.Proofs.YtnickjlnaemjaaaW.PrintWords Go.Proofs.YtnickjlnaemjaaaW.PrintLast Go.Proofs.YtnickjlnaemjaaaW.PrintMore
attribute [local go_sem] max2_int min2_int max_two min_two max_three min_three max_four min_four   -- for this text's walks alone
set_option linter.unusedVariables false
set_option linter.unusedSimpArgs false

def laws_FnRoot.f (k : Nat) (l0 : List Int) : Option (Bool) := if (l0.length : Int) > 1048576 then (some true) else ((spec_NatDrawn.f k l0).bind fun t1024 => ((impl_RootNat.f k t1024).bind fun bt1027 => ((spec_RootNat.f k t1024).bind fun bt1031 => ((impl_MulNat.f k bt1027.1 bt1027.1).bind fun bt1035 => ((impl_CmpNat.f k bt1035.1 t1024).bind fun bt1039 => ((impl_AddNat.f k bt1027.1 (([1] : List Int))).bind fun bt1044 => ((impl_MulNat.f k bt1044.1 bt1044.1).bind fun bt1048 => ((impl_CmpNat.f k bt1048.1 t1024).bind fun bt1052 => (if bt1027.2 = 0 then ((laws_sameInts.f k bt1027.1 bt1031.1).bind fun t1054 => (if t1054 = true then (if bt1035.2 = 0 then (if bt1039.2 = 0 then (if bt1039.1 ≤ 0 then (if bt1044.2 = 0 then (if bt1048.2 = 0 then (if bt1052.2 = 0 then (some (bt1052.1 == 1)) else (some false)) else (some false)) else (some false)) else (some false)) else (some false)) else (some false)) else (some false))) else (some false))))))))))
theorem laws_FnRoot.mono : ∀ a0 k, LeO (laws_FnRoot.f k a0) (laws_FnRoot.f (k + 1) a0) := by
  intro a0 k
  unfold laws_FnRoot.f
  repeat' first
      | (with_reducible exact impl_AddNat.mono _ _ _)
      | (with_reducible exact impl_CmpNat.mono _ _ _)
      | (with_reducible exact impl_MulNat.mono _ _ _)
      | (with_reducible exact impl_RootNat.mono _ _)
      | (with_reducible exact laws_sameInts.mono _ _ _)
      | (with_reducible exact spec_NatDrawn.mono _ _)
      | (with_reducible exact spec_RootNat.mono _ _)
      | (with_reducible exact LeO.refl _)
      | (with_reducible exact LeO.none _)
      | (with_reducible refine LeO.ite ?_ ?_)
      | (with_reducible refine LeO.bind ?_ (fun _ => ?_))
      | exact impl_AddNat.mono _ _ _
      | exact impl_CmpNat.mono _ _ _
      | exact impl_MulNat.mono _ _ _
      | exact impl_RootNat.mono _ _
      | exact laws_sameInts.mono _ _ _
      | exact spec_NatDrawn.mono _ _
      | exact spec_RootNat.mono _ _
      | exact LeO.none _
      | refine LeO.ite ?_ ?_
      | refine LeO.bind ?_ (fun _ => ?_)
set_option maxHeartbeats 8000000 in
set_option maxRecDepth 100000 in
theorem laws_FnRoot.calls (k : Nat) (A0 : Option Addr) (c0 : Nat) (l0 : List Int) (r : Bool) (w : World) (hr0 : Kd.C (Kd.int .u8) w A0 l0.length l0) (hc0 : l0.length ≤ c0) (h : laws_FnRoot.f k l0 = some r) (hr_ : r = true) :
    Calls Try.prog 15 #[.slice A0 l0.length c0] w fun e w' => e = .returned (.bool r) ∧ Below w.heap.size w w' := by
  have HR0 := Aside0.mk hr0
  have HC0 := Aside0.mk hc0
  clear hr0 hc0
  have HB := Aside0.mk (Below.refl w.heap.size w)
  have H : (if (l0.length : Int) > 1048576 then (some true) else ((spec_NatDrawn.f k l0).bind fun t1024 => ((impl_RootNat.f k t1024).bind fun bt1027 => ((spec_RootNat.f k t1024).bind fun bt1031 => ((impl_MulNat.f k bt1027.1 bt1027.1).bind fun bt1035 => ((impl_CmpNat.f k bt1035.1 t1024).bind fun bt1039 => ((impl_AddNat.f k bt1027.1 (([1] : List Int))).bind fun bt1044 => ((impl_MulNat.f k bt1044.1 bt1044.1).bind fun bt1048 => ((impl_CmpNat.f k bt1048.1 t1024).bind fun bt1052 => (if bt1027.2 = 0 then ((laws_sameInts.f k bt1027.1 bt1031.1).bind fun t1054 => (if t1054 = true then (if bt1035.2 = 0 then (if bt1039.2 = 0 then (if bt1039.1 ≤ 0 then (if bt1044.2 = 0 then (if bt1048.2 = 0 then (if bt1052.2 = 0 then (some (bt1052.1 == 1)) else (some false)) else (some false)) else (some false)) else (some false)) else (some false)) else (some false)) else (some false))) else (some false))))))))))) = some r := h
  clear h
  by_cases c2 : (l0.length : Int) > 1048576
  · rw [if_pos c2] at H
    have c2b0 : decide (1048576 < (l0.length : Int)) = true := decide_eq_true c2
    have c2b1 : decide (1048576 < l0.length) = true := decide_eq_true (by omega)
    clear c2
    obtain rfl := Option.some.inj H
    go_enter Try.func15, Try.ntmps15
    go_wp2
    go_ret
    exact ⟨by first | rfl | (simp [errW_none, errW_some] <;> rfl) | (simp [*, errW_none, errW_some] <;> rfl), by repeat (first | (with_reducible first | exact HB.out | apply below_alloc | apply pw_below_drewN | apply below_drew1) | exact HB.out)⟩
  · rw [if_neg c2] at H
    have c2b0 : decide (1048576 < (l0.length : Int)) = false := decide_eq_false c2
    have c2b1 : decide (1048576 < l0.length) = false := decide_eq_false (by omega)
    clear c2
    replace H := Option.bind_eq_some_iff.mp H
    obtain ⟨t1024, A30, H⟩ := H
    replace H : ((impl_RootNat.f k t1024).bind fun bt1027 => ((spec_RootNat.f k t1024).bind fun bt1031 => ((impl_MulNat.f k bt1027.1 bt1027.1).bind fun bt1035 => ((impl_CmpNat.f k bt1035.1 t1024).bind fun bt1039 => ((impl_AddNat.f k bt1027.1 (([1] : List Int))).bind fun bt1044 => ((impl_MulNat.f k bt1044.1 bt1044.1).bind fun bt1048 => ((impl_CmpNat.f k bt1048.1 t1024).bind fun bt1052 => (if bt1027.2 = 0 then ((laws_sameInts.f k bt1027.1 bt1031.1).bind fun t1054 => (if t1054 = true then (if bt1035.2 = 0 then (if bt1039.2 = 0 then (if bt1039.1 ≤ 0 then (if bt1044.2 = 0 then (if bt1048.2 = 0 then (if bt1052.2 = 0 then (some (bt1052.1 == 1)) else (some false)) else (some false)) else (some false)) else (some false)) else (some false)) else (some false)) else (some false))) else (some false))))))))) = some r := H
    have A3 := Aside0.mk A30
    clear A30
    replace H := Option.bind_eq_some_iff.mp H
    obtain ⟨⟨t1027, t1030⟩, A40, H⟩ := H
    replace H : ((spec_RootNat.f k t1024).bind fun bt1031 => ((impl_MulNat.f k t1027 t1027).bind fun bt1035 => ((impl_CmpNat.f k bt1035.1 t1024).bind fun bt1039 => ((impl_AddNat.f k t1027 (([1] : List Int))).bind fun bt1044 => ((impl_MulNat.f k bt1044.1 bt1044.1).bind fun bt1048 => ((impl_CmpNat.f k bt1048.1 t1024).bind fun bt1052 => (if t1030 = 0 then ((laws_sameInts.f k t1027 bt1031.1).bind fun t1054 => (if t1054 = true then (if bt1035.2 = 0 then (if bt1039.2 = 0 then (if bt1039.1 ≤ 0 then (if bt1044.2 = 0 then (if bt1048.2 = 0 then (if bt1052.2 = 0 then (some (bt1052.1 == 1)) else (some false)) else (some false)) else (some false)) else (some false)) else (some false)) else (some false)) else (some false))) else (some false)))))))) = some r := H
    have A4 := Aside0.mk A40
    clear A40
    replace H := Option.bind_eq_some_iff.mp H
    obtain ⟨⟨t1031, t1032⟩, A50, H⟩ := H
    replace H : ((impl_MulNat.f k t1027 t1027).bind fun bt1035 => ((impl_CmpNat.f k bt1035.1 t1024).bind fun bt1039 => ((impl_AddNat.f k t1027 (([1] : List Int))).bind fun bt1044 => ((impl_MulNat.f k bt1044.1 bt1044.1).bind fun bt1048 => ((impl_CmpNat.f k bt1048.1 t1024).bind fun bt1052 => (if t1030 = 0 then ((laws_sameInts.f k t1027 t1031).bind fun t1054 => (if t1054 = true then (if bt1035.2 = 0 then (if bt1039.2 = 0 then (if bt1039.1 ≤ 0 then (if bt1044.2 = 0 then (if bt1048.2 = 0 then (if bt1052.2 = 0 then (some (bt1052.1 == 1)) else (some false)) else (some false)) else (some false)) else (some false)) else (some false)) else (some false)) else (some false))) else (some false))))))) = some r := H
    have A5 := Aside0.mk A50
    clear A50
    replace H := Option.bind_eq_some_iff.mp H
    obtain ⟨⟨t1035, t1038⟩, A60, H⟩ := H
    replace H : ((impl_CmpNat.f k t1035 t1024).bind fun bt1039 => ((impl_AddNat.f k t1027 (([1] : List Int))).bind fun bt1044 => ((impl_MulNat.f k bt1044.1 bt1044.1).bind fun bt1048 => ((impl_CmpNat.f k bt1048.1 t1024).bind fun bt1052 => (if t1030 = 0 then ((laws_sameInts.f k t1027 t1031).bind fun t1054 => (if t1054 = true then (if t1038 = 0 then (if bt1039.2 = 0 then (if bt1039.1 ≤ 0 then (if bt1044.2 = 0 then (if bt1048.2 = 0 then (if bt1052.2 = 0 then (some (bt1052.1 == 1)) else (some false)) else (some false)) else (some false)) else (some false)) else (some false)) else (some false)) else (some false))) else (some false)))))) = some r := H
    have A6 := Aside0.mk A60
    clear A60
    replace H := Option.bind_eq_some_iff.mp H
    obtain ⟨⟨t1039, t1040⟩, A70, H⟩ := H
    replace H : ((impl_AddNat.f k t1027 (([1] : List Int))).bind fun bt1044 => ((impl_MulNat.f k bt1044.1 bt1044.1).bind fun bt1048 => ((impl_CmpNat.f k bt1048.1 t1024).bind fun bt1052 => (if t1030 = 0 then ((laws_sameInts.f k t1027 t1031).bind fun t1054 => (if t1054 = true then (if t1038 = 0 then (if t1040 = 0 then (if t1039 ≤ 0 then (if bt1044.2 = 0 then (if bt1048.2 = 0 then (if bt1052.2 = 0 then (some (bt1052.1 == 1)) else (some false)) else (some false)) else (some false)) else (some false)) else (some false)) else (some false)) else (some false))) else (some false))))) = some r := H
    have A7 := Aside0.mk A70
    clear A70
    obtain ⟨y1041, hy1041⟩ : ∃ y_ : List Int, y_ = (([1] : List Int)) := ⟨_, rfl⟩
    replace H : ((impl_AddNat.f k t1027 y1041).bind fun bt1044 => ((impl_MulNat.f k bt1044.1 bt1044.1).bind fun bt1048 => ((impl_CmpNat.f k bt1048.1 t1024).bind fun bt1052 => (if t1030 = 0 then ((laws_sameInts.f k t1027 t1031).bind fun t1054 => (if t1054 = true then (if t1038 = 0 then (if t1040 = 0 then (if t1039 ≤ 0 then (if bt1044.2 = 0 then (if bt1048.2 = 0 then (if bt1052.2 = 0 then (some (bt1052.1 == 1)) else (some false)) else (some false)) else (some false)) else (some false)) else (some false)) else (some false)) else (some false))) else (some false))))) = some r := by first | (rw [hy1041]; with_reducible exact H) | (have H2_ := (Option.bind_some _ _).symm.trans H; rw [hy1041]; with_reducible exact H2_) | (have H2_ := (Option.bind_some _ _).symm.trans H; with_reducible exact H2_) | with_reducible exact H | (rw [hy1041]; exact H) | exact H
    have Ny1041 := Aside0.mk hy1041
    clear hy1041
    replace H := Option.bind_eq_some_iff.mp H
    obtain ⟨⟨t1044, t1047⟩, A80, H⟩ := H
    replace H : ((impl_MulNat.f k t1044 t1044).bind fun bt1048 => ((impl_CmpNat.f k bt1048.1 t1024).bind fun bt1052 => (if t1030 = 0 then ((laws_sameInts.f k t1027 t1031).bind fun t1054 => (if t1054 = true then (if t1038 = 0 then (if t1040 = 0 then (if t1039 ≤ 0 then (if t1047 = 0 then (if bt1048.2 = 0 then (if bt1052.2 = 0 then (some (bt1052.1 == 1)) else (some false)) else (some false)) else (some false)) else (some false)) else (some false)) else (some false)) else (some false))) else (some false)))) = some r := H
    have A8 := Aside0.mk A80
    clear A80
    replace H := Option.bind_eq_some_iff.mp H
    obtain ⟨⟨t1048, t1051⟩, A90, H⟩ := H
    replace H : ((impl_CmpNat.f k t1048 t1024).bind fun bt1052 => (if t1030 = 0 then ((laws_sameInts.f k t1027 t1031).bind fun t1054 => (if t1054 = true then (if t1038 = 0 then (if t1040 = 0 then (if t1039 ≤ 0 then (if t1047 = 0 then (if t1051 = 0 then (if bt1052.2 = 0 then (some (bt1052.1 == 1)) else (some false)) else (some false)) else (some false)) else (some false)) else (some false)) else (some false)) else (some false))) else (some false))) = some r := H
    have A9 := Aside0.mk A90
    clear A90
    replace H := Option.bind_eq_some_iff.mp H
    obtain ⟨⟨t1052, t1053⟩, A100, H⟩ := H
    replace H : (if t1030 = 0 then ((laws_sameInts.f k t1027 t1031).bind fun t1054 => (if t1054 = true then (if t1038 = 0 then (if t1040 = 0 then (if t1039 ≤ 0 then (if t1047 = 0 then (if t1051 = 0 then (if t1053 = 0 then (some (t1052 == 1)) else (some false)) else (some false)) else (some false)) else (some false)) else (some false)) else (some false)) else (some false))) else (some false)) = some r := H
    have A10 := Aside0.mk A100
    clear A100
    by_cases c11 : t1030 = 0
    · rw [if_pos c11] at H
      have c11b0 : (t1030 == 0) = true := beq_iff_eq.mpr c11
      have c11b1 : (t1030 != 0) = false := bne_eq_false_iff_eq.mpr c11
      clear c11
      replace H := Option.bind_eq_some_iff.mp H
      obtain ⟨t1054, A120, H⟩ := H
      replace H : (if t1054 = true then (if t1038 = 0 then (if t1040 = 0 then (if t1039 ≤ 0 then (if t1047 = 0 then (if t1051 = 0 then (if t1053 = 0 then (some (t1052 == 1)) else (some false)) else (some false)) else (some false)) else (some false)) else (some false)) else (some false)) else (some false)) = some r := H
      have A12 := Aside0.mk A120
      clear A120
      by_cases c13 : t1054 = true
      · subst c13
        have H1 : (if t1038 = 0 then (if t1040 = 0 then (if t1039 ≤ 0 then (if t1047 = 0 then (if t1051 = 0 then (if t1053 = 0 then (some (t1052 == 1)) else (some false)) else (some false)) else (some false)) else (some false)) else (some false)) else (some false)) = some r := by rw [if_pos rfl] at H; exact H
        clear H
        have H := H1
        clear H1
        by_cases c14 : t1038 = 0
        · rw [if_pos c14] at H
          have c14b0 : (t1038 == 0) = true := beq_iff_eq.mpr c14
          have c14b1 : (t1038 != 0) = false := bne_eq_false_iff_eq.mpr c14
          clear c14
          by_cases c15 : t1040 = 0
          · rw [if_pos c15] at H
            have c15b0 : (t1040 == 0) = true := beq_iff_eq.mpr c15
            have c15b1 : (t1040 != 0) = false := bne_eq_false_iff_eq.mpr c15
            clear c15
            by_cases c16 : t1039 ≤ 0
            · rw [if_pos c16] at H
              have c16b0 : decide (t1039 ≤ 0) = true := decide_eq_true c16
              clear c16
              by_cases c17 : t1047 = 0
              · rw [if_pos c17] at H
                have c17b0 : (t1047 == 0) = true := beq_iff_eq.mpr c17
                have c17b1 : (t1047 != 0) = false := bne_eq_false_iff_eq.mpr c17
                clear c17
                by_cases c18 : t1051 = 0
                · rw [if_pos c18] at H
                  have c18b0 : (t1051 == 0) = true := beq_iff_eq.mpr c18
                  have c18b1 : (t1051 != 0) = false := bne_eq_false_iff_eq.mpr c18
                  clear c18
                  by_cases c19 : t1053 = 0
                  · rw [if_pos c19] at H
                    have c19b0 : (t1053 == 0) = true := beq_iff_eq.mpr c19
                    have c19b1 : (t1053 != 0) = false := bne_eq_false_iff_eq.mpr c19
                    clear c19
                    obtain rfl := Option.some.inj H
                    go_enter Try.func15, Try.ntmps15
                    go_wp2_with (first | ((with_reducible refine gate_callee (f := 28) rfl ?_); refine goesL_ (some 22) rfl rfl Try.func28 (by kernel_rfl) rfl #[.slice A0 l0.length c0] rfl (by (try simp only [List.map_toArray, List.map_cons, List.map_nil]); first | done | rfl | (simp only [List.length_drop, List.length_take]; rfl)) ?_; (with_reducible refine (spec_NatDrawn.calls k _ _ l0 t1024 _ ?side1 ?side2 A3.out).mono ?_); (case side1 => repeat (first | exact HR0.out | (with_reducible refine Kd.C_alloc ?_ _) | (with_reducible refine Kd.C_drewN ?_ _) | (with_reducible refine Kd.C_drew ?_))); (case side2 => exact HC0.out); rintro e w20 ⟨v1025, rfl, ho0, hb⟩; refine ⟨_, rfl, ?_⟩; have n0_ := Aside0.mk (Kd.R_lower ho0 (below_size (by repeat (first | (with_reducible first | exact HB.out | apply below_alloc | apply pw_below_drewN | apply below_drew1) | exact HB.out)))); have n1_ := Aside0.mk (below_step (by repeat (first | (with_reducible first | exact HB.out | apply below_alloc | apply pw_below_drewN | apply below_drew1) | exact HB.out)) hb); clear HB; have HO1026 := n0_; have HB := n1_; clear n0_ n1_; (try clear hb); (try clear hb2); (try clear hk); (try clear hi); (try clear ho0); obtain ⟨Ao21, co21, eo21⟩ := Kd.R_slice HO1026.out; subst eo21) | ((with_reducible refine gate_callee (f := 37) rfl ?_); refine goesL_ (some 25) rfl rfl Try.func37 (by kernel_rfl) rfl #[.slice Ao21 t1024.length co21] rfl (by (try simp only [List.map_toArray, List.map_cons, List.map_nil]); first | done | rfl | (simp only [List.length_drop, List.length_take]; rfl)) ?_; (with_reducible refine (impl_RootNat.calls k (fun k_ => some k_ = (.slice Ao21 t1024.length co21 : Value).ownBlock) _ _ t1024 t1027 t1030 _ ?side1 A4.out).mono ?_); (case side1 => exact Kd.R_V (Kd.R_tight rfl (HO1026.out))); rintro e w22 ⟨v1028, rfl, ho0, hb⟩; refine ⟨_, rfl, ?_⟩; have n0_ := Aside0.mk (Kd.R_elder' (by (with_reducible repeat (first | apply Kd.R_alloc | apply Kd.R_drewN | apply Kd.R_drew)); exact HO1026.out) (Kd.R_base ho0) hb); have n1_ := Aside0.mk (Kd.R_lower (Kd.R_new' (Kd.R_mono (ok' := fun k_ => True) ho0 (fun _ hk_ => trivial)) (Kd.R_lt (by (with_reducible repeat (first | apply Kd.R_alloc | apply Kd.R_drewN | apply Kd.R_drew)); exact HO1026.out))) (below_size (by repeat (first | (with_reducible first | exact HB.out | apply below_alloc | apply pw_below_drewN | apply below_drew1) | exact HB.out)))); have n2_ := Aside0.mk (below_step (by repeat (first | (with_reducible first | exact HB.out | apply below_alloc | apply pw_below_drewN | apply below_drew1) | exact HB.out)) hb); clear HO1026; clear HB; have HO1026 := n0_; have HO1029 := n1_; have HB := n2_; clear n0_ n1_ n2_; (try clear hb); (try clear hb2); (try clear hk); (try clear hi); (try clear ho0)) | ((with_reducible refine gate_callee (f := 36) rfl ?_); refine goesL_ (some 30) rfl rfl Try.func36 (by kernel_rfl) rfl #[.slice Ao21 t1024.length co21] rfl (by (try simp only [List.map_toArray, List.map_cons, List.map_nil]); first | done | rfl | (simp only [List.length_drop, List.length_take]; rfl)) ?_; (with_reducible refine (spec_RootNat.calls k _ _ t1024 t1031 t1032 _ ?side1 ?side2 A5.out).mono ?_); (case side1 => repeat (first | exact (Kd.R_reads' HO1026.out).2.2 | (with_reducible refine Kd.C_alloc ?_ _) | (with_reducible refine Kd.C_drewN ?_ _) | (with_reducible refine Kd.C_drew ?_))); (case side2 => exact (Kd.R_reads' HO1026.out).2.1); rintro e w23 ⟨v1033, rfl, ho0, hb⟩; refine ⟨_, rfl, ?_⟩; have n0_ := Aside0.mk (Kd.R_elder' (by (with_reducible repeat (first | apply Kd.R_alloc | apply Kd.R_drewN | apply Kd.R_drew)); exact HO1026.out) (Kd.R_base ho0) hb); have n1_ := Aside0.mk (Kd.R_elder' (by (with_reducible repeat (first | apply Kd.R_alloc | apply Kd.R_drewN | apply Kd.R_drew)); exact HO1029.out) (Kd.R_base ho0) hb); have n2_ := Aside0.mk (Kd.R_lower (Kd.R_new' (Kd.R_new' ho0 (Kd.R_lt (by (with_reducible repeat (first | apply Kd.R_alloc | apply Kd.R_drewN | apply Kd.R_drew)); exact HO1026.out))) (Kd.R_lt (by (with_reducible repeat (first | apply Kd.R_alloc | apply Kd.R_drewN | apply Kd.R_drew)); exact HO1029.out))) (below_size (by repeat (first | (with_reducible first | exact HB.out | apply below_alloc | apply pw_below_drewN | apply below_drew1) | exact HB.out)))); have n3_ := Aside0.mk (below_step (by repeat (first | (with_reducible first | exact HB.out | apply below_alloc | apply pw_below_drewN | apply below_drew1) | exact HB.out)) hb); clear HO1026; clear HO1029; clear HB; have HO1026 := n0_; have HO1029 := n1_; have HO1034 := n2_; have HB := n3_; clear n0_ n1_ n2_ n3_; (try clear hb); (try clear hb2); (try clear hk); (try clear hi); (try clear ho0); obtain ⟨Ao24, co24, eo24⟩ := Kd.R_slice HO1029.out; subst eo24) | ((with_reducible refine gate_callee (f := 27) rfl ?_); refine goesL_ (some 36) rfl rfl Try.func27 (by kernel_rfl) rfl #[.slice Ao24 t1027.length co24, .slice Ao24 t1027.length co24] rfl (by (try simp only [List.map_toArray, List.map_cons, List.map_nil]); first | done | rfl | (simp only [List.length_drop, List.length_take]; rfl)) ?_; (with_reducible refine (impl_MulNat.calls k (fun k_ => some k_ = (.slice Ao24 t1027.length co24 : Value).ownBlock) _ _ t1027 (fun k_ => some k_ = (.slice Ao24 t1027.length co24 : Value).ownBlock) _ _ t1027 t1035 t1038 _ ?side1 ?side2 A6.out).mono ?_); (case side1 => exact Kd.R_V (Kd.R_tight rfl (HO1029.out))); (case side2 => exact Kd.R_V (Kd.R_tight rfl (HO1029.out))); rintro e w25 ⟨v1036, rfl, ho0, hb⟩; refine ⟨_, rfl, ?_⟩; have n0_ := Aside0.mk (Kd.R_elder' (by (with_reducible repeat (first | apply Kd.R_alloc | apply Kd.R_drewN | apply Kd.R_drew)); exact HO1026.out) (Kd.R_base ho0) hb); have n1_ := Aside0.mk (Kd.R_elder' (by (with_reducible repeat (first | apply Kd.R_alloc | apply Kd.R_drewN | apply Kd.R_drew)); exact HO1029.out) (Kd.R_base ho0) hb); have n2_ := Aside0.mk (Kd.R_elder' (by (with_reducible repeat (first | apply Kd.R_alloc | apply Kd.R_drewN | apply Kd.R_drew)); exact HO1034.out) (Kd.R_base ho0) hb); have n3_ := Aside0.mk (Kd.R_lower (Kd.R_new' (Kd.R_new' (Kd.R_new' (Kd.R_mono (ok' := fun k_ => True) ho0 (fun _ hk_ => trivial)) (Kd.R_lt (by (with_reducible repeat (first | apply Kd.R_alloc | apply Kd.R_drewN | apply Kd.R_drew)); exact HO1026.out))) (Kd.R_lt (by (with_reducible repeat (first | apply Kd.R_alloc | apply Kd.R_drewN | apply Kd.R_drew)); exact HO1029.out))) (Kd.R_lt (by (with_reducible repeat (first | apply Kd.R_alloc | apply Kd.R_drewN | apply Kd.R_drew)); exact HO1034.out))) (below_size (by repeat (first | (with_reducible first | exact HB.out | apply below_alloc | apply pw_below_drewN | apply below_drew1) | exact HB.out)))); have n4_ := Aside0.mk (below_step (by repeat (first | (with_reducible first | exact HB.out | apply below_alloc | apply pw_below_drewN | apply below_drew1) | exact HB.out)) hb); clear HO1026; clear HO1029; clear HO1034; clear HB; have HO1026 := n0_; have HO1029 := n1_; have HO1034 := n2_; have HO1037 := n3_; have HB := n4_; clear n0_ n1_ n2_ n3_ n4_; (try clear hb); (try clear hb2); (try clear hk); (try clear hi); (try clear ho0); obtain ⟨Ao26, co26, eo26⟩ := Kd.R_slice HO1037.out; subst eo26) | ((with_reducible refine gate_callee (f := 21) rfl ?_); refine goesL_ (some 42) rfl rfl Try.func21 (by kernel_rfl) rfl #[.slice Ao26 t1035.length co26, .slice Ao21 t1024.length co21] rfl (by (try simp only [List.map_toArray, List.map_cons, List.map_nil]); first | done | rfl | (simp only [List.length_drop, List.length_take]; rfl)) ?_; (with_reducible refine (impl_CmpNat.calls k (fun k_ => some k_ = (.slice Ao26 t1035.length co26 : Value).ownBlock) _ _ t1035 (fun k_ => some k_ = (.slice Ao21 t1024.length co21 : Value).ownBlock) _ _ t1024 t1039 t1040 _ ?side1 ?side2 A7.out).mono ?_); (case side1 => exact Kd.R_V (Kd.R_tight rfl (HO1037.out))); (case side2 => exact Kd.R_V (Kd.R_tight rfl (HO1026.out))); rintro e w27 ⟨rfl, hb⟩; refine ⟨_, rfl, ?_⟩; have n0_ := Aside0.mk (Kd.R_below (by (with_reducible repeat (first | apply Kd.R_alloc | apply Kd.R_drewN | apply Kd.R_drew)); exact HO1026.out) hb); have n1_ := Aside0.mk (Kd.R_below (by (with_reducible repeat (first | apply Kd.R_alloc | apply Kd.R_drewN | apply Kd.R_drew)); exact HO1029.out) hb); have n2_ := Aside0.mk (Kd.R_below (by (with_reducible repeat (first | apply Kd.R_alloc | apply Kd.R_drewN | apply Kd.R_drew)); exact HO1034.out) hb); have n3_ := Aside0.mk (Kd.R_below (by (with_reducible repeat (first | apply Kd.R_alloc | apply Kd.R_drewN | apply Kd.R_drew)); exact HO1037.out) hb); have n4_ := Aside0.mk (below_step (by repeat (first | (with_reducible first | exact HB.out | apply below_alloc | apply pw_below_drewN | apply below_drew1) | exact HB.out)) hb); clear HO1026; clear HO1029; clear HO1034; clear HO1037; clear HB; have HO1026 := n0_; have HO1029 := n1_; have HO1034 := n2_; have HO1037 := n3_; have HB := n4_; clear n0_ n1_ n2_ n3_ n4_; (try clear hb); (try clear hb2); (try clear hk); (try clear hi)) | ((with_reducible refine gate_dst (N := 47) rfl ?_); refine Kd.R_lit (Kd.int .i64) _ 3 ?hg (N := 47) ?hd (xs := ([1] : List Int)) (inner := [.int .i64 1]) (ok := fun _ => True) (okp := fun _ => True) ?hr ?hp (fun _ hk => hk) trivial (Below.refl _ _) (Nat.le_refl _) (by simp) ?_; (case hd => rfl); (case hg => rfl); (case hr => first | (go_simp; done) | (go_simp; rfl)); (case hp => exact (Reps.one (show Kd.M (Kd.int .i64) _ _ _ 1 [.int .i64 1] from rfl) (Reps.none _ _))); intro v1042 w28 ho29 hb hg_ hnew_; clear hg_ hnew_; (first | rw [← Ny1041.out] at ho29 | (simp only [Int.reduceToNat] at ho29; rw [← Ny1041.out] at ho29)); have n0_ := Aside0.mk (Kd.R_elder' (by (with_reducible repeat (first | apply Kd.R_alloc | apply Kd.R_drewN | apply Kd.R_drew)); exact HO1026.out) (Kd.R_base ho29) hb); have n1_ := Aside0.mk (Kd.R_elder' (by (with_reducible repeat (first | apply Kd.R_alloc | apply Kd.R_drewN | apply Kd.R_drew)); exact HO1029.out) (Kd.R_base ho29) hb); have n2_ := Aside0.mk (Kd.R_elder' (by (with_reducible repeat (first | apply Kd.R_alloc | apply Kd.R_drewN | apply Kd.R_drew)); exact HO1034.out) (Kd.R_base ho29) hb); have n3_ := Aside0.mk (Kd.R_elder' (by (with_reducible repeat (first | apply Kd.R_alloc | apply Kd.R_drewN | apply Kd.R_drew)); exact HO1037.out) (Kd.R_base ho29) hb); have n4_ := Aside0.mk (Kd.R_lower (Kd.R_new' (Kd.R_new' (Kd.R_new' (Kd.R_new' ho29 (Kd.R_lt (by (with_reducible repeat (first | apply Kd.R_alloc | apply Kd.R_drewN | apply Kd.R_drew)); exact HO1026.out))) (Kd.R_lt (by (with_reducible repeat (first | apply Kd.R_alloc | apply Kd.R_drewN | apply Kd.R_drew)); exact HO1029.out))) (Kd.R_lt (by (with_reducible repeat (first | apply Kd.R_alloc | apply Kd.R_drewN | apply Kd.R_drew)); exact HO1034.out))) (Kd.R_lt (by (with_reducible repeat (first | apply Kd.R_alloc | apply Kd.R_drewN | apply Kd.R_drew)); exact HO1037.out))) (below_size (by repeat (first | (with_reducible first | exact HB.out | apply below_alloc | apply pw_below_drewN | apply below_drew1) | exact HB.out)))); have n5_ := Aside0.mk (below_step (by repeat (first | (with_reducible first | exact HB.out | apply below_alloc | apply pw_below_drewN | apply below_drew1) | exact HB.out)) hb); clear HO1026; clear HO1029; clear HO1034; clear HO1037; clear HB; have HO1026 := n0_; have HO1029 := n1_; have HO1034 := n2_; have HO1037 := n3_; have HO1043 := n4_; have HB := n5_; clear n0_ n1_ n2_ n3_ n4_ n5_; clear hb ho29; obtain ⟨Ao30, co30, eo30⟩ := Kd.R_slice HO1043.out; subst eo30) | ((with_reducible refine gate_callee (f := 23) rfl ?_); refine goesL_ (some 48) rfl rfl Try.func23 (by kernel_rfl) rfl #[.slice Ao24 t1027.length co24, .slice Ao30 y1041.length co30] rfl (by (try simp only [List.map_toArray, List.map_cons, List.map_nil]); first | done | rfl | (simp only [List.length_drop, List.length_take]; rfl)) ?_; (with_reducible refine (impl_AddNat.calls k (fun k_ => some k_ = (.slice Ao24 t1027.length co24 : Value).ownBlock) _ _ t1027 (fun k_ => some k_ = (.slice Ao30 y1041.length co30 : Value).ownBlock) _ _ y1041 t1044 t1047 _ ?side1 ?side2 A8.out).mono ?_); (case side1 => exact Kd.R_V (Kd.R_tight rfl (HO1029.out))); (case side2 => exact Kd.R_V (Kd.R_tight rfl (HO1043.out))); rintro e w31 ⟨v1045, rfl, ho0, hb⟩; refine ⟨_, rfl, ?_⟩; have n0_ := Aside0.mk (Kd.R_elder' (by (with_reducible repeat (first | apply Kd.R_alloc | apply Kd.R_drewN | apply Kd.R_drew)); exact HO1026.out) (Kd.R_base ho0) hb); have n1_ := Aside0.mk (Kd.R_elder' (by (with_reducible repeat (first | apply Kd.R_alloc | apply Kd.R_drewN | apply Kd.R_drew)); exact HO1029.out) (Kd.R_base ho0) hb); have n2_ := Aside0.mk (Kd.R_elder' (by (with_reducible repeat (first | apply Kd.R_alloc | apply Kd.R_drewN | apply Kd.R_drew)); exact HO1034.out) (Kd.R_base ho0) hb); have n3_ := Aside0.mk (Kd.R_elder' (by (with_reducible repeat (first | apply Kd.R_alloc | apply Kd.R_drewN | apply Kd.R_drew)); exact HO1037.out) (Kd.R_base ho0) hb); have n4_ := Aside0.mk (Kd.R_elder' (by (with_reducible repeat (first | apply Kd.R_alloc | apply Kd.R_drewN | apply Kd.R_drew)); exact HO1043.out) (Kd.R_base ho0) hb); have n5_ := Aside0.mk (Kd.R_lower (Kd.R_new' (Kd.R_new' (Kd.R_new' (Kd.R_new' (Kd.R_new' (Kd.R_mono (ok' := fun k_ => True) ho0 (fun _ hk_ => trivial)) (Kd.R_lt (by (with_reducible repeat (first | apply Kd.R_alloc | apply Kd.R_drewN | apply Kd.R_drew)); exact HO1026.out))) (Kd.R_lt (by (with_reducible repeat (first | apply Kd.R_alloc | apply Kd.R_drewN | apply Kd.R_drew)); exact HO1029.out))) (Kd.R_lt (by (with_reducible repeat (first | apply Kd.R_alloc | apply Kd.R_drewN | apply Kd.R_drew)); exact HO1034.out))) (Kd.R_lt (by (with_reducible repeat (first | apply Kd.R_alloc | apply Kd.R_drewN | apply Kd.R_drew)); exact HO1037.out))) (Kd.R_lt (by (with_reducible repeat (first | apply Kd.R_alloc | apply Kd.R_drewN | apply Kd.R_drew)); exact HO1043.out))) (below_size (by repeat (first | (with_reducible first | exact HB.out | apply below_alloc | apply pw_below_drewN | apply below_drew1) | exact HB.out)))); have n6_ := Aside0.mk (below_step (by repeat (first | (with_reducible first | exact HB.out | apply below_alloc | apply pw_below_drewN | apply below_drew1) | exact HB.out)) hb); clear HO1026; clear HO1029; clear HO1034; clear HO1037; clear HO1043; clear HB; have HO1026 := n0_; have HO1029 := n1_; have HO1034 := n2_; have HO1037 := n3_; have HO1043 := n4_; have HO1046 := n5_; have HB := n6_; clear n0_ n1_ n2_ n3_ n4_ n5_ n6_; (try clear hb); (try clear hb2); (try clear hk); (try clear hi); (try clear ho0); obtain ⟨Ao32, co32, eo32⟩ := Kd.R_slice HO1046.out; subst eo32) | ((with_reducible refine gate_callee (f := 27) rfl ?_); refine goesL_ (some 54) rfl rfl Try.func27 (by kernel_rfl) rfl #[.slice Ao32 t1044.length co32, .slice Ao32 t1044.length co32] rfl (by (try simp only [List.map_toArray, List.map_cons, List.map_nil]); first | done | rfl | (simp only [List.length_drop, List.length_take]; rfl)) ?_; (with_reducible refine (impl_MulNat.calls k (fun k_ => some k_ = (.slice Ao32 t1044.length co32 : Value).ownBlock) _ _ t1044 (fun k_ => some k_ = (.slice Ao32 t1044.length co32 : Value).ownBlock) _ _ t1044 t1048 t1051 _ ?side1 ?side2 A9.out).mono ?_); (case side1 => exact Kd.R_V (Kd.R_tight rfl (HO1046.out))); (case side2 => exact Kd.R_V (Kd.R_tight rfl (HO1046.out))); rintro e w33 ⟨v1049, rfl, ho0, hb⟩; refine ⟨_, rfl, ?_⟩; have n0_ := Aside0.mk (Kd.R_elder' (by (with_reducible repeat (first | apply Kd.R_alloc | apply Kd.R_drewN | apply Kd.R_drew)); exact HO1026.out) (Kd.R_base ho0) hb); have n1_ := Aside0.mk (Kd.R_elder' (by (with_reducible repeat (first | apply Kd.R_alloc | apply Kd.R_drewN | apply Kd.R_drew)); exact HO1029.out) (Kd.R_base ho0) hb); have n2_ := Aside0.mk (Kd.R_elder' (by (with_reducible repeat (first | apply Kd.R_alloc | apply Kd.R_drewN | apply Kd.R_drew)); exact HO1034.out) (Kd.R_base ho0) hb); have n3_ := Aside0.mk (Kd.R_elder' (by (with_reducible repeat (first | apply Kd.R_alloc | apply Kd.R_drewN | apply Kd.R_drew)); exact HO1037.out) (Kd.R_base ho0) hb); have n4_ := Aside0.mk (Kd.R_elder' (by (with_reducible repeat (first | apply Kd.R_alloc | apply Kd.R_drewN | apply Kd.R_drew)); exact HO1043.out) (Kd.R_base ho0) hb); have n5_ := Aside0.mk (Kd.R_elder' (by (with_reducible repeat (first | apply Kd.R_alloc | apply Kd.R_drewN | apply Kd.R_drew)); exact HO1046.out) (Kd.R_base ho0) hb); have n6_ := Aside0.mk (Kd.R_lower (Kd.R_new' (Kd.R_new' (Kd.R_new' (Kd.R_new' (Kd.R_new' (Kd.R_new' (Kd.R_mono (ok' := fun k_ => True) ho0 (fun _ hk_ => trivial)) (Kd.R_lt (by (with_reducible repeat (first | apply Kd.R_alloc | apply Kd.R_drewN | apply Kd.R_drew)); exact HO1026.out))) (Kd.R_lt (by (with_reducible repeat (first | apply Kd.R_alloc | apply Kd.R_drewN | apply Kd.R_drew)); exact HO1029.out))) (Kd.R_lt (by (with_reducible repeat (first | apply Kd.R_alloc | apply Kd.R_drewN | apply Kd.R_drew)); exact HO1034.out))) (Kd.R_lt (by (with_reducible repeat (first | apply Kd.R_alloc | apply Kd.R_drewN | apply Kd.R_drew)); exact HO1037.out))) (Kd.R_lt (by (with_reducible repeat (first | apply Kd.R_alloc | apply Kd.R_drewN | apply Kd.R_drew)); exact HO1043.out))) (Kd.R_lt (by (with_reducible repeat (first | apply Kd.R_alloc | apply Kd.R_drewN | apply Kd.R_drew)); exact HO1046.out))) (below_size (by repeat (first | (with_reducible first | exact HB.out | apply below_alloc | apply pw_below_drewN | apply below_drew1) | exact HB.out)))); have n7_ := Aside0.mk (below_step (by repeat (first | (with_reducible first | exact HB.out | apply below_alloc | apply pw_below_drewN | apply below_drew1) | exact HB.out)) hb); clear HO1026; clear HO1029; clear HO1034; clear HO1037; clear HO1043; clear HO1046; clear HB; have HO1026 := n0_; have HO1029 := n1_; have HO1034 := n2_; have HO1037 := n3_; have HO1043 := n4_; have HO1046 := n5_; have HO1050 := n6_; have HB := n7_; clear n0_ n1_ n2_ n3_ n4_ n5_ n6_ n7_; (try clear hb); (try clear hb2); (try clear hk); (try clear hi); (try clear ho0); obtain ⟨Ao34, co34, eo34⟩ := Kd.R_slice HO1050.out; subst eo34) | ((with_reducible refine gate_callee (f := 21) rfl ?_); refine goesL_ (some 60) rfl rfl Try.func21 (by kernel_rfl) rfl #[.slice Ao34 t1048.length co34, .slice Ao21 t1024.length co21] rfl (by (try simp only [List.map_toArray, List.map_cons, List.map_nil]); first | done | rfl | (simp only [List.length_drop, List.length_take]; rfl)) ?_; (with_reducible refine (impl_CmpNat.calls k (fun k_ => some k_ = (.slice Ao34 t1048.length co34 : Value).ownBlock) _ _ t1048 (fun k_ => some k_ = (.slice Ao21 t1024.length co21 : Value).ownBlock) _ _ t1024 t1052 t1053 _ ?side1 ?side2 A10.out).mono ?_); (case side1 => exact Kd.R_V (Kd.R_tight rfl (HO1050.out))); (case side2 => exact Kd.R_V (Kd.R_tight rfl (HO1026.out))); rintro e w35 ⟨rfl, hb⟩; refine ⟨_, rfl, ?_⟩; have n0_ := Aside0.mk (Kd.R_below (by (with_reducible repeat (first | apply Kd.R_alloc | apply Kd.R_drewN | apply Kd.R_drew)); exact HO1026.out) hb); have n1_ := Aside0.mk (Kd.R_below (by (with_reducible repeat (first | apply Kd.R_alloc | apply Kd.R_drewN | apply Kd.R_drew)); exact HO1029.out) hb); have n2_ := Aside0.mk (Kd.R_below (by (with_reducible repeat (first | apply Kd.R_alloc | apply Kd.R_drewN | apply Kd.R_drew)); exact HO1034.out) hb); have n3_ := Aside0.mk (Kd.R_below (by (with_reducible repeat (first | apply Kd.R_alloc | apply Kd.R_drewN | apply Kd.R_drew)); exact HO1037.out) hb); have n4_ := Aside0.mk (Kd.R_below (by (with_reducible repeat (first | apply Kd.R_alloc | apply Kd.R_drewN | apply Kd.R_drew)); exact HO1043.out) hb); have n5_ := Aside0.mk (Kd.R_below (by (with_reducible repeat (first | apply Kd.R_alloc | apply Kd.R_drewN | apply Kd.R_drew)); exact HO1046.out) hb); have n6_ := Aside0.mk (Kd.R_below (by (with_reducible repeat (first | apply Kd.R_alloc | apply Kd.R_drewN | apply Kd.R_drew)); exact HO1050.out) hb); have n7_ := Aside0.mk (below_step (by repeat (first | (with_reducible first | exact HB.out | apply below_alloc | apply pw_below_drewN | apply below_drew1) | exact HB.out)) hb); clear HO1026; clear HO1029; clear HO1034; clear HO1037; clear HO1043; clear HO1046; clear HO1050; clear HB; have HO1026 := n0_; have HO1029 := n1_; have HO1034 := n2_; have HO1037 := n3_; have HO1043 := n4_; have HO1046 := n5_; have HO1050 := n6_; have HB := n7_; clear n0_ n1_ n2_ n3_ n4_ n5_ n6_ n7_; (try clear hb); (try clear hb2); (try clear hk); (try clear hi); obtain ⟨Ao36, co36, eo36⟩ := Kd.R_slice HO1034.out; subst eo36) | (go_at_call 29; (with_reducible refine (laws_sameInts.calls k _ _ t1027 _ _ t1031 true _ ?side1 ?side2 ?side3 ?side4 A12.out).mono ?_); (case side1 => repeat (first | exact (Kd.R_reads' HO1029.out).2.2 | (with_reducible refine Kd.C_alloc ?_ _) | (with_reducible refine Kd.C_drewN ?_ _) | (with_reducible refine Kd.C_drew ?_))); (case side2 => exact (Kd.R_reads' HO1029.out).2.1); (case side3 => repeat (first | exact (Kd.R_reads' HO1034.out).2.2 | (with_reducible refine Kd.C_alloc ?_ _) | (with_reducible refine Kd.C_drewN ?_ _) | (with_reducible refine Kd.C_drew ?_))); (case side4 => exact (Kd.R_reads' HO1034.out).2.1); rintro e w' ⟨rfl, ⟨nd, rfl⟩⟩))
                    go_ret
                    exact ⟨by first | rfl | (simp [errW_none, errW_some] <;> rfl) | (simp [*, errW_none, errW_some] <;> rfl), by repeat (first | (with_reducible first | exact HB.out | apply below_alloc | apply pw_below_drewN | apply below_drew1) | exact HB.out)⟩
                  · rw [if_neg c19] at H
                    obtain rfl := Option.some.inj H
                    exact absurd hr_ (by decide)
                · rw [if_neg c18] at H
                  obtain rfl := Option.some.inj H
                  exact absurd hr_ (by decide)
              · rw [if_neg c17] at H
                obtain rfl := Option.some.inj H
                exact absurd hr_ (by decide)
            · rw [if_neg c16] at H
              obtain rfl := Option.some.inj H
              exact absurd hr_ (by decide)
          · rw [if_neg c15] at H
            obtain rfl := Option.some.inj H
            exact absurd hr_ (by decide)
        · rw [if_neg c14] at H
          obtain rfl := Option.some.inj H
          exact absurd hr_ (by decide)
      · replace c13 := Bool.eq_false_iff.mpr c13
        subst c13
        have H1 : (some false) = some r := by rw [if_neg (show ¬ (false = true) by decide)] at H; exact H
        clear H
        have H := H1
        clear H1
        obtain rfl := Option.some.inj H
        exact absurd hr_ (by decide)
    · rw [if_neg c11] at H
      obtain rfl := Option.some.inj H
      exact absurd hr_ (by decide)

/-- THE ONE PURE STATEMENT of laws_FnRoot: yours. -/
def laws_FnRoot.Pure : Prop := ∀ (l0 : List Int), l0.length ≤ maxLen → l0.length * 1 ≤ 140737488351232 → (∀ x ∈ l0, (Lit.int .u8 x).wf = true) → ∃ k, laws_FnRoot.f k l0 = some true
theorem laws_FnRoot.walk (P : laws_FnRoot.Pure) (a0 : Option Addr) (len0 cap0 : Nat) (z0 : List Int) (w : World) (w0 : (a0 = none ∧ len0 = 0 ∧ cap0 = 0 ∧ z0 = []) ∨ ∃ x, a0 = some x ∧ len0 ≤ cap0 ∧ cap0 ≤ maxLen ∧ z0.length = cap0 ∧ (∀ i, i < z0.length → w.cell? (x.add i) = some (.int .u8 (z0.getD i 0))) ∧ ∀ n ∈ z0, (Lit.int .u8 n).wf = true) (y0 : len0 * 1 ≤ 140737488351232) :
    Calls Try.prog 15 #[.slice a0 len0 cap0] w fun e w' => e = .returned (.bool true) ∧ Below w.heap.size w w' := by
  obtain ⟨l0, rfl, hr0, hm0, hw0, hc0⟩ := ReadsInt.ofRowC w0
  obtain ⟨k, h⟩ := P l0 hm0 y0 hw0
  refine (laws_FnRoot.calls k _ _ l0 true w (Kd.C_of_reads (d := (0 : Int)) (h1 := fun _ => rfl) hr0) hc0 h rfl).mono ?_
  rintro e w' ⟨rfl, hd⟩
  exact ⟨rfl, hd⟩

end Go.Proofs.Ytnickjlnaemjaaa.Q
