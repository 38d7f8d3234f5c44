-- written by a program of this claim's session (myprint.py) out of the translation; Lean checks it.
import Derived.Test.YtegbmillbbcmfaaQx0
import Derived.Test.YtegbmillbbcmfaaWords
import Derived.Test.YtegbmillbbcmfaaQxrim
import Derived.Test.YtegbmillbbcmfaaQxlistsCode
namespace Go.Proofs.Ytegbmillbbcmfaa.Q
open Go.RowKit Go.Proofs.YtegbmillbbcmfaaW.PrintWords Go.Proofs.YtegbmillbbcmfaaW.PrintLast Go.Proofs.YtegbmillbbcmfaaW.PrintMore
attribute [local go_sem] max2_int min2_int max_two min_two max_three min_three max_four min_four   -- for this text's walks alone
set_option linter.unusedVariables false
set_option linter.unusedSimpArgs false

mutual
def impl_vecsCode.l0 : Nat → List (List (S32)) → List (List (S32)) → Int → Int → Option (Int)
 | 0, _, _, _, _ => none
 | k + 1, x0, x13, x14, x15 => if x15 < x14 then (if 0 ≤ x15 then (if x15 < (x13.length : Int) then ((impl_VecOK.f k (rd_L5 x13 x15)).bind fun tA4 => (if tA4 = true then (impl_vecsCode.l0 k x0 x13 x14 (wrap64 (x15 + 1))) else (some 1))) else (none)) else (none)) else (impl_vecsCode.l1 k x0 x0 (x0.length : Int) 0)
def impl_vecsCode.l1 : Nat → List (List (S32)) → List (List (S32)) → Int → Int → Option (Int)
 | 0, _, _, _, _ => none
 | k + 1, x0, x23, x24, x25 => if x25 < x24 then (if 0 ≤ x25 then (if x25 < (x23.length : Int) then (if 0 < (x0.length : Int) then (if ((rd_L5 x23 x25).length : Int) = ((rd_L5 x0 0).length : Int) then (impl_vecsCode.l1 k x0 x23 x24 (wrap64 (x25 + 1))) else (some 8)) else (none)) else (none)) else (none)) else (some 0)
end
def impl_vecsCode.f (k : Nat) (l0 : List (List (S32))) : Option (Int) := (impl_listsCode.f k l0).bind fun tA3 => (if tA3 = 0 then (impl_vecsCode.l0 k l0 l0 (l0.length : Int) 0) else (some tA3))
set_option maxHeartbeats 8000000 in
set_option maxRecDepth 100000 in
theorem impl_vecsCode.calls (k : Nat) (A0 : Option Addr) (c0 : Nat) (l0 : List (List (S32))) (r : Int) (w : World) (hr0 : Kd.C (Kd.slice 32 k32) w A0 l0.length l0) (hc0 : l0.length ≤ c0) (h : impl_vecsCode.f k l0 = some r) :
  Calls Try.prog 32 #[.slice A0 l0.length c0] w fun e w' => e = .returned (.int .i64 r) ∧ Below w.heap.size w w' := by
 have HR0 := Aside0.mk hr0
 have HC0 := Aside0.mk hc0
 clear hr0 hc0
 have HB := Aside0.mk (Below.refl w.heap.size w)
 have H : ((impl_listsCode.f k l0).bind fun tA3 => (if tA3 = 0 then (impl_vecsCode.l0 k l0 l0 (l0.length : Int) 0) else (some tA3))) = some r := h
 clear h
 replace H := Option.bind_eq_some_iff.mp H
 obtain ⟨tA3, A20, H⟩ := H
 replace H : (if tA3 = 0 then (impl_vecsCode.l0 k l0 l0 (l0.length : Int) 0) else (some tA3)) = some r := H
 have A2 := Aside0.mk A20
 clear A20
 by_cases c3 : tA3 = 0
 ·
  rw [if_pos c3] at H
  have c3b0 : (tA3 == 0) = true := beq_iff_eq.mpr c3
  have c3b1 : (tA3 != 0) = false := bne_eq_false_iff_eq.mpr c3
  clear c3
  have H' := Aside0.mk H
  clear H
  go_enter Try.func32, Try.ntmps32
  go_wp2_with (first | ((with_reducible refine gate_callee (f := 56) rfl ?_); refine gL_ (some 9) Try.func56 #[.slice A0 l0.length c0] ?_; (with_reducible refine (impl_listsCode.calls k _ _ l0 tA3 _ ?side1 ?side2 A2.out).mono ?_); (case side1 => repeat (first | exact HR0.out | (with_reducible refine Kd.C_alloc ?_ _) | (with_reducible refine Kd.C_drewN ?_ _) | (with_reducible refine Kd.C_drew ?_))); (case side2 => exact HC0.out); rintro e w4 ⟨rfl, hb⟩; refine ⟨_, rfl, ?_⟩; replace HB := bst HB hb; (try clear hb); (try clear hb2); (try clear hk); (try clear hi)))
  go_loopg [15] k (fun kq v15 w' => ∃ (x15_1 : Int), v15 = .int .i64 x15_1 ∧ Aside0 (impl_vecsCode.l0 kq l0 l0 (l0.length : Int) x15_1 = some r) ∧ Aside0 (kq ≤ k) ∧ Aside0 (Below w.heap.size w w'))
  case atStart => exact ⟨(0), rs_, H', ⟨Nat.le_refl _⟩, ⟨blw HB⟩⟩
  case round =>
   clear H'
   try clear p2
   try clear c3
   try clear c3b0
   try clear c3b1
   obtain ⟨x15_1, rfl, HA, HK1, HB⟩ := hrel
   cases gk with
   | zero => exact absurd HA.out (by simp [impl_vecsCode.l0])
   | succ k1 =>
    have H := HA.out
    clear HA
    simp only [impl_vecsCode.l0] at H
    by_cases c5 : x15_1 < (l0.length : Int)
    ·
     rw [if_pos c5] at H
     have c5b0 : decide (x15_1 < (l0.length : Int)) = true := decide_eq_true c5
     clear c5
     by_cases c6 : 0 ≤ x15_1
     ·
      rw [if_pos c6] at H
      have c6b0 : decide (0 ≤ x15_1) = true := decide_eq_true c6
      clear c6
      by_cases c7 : x15_1 < (l0.length : Int)
      ·
       rw [if_pos c7] at H
       have c7b0 : decide (x15_1 < (l0.length : Int)) = true := decide_eq_true c7
       clear c7
       replace H := Option.bind_eq_some_iff.mp H
       obtain ⟨tA4, A80, H⟩ := H
       replace H : (if tA4 = true then (impl_vecsCode.l0 k1 l0 l0 (l0.length : Int) (wrap64 (x15_1 + 1))) else (some 1)) = some r := H
       have A8 := Aside0.mk A80
       clear A80
       by_cases c9 : tA4 = true
       ·
        subst c9
        rw [if_pos rfl] at H
        have H' := Aside0.mk H
        clear H
        have pA0 : 0 ≤ (x15_1 : Int) := of_decide_eq_true (by first | (with_reducible assumption) | assumption)
        have qA0 : x15_1 < (l0.length : Int) := of_decide_eq_true (by first | (with_reducible assumption) | assumption)
        obtain ⟨adA0, AA0_0, cA0_0, eA0, hxA0_0, hlA0_0, hiA0_0⟩ := at_L5 HR0.out x15_1 pA0 qA0
        cases eA0
        replace hxA0_0 := (HB.out.cell (World.block_lt_of_cell? w _ hxA0_0)).trans hxA0_0
        have HRA0_0 := Aside0.mk hiA0_0
        have HCA0_0 := Aside0.mk hlA0_0
        clear hiA0_0 hlA0_0
        replace pA0 := eq_true pA0
        replace qA0 := eq_true qA0
        go_wp2_with (first | ((with_reducible refine gate_callee (f := 10) rfl ?_); refine gL_ (some 20) Try.func10 #[.slice AA0_0 (rd_L5 l0 x15_1).length cA0_0] ?_; (with_reducible refine (impl_VecOK.calls k1 _ _ (rd_L5 l0 x15_1) true _ ?side1 ?side2 A8.out).mono ?_); (case side1 => exact crC (Kd.C_below HRA0_0.out HB.out)); (case side2 => exact HCA0_0.out); rintro e w10 ⟨rfl, hb⟩; refine ⟨_, rfl, ?_⟩; replace HB := bst HB hb; (try clear hb); (try clear hb2); (try clear hk); (try clear hi)))
        go_roundg k1
        case measure => have := HK1.out; omega
        case rel => exact ⟨(wrap64 (x15_1 + 1)), rs_, H', ⟨by have := HK1.out; omega⟩, ⟨blw HB⟩⟩
       ·
        replace c9 := Bool.eq_false_iff.mpr c9
        subst c9
        rw [if_neg (show ¬ (false = true) by decide)] at H
        obtain rfl := Option.some.inj H
        have pA0 : 0 ≤ (x15_1 : Int) := of_decide_eq_true (by first | (with_reducible assumption) | assumption)
        have qA0 : x15_1 < (l0.length : Int) := of_decide_eq_true (by first | (with_reducible assumption) | assumption)
        obtain ⟨adA0, AA0_0, cA0_0, eA0, hxA0_0, hlA0_0, hiA0_0⟩ := at_L5 HR0.out x15_1 pA0 qA0
        cases eA0
        replace hxA0_0 := (HB.out.cell (World.block_lt_of_cell? w _ hxA0_0)).trans hxA0_0
        have HRA0_0 := Aside0.mk hiA0_0
        have HCA0_0 := Aside0.mk hlA0_0
        clear hiA0_0 hlA0_0
        replace pA0 := eq_true pA0
        replace qA0 := eq_true qA0
        go_wp2_with (first | ((with_reducible refine gate_callee (f := 10) rfl ?_); refine gL_ (some 20) Try.func10 #[.slice AA0_0 (rd_L5 l0 x15_1).length cA0_0] ?_; (with_reducible refine (impl_VecOK.calls k1 _ _ (rd_L5 l0 x15_1) false _ ?side1 ?side2 A8.out).mono ?_); (case side1 => exact crC (Kd.C_below HRA0_0.out HB.out)); (case side2 => exact HCA0_0.out); rintro e w11 ⟨rfl, hb⟩; refine ⟨_, rfl, ?_⟩; replace HB := bst HB hb; (try clear hb); (try clear hb2); (try clear hk); (try clear hi)))
        go_ret
        exact ⟨er_, blw HB⟩
      ·
       rw [if_neg c7] at H
       exact absurd H (by simp)
     ·
      rw [if_neg c6] at H
      exact absurd H (by simp)
    ·
     rw [if_neg c5] at H
     have c5b0 : decide (x15_1 < (l0.length : Int)) = false := decide_eq_false c5
     clear c5
     have H' := Aside0.mk H
     clear H
     go_wp2
     go_loopg [25] k1 (fun kq v25 w' => ∃ (x25_2 : Int), v25 = .int .i64 x25_2 ∧ Aside0 (impl_vecsCode.l1 kq l0 l0 (l0.length : Int) x25_2 = some r) ∧ Aside0 (kq ≤ k1) ∧ Aside0 (Below w.heap.size w w'))
     case atStart => exact ⟨(0), rs_, H', ⟨Nat.le_refl _⟩, ⟨blw HB⟩⟩
     case round =>
      clear H'
      try clear c1
      try clear p2
      try clear c3
      try clear c3b0
      try clear c3b1
      try clear c4
      try clear p4
      try clear q4
      try clear hx4
      try clear c5
      try clear c5b0
      try clear c6
      try clear c6b0
      try clear p6
      try clear c7
      try clear c7b0
      try clear c9
      try clear c10
      try clear hxA0_0
      try clear p2
      try clear pA0
      try clear qA0
      obtain ⟨x25_2, rfl, HA, HK2, HB⟩ := hrel
      cases gk with
      | zero => exact absurd HA.out (by simp [impl_vecsCode.l1])
      | succ k2 =>
       have H := HA.out
       clear HA
       simp only [impl_vecsCode.l1] at H
       by_cases c12 : x25_2 < (l0.length : Int)
       ·
        rw [if_pos c12] at H
        have c12b0 : decide (x25_2 < (l0.length : Int)) = true := decide_eq_true c12
        clear c12
        by_cases c13 : 0 ≤ x25_2
        ·
         rw [if_pos c13] at H
         have c13b0 : decide (0 ≤ x25_2) = true := decide_eq_true c13
         clear c13
         by_cases c14 : x25_2 < (l0.length : Int)
         ·
          rw [if_pos c14] at H
          have c14b0 : decide (x25_2 < (l0.length : Int)) = true := decide_eq_true c14
          clear c14
          by_cases c15 : 0 < (l0.length : Int)
          ·
           rw [if_pos c15] at H
           have c15b0 : decide (0 < (l0.length : Int)) = true := decide_eq_true c15
           have c15b1 : decide (0 < l0.length) = true := decide_eq_true (by omega)
           clear c15
           by_cases c16 : ((rd_L5 l0 x25_2).length : Int) = ((rd_L5 l0 0).length : Int)
           ·
            rw [if_pos c16] at H
            have c16b0 : (((rd_L5 l0 x25_2).length : Int) == ((rd_L5 l0 0).length : Int)) = true := beq_iff_eq.mpr c16
            have c16b1 : (((rd_L5 l0 x25_2).length : Int) != ((rd_L5 l0 0).length : Int)) = false := bne_eq_false_iff_eq.mpr c16
            have c16b2 : ((rd_L5 l0 x25_2).length == (rd_L5 l0 0).length) = true := by first | simpa using c16 | (simp at c16 ⊢; omega)
            clear c16
            have H' := Aside0.mk H
            clear H
            have pA2 : 0 ≤ (x25_2 : Int) := of_decide_eq_true (by first | (with_reducible assumption) | assumption)
            have qA2 : x25_2 < (l0.length : Int) := of_decide_eq_true (by first | (with_reducible assumption) | assumption)
            obtain ⟨adA2, AA2_0, cA2_0, eA2, hxA2_0, hlA2_0, hiA2_0⟩ := at_L5 HR0.out x25_2 pA2 qA2
            cases eA2
            replace hxA2_0 := (HB.out.cell (World.block_lt_of_cell? w _ hxA2_0)).trans hxA2_0
            have HRA2_0 := Aside0.mk hiA2_0
            have HCA2_0 := Aside0.mk hlA2_0
            clear hiA2_0 hlA2_0
            replace pA2 := eq_true pA2
            replace qA2 := eq_true qA2
            have pA1 : 0 ≤ (0 : Int) := (by omega)
            have qA1 : 0 < (l0.length : Int) := of_decide_eq_true (by first | (with_reducible assumption) | assumption)
            obtain ⟨adA1, AA1_0, cA1_0, eA1, hxA1_0, hlA1_0, hiA1_0⟩ := at_L5 HR0.out 0 pA1 qA1
            obtain rfl : adA2 = adA1 := (by injection eA1)
            have qi434 : (0 < l0.length) = True := eq_true (by omega)
            (try rw [show ((0 : Int)).toNat = 0 from rfl] at hxA1_0)
            (try rw [Addr.add_zero'] at hxA1_0)
            replace hxA1_0 := (HB.out.cell (World.block_lt_of_cell? w _ hxA1_0)).trans hxA1_0
            have HRA1_0 := Aside0.mk hiA1_0
            have HCA1_0 := Aside0.mk hlA1_0
            clear hiA1_0 hlA1_0
            replace pA1 := eq_true pA1
            replace qA1 := eq_true qA1
            go_wp2
            go_roundg k2
            case measure => have := HK1.out; have := HK2.out; omega
            case rel => exact ⟨(wrap64 (x25_2 + 1)), rs_, H', ⟨by have := HK1.out; have := HK2.out; omega⟩, ⟨blw HB⟩⟩
           ·
            rw [if_neg c16] at H
            have c16b0 : (((rd_L5 l0 x25_2).length : Int) == ((rd_L5 l0 0).length : Int)) = false := beq_eq_false_iff_ne.mpr c16
            have c16b1 : (((rd_L5 l0 x25_2).length : Int) != ((rd_L5 l0 0).length : Int)) = true := bne_iff_ne.mpr c16
            have c16b2 : ((rd_L5 l0 x25_2).length == (rd_L5 l0 0).length) = false := by first | simpa using c16 | (simp at c16 ⊢; omega)
            obtain rfl := Option.some.inj H
            have pA2 : 0 ≤ (x25_2 : Int) := of_decide_eq_true (by first | (with_reducible assumption) | assumption)
            have qA2 : x25_2 < (l0.length : Int) := of_decide_eq_true (by first | (with_reducible assumption) | assumption)
            obtain ⟨adA2, AA2_0, cA2_0, eA2, hxA2_0, hlA2_0, hiA2_0⟩ := at_L5 HR0.out x25_2 pA2 qA2
            cases eA2
            replace hxA2_0 := (HB.out.cell (World.block_lt_of_cell? w _ hxA2_0)).trans hxA2_0
            have HRA2_0 := Aside0.mk hiA2_0
            have HCA2_0 := Aside0.mk hlA2_0
            clear hiA2_0 hlA2_0
            replace pA2 := eq_true pA2
            replace qA2 := eq_true qA2
            have pA1 : 0 ≤ (0 : Int) := (by omega)
            have qA1 : 0 < (l0.length : Int) := of_decide_eq_true (by first | (with_reducible assumption) | assumption)
            obtain ⟨adA1, AA1_0, cA1_0, eA1, hxA1_0, hlA1_0, hiA1_0⟩ := at_L5 HR0.out 0 pA1 qA1
            obtain rfl : adA2 = adA1 := (by injection eA1)
            have qi434 : (0 < l0.length) = True := eq_true (by omega)
            (try rw [show ((0 : Int)).toNat = 0 from rfl] at hxA1_0)
            (try rw [Addr.add_zero'] at hxA1_0)
            replace hxA1_0 := (HB.out.cell (World.block_lt_of_cell? w _ hxA1_0)).trans hxA1_0
            have HRA1_0 := Aside0.mk hiA1_0
            have HCA1_0 := Aside0.mk hlA1_0
            clear hiA1_0 hlA1_0
            replace pA1 := eq_true pA1
            replace qA1 := eq_true qA1
            go_wp2
            go_ret
            exact ⟨er_, blw HB⟩
          ·
           rw [if_neg c15] at H
           exact absurd H (by simp)
         ·
          rw [if_neg c14] at H
          exact absurd H (by simp)
        ·
         rw [if_neg c13] at H
         exact absurd H (by simp)
       ·
        rw [if_neg c12] at H
        have c12b0 : decide (x25_2 < (l0.length : Int)) = false := decide_eq_false c12
        clear c12
        obtain rfl := Option.some.inj H
        go_wp2
        go_ret
        exact ⟨er_, blw HB⟩
 ·
  rw [if_neg c3] at H
  have c3b0 : (tA3 == 0) = false := beq_eq_false_iff_ne.mpr c3
  have c3b1 : (tA3 != 0) = true := bne_iff_ne.mpr c3
  obtain rfl := Option.some.inj H
  go_enter Try.func32, Try.ntmps32
  go_wp2_with (first | ((with_reducible refine gate_callee (f := 56) rfl ?_); refine gL_ (some 9) Try.func56 #[.slice A0 l0.length c0] ?_; (with_reducible refine (impl_listsCode.calls k _ _ l0 tA3 _ ?side1 ?side2 A2.out).mono ?_); (case side1 => repeat (first | exact HR0.out | (with_reducible refine Kd.C_alloc ?_ _) | (with_reducible refine Kd.C_drewN ?_ _) | (with_reducible refine Kd.C_drew ?_))); (case side2 => exact HC0.out); rintro e w17 ⟨rfl, hb⟩; refine ⟨_, rfl, ?_⟩; replace HB := bst HB hb; (try clear hb); (try clear hb2); (try clear hk); (try clear hi)))
  go_ret
  exact ⟨er_, blw HB⟩

end Go.Proofs.Ytegbmillbbcmfaa.Q
