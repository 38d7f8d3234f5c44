-- written by a program of this claim's session (myprint.py) out of the translation; Lean checks it.
import Derived.Test.YtegbmillbbcmfaaQx0
import Derived.Test.YtegbmillbbcmfaaWords
import Derived.Test.YtegbmillbbcmfaaQxrlaw
namespace Go.Proofs.Ytegbmillbbcmfaa.Q
open Go.RowKit Go.Proofs.YtegbmillbbcmfaaW.PrintWords Go.Proofs.YtegbmillbbcmfaaW.PrintLast Go.Proofs.YtegbmillbbcmfaaW.PrintMore
attribute [local go_sem] max2_int min2_int max_two min_two max_three min_three max_four min_four   -- for this text's walks alone
set_option linter.unusedVariables false
set_option linter.unusedSimpArgs false

def laws_szRatS.l0 : Nat → List (S40) → Int → Int → Option (Int)
 | 0, _, _, _ => none
 | k + 1, x0, x1, x5 => if x5 < (x0.length : Int) then (if 0 ≤ x5 then ((laws_szRat.f ((rd_T40 x0 x5).f0) ((rd_T40 x0 x5).f1) ((rd_T40 x0 x5).f2) x1).bind fun tA4 => (if tA4 < 0 then (some (-1)) else (laws_szRatS.l0 k x0 tA4 (wrap64 (x5 + 1))))) else (none)) else (some x1)
def laws_szRatS.f (k : Nat) (l0 : List (S40)) (a1 : Int) : Option (Int) := if (wrap64 (a1 - (l0.length : Int))) < 0 then (some (-1)) else (laws_szRatS.l0 k l0 (wrap64 (a1 - (l0.length : Int))) 0)
set_option maxHeartbeats 8000000 in
set_option maxRecDepth 100000 in
theorem laws_szRatS.calls (k : Nat) (A0 : Option Addr) (c0 : Nat) (l0 : List (S40)) (a1 : Int) (r : Int) (w : World) (hr0 : Kd.C k40 w A0 l0.length l0) (hc0 : l0.length ≤ c0) (h : laws_szRatS.f k l0 a1 = some r) :
  Calls Try.prog 7 #[.slice A0 l0.length c0, .int .i64 a1] w fun e w' => e = .returned (.int .i64 r) ∧ Below w.heap.size w w' := by
 have hu40 := Try.underlying40
 have HR0 := Aside0.mk hr0
 have HC0 := Aside0.mk hc0
 clear hr0 hc0
 have HB := Aside0.mk (Below.refl w.heap.size w)
 have H : (if (wrap64 (a1 - (l0.length : Int))) < 0 then (some (-1)) else (laws_szRatS.l0 k l0 (wrap64 (a1 - (l0.length : Int))) 0)) = some r := h
 clear h
 by_cases c3 : (wrap64 (a1 - (l0.length : Int))) < 0
 ·
  rw [if_pos c3] at H
  have c3b0 : decide ((wrap64 (a1 - (l0.length : Int))) < 0) = true := decide_eq_true c3
  clear c3
  obtain rfl := Option.some.inj H
  go_enter Try.func7, Try.ntmps7
  go_wp2
  go_ret
  exact ⟨er_, blw HB⟩
 ·
  rw [if_neg c3] at H
  have c3b0 : decide ((wrap64 (a1 - (l0.length : Int))) < 0) = false := decide_eq_false c3
  clear c3
  have H' := Aside0.mk H
  clear H
  go_enter Try.func7, Try.ntmps7
  go_wp2
  go_loopg [1, 5] k (fun kq v1 v5 w' => ∃ (x1_1 : Int) (x5_1 : Int), v1 = .int .i64 x1_1 ∧ v5 = .int .i64 x5_1 ∧ Aside0 (laws_szRatS.l0 kq l0 x1_1 x5_1 = some r) ∧ Aside0 (kq ≤ k) ∧ Aside0 (Below w.heap.size w w'))
  case atStart => exact ⟨(wrap64 (a1 - (l0.length : Int))), (0), rs_, rs_, H', ⟨Nat.le_refl _⟩, ⟨blw HB⟩⟩
  case round =>
   clear H'
   try clear p2
   try clear c3
   try clear c3b0
   obtain ⟨x1_1, x5_1, rfl, rfl, HA, HK1, HB⟩ := hrel
   cases gk with
   | zero => exact absurd HA.out (by simp [laws_szRatS.l0])
   | succ k1 =>
    have H := HA.out
    clear HA
    simp only [laws_szRatS.l0] at H
    by_cases c4 : x5_1 < (l0.length : Int)
    ·
     rw [if_pos c4] at H
     have c4b0 : decide (x5_1 < (l0.length : Int)) = true := decide_eq_true c4
     clear c4
     by_cases c5 : 0 ≤ x5_1
     ·
      rw [if_pos c5] at H
      have c5b0 : decide (0 ≤ x5_1) = true := decide_eq_true c5
      clear c5
      replace H := Option.bind_eq_some_iff.mp H
      obtain ⟨tA4, A60, H⟩ := H
      replace H : (if tA4 < 0 then (some (-1)) else (laws_szRatS.l0 k1 l0 tA4 (wrap64 (x5_1 + 1)))) = some r := H
      have A6 := Aside0.mk A60
      clear A60
      by_cases c7 : tA4 < 0
      ·
       rw [if_pos c7] at H
       have c7b0 : decide (tA4 < 0) = true := decide_eq_true c7
       clear c7
       obtain rfl := Option.some.inj H
       have pA2 : 0 ≤ (x5_1 : Int) := of_decide_eq_true (by first | (with_reducible assumption) | assumption)
       have qA2 : x5_1 < (l0.length : Int) := of_decide_eq_true (by first | (with_reducible assumption) | assumption)
       obtain ⟨adA2, AA2_1, cA2_1, AA2_2, cA2_2, eA2, hxA2_0, hxA2_1, hxA2_2, hlA2_1, hiA2_1, hlA2_2, hiA2_2⟩ := at_T40 HR0.out x5_1 pA2 qA2
       cases eA2
       replace hxA2_0 := (HB.out.cell (World.block_lt_of_cell? w _ hxA2_0)).trans hxA2_0
       replace hxA2_1 := (HB.out.cell (World.block_lt_of_cell? w _ hxA2_1)).trans hxA2_1
       replace hxA2_2 := (HB.out.cell (World.block_lt_of_cell? w _ hxA2_2)).trans hxA2_2
       have HRA2_1 := Aside0.mk hiA2_1
       have HCA2_1 := Aside0.mk hlA2_1
       clear hiA2_1 hlA2_1
       have HRA2_2 := Aside0.mk hiA2_2
       have HCA2_2 := Aside0.mk hlA2_2
       clear hiA2_2 hlA2_2
       replace pA2 := eq_true pA2
       replace qA2 := eq_true qA2
       go_wp2_with (first | ((with_reducible refine gate_callee (f := 22) rfl ?_); refine gL_ (some 23) Try.func22 #[.agg #[.bool ((rd_T40 l0 x5_1).f0), .slice AA2_1 ((rd_T40 l0 x5_1).f1).length cA2_1, .slice AA2_2 ((rd_T40 l0 x5_1).f2).length cA2_2], .int .i64 x1_1] ?_; (with_reducible refine (laws_szRat.calls ((rd_T40 l0 x5_1).f0) _ _ ((rd_T40 l0 x5_1).f1) _ _ ((rd_T40 l0 x5_1).f2) x1_1 tA4 _ ?side1 ?side2 ?side3 ?side4 A6.out).mono ?_); (case side1 => exact crC (Kd.C_below HRA2_1.out HB.out)); (case side2 => exact HCA2_1.out); (case side3 => exact crC (Kd.C_below HRA2_2.out HB.out)); (case side4 => exact HCA2_2.out); rintro e w8 ⟨rfl, hb⟩; refine ⟨_, rfl, ?_⟩; replace HB := bst HB hb; (try clear hb); (try clear hb2); (try clear hk); (try clear hi)))
       go_ret
       exact ⟨er_, blw HB⟩
      ·
       rw [if_neg c7] at H
       have c7b0 : decide (tA4 < 0) = false := decide_eq_false c7
       clear c7
       have H' := Aside0.mk H
       clear H
       have pA2 : 0 ≤ (x5_1 : Int) := of_decide_eq_true (by first | (with_reducible assumption) | assumption)
       have qA2 : x5_1 < (l0.length : Int) := of_decide_eq_true (by first | (with_reducible assumption) | assumption)
       obtain ⟨adA2, AA2_1, cA2_1, AA2_2, cA2_2, eA2, hxA2_0, hxA2_1, hxA2_2, hlA2_1, hiA2_1, hlA2_2, hiA2_2⟩ := at_T40 HR0.out x5_1 pA2 qA2
       cases eA2
       replace hxA2_0 := (HB.out.cell (World.block_lt_of_cell? w _ hxA2_0)).trans hxA2_0
       replace hxA2_1 := (HB.out.cell (World.block_lt_of_cell? w _ hxA2_1)).trans hxA2_1
       replace hxA2_2 := (HB.out.cell (World.block_lt_of_cell? w _ hxA2_2)).trans hxA2_2
       have HRA2_1 := Aside0.mk hiA2_1
       have HCA2_1 := Aside0.mk hlA2_1
       clear hiA2_1 hlA2_1
       have HRA2_2 := Aside0.mk hiA2_2
       have HCA2_2 := Aside0.mk hlA2_2
       clear hiA2_2 hlA2_2
       replace pA2 := eq_true pA2
       replace qA2 := eq_true qA2
       go_wp2_with (first | ((with_reducible refine gate_callee (f := 22) rfl ?_); refine gL_ (some 23) Try.func22 #[.agg #[.bool ((rd_T40 l0 x5_1).f0), .slice AA2_1 ((rd_T40 l0 x5_1).f1).length cA2_1, .slice AA2_2 ((rd_T40 l0 x5_1).f2).length cA2_2], .int .i64 x1_1] ?_; (with_reducible refine (laws_szRat.calls ((rd_T40 l0 x5_1).f0) _ _ ((rd_T40 l0 x5_1).f1) _ _ ((rd_T40 l0 x5_1).f2) x1_1 tA4 _ ?side1 ?side2 ?side3 ?side4 A6.out).mono ?_); (case side1 => exact crC (Kd.C_below HRA2_1.out HB.out)); (case side2 => exact HCA2_1.out); (case side3 => exact crC (Kd.C_below HRA2_2.out HB.out)); (case side4 => exact HCA2_2.out); rintro e w9 ⟨rfl, hb⟩; refine ⟨_, rfl, ?_⟩; replace HB := bst HB hb; (try clear hb); (try clear hb2); (try clear hk); (try clear hi)))
       go_roundg k1
       case measure => have := HK1.out; omega
       case rel => exact ⟨(tA4), (wrap64 (x5_1 + 1)), rs_, rs_, H', ⟨by have := HK1.out; omega⟩, ⟨blw HB⟩⟩
     ·
      rw [if_neg c5] at H
      exact absurd H (by simp)
    ·
     rw [if_neg c4] at H
     have c4b0 : decide (x5_1 < (l0.length : Int)) = false := decide_eq_false c4
     clear c4
     obtain rfl := Option.some.inj H
     go_wp2
     go_ret
     exact ⟨er_, blw HB⟩

def laws_toRatS.l0 : Nat → List (S40) → List (S32) → Int → Option ((List (S32)))
 | 0, _, _, _ => none
 | k + 1, x0, x3, x4 => if x4 < (x0.length : Int) then (if 0 ≤ x4 then ((laws_toRat.f k ((rd_T40 x0 x4).f0) ((rd_T40 x0 x4).f1) ((rd_T40 x0 x4).f2)).bind fun btA5 => (if x4 < (x3.length : Int) then (laws_toRatS.l0 k x0 (x3.set (x4 : Int).toNat (⟨btA5.1, btA5.2.1, btA5.2.2⟩ : S32)) (wrap64 (x4 + 1))) else (none))) else (none)) else (some x3)
def laws_toRatS.f (k : Nat) (l0 : List (S40)) : Option ((List (S32))) := if 0 ≤ (l0.length : Int) then (if ((l0.length : Int) : Int).toNat ≤ 5026338869833 then (laws_toRatS.l0 k l0 (List.replicate ((l0.length : Int) : Int).toNat z32) 0) else (none)) else (none)
set_option maxHeartbeats 8000000 in
set_option maxRecDepth 100000 in
theorem laws_toRatS.calls (k : Nat) (A0 : Option Addr) (c0 : Nat) (l0 : List (S40)) (r : List (S32)) (w : World) (hr0 : Kd.C k40 w A0 l0.length l0) (hc0 : l0.length ≤ c0) (h : laws_toRatS.f k l0 = some r) :
  Calls Try.prog 9 #[.slice A0 l0.length c0] w fun e w' => ∃ v0_ : Value, e = .returned (v0_) ∧ Kd.S k32 32 w' w.heap.size (fun _ => True) v0_ r ∧ Below w.heap.size w w' := by
 have hu40 := Try.underlying40
 have hu32 := Try.underlying32
 have HR0 := Aside0.mk hr0
 have HC0 := Aside0.mk hc0
 clear hr0 hc0
 have HB := Aside0.mk (Below.refl w.heap.size w)
 have H : (if 0 ≤ (l0.length : Int) then (if ((l0.length : Int) : Int).toNat ≤ 5026338869833 then (laws_toRatS.l0 k l0 (List.replicate ((l0.length : Int) : Int).toNat z32) 0) else (none)) else (none)) = some r := h
 clear h
 by_cases c2 : 0 ≤ (l0.length : Int)
 ·
  rw [if_pos c2] at H
  have c2b0 := eq_true c2
  have c2b1 : decide (0 ≤ (l0.length : Int)) = true := decide_eq_true c2
  clear c2
  by_cases c3 : ((l0.length : Int) : Int).toNat ≤ 5026338869833
  ·
   rw [if_pos c3] at H
   have c3b0 := eq_true c3
   have c3b1 : decide (((l0.length : Int) : Int).toNat ≤ 5026338869833) = true := decide_eq_true c3
   clear c3
   obtain ⟨yA6, hy120⟩ : ∃ y_ : List (S32), y_ = (List.replicate ((l0.length : Int) : Int).toNat z32) := ⟨_, rfl⟩
   replace H : (laws_toRatS.l0 k l0 yA6 0) = some r := by subst hy120; first | with_reducible exact H | with_reducible exact (Option.bind_some _ _).symm.trans H | exact H
   have NyA6 := Aside0.mk hy120
   clear hy120
   have H' := Aside0.mk H
   clear H
   go_enter Try.func9, Try.ntmps9
   go_wp2_with (first | ((with_reducible refine gate_dst (N := 7) rfl ?_); refine Kd.S_make k32 _ 32 rfl (N := 7) rfl 25 _ _ rfl (l0.length : Int) rfl rfl Try.underlying25 (.agg #[(.bool false), (.slice none 0 0), (.slice none 0 0)]) 56 info32 rfl (by decide) (by omega) z32 (ok := fun _ => True) (okp := fun _ => True) (k32_mkM _ _ _ z32 (Kd.R_nil _ _ _ _ _) (Kd.R_nil _ _ _ _ _)) (fun _ hk => hk) trivial (of_decide_eq_true (by first | (with_reducible assumption) | assumption)) (Nat.le_trans (Nat.mul_le_mul_right _ (of_decide_eq_true (by first | (with_reducible assumption) | assumption) : (l0.length : Int).toNat ≤ 5026338869833)) (by omega)) (Below.refl _ _) (Nat.le_refl _) ?_; intro vB5 w4 ho5 hb hg_ hnew_; clear hg_ hnew_; (first | rw [← NyA6.out] at ho5 | (simp only [Int.reduceToNat] at ho5; rw [← NyA6.out] at ho5)); have HOB6 := Aside0.mk (Kd.S_lower ho5 (bsz HB)); replace HB := bst HB hb; clear hb ho5))
   go_loopg [4] k (fun kq v4 w' => ∃ (x3_1 : List (S32)) (x4_1 : Int), v4 = .int .i64 x4_1 ∧ Aside0 (laws_toRatS.l0 kq l0 x3_1 x4_1 = some r) ∧ Aside0 (kq ≤ k) ∧ Aside0 (Kd.S k32 32 w' w.heap.size (fun _ => True) vB5 x3_1) ∧ Aside0 (Below w.heap.size w w'))
   case atStart => exact ⟨(yA6), (0), rs_, H', ⟨Nat.le_refl _⟩, ⟨by (with_reducible repeat (first | apply Kd.S_alloc | apply Kd.S_drewN | apply Kd.S_drew)); exact HOB6.out⟩, ⟨blw HB⟩⟩
   case round =>
    clear H'
    try clear c2
    try clear c2b0
    try clear c2b1
    try clear p2
    try clear c3
    try clear c3b0
    try clear c3b1
    obtain ⟨x3_1, x4_1, rfl, HA, HK1, HO_3, HB⟩ := hrel
    cases gk with
    | zero => exact absurd HA.out (by simp [laws_toRatS.l0])
    | succ k1 =>
     have H := HA.out
     clear HA
     simp only [laws_toRatS.l0] at H
     by_cases c6 : x4_1 < (l0.length : Int)
     ·
      rw [if_pos c6] at H
      have c6b0 : decide (x4_1 < (l0.length : Int)) = true := decide_eq_true c6
      clear c6
      by_cases c7 : 0 ≤ x4_1
      ·
       rw [if_pos c7] at H
       have c7b0 : decide (0 ≤ x4_1) = true := decide_eq_true c7
       clear c7
       replace H := Option.bind_eq_some_iff.mp H
       obtain ⟨⟨tA5, tA7, tA8⟩, A80, H⟩ := H
       replace H : (if x4_1 < (x3_1.length : Int) then (laws_toRatS.l0 k1 l0 (x3_1.set (x4_1 : Int).toNat (⟨tA5, tA7, tA8⟩ : S32)) (wrap64 (x4_1 + 1))) else (none)) = some r := H
       have A8 := Aside0.mk A80
       clear A80
       by_cases c9 : x4_1 < (x3_1.length : Int)
       ·
        rw [if_pos c9] at H
        have c9b0 : decide (x4_1 < (x3_1.length : Int)) = true := decide_eq_true c9
        clear c9
        obtain ⟨yA9, hy131⟩ : ∃ y_ : List (S32), y_ = (x3_1.set (x4_1 : Int).toNat (⟨tA5, tA7, tA8⟩ : S32)) := ⟨_, rfl⟩
        replace H : (laws_toRatS.l0 k1 l0 yA9 (wrap64 (x4_1 + 1))) = some r := by subst hy131; first | with_reducible exact H | with_reducible exact (Option.bind_some _ _).symm.trans H | exact H
        have NyA9 := Aside0.mk hy131
        clear hy131
        have H' := Aside0.mk H
        clear H
        have pA3 : 0 ≤ (x4_1 : Int) := of_decide_eq_true (by first | (with_reducible assumption) | assumption)
        have qA3 : x4_1 < (l0.length : Int) := of_decide_eq_true (by first | (with_reducible assumption) | assumption)
        obtain ⟨adA3, AA3_1, cA3_1, AA3_2, cA3_2, eA3, hxA3_0, hxA3_1, hxA3_2, hlA3_1, hiA3_1, hlA3_2, hiA3_2⟩ := at_T40 HR0.out x4_1 pA3 qA3
        cases eA3
        replace hxA3_0 := (HB.out.cell (World.block_lt_of_cell? w _ hxA3_0)).trans hxA3_0
        replace hxA3_1 := (HB.out.cell (World.block_lt_of_cell? w _ hxA3_1)).trans hxA3_1
        replace hxA3_2 := (HB.out.cell (World.block_lt_of_cell? w _ hxA3_2)).trans hxA3_2
        have HRA3_1 := Aside0.mk hiA3_1
        have HCA3_1 := Aside0.mk hlA3_1
        clear hiA3_1 hlA3_1
        have HRA3_2 := Aside0.mk hiA3_2
        have HCA3_2 := Aside0.mk hlA3_2
        clear hiA3_2 hlA3_2
        replace pA3 := eq_true pA3
        replace qA3 := eq_true qA3
        go_wp2_with (first | ((with_reducible refine gate_callee (f := 25) rfl ?_); refine gL_ (some 20) Try.func25 #[.agg #[.bool ((rd_T40 l0 x4_1).f0), .slice AA3_1 ((rd_T40 l0 x4_1).f1).length cA3_1, .slice AA3_2 ((rd_T40 l0 x4_1).f2).length cA3_2]] ?_; (with_reducible refine (laws_toRat.calls k1 ((rd_T40 l0 x4_1).f0) _ _ ((rd_T40 l0 x4_1).f1) _ _ ((rd_T40 l0 x4_1).f2) tA5 tA7 tA8 _ ?side1 ?side2 ?side3 ?side4 A8.out).mono ?_); (case side1 => exact crC (Kd.C_below HRA3_1.out HB.out)); (case side2 => exact HCA3_1.out); (case side3 => exact crC (Kd.C_below HRA3_2.out HB.out)); (case side4 => exact HCA3_2.out); rintro e w11 ⟨vB0, vB1, rfl, ho0, ho1, hb⟩; refine ⟨_, rfl, ?_⟩; replace HO_3 := Aside0.mk (Kd.S_mono (Kd.S_told (Kd.S_told (Kd.S_old (by (with_reducible repeat (first | apply Kd.S_alloc | apply Kd.S_drewN | apply Kd.S_drew)); exact HO_3.out) hb) (Kd.R_base ho0)) (Kd.R_base ho1)) (fun _ h_ => h_.1)); have HOB2 := lwR ho0 HB; have HOB3 := lwR ho1 HB; replace HB := bst HB hb; (try clear hb); (try clear hb2); (try clear hk); (try clear hi); (try clear ho0); (try clear ho1); have p10 : 0 ≤ (x4_1 : Int) := of_decide_eq_true (by first | (with_reducible assumption) | assumption); have q10 : (x4_1 : Int) < ((x3_1.length : Int) : Int) := of_decide_eq_true (by first | (with_reducible assumption) | assumption); obtain ⟨go10, co10, eo10, gb10, gl10, cl10, HG10⟩ := Kd.S_form HO_3.out (by omega); (first | cases eo10 | (injection eo10 with ea_ en_ ec_; (first | subst ea_ | (injection ea_ with ea_; subst ea_)); subst ec_; clear en_)); have GB10 := Aside0.mk gb10; have GG10 := Aside0.mk HG10; clear gb10 gl10 HG10; obtain ⟨_, ce10, hcl10, hM10, hcc10, hfr10, _, _⟩ := Kd.S_elem HO_3.out z32 (x4_1 : Int) p10 q10; obtain ⟨ve10_1, ve10_2, rfl, ge10_1, ge10_2⟩ := k32_openM hM10; have hx10_0 : w11.cell? ⟨go10, (x4_1 : Int).toNat * 3, none⟩ = some (.bool ((rd_T32 x3_1 x4_1).f0)) := hcc10 0 _ rfl; have hx10_1 : w11.cell? ⟨go10, (x4_1 : Int).toNat * 3 + 1, none⟩ = some (ve10_1) := hcc10 1 _ rfl; have hx10_2 : w11.cell? ⟨go10, (x4_1 : Int).toNat * 3 + 2, none⟩ = some (ve10_2) := hcc10 2 _ rfl; have hf10_0 : w11.frozen? ⟨go10, (x4_1 : Int).toNat * 3, none⟩ = false := hfr10 0; have hf10_1 : w11.frozen? ⟨go10, (x4_1 : Int).toNat * 3 + 1, none⟩ = false := hfr10 1; have hf10_2 : w11.frozen? ⟨go10, (x4_1 : Int).toNat * 3 + 2, none⟩ = false := hfr10 2; clear hcl10 hcc10 hfr10 hM10; replace p10 := eq_true p10; replace q10 := eq_true q10; have n_ := Aside0.mk (Kd.S_mono (ok' := (fun k_ => nO k_ vB0 ∧ nO k_ vB1)) HO_3.out (fun k_ hk => ⟨hk.1.2, hk.2⟩)); clear HO_3; have HO_3 := n_; clear n_; have HX12 := Aside0.mk (show Kd.S k32 32 w11 w.heap.size (fun k_ => ((fun _ => True)) k_ ∧ ¬ ((fun k_ => some k_ = (vB0 : Value).ownBlock ∨ some k_ = (vB1 : Value).ownBlock)) k_) (.slice (some ⟨go10, 0, none⟩) x3_1.length co10) x3_1 from (by (with_reducible repeat (first | apply Kd.S_alloc | apply Kd.S_drewN | apply Kd.S_drew)); exact Kd.S_mono HO_3.out (fun k_ hk => ⟨trivial, fun e_ => e_.elim (fun h_ => hk.1 h_) (fun h_ => hk.2 h_)⟩))); obtain ⟨oki12, ce12, hcl12, hM12, hcc12, hfr12, hoki12, hH12⟩ := Kd.S_elem HX12.out z32 (x4_1 : Int) (of_decide_eq_true (by first | (with_reducible assumption) | assumption)) (by have h_ : (x4_1 : Int) < ((x3_1.length : Int) : Int) := of_decide_eq_true (by first | (with_reducible assumption) | assumption); first | exact h_ | (have e_ := (Kd.S_reads' HO_3.out).1; omega) | simpa using h_); obtain ⟨ve12_1, ve12_2, rfl, ge12_1, ge12_2⟩ := k32_openM hM12; have HP12 := Kd.S_seg hH12 (of_decide_eq_true (by first | (with_reducible assumption) | assumption)) (by have h_ : (x4_1 : Int) < ((x3_1.length : Int) : Int) := of_decide_eq_true (by first | (with_reducible assumption) | assumption); first | exact h_ | (have e_ := (Kd.S_reads' HO_3.out).1; omega) | simpa using h_) (seg := [.bool tA5, vB0, vB1]) (j := 0) (show 3 ≤ 3 from by decide) (x' := (⟨tA5, tA7, tA8⟩ : S32)) (k32_mkM _ _ _ (⟨tA5, tA7, tA8⟩ : S32) (Kd.R_mono (Kd.R_tight rfl (Kd.R_mono (ok' := fun k_ => ((fun _ => True)) k_ ∧ k_ ≠ go10) (Kd.R_apart' (HOB2.out) (Kd.S_typed HO_3.out) (by decide)) (fun k_ hk => ⟨trivial, fun e_ => (hk.2) (by rw [e_]; rfl)⟩))) (fun _ h_ => Or.inr (Or.inl h_))) (Kd.R_mono (Kd.R_tight rfl (Kd.R_mono (ok' := fun k_ => ((fun _ => True)) k_ ∧ k_ ≠ go10) (Kd.R_apart' (HOB3.out) (Kd.S_typed HO_3.out) (by decide)) (fun k_ hk => ⟨trivial, fun e_ => (hk.2) (by rw [e_]; rfl)⟩))) (fun _ h_ => Or.inr (Or.inr (h_))))) (fun _ hk => hk) (fun k_ hk_ => hk_.elim (fun h_ => ((Kd.R_mono (ok' := fun k_ => ((fun _ => True)) k_ ∧ k_ ≠ go10) (Kd.R_apart' (HOB2.out) (Kd.S_typed HO_3.out) (by decide)) (fun k_ hk => ⟨trivial, fun e_ => (hk.2) (by rw [e_]; rfl)⟩))).1 k_ h_.symm) (fun h_ => ((Kd.R_mono (ok' := fun k_ => ((fun _ => True)) k_ ∧ k_ ≠ go10) (Kd.R_apart' (HOB3.out) (Kd.S_typed HO_3.out) (by decide)) (fun k_ hk => ⟨trivial, fun e_ => (hk.2) (by rw [e_]; rfl)⟩))).1 k_ h_.symm)); have hx12_0 := hcc12 0 _ rfl; (try simp only [show (k32).sz = 3 from rfl, Nat.mul_one, Nat.add_zero] at hx12_0); have hf12_0 := hfr12 0; (try simp only [show (k32).sz = 3 from rfl, Nat.mul_one, Nat.add_zero] at hf12_0); have hx12_1 := hcc12 1 _ rfl; (try simp only [show (k32).sz = 3 from rfl, Nat.mul_one, Nat.add_zero] at hx12_1); have hf12_1 := hfr12 1; (try simp only [show (k32).sz = 3 from rfl, Nat.mul_one, Nat.add_zero] at hf12_1); have hx12_2 := hcc12 2 _ rfl; (try simp only [show (k32).sz = 3 from rfl, Nat.mul_one, Nat.add_zero] at hx12_2); have hf12_2 := hfr12 2; (try simp only [show (k32).sz = 3 from rfl, Nat.mul_one, Nat.add_zero] at hf12_2); clear hcl12 hcc12 hfr12 hM12 hoki12 hH12) | ((with_reducible refine gate_store (t := 32) (p := 21) rfl ?_); refine store_event (t := 32) (p := 21) (v := ?vo_w13) (w1 := (((w11.setCell ⟨go10, (x4_1 : Int).toNat * 3, none⟩ (.bool tA5)).setCell ⟨go10, (x4_1 : Int).toNat * 3 + 1, none⟩ (vB0)).setCell ⟨go10, (x4_1 : Int).toNat * 3 + 2, none⟩ (vB1))) ?hg ?ho ?hn ?hr ?_; (case ho => rfl); (case hg => rfl); (case hn => rfl); (case hr => obtain ⟨_, _, e0_⟩ := Kd.R_slice HOB2.out; obtain ⟨_, _, e1_⟩ := Kd.R_slice HOB3.out; simp only [e0_, e1_]; first | (go_simp; done) | (go_simp; rfl)); intro w13 hw; have hg : w11.grownBy w13 (some go10) := (by rw [hw]; exact HP12.2); have hp_ : Kd.S k32 32 w13 w.heap.size (fun _ => True) (.slice (some ⟨go10, 0, none⟩) x3_1.length co10) yA9 := (by rw [hw, NyA9.out]; exact HP12.1); clear HP12; replace HO_3 := Aside0.mk (hp_); replace HB := Aside0.mk ((by rw [hw]; exact below_set (below_set (below_set (HB.out) GB10.out) GB10.out) GB10.out : Below w.heap.size w w13)); clear HOB2 HOB3; clear hg hw hp_))
        go_roundg k1
        case measure => have := HK1.out; omega
        case rel => exact ⟨(yA9), (wrap64 (x4_1 + 1)), rs_, H', ⟨by have := HK1.out; omega⟩, ⟨by (with_reducible repeat (first | apply Kd.S_alloc | apply Kd.S_drewN | apply Kd.S_drew)); exact HO_3.out⟩, ⟨blw HB⟩⟩
       ·
        rw [if_neg c9] at H
        exact absurd H (by simp)
      ·
       rw [if_neg c7] at H
       exact absurd H (by simp)
     ·
      rw [if_neg c6] at H
      have c6b0 : decide (x4_1 < (l0.length : Int)) = false := decide_eq_false c6
      clear c6
      obtain rfl := Option.some.inj H
      go_wp2
      go_ret
      exact ⟨_, er_, by (with_reducible repeat (first | apply Kd.S_alloc | apply Kd.S_drewN | apply Kd.S_drew)); exact HO_3.out, blw HB⟩
  ·
   rw [if_neg c3] at H
   exact absurd H (by simp)
 ·
  rw [if_neg c2] at H
  exact absurd H (by simp)

def laws_eqRatS.l0 : Nat → List (S32) → List (S32) → Int → Option (Bool)
 | 0, _, _, _ => none
 | k + 1, x0, x1, x5 => if x5 < (x0.length : Int) then (if 0 ≤ x5 then (if x5 < (x1.length : Int) then ((laws_eqRat.f k ((rd_T32 x0 x5).f0) ((rd_T32 x0 x5).f1) ((rd_T32 x0 x5).f2) ((rd_T32 x1 x5).f0) ((rd_T32 x1 x5).f1) ((rd_T32 x1 x5).f2)).bind fun tB4 => (if tB4 = true then (laws_eqRatS.l0 k x0 x1 (wrap64 (x5 + 1))) else (some false))) else (none)) else (none)) else (some true)
def laws_eqRatS.f (k : Nat) (l0 : List (S32)) (l1 : List (S32)) : Option (Bool) := if (l0.length : Int) = (l1.length : Int) then (laws_eqRatS.l0 k l0 l1 0) else (some false)
def laws_eqRatS.T6 : Bool × List (List Nat × List Nat) := (true, [([], []), ([], []), ([0, 1], [0, 1]), ([2], [2]), ([], []), ([], []), ([4, 5], [4, 5]), ([6], [6]), ([3, 7], [3, 7]), ([8], [8])])
def laws_eqRatS.B6 : List Nat := [0, 0, 3, 7, 0, 0, 48, 112, 255, 511]
theorem laws_eqRatS.tab6 : rtab .any (opsOf Try.f11 6) = laws_eqRatS.T6 := by kernel_rfl
theorem laws_eqRatS.bits6 : waitsOk laws_eqRatS.T6.2 laws_eqRatS.B6 = true := by kernel_rfl
set_option maxHeartbeats 8000000 in
set_option maxRecDepth 100000 in
theorem laws_eqRatS.calls (k : Nat) (A0 : Option Addr) (c0 : Nat) (l0 : List (S32)) (A1 : Option Addr) (c1 : Nat) (l1 : List (S32)) (r : Bool) (w : World) (hr0 : Kd.C k32 w A0 l0.length l0) (hc0 : l0.length ≤ c0) (hr1 : Kd.C k32 w A1 l1.length l1) (hc1 : l1.length ≤ c1) (h : laws_eqRatS.f k l0 l1 = some r) :
  Calls Try.prog 11 #[.slice A0 l0.length c0, .slice A1 l1.length c1] w fun e w' => e = .returned (.bool r) ∧ Below w.heap.size w w' := by
 have hu32 := Try.underlying32
 have HR0 := Aside0.mk hr0
 have HC0 := Aside0.mk hc0
 clear hr0 hc0
 have HR1 := Aside0.mk hr1
 have HC1 := Aside0.mk hc1
 clear hr1 hc1
 have HB := Aside0.mk (Below.refl w.heap.size w)
 have H : (if (l0.length : Int) = (l1.length : Int) then (laws_eqRatS.l0 k l0 l1 0) else (some false)) = some r := h
 clear h
 by_cases c3 : (l0.length : Int) = (l1.length : Int)
 ·
  rw [if_pos c3] at H
  have c3b0 : ((l0.length : Int) == (l1.length : Int)) = true := beq_iff_eq.mpr c3
  have c3b1 : ((l0.length : Int) != (l1.length : Int)) = false := bne_eq_false_iff_eq.mpr c3
  have c3b2 : (l0.length == l1.length) = true := by first | simpa using c3 | (simp at c3 ⊢; omega)
  clear c3
  have H' := Aside0.mk H
  clear H
  go_enter Try.func11, Try.ntmps11
  go_wp2
  go_loopg [5] k (fun kq v5 w' => ∃ (x5_1 : Int), v5 = .int .i64 x5_1 ∧ Aside0 (laws_eqRatS.l0 kq l0 l1 x5_1 = some r) ∧ Aside0 (kq ≤ k) ∧ Aside0 (Below w.heap.size w w'))
  case atStart => exact ⟨(0), rs_, H', ⟨Nat.le_refl _⟩, ⟨blw HB⟩⟩
  case round =>
   clear H'
   try clear c1
   try clear p2
   try clear c3
   try clear c3b0
   try clear c3b1
   try clear c3b2
   obtain ⟨x5_1, rfl, HA, HK1, HB⟩ := hrel
   cases gk with
   | zero => exact absurd HA.out (by simp [laws_eqRatS.l0])
   | succ k1 =>
    have H := HA.out
    clear HA
    simp only [laws_eqRatS.l0] at H
    by_cases c4 : x5_1 < (l0.length : Int)
    ·
     rw [if_pos c4] at H
     have c4b0 : decide (x5_1 < (l0.length : Int)) = true := decide_eq_true c4
     clear c4
     by_cases c5 : 0 ≤ x5_1
     ·
      rw [if_pos c5] at H
      have c5b0 : decide (0 ≤ x5_1) = true := decide_eq_true c5
      clear c5
      by_cases c6 : x5_1 < (l1.length : Int)
      ·
       rw [if_pos c6] at H
       have c6b0 : decide (x5_1 < (l1.length : Int)) = true := decide_eq_true c6
       clear c6
       replace H := Option.bind_eq_some_iff.mp H
       obtain ⟨tB4, A70, H⟩ := H
       replace H : (if tB4 = true then (laws_eqRatS.l0 k1 l0 l1 (wrap64 (x5_1 + 1))) else (some false)) = some r := H
       have A7 := Aside0.mk A70
       clear A70
       by_cases c8 : tB4 = true
       ·
        subst c8
        rw [if_pos rfl] at H
        have H' := Aside0.mk H
        clear H
        try go_wp2
        replace HB := Aside0.mk (below_drew1 HB.out)
        have pA0 : 0 ≤ (x5_1 : Int) := of_decide_eq_true (by first | (with_reducible assumption) | assumption)
        have qA0 : x5_1 < (l0.length : Int) := of_decide_eq_true (by first | (with_reducible assumption) | assumption)
        obtain ⟨adA0, AA0_1, cA0_1, AA0_2, cA0_2, eA0, hxA0_0, hxA0_1, hxA0_2, hlA0_1, hiA0_1, hlA0_2, hiA0_2⟩ := at_T32 HR0.out x5_1 pA0 qA0
        have hw138_2 := hxA0_2
        have hw138_1 := hxA0_1
        have hw138_0 := hxA0_0
        cases eA0
        replace hxA0_0 := (HB.out.cell (World.block_lt_of_cell? w _ hxA0_0)).trans hxA0_0
        replace hxA0_1 := (HB.out.cell (World.block_lt_of_cell? w _ hxA0_1)).trans hxA0_1
        replace hxA0_2 := (HB.out.cell (World.block_lt_of_cell? w _ hxA0_2)).trans hxA0_2
        have HRA0_1 := Aside0.mk hiA0_1
        have HCA0_1 := Aside0.mk hlA0_1
        clear hiA0_1 hlA0_1
        have HRA0_2 := Aside0.mk hiA0_2
        have HCA0_2 := Aside0.mk hlA0_2
        clear hiA0_2 hlA0_2
        replace pA0 := eq_true pA0
        replace qA0 := eq_true qA0
        have pA1 : 0 ≤ (x5_1 : Int) := of_decide_eq_true (by first | (with_reducible assumption) | assumption)
        have qA1 : x5_1 < (l1.length : Int) := of_decide_eq_true (by first | (with_reducible assumption) | assumption)
        obtain ⟨adA1, AA1_1, cA1_1, AA1_2, cA1_2, eA1, hxA1_0, hxA1_1, hxA1_2, hlA1_1, hiA1_1, hlA1_2, hiA1_2⟩ := at_T32 HR1.out x5_1 pA1 qA1
        have hw139_2 := hxA1_2
        have hw139_1 := hxA1_1
        have hw139_0 := hxA1_0
        cases eA1
        replace hxA1_0 := (HB.out.cell (World.block_lt_of_cell? w _ hxA1_0)).trans hxA1_0
        replace hxA1_1 := (HB.out.cell (World.block_lt_of_cell? w _ hxA1_1)).trans hxA1_1
        replace hxA1_2 := (HB.out.cell (World.block_lt_of_cell? w _ hxA1_2)).trans hxA1_2
        have HRA1_1 := Aside0.mk hiA1_1
        have HCA1_1 := Aside0.mk hlA1_1
        clear hiA1_1 hlA1_1
        have HRA1_2 := Aside0.mk hiA1_2
        have HCA1_2 := Aside0.mk hlA1_2
        clear hiA1_2 hlA1_2
        replace pA1 := eq_true pA1
        replace qA1 := eq_true qA1
        refine start_ (n := 10) (S := fun w' => w'.cell? (adA0.add ((x5_1).toNat * 3)) = some (.bool ((rd_T32 l0 x5_1).f0)) ∧ w'.cell? ⟨(adA0.add ((x5_1).toNat * 3)).block, (adA0.add ((x5_1).toNat * 3)).off + 1, none⟩ = some (.slice AA0_1 ((rd_T32 l0 x5_1).f1).length cA0_1) ∧ w'.cell? ⟨(adA0.add ((x5_1).toNat * 3)).block, (adA0.add ((x5_1).toNat * 3)).off + 2, none⟩ = some (.slice AA0_2 ((rd_T32 l0 x5_1).f2).length cA0_2) ∧ w'.cell? (adA1.add ((x5_1).toNat * 3)) = some (.bool ((rd_T32 l1 x5_1).f0)) ∧ w'.cell? ⟨(adA1.add ((x5_1).toNat * 3)).block, (adA1.add ((x5_1).toNat * 3)).off + 1, none⟩ = some (.slice AA1_1 ((rd_T32 l1 x5_1).f1).length cA1_1) ∧ w'.cell? ⟨(adA1.add ((x5_1).toNat * 3)).block, (adA1.add ((x5_1).toNat * 3)).off + 2, none⟩ = some (.slice AA1_2 ((rd_T32 l1 x5_1).f2).length cA1_2)) (ds := []) (bm 10 0) (by kernel_rfl) rfl rfl ⟨((HB.out.cell (World.block_lt_of_cell? w _ hw138_0)).trans hw138_0), ((HB.out.cell (World.block_lt_of_cell? w _ hw138_1)).trans hw138_1), ((HB.out.cell (World.block_lt_of_cell? w _ hw138_2)).trans hw138_2), ((HB.out.cell (World.block_lt_of_cell? w _ hw139_0)).trans hw139_0), ((HB.out.cell (World.block_lt_of_cell? w _ hw139_1)).trans hw139_1), ((HB.out.cell (World.block_lt_of_cell? w _ hw139_2)).trans hw139_2)⟩ (fun hHeld => ?_); refine with_tabW laws_eqRatS.tab6 laws_eqRatS.bits6 (fun HT_ HW_ => ?_)
        generalize wr.drew = w9 at HB HRA0_1 HRA0_2 HRA1_1 HRA1_2 hxA0_0 hxA0_1 hxA0_2 hxA1_0 hxA1_1 hxA1_2 hHeld ⊢
        refine pu_ 0 (some 17) (bm 10 1) HT_.out ?_
        refine pu_ 1 (some 18) (bm 10 3) HT_.out ?_
        refine pu_ 2 (some 19) (bm 10 7) HT_.out ?_
        refine pu_ 4 (some 21) (bm 10 23) HT_.out ?_
        refine pu_ 5 (some 22) (bm 10 55) HT_.out ?_
        refine pu_ 6 (some 23) (bm 10 119) HT_.out ?_
        refine tk_ 3 (some 20) (bm 10 127) HT_.out HW_.out hHeld ?_
        refine tk_ 7 (some 24) (bm 10 255) HT_.out HW_.out hHeld ?_
        refine one_ (i := 8) (N := some 25) (bm 10 511) rfl rfl (one_of HT_.out (by kernel_rfl)) (by decide) (fun K hK => ?_)
        refine g_ Try.func16 #[.agg #[.bool ((rd_T32 l0 x5_1).f0), .slice AA0_1 ((rd_T32 l0 x5_1).f1).length cA0_1, .slice AA0_2 ((rd_T32 l0 x5_1).f2).length cA0_2], .agg #[.bool ((rd_T32 l1 x5_1).f0), .slice AA1_1 ((rd_T32 l1 x5_1).f1).length cA1_1, .slice AA1_2 ((rd_T32 l1 x5_1).f2).length cA1_2]] ?_
        with_reducible refine (laws_eqRat.calls k1 ((rd_T32 l0 x5_1).f0) _ _ ((rd_T32 l0 x5_1).f1) _ _ ((rd_T32 l0 x5_1).f2) ((rd_T32 l1 x5_1).f0) _ _ ((rd_T32 l1 x5_1).f1) _ _ ((rd_T32 l1 x5_1).f2) true _ ?side1 ?side2 ?side3 ?side4 ?side5 ?side6 ?side7 ?side8 A7.out).mono ?_
        (case side1 => exact crC (Kd.C_below HRA0_1.out HB.out))
        (case side2 => exact HCA0_1.out)
        (case side3 => exact crC (Kd.C_below HRA0_2.out HB.out))
        (case side4 => exact HCA0_2.out)
        (case side5 => exact crC (Kd.C_below HRA1_1.out HB.out))
        (case side6 => exact HCA1_1.out)
        (case side7 => exact crC (Kd.C_below HRA1_2.out HB.out))
        (case side8 => exact HCA1_2.out)
        rintro e w10 ⟨rfl, hb⟩
        refine ⟨_, rfl, ?_⟩
        replace HB := bst HB hb
        (try clear hb)
        (try clear hb2)
        (try clear hk)
        (try clear hi)
        refine hK.out _ _ ⟨((HB.out.cell (World.block_lt_of_cell? w _ hw138_0)).trans hw138_0), ((HB.out.cell (World.block_lt_of_cell? w _ hw138_1)).trans hw138_1), ((HB.out.cell (World.block_lt_of_cell? w _ hw138_2)).trans hw138_2), ((HB.out.cell (World.block_lt_of_cell? w _ hw139_0)).trans hw139_0), ((HB.out.cell (World.block_lt_of_cell? w _ hw139_1)).trans hw139_1), ((HB.out.cell (World.block_lt_of_cell? w _ hw139_2)).trans hw139_2)⟩ (fun hHeld => ?_)
        clear hK K
        refine nm_ 25 ?_
        refine pu_ 9 (some 26) (bm 10 1023) HT_.out ?_
        refine done_ (done_of HT_.out (by kernel_rfl)) ?_
        try go_wp2
        go_roundg k1
        case measure => have := HK1.out; omega
        case rel => exact ⟨(wrap64 (x5_1 + 1)), rs_, H', ⟨by have := HK1.out; omega⟩, ⟨blw HB⟩⟩
       ·
        replace c8 := Bool.eq_false_iff.mpr c8
        subst c8
        rw [if_neg (show ¬ (false = true) by decide)] at H
        obtain rfl := Option.some.inj H
        try go_wp2
        replace HB := Aside0.mk (below_drew1 HB.out)
        have pA0 : 0 ≤ (x5_1 : Int) := of_decide_eq_true (by first | (with_reducible assumption) | assumption)
        have qA0 : x5_1 < (l0.length : Int) := of_decide_eq_true (by first | (with_reducible assumption) | assumption)
        obtain ⟨adA0, AA0_1, cA0_1, AA0_2, cA0_2, eA0, hxA0_0, hxA0_1, hxA0_2, hlA0_1, hiA0_1, hlA0_2, hiA0_2⟩ := at_T32 HR0.out x5_1 pA0 qA0
        have hw138_2 := hxA0_2
        have hw138_1 := hxA0_1
        have hw138_0 := hxA0_0
        cases eA0
        replace hxA0_0 := (HB.out.cell (World.block_lt_of_cell? w _ hxA0_0)).trans hxA0_0
        replace hxA0_1 := (HB.out.cell (World.block_lt_of_cell? w _ hxA0_1)).trans hxA0_1
        replace hxA0_2 := (HB.out.cell (World.block_lt_of_cell? w _ hxA0_2)).trans hxA0_2
        have HRA0_1 := Aside0.mk hiA0_1
        have HCA0_1 := Aside0.mk hlA0_1
        clear hiA0_1 hlA0_1
        have HRA0_2 := Aside0.mk hiA0_2
        have HCA0_2 := Aside0.mk hlA0_2
        clear hiA0_2 hlA0_2
        replace pA0 := eq_true pA0
        replace qA0 := eq_true qA0
        have pA1 : 0 ≤ (x5_1 : Int) := of_decide_eq_true (by first | (with_reducible assumption) | assumption)
        have qA1 : x5_1 < (l1.length : Int) := of_decide_eq_true (by first | (with_reducible assumption) | assumption)
        obtain ⟨adA1, AA1_1, cA1_1, AA1_2, cA1_2, eA1, hxA1_0, hxA1_1, hxA1_2, hlA1_1, hiA1_1, hlA1_2, hiA1_2⟩ := at_T32 HR1.out x5_1 pA1 qA1
        have hw139_2 := hxA1_2
        have hw139_1 := hxA1_1
        have hw139_0 := hxA1_0
        cases eA1
        replace hxA1_0 := (HB.out.cell (World.block_lt_of_cell? w _ hxA1_0)).trans hxA1_0
        replace hxA1_1 := (HB.out.cell (World.block_lt_of_cell? w _ hxA1_1)).trans hxA1_1
        replace hxA1_2 := (HB.out.cell (World.block_lt_of_cell? w _ hxA1_2)).trans hxA1_2
        have HRA1_1 := Aside0.mk hiA1_1
        have HCA1_1 := Aside0.mk hlA1_1
        clear hiA1_1 hlA1_1
        have HRA1_2 := Aside0.mk hiA1_2
        have HCA1_2 := Aside0.mk hlA1_2
        clear hiA1_2 hlA1_2
        replace pA1 := eq_true pA1
        replace qA1 := eq_true qA1
        refine start_ (n := 10) (S := fun w' => w'.cell? (adA0.add ((x5_1).toNat * 3)) = some (.bool ((rd_T32 l0 x5_1).f0)) ∧ w'.cell? ⟨(adA0.add ((x5_1).toNat * 3)).block, (adA0.add ((x5_1).toNat * 3)).off + 1, none⟩ = some (.slice AA0_1 ((rd_T32 l0 x5_1).f1).length cA0_1) ∧ w'.cell? ⟨(adA0.add ((x5_1).toNat * 3)).block, (adA0.add ((x5_1).toNat * 3)).off + 2, none⟩ = some (.slice AA0_2 ((rd_T32 l0 x5_1).f2).length cA0_2) ∧ w'.cell? (adA1.add ((x5_1).toNat * 3)) = some (.bool ((rd_T32 l1 x5_1).f0)) ∧ w'.cell? ⟨(adA1.add ((x5_1).toNat * 3)).block, (adA1.add ((x5_1).toNat * 3)).off + 1, none⟩ = some (.slice AA1_1 ((rd_T32 l1 x5_1).f1).length cA1_1) ∧ w'.cell? ⟨(adA1.add ((x5_1).toNat * 3)).block, (adA1.add ((x5_1).toNat * 3)).off + 2, none⟩ = some (.slice AA1_2 ((rd_T32 l1 x5_1).f2).length cA1_2)) (ds := []) (bm 10 0) (by kernel_rfl) rfl rfl ⟨((HB.out.cell (World.block_lt_of_cell? w _ hw138_0)).trans hw138_0), ((HB.out.cell (World.block_lt_of_cell? w _ hw138_1)).trans hw138_1), ((HB.out.cell (World.block_lt_of_cell? w _ hw138_2)).trans hw138_2), ((HB.out.cell (World.block_lt_of_cell? w _ hw139_0)).trans hw139_0), ((HB.out.cell (World.block_lt_of_cell? w _ hw139_1)).trans hw139_1), ((HB.out.cell (World.block_lt_of_cell? w _ hw139_2)).trans hw139_2)⟩ (fun hHeld => ?_); refine with_tabW laws_eqRatS.tab6 laws_eqRatS.bits6 (fun HT_ HW_ => ?_)
        generalize wr.drew = w11 at HB HRA0_1 HRA0_2 HRA1_1 HRA1_2 hxA0_0 hxA0_1 hxA0_2 hxA1_0 hxA1_1 hxA1_2 hHeld ⊢
        refine pu_ 0 (some 17) (bm 10 1) HT_.out ?_
        refine pu_ 1 (some 18) (bm 10 3) HT_.out ?_
        refine pu_ 2 (some 19) (bm 10 7) HT_.out ?_
        refine pu_ 4 (some 21) (bm 10 23) HT_.out ?_
        refine pu_ 5 (some 22) (bm 10 55) HT_.out ?_
        refine pu_ 6 (some 23) (bm 10 119) HT_.out ?_
        refine tk_ 3 (some 20) (bm 10 127) HT_.out HW_.out hHeld ?_
        refine tk_ 7 (some 24) (bm 10 255) HT_.out HW_.out hHeld ?_
        refine one_ (i := 8) (N := some 25) (bm 10 511) rfl rfl (one_of HT_.out (by kernel_rfl)) (by decide) (fun K hK => ?_)
        refine g_ Try.func16 #[.agg #[.bool ((rd_T32 l0 x5_1).f0), .slice AA0_1 ((rd_T32 l0 x5_1).f1).length cA0_1, .slice AA0_2 ((rd_T32 l0 x5_1).f2).length cA0_2], .agg #[.bool ((rd_T32 l1 x5_1).f0), .slice AA1_1 ((rd_T32 l1 x5_1).f1).length cA1_1, .slice AA1_2 ((rd_T32 l1 x5_1).f2).length cA1_2]] ?_
        with_reducible refine (laws_eqRat.calls k1 ((rd_T32 l0 x5_1).f0) _ _ ((rd_T32 l0 x5_1).f1) _ _ ((rd_T32 l0 x5_1).f2) ((rd_T32 l1 x5_1).f0) _ _ ((rd_T32 l1 x5_1).f1) _ _ ((rd_T32 l1 x5_1).f2) false _ ?side1 ?side2 ?side3 ?side4 ?side5 ?side6 ?side7 ?side8 A7.out).mono ?_
        (case side1 => exact crC (Kd.C_below HRA0_1.out HB.out))
        (case side2 => exact HCA0_1.out)
        (case side3 => exact crC (Kd.C_below HRA0_2.out HB.out))
        (case side4 => exact HCA0_2.out)
        (case side5 => exact crC (Kd.C_below HRA1_1.out HB.out))
        (case side6 => exact HCA1_1.out)
        (case side7 => exact crC (Kd.C_below HRA1_2.out HB.out))
        (case side8 => exact HCA1_2.out)
        rintro e w12 ⟨rfl, hb⟩
        refine ⟨_, rfl, ?_⟩
        replace HB := bst HB hb
        (try clear hb)
        (try clear hb2)
        (try clear hk)
        (try clear hi)
        refine hK.out _ _ ⟨((HB.out.cell (World.block_lt_of_cell? w _ hw138_0)).trans hw138_0), ((HB.out.cell (World.block_lt_of_cell? w _ hw138_1)).trans hw138_1), ((HB.out.cell (World.block_lt_of_cell? w _ hw138_2)).trans hw138_2), ((HB.out.cell (World.block_lt_of_cell? w _ hw139_0)).trans hw139_0), ((HB.out.cell (World.block_lt_of_cell? w _ hw139_1)).trans hw139_1), ((HB.out.cell (World.block_lt_of_cell? w _ hw139_2)).trans hw139_2)⟩ (fun hHeld => ?_)
        clear hK K
        refine nm_ 25 ?_
        refine pu_ 9 (some 26) (bm 10 1023) HT_.out ?_
        refine done_ (done_of HT_.out (by kernel_rfl)) ?_
        try go_wp2
        go_ret
        exact ⟨er_, blw HB⟩
      ·
       rw [if_neg c6] at H
       exact absurd H (by simp)
     ·
      rw [if_neg c5] at H
      exact absurd H (by simp)
    ·
     rw [if_neg c4] at H
     have c4b0 : decide (x5_1 < (l0.length : Int)) = false := decide_eq_false c4
     clear c4
     obtain rfl := Option.some.inj H
     go_wp2
     go_ret
     exact ⟨er_, blw HB⟩
 ·
  rw [if_neg c3] at H
  have c3b0 : ((l0.length : Int) == (l1.length : Int)) = false := beq_eq_false_iff_ne.mpr c3
  have c3b1 : ((l0.length : Int) != (l1.length : Int)) = true := bne_iff_ne.mpr c3
  have c3b2 : (l0.length == l1.length) = false := by first | simpa using c3 | (simp at c3 ⊢; omega)
  obtain rfl := Option.some.inj H
  go_enter Try.func11, Try.ntmps11
  go_wp2
  go_ret
  exact ⟨er_, blw HB⟩

end Go.Proofs.Ytegbmillbbcmfaa.Q
