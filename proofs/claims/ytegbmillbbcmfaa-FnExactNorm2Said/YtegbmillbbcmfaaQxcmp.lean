-- written by a program of this claim's session (myprint.py) out of the translation; Lean checks it.
import Derived.Test.YtegbmillbbcmfaaQx0
import Derived.Test.YtegbmillbbcmfaaWords
namespace Go.Proofs.Ytegbmillbbcmfaa.Q
open Go.RowKit Go.Proofs.YtegbmillbbcmfaaW.PrintWords Go.Proofs.YtegbmillbbcmfaaW.PrintLast Go.Proofs.YtegbmillbbcmfaaW.PrintMore
attribute [local go_sem] max2_int min2_int max_two min_two max_three min_three max_four min_four   -- for this text's walks alone
set_option linter.unusedVariables false
set_option linter.unusedSimpArgs false

def spec_l01Bit.f (a0 : Bool) : Option (Int) := if a0 = true then (some 1) else (some 0)
set_option maxHeartbeats 8000000 in
set_option maxRecDepth 100000 in
theorem spec_l01Bit.calls (a0 : Bool) (r : Int) (w : World) (h : spec_l01Bit.f a0 = some r) :
  Calls Try.prog 61 #[.bool a0] w fun e w' => e = .returned (.int .i64 r) ∧ Drawn0 w w' := by
 have H : (if a0 = true then (some 1) else (some 0)) = some r := h
 clear h
 by_cases c2 : a0 = true
 ·
  subst c2
  rw [if_pos rfl] at H
  obtain rfl := Option.some.inj H
  go_enter Try.func61, Try.ntmps61
  go_wp2
  go_ret
  exact ⟨by first | rfl | (simp; done) | (simp [*]; done), by repeat (first | exact Drawn0.refl _ | apply Drawn0.step)⟩
 ·
  replace c2 := Bool.eq_false_iff.mpr c2
  subst c2
  rw [if_neg (show ¬ (false = true) by decide)] at H
  obtain rfl := Option.some.inj H
  go_enter Try.func61, Try.ntmps61
  go_wp2
  go_ret
  exact ⟨by first | rfl | (simp; done) | (simp [*]; done), by repeat (first | exact Drawn0.refl _ | apply Drawn0.step)⟩

def spec_l01Cmp.l0 : Nat → List Int → List Int → Int → Option (Int)
 | 0, _, _, _ => none
 | k + 1, x0, x1, x5 => if x5 ≥ 0 then (if 0 ≤ x5 then (if x5 < (x0.length : Int) then (if x5 < (x1.length : Int) then (if (rd x0 x5) = (rd x1 x5) then (spec_l01Cmp.l0 k x0 x1 (wrap64 (x5 - 1))) else ((spec_l01Bit.f (decide ((rd x0 x5) > (rd x1 x5)))).bind fun tA5 => (some (wrap64 ((wrap64 (2 * tA5)) - 1))))) else (none)) else (none)) else (none)) else (some 0)
def spec_l01Cmp.f (k : Nat) (l0 : List Int) (l1 : List Int) : Option (Int) := if (l0.length : Int) = (l1.length : Int) then (spec_l01Cmp.l0 k l0 l1 (wrap64 ((l0.length : Int) - 1))) else ((spec_l01Bit.f (decide ((l0.length : Int) > (l1.length : Int)))).bind fun tA4 => (some (wrap64 ((wrap64 (2 * tA4)) - 1))))
set_option maxHeartbeats 8000000 in
set_option maxRecDepth 100000 in
theorem spec_l01Cmp.calls (k : Nat) (A0 : Option Addr) (c0 : Nat) (l0 : List Int) (A1 : Option Addr) (c1 : Nat) (l1 : List Int) (r : Int) (w : World) (hr0 : Kd.C (Kd.int .i64) w A0 l0.length l0) (hc0 : l0.length ≤ c0) (hr1 : Kd.C (Kd.int .i64) w A1 l1.length l1) (hc1 : l1.length ≤ c1) (h : spec_l01Cmp.f k l0 l1 = some r) :
  Calls Try.prog 40 #[.slice A0 l0.length c0, .slice A1 l1.length c1] w fun e w' => e = .returned (.int .i64 r) ∧ Drawn0 w w' := by
 have HR0 := Aside0.mk hr0
 have HC0 := Aside0.mk hc0
 clear hr0 hc0
 have HR1 := Aside0.mk hr1
 have HC1 := Aside0.mk hc1
 clear hr1 hc1
 have H : (if (l0.length : Int) = (l1.length : Int) then (spec_l01Cmp.l0 k l0 l1 (wrap64 ((l0.length : Int) - 1))) else ((spec_l01Bit.f (decide ((l0.length : Int) > (l1.length : Int)))).bind fun tA4 => (some (wrap64 ((wrap64 (2 * tA4)) - 1))))) = some r := h
 clear h
 by_cases c3 : (l0.length : Int) = (l1.length : Int)
 ·
  rw [if_pos c3] at H
  have c3b0 : ((l0.length : Int) == (l1.length : Int)) = true := beq_iff_eq.mpr c3
  have c3b1 : ((l0.length : Int) != (l1.length : Int)) = false := bne_eq_false_iff_eq.mpr c3
  have c3b2 : (l0.length == l1.length) = true := by first | simpa using c3 | (simp at c3 ⊢; omega)
  clear c3
  have H' := Aside0.mk H
  clear H
  go_enter Try.func40, Try.ntmps40
  go_wp2
  repeat (go_quiet (fail); try go_wp2)
  go_loopg [5] k (fun kq v5 w' => ∃ (x5_1 : Int), v5 = .int .i64 x5_1 ∧ Aside0 (spec_l01Cmp.l0 kq l0 l1 x5_1 = some r) ∧ Aside0 (kq ≤ k) ∧ Drawn0 w w')
  case atStart => exact ⟨(wrap64 ((l0.length : Int) - 1)), rs_, H', ⟨Nat.le_refl _⟩, by repeat (first | exact Drawn0.refl _ | apply Drawn0.step)⟩
  case round =>
   clear H'
   try clear c1
   try clear p2
   try clear c3
   try clear c3b0
   try clear c3b1
   try clear c3b2
   obtain ⟨x5_1, rfl, HA, HK1, ⟨m1, rfl⟩⟩ := hrel
   cases gk with
   | zero => exact absurd HA.out (by simp [spec_l01Cmp.l0])
   | succ k1 =>
    have H := HA.out
    clear HA
    simp only [spec_l01Cmp.l0] at H
    by_cases c4 : x5_1 ≥ 0
    ·
     rw [if_pos c4] at H
     have c4b0 : decide (0 ≤ x5_1) = true := decide_eq_true c4
     clear c4
     by_cases c5 : 0 ≤ x5_1
     ·
      rw [if_pos c5] at H
      have c5b0 : decide (0 ≤ x5_1) = true := decide_eq_true c5
      clear c5
      by_cases c6 : x5_1 < (l0.length : Int)
      ·
       rw [if_pos c6] at H
       have c6b0 : decide (x5_1 < (l0.length : Int)) = true := decide_eq_true c6
       clear c6
       by_cases c7 : x5_1 < (l1.length : Int)
       ·
        rw [if_pos c7] at H
        have c7b0 : decide (x5_1 < (l1.length : Int)) = true := decide_eq_true c7
        clear c7
        by_cases c8 : (rd l0 x5_1) = (rd l1 x5_1)
        ·
         rw [if_pos c8] at H
         have c8b0 : ((rd l0 x5_1) == (rd l1 x5_1)) = true := beq_iff_eq.mpr c8
         have c8b1 : ((rd l0 x5_1) != (rd l1 x5_1)) = false := bne_eq_false_iff_eq.mpr c8
         clear c8
         have H' := Aside0.mk H
         clear H
         have pA0 : 0 ≤ (x5_1 : Int) := of_decide_eq_true (by first | (with_reducible assumption) | assumption)
         have qA0 : x5_1 < (l0.length : Int) := of_decide_eq_true (by first | (with_reducible assumption) | assumption)
         obtain ⟨adA0, eA0, hxA0_0⟩ := Kd.at_int HR0.out x5_1 pA0 qA0
         cases eA0
         replace pA0 := eq_true pA0
         replace qA0 := eq_true qA0
         have pA1 : 0 ≤ (x5_1 : Int) := of_decide_eq_true (by first | (with_reducible assumption) | assumption)
         have qA1 : x5_1 < (l1.length : Int) := of_decide_eq_true (by first | (with_reducible assumption) | assumption)
         obtain ⟨adA1, eA1, hxA1_0⟩ := Kd.at_int HR1.out x5_1 pA1 qA1
         cases eA1
         replace pA1 := eq_true pA1
         replace qA1 := eq_true qA1
         go_wp2
         repeat (go_quiet (fail); try go_wp2)
         go_roundg k1
         case measure => have := HK1.out; omega
         case rel => exact ⟨(wrap64 (x5_1 - 1)), rs_, H', ⟨by have := HK1.out; omega⟩, by repeat (first | exact Drawn0.refl _ | apply Drawn0.step)⟩
        ·
         rw [if_neg c8] at H
         have c8b0 : ((rd l0 x5_1) == (rd l1 x5_1)) = false := beq_eq_false_iff_ne.mpr c8
         have c8b1 : ((rd l0 x5_1) != (rd l1 x5_1)) = true := bne_iff_ne.mpr c8
         replace H := Option.bind_eq_some_iff.mp H
         obtain ⟨tA5, A90, H⟩ := H
         replace H : (some (wrap64 ((wrap64 (2 * tA5)) - 1))) = some r := H
         have A9 := Aside0.mk A90
         clear A90
         obtain rfl := Option.some.inj H
         have pA0 : 0 ≤ (x5_1 : Int) := of_decide_eq_true (by first | (with_reducible assumption) | assumption)
         have qA0 : x5_1 < (l0.length : Int) := of_decide_eq_true (by first | (with_reducible assumption) | assumption)
         obtain ⟨adA0, eA0, hxA0_0⟩ := Kd.at_int HR0.out x5_1 pA0 qA0
         cases eA0
         replace pA0 := eq_true pA0
         replace qA0 := eq_true qA0
         have pA1 : 0 ≤ (x5_1 : Int) := of_decide_eq_true (by first | (with_reducible assumption) | assumption)
         have qA1 : x5_1 < (l1.length : Int) := of_decide_eq_true (by first | (with_reducible assumption) | assumption)
         obtain ⟨adA1, eA1, hxA1_0⟩ := Kd.at_int HR1.out x5_1 pA1 qA1
         cases eA1
         replace pA1 := eq_true pA1
         replace qA1 := eq_true qA1
         have pA2 : 0 ≤ (x5_1 : Int) := of_decide_eq_true (by first | (with_reducible assumption) | assumption)
         have qA2 : x5_1 < (l0.length : Int) := of_decide_eq_true (by first | (with_reducible assumption) | assumption)
         obtain ⟨adA2, eA2, hxA2_0⟩ := Kd.at_int HR0.out x5_1 pA2 qA2
         obtain rfl : adA0 = adA2 := (by injection eA2)
         replace pA2 := eq_true pA2
         replace qA2 := eq_true qA2
         have pA3 : 0 ≤ (x5_1 : Int) := of_decide_eq_true (by first | (with_reducible assumption) | assumption)
         have qA3 : x5_1 < (l1.length : Int) := of_decide_eq_true (by first | (with_reducible assumption) | assumption)
         obtain ⟨adA3, eA3, hxA3_0⟩ := Kd.at_int HR1.out x5_1 pA3 qA3
         obtain rfl : adA1 = adA3 := (by injection eA3)
         replace pA3 := eq_true pA3
         replace qA3 := eq_true qA3
         go_wp2_with (first | (go_at_call 61; (with_reducible refine (spec_l01Bit.calls (decide ((rd l0 x5_1) > (rd l1 x5_1))) tA5 _ A9.out).mono ?_); rintro e w' ⟨rfl, ⟨nd, rfl⟩⟩; (try first | exact ⟨rfl, _, World.drewN_drewN _ _ _⟩ | exact ⟨rfl, _, Eq.trans (World.drewN_drewN _ _ _) (congrArg (World.drewN _) (Nat.add_assoc _ _ _))⟩)))
         repeat (go_quiet (first | (go_at_call 61; (with_reducible refine (spec_l01Bit.calls (decide ((rd l0 x5_1) > (rd l1 x5_1))) tA5 _ A9.out).mono ?_); rintro e w' ⟨rfl, ⟨nd, rfl⟩⟩; (try first | exact ⟨rfl, _, World.drewN_drewN _ _ _⟩ | exact ⟨rfl, _, Eq.trans (World.drewN_drewN _ _ _) (congrArg (World.drewN _) (Nat.add_assoc _ _ _))⟩))); try go_wp2_with (first | (go_at_call 61; (with_reducible refine (spec_l01Bit.calls (decide ((rd l0 x5_1) > (rd l1 x5_1))) tA5 _ A9.out).mono ?_); rintro e w' ⟨rfl, ⟨nd, rfl⟩⟩; (try first | exact ⟨rfl, _, World.drewN_drewN _ _ _⟩ | exact ⟨rfl, _, Eq.trans (World.drewN_drewN _ _ _) (congrArg (World.drewN _) (Nat.add_assoc _ _ _))⟩))))
         go_ret
         exact ⟨by first | rfl | (simp; done) | (simp [*]; done), by repeat (first | exact Drawn0.refl _ | apply Drawn0.step)⟩
       ·
        rw [if_neg c7] at H
        exact absurd H (by simp)
      ·
       rw [if_neg c6] at H
       exact absurd H (by simp)
     ·
      rw [if_neg c5] at H
      exact absurd H (by simp)
    ·
     rw [if_neg c4] at H
     have c4b0 : decide (0 ≤ x5_1) = false := decide_eq_false c4
     clear c4
     obtain rfl := Option.some.inj H
     go_wp2
     repeat (go_quiet (fail); try go_wp2)
     go_ret
     exact ⟨by first | rfl | (simp; done) | (simp [*]; done), by repeat (first | exact Drawn0.refl _ | apply Drawn0.step)⟩
 ·
  rw [if_neg c3] at H
  have c3b0 : ((l0.length : Int) == (l1.length : Int)) = false := beq_eq_false_iff_ne.mpr c3
  have c3b1 : ((l0.length : Int) != (l1.length : Int)) = true := bne_iff_ne.mpr c3
  have c3b2 : (l0.length == l1.length) = false := by first | simpa using c3 | (simp at c3 ⊢; omega)
  replace H := Option.bind_eq_some_iff.mp H
  obtain ⟨tA4, AA6, H⟩ := H
  replace H : (some (wrap64 ((wrap64 (2 * tA4)) - 1))) = some r := H
  have A10 := Aside0.mk AA6
  clear AA6
  obtain rfl := Option.some.inj H
  go_enter Try.func40, Try.ntmps40
  go_wp2_with (first | (go_at_call 61; (with_reducible refine (spec_l01Bit.calls (decide (l1.length < l0.length)) tA4 _ (by rw [show decide (l1.length < l0.length) = decide ((l0.length : Int) > (l1.length : Int)) from by simp]; exact A10.out)).mono ?_); rintro e w' ⟨rfl, ⟨nd, rfl⟩⟩; (try first | exact ⟨rfl, _, World.drewN_drewN _ _ _⟩ | exact ⟨rfl, _, Eq.trans (World.drewN_drewN _ _ _) (congrArg (World.drewN _) (Nat.add_assoc _ _ _))⟩)))
  repeat (go_quiet (first | (go_at_call 61; (with_reducible refine (spec_l01Bit.calls (decide (l1.length < l0.length)) tA4 _ (by rw [show decide (l1.length < l0.length) = decide ((l0.length : Int) > (l1.length : Int)) from by simp]; exact A10.out)).mono ?_); rintro e w' ⟨rfl, ⟨nd, rfl⟩⟩; (try first | exact ⟨rfl, _, World.drewN_drewN _ _ _⟩ | exact ⟨rfl, _, Eq.trans (World.drewN_drewN _ _ _) (congrArg (World.drewN _) (Nat.add_assoc _ _ _))⟩))); try go_wp2_with (first | (go_at_call 61; (with_reducible refine (spec_l01Bit.calls (decide (l1.length < l0.length)) tA4 _ (by rw [show decide (l1.length < l0.length) = decide ((l0.length : Int) > (l1.length : Int)) from by simp]; exact A10.out)).mono ?_); rintro e w' ⟨rfl, ⟨nd, rfl⟩⟩; (try first | exact ⟨rfl, _, World.drewN_drewN _ _ _⟩ | exact ⟨rfl, _, Eq.trans (World.drewN_drewN _ _ _) (congrArg (World.drewN _) (Nat.add_assoc _ _ _))⟩))))
  go_ret
  exact ⟨by first | rfl | (simp; done) | (simp [*]; done), by repeat (first | exact Drawn0.refl _ | apply Drawn0.step)⟩

attribute [local go_sem] Oper.semAt_some
def dn (n k : Nat) : List Nat := (List.range k).map fun j => n - 1 - j
theorem dn_succ (n k : Nat) : dn n (k + 1) = dn n k ++ [n - 1 - k] := by simp [dn, List.range_succ]
theorem dn_length (n k : Nat) : (dn n k).length = k := by simp [dn]
theorem dn_mem {n k j : Nat} (hj : j < n) (h : n - k ≤ j) : j ∈ dn n k := by
 simp only [dn, List.mem_map, List.mem_range]
 exact ⟨n - 1 - j, by omega, by omega⟩

/-- The cells of S read as they read. -/
def CK (S : Addr → Prop) (A B : World) : Prop := ∀ p v, S p → A.cell? p = some v → B.cell? p = some v
theorem CK.refl (S : Addr → Prop) (A : World) : CK S A A := fun _ _ _ h => h
theorem CK.trans {S : Addr → Prop} {A B C : World} (h : CK S A B) (k : CK S B C) : CK S A C := fun p v hp hv => k p v hp (h p v hp hv)
theorem CK.putObj {S : Addr → Prop} (W : World) (l : Nat) (o o' : Obj) (h : W.heap[l]? = some o) (hc : o.isCells = false) : CK S W (W.putObj l o') :=
 fun p v _ hv => cell_kept hv (grownBy_putObj' W l o') (fun r e => by cases e; exact ⟨_, h, hc⟩)
/-- The cells that slices.Backward reads: its box, the slice's cells. -/
def BwS (Bs : Nat) (A : Option Addr) (n : Nat) (p : Addr) : Prop := p = ⟨Bs, 0, none⟩ ∨ ∃ ad j, A = some ad ∧ j < n ∧ p = ad.add j

set_option maxRecDepth 100000 in
set_option maxHeartbeats 2000000 in
theorem bw1_in (F : Fence) (m : Nat) (h75 : F.fn 93) (hro : F.round = none) (hm : 1 ≤ m) (l Bs : Nat) (ad : Addr) (n cap : Nat) (zs : List Int) (hreach : n ≤ 9223372036854775807) (J Jx : List {j : Nat // j < n} → World → Prop)
  (hY : ∀ pre x W, J pre W → pre.length < n → YieldAt F (m - 1) Try.prog l #[.int .i64 (x.1 : Int), .int .i64 (zs[x.1]?.getD 0)] W fun e W' =>
   (e = .returned (.bool true) ∧ J (pre ++ [x]) W' ∧ CK (BwS Bs (some ad) n) W W') ∨ (e = .returned (.bool false) ∧ Jx (pre ++ [x]) W'))
  (W : World) (hBs : W.cell? ⟨Bs, 0, none⟩ = some (.slice (some ad) n cap)) (hn : 0 < n) (hc : ∀ j, j < n → W.cell? (ad.add j) = some (.int .i64 (zs[j]?.getD 0))) (h0 : J [] W) :
  CallsIn F m Try.prog 93 #[.func (.yield l) #[] #[], .pointer (some ⟨Bs, 0, none⟩)] W fun e W' => (∃ v, e = .returned v) ∧
   ((∃ ys : List {j : Nat // j < n}, ys.map (·.1) = dn n n ∧ J ys W') ∨ (∃ pre : List {j : Nat // j < n}, (∃ k, k ≤ n ∧ pre.map (·.1) = dn n k) ∧ Jx pre W')) := by
 refine callsIn_of_wp Try.func93 rfl h75 ?_ hro
 simp only [Try.ntmps93, List.size_toArray, List.length_cons, List.length_nil, Nat.reduceAdd, Nat.reduceSub, Array.replicate_succ, Array.replicate_zero, List.push_toArray, List.append_toArray, List.nil_append, List.cons_append]
 gi_wp2
 gi_loopw [3] (fun i wr => ∃ (k : Nat) (pre : List {j : Nat // j < n}), k ≤ n ∧ i = .int .i64 ((n : Int) - 1 - k) ∧ pre.map (·.1) = dn n k ∧ J pre wr ∧ CK (BwS Bs (some ad) n) W wr)
  (fun i _ => (intOf i + 1).toNat)
 case atStart => exact ⟨0, [], Nat.zero_le _, by simp, rfl, h0, CK.refl _ _⟩
 case round =>
  obtain ⟨k, pre, hk, rfl, hpre, hJs, hnx⟩ := hrel
  have hlen : pre.length = k := by have := congrArg List.length hpre; simpa [dn_length] using this
  have hbs' : wr.cell? ⟨Bs, 0, none⟩ = some (.slice (some ad) n cap) := hnx _ _ (.inl rfl) hBs
  by_cases hlt : k < n
  ·
   obtain ⟨j, hj, hjn⟩ : ∃ j : Nat, (n : Int) - 1 - k = (j : Int) ∧ j < n := ⟨n - 1 - k, by omega, by omega⟩
   have hcx : wr.cell? (ad.add j) = some (.int .i64 (zs[j]?.getD 0)) := hnx _ _ (.inr ⟨ad, j, rfl, hjn, rfl⟩) (hc j hjn)
   have hdj : dn n (k + 1) = dn n k ++ [j] := by rw [dn_succ]; congr 2; omega
   obtain ⟨fn, tmps, assign, body, hy, hR⟩ := hY pre ⟨j, hjn⟩ wr hJs (by omega)
   dsimp only at hy
   have HL := Lib.hid hlen
   have HD := Lib.hid hdj
   have HJ := Lib.hid hj
   clear hlen hdj
   rw [hj]
   clear hj
   have hj0 : (0 : Int) ≤ (j : Int) := by omega
   gi_wp2
   refine hR.mono ?_
   rintro e W3 (⟨rfl, hJ3, hk3⟩ | ⟨rfl, hJx3⟩)
   ·
    gi_wp2
    go_roundw
    case rel => exact ⟨k + 1, pre ++ [⟨j, hjn⟩], by omega, by have := HJ.out; go_num, by rw [HD.out, List.map_append, hpre]; rfl, hJ3, hnx.trans hk3⟩
    case measure => first | (simp [intOf]; done) | (simp [intOf]; omega)
   ·
    gi_wp2
    refine bodyPost_ret (results_none rfl _ _ _) rfl ?_
    exact ⟨⟨_, rfl⟩, .inr ⟨pre ++ [⟨j, hjn⟩], ⟨k + 1, by omega, by rw [HD.out, List.map_append, hpre]; rfl⟩, hJx3⟩⟩
  ·
   obtain rfl : k = n := by omega
   have hneg : (k : Int) - 1 - k = -1 := by omega
   rw [hneg]
   clear hneg
   gi_wp2
   go_end0
   exact ⟨⟨_, rfl⟩, .inl ⟨pre, hpre, hJs⟩⟩

set_option maxRecDepth 100000 in
set_option maxHeartbeats 1000000 in
theorem bw1_nil_in (F : Fence) (m : Nat) (h75 : F.fn 93) (hro : F.round = none) (l Bs : Nat) (A : Option Addr) (cap : Nat) (α : Type) (J : List α → World → Prop) (W : World) (hBs : W.cell? ⟨Bs, 0, none⟩ = some (.slice A 0 cap)) (h0 : J [] W) :
  CallsIn F m Try.prog 93 #[.func (.yield l) #[] #[], .pointer (some ⟨Bs, 0, none⟩)] W fun e W' => (∃ v, e = .returned v) ∧ J [] W' := by
 refine callsIn_of_wp Try.func93 rfl h75 ?_ hro
 simp only [Try.ntmps93, List.size_toArray, List.length_cons, List.length_nil, Nat.reduceAdd, Nat.reduceSub, Array.replicate_succ, Array.replicate_zero, List.push_toArray, List.append_toArray, List.nil_append, List.cons_append]
 gi_wp2
 gi_loopw [3] (fun i wr => i = .int .i64 (-1) ∧ J [] wr) (fun _ _ => 0)
 case atStart => exact ⟨rfl, h0⟩
 case round =>
  obtain ⟨rfl, hJs⟩ := hrel
  gi_wp2
  go_end0
  exact ⟨⟨_, rfl⟩, hJs⟩

set_option maxHeartbeats 1000000 in
theorem bw_in (F : Fence) (m : Nat) (h67 : F.fn 86) (hro : F.round = none) (a : Option Addr) (len cap : Nat) (w : World) :
  CallsIn F m Try.prog 86 #[.slice a len cap] w fun e w' => e = .returned (.func (.func 93) #[] #[.pointer (some ⟨w.heap.size, 0, none⟩)]) ∧ w' = w.alloc (.cells #[.slice a len cap] 30) := by
 refine callsIn_of_wp Try.func86 rfl h67 ?_ hro
 simp only [Try.ntmps86, List.size_toArray, List.length_cons, List.length_nil, Nat.reduceAdd, Nat.reduceSub, Array.replicate_succ, Array.replicate_zero, List.push_toArray, List.append_toArray, List.nil_append, List.cons_append]
 gi_wp2
 go_ret
 exact ⟨rfl, rfl⟩

/-- What a slice that is read holds. -/
def BwRow (W : World) (A : Option Addr) (n : Nat) (zs : List Int) : Prop :=
 n ≤ 9223372036854775807 ∧ (0 < n → ∃ ad, A = some ad ∧ ∀ j, j < n → W.cell? (ad.add j) = some (.int .i64 (zs[j]?.getD 0)))
theorem BwRow.below {n : Nat} {W W' : World} {A : Option Addr} {zs : List Int} (h : BwRow W A n zs) (hb : Below W.heap.size W W') : BwRow W' A n zs :=
 ⟨h.1, fun hn => by
  obtain ⟨ad, e, hc⟩ := h.2 hn
  exact ⟨ad, e, fun j hj => (hb.cell (World.block_lt_of_cell? W _ (hc j hj))).trans (hc j hj)⟩⟩
theorem BwRow.of {w : World} {A : Option Addr} {zs : List Int} (h : Kd.C (Kd.int .i64) w A zs.length zs) : BwRow w A zs.length zs := by
 refine ⟨h.2.1, fun hn => ?_⟩
 obtain ⟨ad, e, hc⟩ := h.2.2 hn
 refine ⟨ad, e, fun j hj => ?_⟩
 obtain ⟨c, hs, hr, hcell⟩ := hc j zs[j] (List.getElem?_eq_getElem hj)
 have hr' : c = [.int .i64 zs[j]] := hr
 subst hr'
 have := hcell 0 _ rfl
 rw [show j * (Kd.int IntKind.i64).sz + 0 = j from Nat.mul_one j] at this
 simpa [hj] using this

theorem bw_stops (F : Fence) (m : Nat) (h75 : F.fn 93) (hro : F.round = none) (hm : 1 ≤ m) (Bs : Nat) (A : Option Addr) (n cap : Nat) (zs : List Int) (w : World) (hBs : Bs < w.heap.size)
  (hc : w.cell? ⟨Bs, 0, none⟩ = some (.slice A n cap)) (hI : BwRow w A n zs) :
  SeqStopsK F m Try.prog 93 #[.pointer (some ⟨Bs, 0, none⟩)] (fun x : {j : Nat // j < n} => #[Value.int .i64 (x.1 : Int), Value.int .i64 (zs[x.1]?.getD 0)]) (CK (BwS Bs A n)) (fun ys => ys.map (·.1) = dn n n)
   (fun pre => ∃ k, k ≤ n ∧ pre.map (·.1) = dn n k) n w := fun l J Jx W hW _ _ hY h0 => by
 have hc' := (hW.cell (p := ⟨Bs, 0, none⟩) hBs).trans hc
 have hI' := hI.below hW
 rcases Nat.eq_zero_or_pos n with rfl | hn
 ·
  exact (bw1_nil_in F m h75 hro l Bs A cap _ J W hc' h0).mono fun e W' ⟨he, hj⟩ => ⟨he, .inl ⟨[], rfl, hj⟩⟩
 ·
  obtain ⟨ad, rfl, hcs⟩ := hI'.2 hn
  exact bw1_in F m h75 hro hm l Bs ad n cap zs hI'.1 J Jx hY W hc' hn hcs h0

def ncmpAux (a b : List Int) : Nat → Int
 | 0 => 0
 | k + 1 => if a[k]?.getD 0 = b[k]?.getD 0 then ncmpAux a b k else if a[k]?.getD 0 < b[k]?.getD 0 then -1 else 1
def ncmp (a b : List Int) : Int := if a.length = b.length then ncmpAux a b a.length else if a.length < b.length then -1 else 1
theorem ncmpAux_eq {a b : List Int} : ∀ {k : Nat}, (∀ j, j < k → a[j]?.getD 0 = b[j]?.getD 0) → ncmpAux a b k = 0
 | 0, _ => rfl
 | k + 1, h => by rw [ncmpAux, if_pos (h k (by omega))]; exact ncmpAux_eq fun j hj => h j (by omega)
theorem ncmpAux_at {a b : List Int} {i : Nat} (hne : a[i]?.getD 0 ≠ b[i]?.getD 0) : ∀ {k : Nat}, i < k → (∀ j, i < j → j < k → a[j]?.getD 0 = b[j]?.getD 0) → ncmpAux a b k = if a[i]?.getD 0 < b[i]?.getD 0 then -1 else 1
 | k + 1, hi, h => by
  by_cases e : i = k
  ·
   subst e; rw [ncmpAux, if_neg hne]
  ·
   rw [ncmpAux, if_pos (h k (by omega) (by omega))]; exact ncmpAux_at hne (by omega) fun j h1 h2 => h j h1 (by omega)

/-- A round has left: all behind are alike, this one parts; the result is stored. -/
def NcEnd (B n : Nat) (l0 l1 : List Int) (c : Code) (pre : List {j : Nat // j < n}) (W : World) : Prop :=
 c = .ret ∧ ∃ ini last, pre = ini ++ [last] ∧ (∀ p ∈ ini, l0[p.1]?.getD 0 = l1[p.1]?.getD 0) ∧ l0[last.1]?.getD 0 ≠ l1[last.1]?.getD 0 ∧ W.cell? ⟨B, 0, none⟩ = some (.int .i64 (if l0[last.1]?.getD 0 < l1[last.1]?.getD 0 then -1 else 1))
set_option maxRecDepth 100000 in
set_option maxHeartbeats 4000000 in
theorem natCmp_in (F : Fence) (m : Nat) (h48 : F.fn 66) (h67 : F.fn 86) (h75 : F.fn 93) (hro : F.round = none) (hm : 3 ≤ m) (A0 A1 : Option Addr) (n c0 c1 : Nat) (l0 l1 : List Int) (w : World) (hI0 : BwRow w A0 n l0) (hI1 : BwRow w A1 n l1) :
  CallsIn F m Try.prog 66 #[.slice A0 n c0, .slice A1 n c1] w fun e W' => e = .returned (.int .i64 (ncmpAux l0 l1 n)) ∧ Below w.heap.size w W' := by
 have h1 : 1 ≤ m := by omega
 have hl0 := hI0.1
 refine callsIn_of_wp_marks Try.func66 rfl h48 ?_ hro
 simp only [Try.ntmps66, List.size_toArray, List.length_cons, List.length_nil, Nat.reduceAdd, Nat.reduceSub, Array.replicate_succ, Array.replicate_zero, List.push_toArray, List.append_toArray, List.nil_append, List.cons_append]
 gi_wp2_with (gi_at_call 86; refine (bw_in F (m - 1) h67 hro _ _ _ _).mono ?_; rintro e w' ⟨rfl, rfl⟩)
 have bB := Boxed.new w 30 (.slice A1 n c1)
 have bR := Boxed.new (w.alloc (.cells #[.slice A1 n c1] 30)) 3 (.int .i64 0)
 have bN := Boxed.new ((w.alloc (.cells #[.slice A1 n c1] 30)).alloc (.cells #[.int .i64 0] 3)) 30 (.slice A0 n c0)
 rw [World.size_alloc] at bR
 rw [World.size_alloc, World.size_alloc] at bN
 have hB0 : Below w.heap.size w (((w.alloc (.cells #[.slice A1 n c1] 30)).alloc (.cells #[.int .i64 0] 3)).alloc (.cells #[.slice A0 n c0] 30)) := (((Below.refl _ w).alloc (Nat.le_refl _) _).alloc (by simp) _).alloc (by simp; omega) _
 refine wpIn_rangeFunc_ownG hro h1 (gf := 93) (lb := #[.pointer (some ⟨w.heap.size + 1 + 1, 0, none⟩)]) rfl h75 (enters_of Try.func93 (by kernel_rfl) rfl)
  (bw_stops F (m - 1) h75 hro (by omega) (w.heap.size + 1 + 1) A0 n c0 l0 _ (by simp) bN.cell (hI0.below hB0)) CK.trans (fun W l o o' _ h hc _ => CK.putObj W l o o' h hc) (Below.refl _ _) (fun _ => rfl)
  (fun pre W => ((∀ p ∈ pre, l0[p.1]?.getD 0 = l1[p.1]?.getD 0) ∧ W.cell? ⟨w.heap.size, 0, none⟩ = some (.slice A1 n c1) ∧ W.cell? ⟨w.heap.size + 1, 0, none⟩ = some (.int .i64 0) ∧ W.frozen? ⟨w.heap.size + 1, 0, none⟩ = false) ∧ Below w.heap.size w W)
  (fun c pre W => NcEnd (w.heap.size + 1) n l0 l1 c pre W ∧ Below w.heap.size w W)
  (OwnFrom.and (Own.from (fun s A B row hs hg hr => ⟨hs.1, cell_kept hs.2.1 hg hr, cell_kept hs.2.2.1 hg hr, (frozen_kept hs.2.2.1 hg hr).trans hs.2.2.2⟩) _) (ownFrom_below (Nat.le_refl _) (by simp; omega)))
  (fun c => OwnFrom.and (Own.from (fun s A B row hs hg hr => by obtain ⟨hc, ini, last, e1, e2, e3, e4⟩ := hs; exact ⟨hc, ini, last, e1, e2, e3, cell_kept e4 hg hr⟩) _) (ownFrom_below (Nat.le_refl _) (by simp; omega)))
  ⟨⟨by simp, ((bB.alloc _).alloc _).cell, (bR.alloc _).cell, (bR.alloc _).frozen⟩, hB0⟩
  (fun x => { tmps := #[.slice A0 n c0, .slice A1 n c1, undef, .pointer (some ⟨w.heap.size, 0, none⟩), .pointer (some ⟨w.heap.size + 1, 0, none⟩), .int .i64 (x.1 : Int), .int .i64 (l0[x.1]?.getD 0), .slice A0 n c0, .int .i64 n, .slice A1 n c1, .int .i64 n, .bool false, undef, undef, undef, undef, undef, .slice A0 n c0, .func (.func 93) #[] #[.pointer (some ⟨w.heap.size + 1 + 1, 0, none⟩)], .int .i64 (x.1 : Int), .int .i64 (l0[x.1]?.getD 0), undef, undef, undef, undef, undef, undef, undef, undef, undef, undef, undef, undef], defers := [] }) ?assign ?body ?done ?stop
 case assign =>
  intro l x W K hK
  gi_wp2
  exact hK
 case body =>
  rintro l pre ⟨j, hj⟩ W ⟨⟨hp, hcb, hcr, hfr⟩, hB⟩ _
  obtain ⟨ad1, rfl, hc1⟩ := hI1.2 (by omega)
  have hx : W.cell? (ad1.add j) = some (.int .i64 (l1[j]?.getD 0)) := (hB.cell (World.block_lt_of_cell? w _ (hc1 _ hj))).trans (hc1 _ hj)
  clear hc1
  dsimp only
  obtain ⟨y0, hy0⟩ : ∃ y, l0[j]?.getD 0 = y := ⟨_, rfl⟩
  obtain ⟨y1, hy1⟩ : ∃ y, l1[j]?.getD 0 = y := ⟨_, rfl⟩
  simp only [hy0]
  rw [hy1] at hx
  have HY0 := Lib.hid hy0
  have HY1 := Lib.hid hy1
  have HP := Lib.hid hp
  clear hy0 hy1 hp
  by_cases heq : y0 = y1
  ·
   subst heq
   gi_wp2
   exact ⟨KeepsFrom.refl _ _, CK.refl _ _, ⟨fun p hp' => (List.mem_append.1 hp').elim (HP.out p) (fun e => by simp at e; subst e; exact HY0.out.trans HY1.out.symm), hcb, hcr, hfr⟩, hB⟩
  ·
   have hne1 : (y0 == y1) = false := by simpa using heq
   have hne2 : (y0 != y1) = true := by simpa using heq
   by_cases hlt : y0 < y1
   ·
    gi_wp2
    refine ⟨(KeepsOthers.setCell _ _ _).from _, ⟨rfl, pre, ⟨j, hj⟩, rfl, HP.out, by rw [HY0.out, HY1.out]; exact heq, ?_⟩, hB.setCell (p := ⟨w.heap.size + 1, 0, none⟩) (by simp) _⟩
    rw [HY0.out, HY1.out, if_pos hlt]
    exact World.cell?_setCell_same' _ _ _ (by rw [hcr]; rfl)
   ·
    gi_wp2
    refine ⟨(KeepsOthers.setCell _ _ _).from _, ⟨rfl, pre, ⟨j, hj⟩, rfl, HP.out, by rw [HY0.out, HY1.out]; exact heq, ?_⟩, hB.setCell (p := ⟨w.heap.size + 1, 0, none⟩) (by simp) _⟩
    rw [HY0.out, HY1.out, if_neg (by omega)]
    exact World.cell?_setCell_same' _ _ _ (by rw [hcr]; rfl)
 case done =>
  rintro D ys W hD hys ⟨⟨hp, hcb, hcr, hfr⟩, hB⟩ hK
  have HP := Lib.hid hp
  have HS := Lib.hid hys
  clear hp hys
  gi_wp2
  have hK' := (KeepsOthers.setCell W ⟨w.heap.size + 1, 0, none⟩ (.int .i64 0)).same D _ hK rfl
  refine ⟨by simp, .inl ⟨_, _, rfl, run_takeDeferred hK', ?_⟩⟩
  have hc5 := cell_kept (World.cell?_setCell_same' W ⟨w.heap.size + 1, 0, none⟩ (.int .i64 0) (by rw [hcr]; rfl)) (grownBy_putObj' _ D (.deferred none)) (fun r e => by cases e; exact ⟨_, hK', rfl⟩)
  refine ⟨.int .i64 0, ?_, ?_, (hB.setCell (p := ⟨w.heap.size + 1, 0, none⟩) (by simp) _).trans (belowK_b (w := w) (Nat.le_refl _) _ D _ _ (by simp at hD; omega) hK' rfl rfl)⟩
  ·
   simp [results, Try.f66, go_sem, hc5]
  ·
   rw [ncmpAux_eq]
   intro j hj
   have hm : j ∈ ys.map (·.1) := by rw [HS.out]; exact dn_mem hj (by omega)
   obtain ⟨p, hp, rfl⟩ := List.mem_map.1 hm
   exact HP.out p hp
 case stop =>
  rintro D c pre W hD hpre ⟨⟨rfl, ini, last, e1, e2, e3, hcr⟩, hB⟩ hK
  have H1 := Lib.hid hpre
  have H2 := Lib.hid e1
  have H3 := Lib.hid e2
  have H4 := Lib.hid e3
  clear hpre e1 e2 e3
  gi_wp2
  refine ⟨by simp, .inl ⟨_, _, rfl, run_takeDeferred hK, ?_⟩⟩
  have hc5 := cell_kept hcr (grownBy_putObj' _ D (.deferred none)) (fun r e => by cases e; exact ⟨_, hK, rfl⟩)
  refine ⟨.int .i64 (if l0[last.1]?.getD 0 < l1[last.1]?.getD 0 then -1 else 1), ?_, ?_, hB.trans (belowK_b (w := w) (Nat.le_refl _) W D _ _ (by simp at hD; omega) hK rfl rfl)⟩
  ·
   simp [results, Try.f66, go_sem, hc5]
  ·
   obtain ⟨k, hk, hkp⟩ := H1.out
   rw [H2.out] at hkp
   obtain ⟨k', rfl⟩ : ∃ k', k = k' + 1 := by
    cases k with
    | zero => simp [dn] at hkp
    | succ k' => exact ⟨k', rfl⟩
   rw [dn_succ, List.map_append] at hkp
   obtain ⟨f1, f2⟩ := List.append_inj' hkp rfl
   have f3 : last.1 = n - 1 - k' := by simpa using f2
   rw [ncmpAux_at H4.out last.2]
   intro j h1 h2
   have hm : j ∈ ini.map (·.1) := by rw [f1]; exact dn_mem h2 (by omega)
   obtain ⟨p, hp, rfl⟩ := List.mem_map.1 hm
   exact H3.out p hp
def impl_natCmp.f (l0 : List Int) (l1 : List Int) : Option (Int) := some (ncmp l0 l1)
set_option maxRecDepth 100000 in
set_option maxHeartbeats 1000000 in
theorem impl_natCmp.calls (A0 : Option Addr) (c0 : Nat) (l0 : List Int) (A1 : Option Addr) (c1 : Nat) (l1 : List Int) (r : Int) (w : World) (hr0 : Kd.C (Kd.int .i64) w A0 l0.length l0) (hc0 : l0.length ≤ c0) (hr1 : Kd.C (Kd.int .i64) w A1 l1.length l1) (hc1 : l1.length ≤ c1) (h : impl_natCmp.f l0 l1 = some r) :
  Calls Try.prog 66 #[.slice A0 l0.length c0, .slice A1 l1.length c1] w fun e w' => e = .returned (.int .i64 r) ∧ Below w.heap.size w w' := by
 obtain rfl := Option.some.inj h
 have hI0 := BwRow.of hr0
 have hI1 := BwRow.of hr1
 unfold ncmp
 by_cases hl : l0.length = l1.length
 ·
  rw [if_pos hl]
  rw [← hl] at hI1 ⊢
  exact (callsIn_wide (n := 3)).1 (natCmp_in Fence.wide 3 trivial trivial trivial rfl (by omega) A0 A1 l0.length c0 c1 l0 l1 w hI0 hI1)
 ·
  rw [if_neg hl]
  clear h hr0 hr1 hI0 hI1 hc0 hc1
  obtain ⟨n0, hn0⟩ : ∃ n, l0.length = n := ⟨_, rfl⟩
  obtain ⟨n1, hn1⟩ : ∃ n, l1.length = n := ⟨_, rfl⟩
  rw [hn0, hn1] at hl ⊢
  clear hn0 hn1
  have hne1 : ((n0 : Int) == (n1 : Int)) = false := by simp; omega
  have hne2 : ((n0 : Int) != (n1 : Int)) = true := by simp; omega
  have hne3 : (n0 == n1) = false := by simpa using hl
  by_cases hlt : n0 < n1
  ·
   rw [if_pos hlt]
   go_enter Try.func66, Try.ntmps66
   go_wp2
   exact bodyPost_ret (v := .int .i64 (-1)) (by simp [results, Try.results66, go_sem]) rfl ⟨rfl, ((Below.refl _ _).alloc (Nat.le_refl _) _).alloc (by simp) _⟩
  ·
   rw [if_neg hlt]
   go_enter Try.func66, Try.ntmps66
   go_wp2
   exact bodyPost_ret (v := .int .i64 1) (by simp [results, Try.results66, go_sem]) rfl ⟨rfl, ((Below.refl _ _).alloc (Nat.le_refl _) _).alloc (by simp) _⟩

end Go.Proofs.Ytegbmillbbcmfaa.Q
