-- written by a program of this claim's session (myprint.py) out of the translation; Lean checks it.
import Derived.Test.YtacdaijalkkogaaQx0
import Derived.Test.YtacdaijalkkogaaSq
import Derived.Test.YtacdaijalkkogaaQxcmp
import Derived.Test.YtacdaijalkkogaaQxmul
import Derived.Test.YtacdaijalkkogaaQxsub
import Derived.Test.YtacdaijalkkogaaQxrk
import Derived.Test.YtacdaijalkkogaaQxrmk
import Derived.Test.YtacdaijalkkogaaQxadd
import Derived.Test.YtacdaijalkkogaaQxrim
namespace Go.Proofs.Ytacdaijalkkogaa.Q
open Go.RowKit Go.Proofs.YtacdaijalkkogaaW.PrintWords Go.Proofs.YtacdaijalkkogaaW.PrintLast Go.Proofs.YtacdaijalkkogaaW.PrintMore
attribute [local go_sem] max2_int min2_int max_two min_two max_three min_three max_four min_four   -- for this text's walks alone
set_option linter.unusedVariables false
set_option linter.unusedSimpArgs false

def impl_Rat_plus.f (k : Nat) (a0_0 : Bool) (l0_1 : List Int) (l0_2 : List Int) (a1_0 : Bool) (l1_1 : List Int) (l1_2 : List Int) : Option (Bool × List Int × List Int) := (impl_natMul.f k l0_1 l1_2).bind fun t1450 => ((impl_natMul.f k l1_1 l0_2).bind fun t1453 => ((impl_natMul.f k l0_2 l1_2).bind fun t1456 => (if (a0_0 == a1_0) = true then ((impl_natAdd.f k t1450 t1453).bind fun t1459 => ((impl_lowest.f k a0_0 t1459 t1456).bind fun bt1462 => (some (bt1462.1, bt1462.2.1, bt1462.2.2)))) else ((impl_natCmp.f t1450 t1453).bind fun t1469 => (if t1469 ≥ 0 then ((impl_natSub.f k t1450 t1453).bind fun t1470 => ((impl_lowest.f k a0_0 t1470 t1456).bind fun bt1473 => (some (bt1473.1, bt1473.2.1, bt1473.2.2)))) else ((impl_natSub.f k t1453 t1450).bind fun t1480 => ((impl_lowest.f k a1_0 t1480 t1456).bind fun bt1483 => (some (bt1483.1, bt1483.2.1, bt1483.2.2)))))))))
theorem impl_Rat_plus.mono : ∀ a0 a1 a2 a3 a4 a5 k, LeO (impl_Rat_plus.f k a0 a1 a2 a3 a4 a5) (impl_Rat_plus.f (k + 1) a0 a1 a2 a3 a4 a5) := by
 intro a0 a1 a2 a3 a4 a5 k
 unfold impl_Rat_plus.f
 repeat' first
   | (with_reducible exact impl_lowest.mono _ _ _ _)
   | (with_reducible exact impl_natAdd.mono _ _ _)
   | (with_reducible exact impl_natMul.mono _ _ _)
   | (with_reducible exact impl_natSub.mono _ _ _)
   | (with_reducible exact LeO.refl _)
   | (with_reducible exact LeO.none _)
   | (with_reducible refine LeO.ite ?_ ?_)
   | (with_reducible refine LeO.bind ?_ (fun _ => ?_))
   | exact impl_lowest.mono _ _ _ _
   | exact impl_natAdd.mono _ _ _
   | exact impl_natMul.mono _ _ _
   | exact impl_natSub.mono _ _ _
   | exact LeO.none _
   | refine LeO.ite ?_ ?_
   | refine LeO.bind ?_ (fun _ => ?_)
def impl_Rat_plus.T1 : Bool × List (List Nat × List Nat) := (true, [([], []), ([0], [0]), ([], []), ([2], [2]), ([1, 3], [1, 3]), ([], []), ([5], [5]), ([], []), ([7], [7]), ([6, 8, 4], [6, 8]), ([4, 9, 0, 1, 2, 3, 4], [4]), ([9, 10, 0, 1, 2, 3, 4, 5, 6, 7, 8, 9, 10], [9])])
def impl_Rat_plus.B1 : List Nat := [0, 1, 0, 4, 15, 0, 32, 0, 128, 511, 1023, 2047]
theorem impl_Rat_plus.tab1 : rtab .any (opsOf Try.f85 1) = impl_Rat_plus.T1 := by kernel_rfl
theorem impl_Rat_plus.bits1 : waitsOk impl_Rat_plus.T1.2 impl_Rat_plus.B1 = true := by kernel_rfl
def impl_Rat_plus.T4 : Bool × List (List Nat × List Nat) := (true, [([], []), ([0], [0]), ([], []), ([], []), ([2, 3], [2, 3]), ([], []), ([1, 4, 5, 4], [1, 4, 5]), ([6, 6, 0, 1, 2, 3, 4, 5, 6], [6])])
def impl_Rat_plus.B4 : List Nat := [0, 1, 0, 0, 12, 0, 63, 127]
theorem impl_Rat_plus.tab4 : rtab .any (opsOf Try.f85 4) = impl_Rat_plus.T4 := by kernel_rfl
theorem impl_Rat_plus.bits4 : waitsOk impl_Rat_plus.T4.2 impl_Rat_plus.B4 = true := by kernel_rfl
def impl_Rat_plus.T6 : Bool × List (List Nat × List Nat) := (true, [([], []), ([0], [0]), ([], []), ([], []), ([2, 3], [2, 3]), ([], []), ([1, 4, 5, 4], [1, 4, 5]), ([6, 6, 0, 1, 2, 3, 4, 5, 6], [6])])
def impl_Rat_plus.B6 : List Nat := [0, 1, 0, 0, 12, 0, 63, 127]
theorem impl_Rat_plus.tab6 : rtab .any (opsOf Try.f85 6) = impl_Rat_plus.T6 := by kernel_rfl
theorem impl_Rat_plus.bits6 : waitsOk impl_Rat_plus.T6.2 impl_Rat_plus.B6 = true := by kernel_rfl
def impl_Rat_plus.T7 : Bool × List (List Nat × List Nat) := (true, [([], []), ([0], [0]), ([], []), ([], []), ([2, 3], [2, 3]), ([], []), ([1, 4, 5, 4], [1, 4, 5]), ([6, 6, 0, 1, 2, 3, 4, 5, 6], [6])])
def impl_Rat_plus.B7 : List Nat := [0, 1, 0, 0, 12, 0, 63, 127]
theorem impl_Rat_plus.tab7 : rtab .any (opsOf Try.f85 7) = impl_Rat_plus.T7 := by kernel_rfl
theorem impl_Rat_plus.bits7 : waitsOk impl_Rat_plus.T7.2 impl_Rat_plus.B7 = true := by kernel_rfl
set_option maxHeartbeats 8000000 in
set_option maxRecDepth 100000 in
theorem impl_Rat_plus.calls (k : Nat) (a0_0 : Bool) (A0_1 : Option Addr) (c0_1 : Nat) (l0_1 : List Int) (A0_2 : Option Addr) (c0_2 : Nat) (l0_2 : List Int) (a1_0 : Bool) (A1_1 : Option Addr) (c1_1 : Nat) (l1_1 : List Int) (A1_2 : Option Addr) (c1_2 : Nat) (l1_2 : List Int) (r1 : Bool) (r2 : List Int) (r3 : List Int) (w : World) (hr0_1 : Kd.C (Kd.int .i64) w A0_1 l0_1.length l0_1) (hc0_1 : l0_1.length ≤ c0_1) (hr0_2 : Kd.C (Kd.int .i64) w A0_2 l0_2.length l0_2) (hc0_2 : l0_2.length ≤ c0_2) (hr1_1 : Kd.C (Kd.int .i64) w A1_1 l1_1.length l1_1) (hc1_1 : l1_1.length ≤ c1_1) (hr1_2 : Kd.C (Kd.int .i64) w A1_2 l1_2.length l1_2) (hc1_2 : l1_2.length ≤ c1_2) (h : impl_Rat_plus.f k a0_0 l0_1 l0_2 a1_0 l1_1 l1_2 = some (r1, r2, r3)) :
  Calls Try.prog 85 #[.agg #[.bool a0_0, .slice A0_1 l0_1.length c0_1, .slice A0_2 l0_2.length c0_2], .agg #[.bool a1_0, .slice A1_1 l1_1.length c1_1, .slice A1_2 l1_2.length c1_2]] w fun e w' => ∃ v1_ v2_ : Value, e = .returned (.agg #[.bool r1, v1_, v2_]) ∧ Kd.R (Kd.int .i64) 3 w' w.heap.size (fun k_ => nO k_ v2_) v1_ r2 ∧ Kd.R (Kd.int .i64) 3 w' w.heap.size (fun k_ => nO k_ v1_) v2_ r3 ∧ Below w.heap.size w w' := by
 have hu24 := Try.underlying24
 have HR0_1 := Aside0.mk hr0_1
 have HC0_1 := Aside0.mk hc0_1
 clear hr0_1 hc0_1
 have HR0_2 := Aside0.mk hr0_2
 have HC0_2 := Aside0.mk hc0_2
 clear hr0_2 hc0_2
 have HR1_1 := Aside0.mk hr1_1
 have HC1_1 := Aside0.mk hc1_1
 clear hr1_1 hc1_1
 have HR1_2 := Aside0.mk hr1_2
 have HC1_2 := Aside0.mk hc1_2
 clear hr1_2 hc1_2
 have HB := Aside0.mk (Below.refl w.heap.size w)
 have H : ((impl_natMul.f k l0_1 l1_2).bind fun t1450 => ((impl_natMul.f k l1_1 l0_2).bind fun t1453 => ((impl_natMul.f k l0_2 l1_2).bind fun t1456 => (if (a0_0 == a1_0) = true then ((impl_natAdd.f k t1450 t1453).bind fun t1459 => ((impl_lowest.f k a0_0 t1459 t1456).bind fun bt1462 => (some (bt1462.1, bt1462.2.1, bt1462.2.2)))) else ((impl_natCmp.f t1450 t1453).bind fun t1469 => (if t1469 ≥ 0 then ((impl_natSub.f k t1450 t1453).bind fun t1470 => ((impl_lowest.f k a0_0 t1470 t1456).bind fun bt1473 => (some (bt1473.1, bt1473.2.1, bt1473.2.2)))) else ((impl_natSub.f k t1453 t1450).bind fun t1480 => ((impl_lowest.f k a1_0 t1480 t1456).bind fun bt1483 => (some (bt1483.1, bt1483.2.1, bt1483.2.2)))))))))) = some (r1, r2, r3) := h
 clear h
 replace H := Option.bind_eq_some_iff.mp H
 obtain ⟨t1450, A30, H⟩ := H
 replace H : ((impl_natMul.f k l1_1 l0_2).bind fun t1453 => ((impl_natMul.f k l0_2 l1_2).bind fun t1456 => (if (a0_0 == a1_0) = true then ((impl_natAdd.f k t1450 t1453).bind fun t1459 => ((impl_lowest.f k a0_0 t1459 t1456).bind fun bt1462 => (some (bt1462.1, bt1462.2.1, bt1462.2.2)))) else ((impl_natCmp.f t1450 t1453).bind fun t1469 => (if t1469 ≥ 0 then ((impl_natSub.f k t1450 t1453).bind fun t1470 => ((impl_lowest.f k a0_0 t1470 t1456).bind fun bt1473 => (some (bt1473.1, bt1473.2.1, bt1473.2.2)))) else ((impl_natSub.f k t1453 t1450).bind fun t1480 => ((impl_lowest.f k a1_0 t1480 t1456).bind fun bt1483 => (some (bt1483.1, bt1483.2.1, bt1483.2.2))))))))) = some (r1, r2, r3) := H
 have A3 := Aside0.mk A30
 clear A30
 replace H := Option.bind_eq_some_iff.mp H
 obtain ⟨t1453, A40, H⟩ := H
 replace H : ((impl_natMul.f k l0_2 l1_2).bind fun t1456 => (if (a0_0 == a1_0) = true then ((impl_natAdd.f k t1450 t1453).bind fun t1459 => ((impl_lowest.f k a0_0 t1459 t1456).bind fun bt1462 => (some (bt1462.1, bt1462.2.1, bt1462.2.2)))) else ((impl_natCmp.f t1450 t1453).bind fun t1469 => (if t1469 ≥ 0 then ((impl_natSub.f k t1450 t1453).bind fun t1470 => ((impl_lowest.f k a0_0 t1470 t1456).bind fun bt1473 => (some (bt1473.1, bt1473.2.1, bt1473.2.2)))) else ((impl_natSub.f k t1453 t1450).bind fun t1480 => ((impl_lowest.f k a1_0 t1480 t1456).bind fun bt1483 => (some (bt1483.1, bt1483.2.1, bt1483.2.2)))))))) = some (r1, r2, r3) := H
 have A4 := Aside0.mk A40
 clear A40
 replace H := Option.bind_eq_some_iff.mp H
 obtain ⟨t1456, A50, H⟩ := H
 replace H : (if (a0_0 == a1_0) = true then ((impl_natAdd.f k t1450 t1453).bind fun t1459 => ((impl_lowest.f k a0_0 t1459 t1456).bind fun bt1462 => (some (bt1462.1, bt1462.2.1, bt1462.2.2)))) else ((impl_natCmp.f t1450 t1453).bind fun t1469 => (if t1469 ≥ 0 then ((impl_natSub.f k t1450 t1453).bind fun t1470 => ((impl_lowest.f k a0_0 t1470 t1456).bind fun bt1473 => (some (bt1473.1, bt1473.2.1, bt1473.2.2)))) else ((impl_natSub.f k t1453 t1450).bind fun t1480 => ((impl_lowest.f k a1_0 t1480 t1456).bind fun bt1483 => (some (bt1483.1, bt1483.2.1, bt1483.2.2))))))) = some (r1, r2, r3) := H
 have A5 := Aside0.mk A50
 clear A50
 by_cases c6 : (a0_0 == a1_0) = true
 ·
  rw [if_pos c6] at H
  have c6b0 : (a0_0 == a1_0) = true := c6
  (try (have c6b1 : decide (a0_0 = a1_0) = true := by simpa using c6))
  (try (have c6b2 : (a0_0 == a1_0) = true := by simpa using c6))
  clear c6
  replace H := Option.bind_eq_some_iff.mp H
  obtain ⟨t1459, A70, H⟩ := H
  replace H : ((impl_lowest.f k a0_0 t1459 t1456).bind fun bt1462 => (some (bt1462.1, bt1462.2.1, bt1462.2.2))) = some (r1, r2, r3) := H
  have A7 := Aside0.mk A70
  clear A70
  replace H := Option.bind_eq_some_iff.mp H
  obtain ⟨⟨t1462, t1463, t1466⟩, A80, H⟩ := H
  replace H : (some (t1462, t1463, t1466)) = some (r1, r2, r3) := H
  have A8 := Aside0.mk A80
  clear A80
  simp only [Option.some.injEq, Prod.mk.injEq] at H
  obtain ⟨rfl, rfl, rfl⟩ := H
  go_enter Try.func85, Try.ntmps85
  try go_wp2_with (first | ((with_reducible refine gate_dst (N := 2) rfl ?_); refine bx_ (N := 2) (cs := #[.bool a0_0, .slice A0_1 l0_1.length c0_1, .slice A0_2 l0_2.length c0_2]) (t := 24) ?_; intro gb1447 hg w9 hbox hb; have BK1447 := Aside0.mk (hbox); have GW1447 := geh hg HB; have GE1447 := geh hg HB; replace HB := bst HB hb; clear hb hbox hg) | ((with_reducible refine gate_dst (N := 3) rfl ?_); refine bx_ (N := 3) (cs := #[.bool a1_0, .slice A1_1 l1_1.length c1_1, .slice A1_2 l1_2.length c1_2]) (t := 24) ?_; intro gb1448 hg w10 hbox hb; have BK1448 := Aside0.mk (hbox); have GW1448 := geh hg HB; have GE1448 := geh hg HB; replace HB := bst HB hb; have NB1447_1448 := nlt hg BK1447; have NB1448_1447 := ngt hg BK1447; replace BK1447 := bkb BK1447 hb; clear hb hbox hg) | ((with_reducible refine gate_dst (N := 4) rfl ?_); refine bx_ (N := 4) (cs := #[.bool false, .slice none 0 0, .slice none 0 0]) (t := 24) ?_; intro gb1449 hg w11 hbox hb; have BK1449 := Aside0.mk (hbox); have GW1449 := geh hg HB; have GE1449 := geh hg HB; replace HB := bst HB hb; have NB1447_1449 := nlt hg BK1447; have NB1449_1447 := ngt hg BK1447; replace BK1447 := bkb BK1447 hb; have NB1448_1449 := nlt hg BK1448; have NB1449_1448 := ngt hg BK1448; replace BK1448 := bkb BK1448 hb; clear hb hbox hg))
  replace BK1447 := Aside0.mk (blk_drew BK1447.out)
  replace BK1448 := Aside0.mk (blk_drew BK1448.out)
  replace BK1449 := Aside0.mk (blk_drew BK1449.out)
  replace HB := Aside0.mk (below_drew1 HB.out)
  refine start_ (n := 12) (S := fun w' => w'.cell? ⟨gb1447, 0, none⟩ = some (.bool a0_0) ∧ w'.cell? ⟨gb1447, 1, none⟩ = some (.slice A0_1 l0_1.length c0_1) ∧ w'.cell? ⟨gb1447, 2, none⟩ = some (.slice A0_2 l0_2.length c0_2) ∧ w'.cell? ⟨gb1448, 0, none⟩ = some (.bool a1_0) ∧ w'.cell? ⟨gb1448, 1, none⟩ = some (.slice A1_1 l1_1.length c1_1) ∧ w'.cell? ⟨gb1448, 2, none⟩ = some (.slice A1_2 l1_2.length c1_2)) (ds := []) (bm 12 0) (by kernel_rfl) rfl rfl ⟨bce BK1447 0 _, bce BK1447 1 _, bce BK1447 2 _, bce BK1448 0 _, bce BK1448 1 _, bce BK1448 2 _⟩ (fun hHeld => ?_); refine with_tabW impl_Rat_plus.tab1 impl_Rat_plus.bits1 (fun HT_ HW_ => ?_)
  generalize w11.drew = w12 at BK1447 BK1448 BK1449 HB hHeld ⊢
  refine pu_ 0 (some 8) (bm 12 1) HT_.out ?_
  refine pu_ 2 (some 10) (bm 12 5) HT_.out ?_
  refine pu_ 5 (some 13) (bm 12 37) HT_.out ?_
  refine pu_ 7 (some 15) (bm 12 165) HT_.out ?_
  refine tk_ 1 (some 9) (bm 12 167) HT_.out HW_.out hHeld ?_
  refine tk_ 3 (some 11) (bm 12 175) HT_.out HW_.out hHeld ?_
  refine tk_ 6 (some 14) (bm 12 239) HT_.out HW_.out hHeld ?_
  refine tk_ 8 (some 16) (bm 12 495) HT_.out HW_.out hHeld ?_
  refine one_ (i := 4) (N := some 12) (bm 12 511) rfl rfl (one_of HT_.out (by kernel_rfl)) (by decide) (fun K hK => ?_)
  refine g_ Try.func95 #[.slice A0_1 l0_1.length c0_1, .slice A1_2 l1_2.length c1_2] ?_
  with_reducible refine (impl_natMul.calls k _ _ l0_1 _ _ l1_2 t1450 _ ?side1 ?side2 ?side3 ?side4 A3.out).mono ?_
  (case side1 => exact crC (Kd.C_below HR0_1.out HB.out))
  (case side2 => exact HC0_1.out)
  (case side3 => exact crC (Kd.C_below HR1_2.out HB.out))
  (case side4 => exact HC1_2.out)
  rintro e w13 ⟨v1451, rfl, ho0, hb⟩
  refine ⟨_, rfl, ?_⟩
  have HO1452 := lwR ho0 HB
  replace BK1447 := bkb BK1447 hb
  replace BK1448 := bkb BK1448 hb
  replace BK1449 := bkb BK1449 hb
  replace HB := bst HB hb
  (try clear hb)
  (try clear hb2)
  (try clear hk)
  (try clear hi)
  (try clear ho0)
  refine hK.out _ _ ⟨bce BK1447 0 _, bce BK1447 1 _, bce BK1447 2 _, bce BK1448 0 _, bce BK1448 1 _, bce BK1448 2 _⟩ (fun hHeld => ?_)
  clear hK K
  refine nm_ 12 ?_
  refine one_ (i := 9) (N := some 17) (bm 12 1023) rfl rfl (one_of HT_.out (by kernel_rfl)) (by decide) (fun K hK => ?_)
  refine g_ Try.func95 #[.slice A1_1 l1_1.length c1_1, .slice A0_2 l0_2.length c0_2] ?_
  with_reducible refine (impl_natMul.calls k _ _ l1_1 _ _ l0_2 t1453 _ ?side1 ?side2 ?side3 ?side4 A4.out).mono ?_
  (case side1 => exact crC (Kd.C_below HR1_1.out HB.out))
  (case side2 => exact HC1_1.out)
  (case side3 => exact crC (Kd.C_below HR0_2.out HB.out))
  (case side4 => exact HC0_2.out)
  rintro e w14 ⟨v1454, rfl, ho0, hb⟩
  refine ⟨_, rfl, ?_⟩
  have HO1455 := lwR (nwR ho0 HO1452) HB
  replace HO1452 := eldR HO1452 (Kd.R_base ho0) hb
  replace BK1447 := bkb BK1447 hb
  replace BK1448 := bkb BK1448 hb
  replace BK1449 := bkb BK1449 hb
  replace HB := bst HB hb
  (try clear hb)
  (try clear hb2)
  (try clear hk)
  (try clear hi)
  (try clear ho0)
  refine hK.out _ _ ⟨bce BK1447 0 _, bce BK1447 1 _, bce BK1447 2 _, bce BK1448 0 _, bce BK1448 1 _, bce BK1448 2 _⟩ (fun hHeld => ?_)
  clear hK K
  refine nm_ 17 ?_
  refine pu_ 10 (some 5) (bm 12 2047) HT_.out ?_
  refine pu_ 11 (some 6) (bm 12 4095) HT_.out ?_
  refine done_ (done_of HT_.out (by kernel_rfl)) ?_
  have hnb15 := NB1447_1448.out
  have hnc15 := NB1448_1447.out
  have hnb16 := NB1447_1449.out
  have hnc16 := NB1449_1447.out
  obtain ⟨hcz17_0, hcz17_1, hcz17_2, hfz17_0, hfz17_1, hfz17_2⟩ := bc3 BK1447
  have hnb18 := NB1448_1449.out
  have hnc18 := NB1449_1448.out
  obtain ⟨hcz19_0, hcz19_1, hcz19_2, hfz19_0, hfz19_1, hfz19_2⟩ := bc3 BK1448
  try go_wp2_with (first | ((with_reducible refine gate_callee (f := 95) rfl ?_); refine gL_ (some 22) Try.func95 #[.slice A0_2 l0_2.length c0_2, .slice A1_2 l1_2.length c1_2] ?_; (with_reducible refine (impl_natMul.calls k _ _ l0_2 _ _ l1_2 t1456 _ ?side1 ?side2 ?side3 ?side4 A5.out).mono ?_); (case side1 => exact crC (Kd.C_below HR0_2.out HB.out)); (case side2 => exact HC0_2.out); (case side3 => exact crC (Kd.C_below HR1_2.out HB.out)); (case side4 => exact HC1_2.out); rintro e w20 ⟨v1457, rfl, ho0, hb⟩; refine ⟨_, rfl, ?_⟩; have HO1458 := lwR (nwR (nwR ho0 HO1452) HO1455) HB; replace HO1452 := eldR HO1452 (Kd.R_base ho0) hb; replace HO1455 := eldR HO1455 (Kd.R_base ho0) hb; replace BK1447 := bkb BK1447 hb; replace BK1448 := bkb BK1448 hb; replace BK1449 := bkb BK1449 hb; replace HB := bst HB hb; (try clear hb); (try clear hb2); (try clear hk); (try clear hi); (try clear ho0); obtain ⟨hcz21_0, hcz21_1, hcz21_2, hfz21_0, hfz21_1, hfz21_2⟩ := bc3 BK1447; obtain ⟨hcz22_0, hcz22_1, hcz22_2, hfz22_0, hfz22_1, hfz22_2⟩ := bc3 BK1448))
  replace HO1452 := Aside0.mk (Kd.R_drew HO1452.out)
  replace HO1455 := Aside0.mk (Kd.R_drew HO1455.out)
  replace HO1458 := Aside0.mk (Kd.R_drew HO1458.out)
  replace BK1447 := Aside0.mk (blk_drew BK1447.out)
  replace BK1448 := Aside0.mk (blk_drew BK1448.out)
  replace BK1449 := Aside0.mk (blk_drew BK1449.out)
  replace HB := Aside0.mk (below_drew1 HB.out)
  obtain ⟨Ao24, co24, eo24⟩ := Kd.R_slice HO1452.out
  (first | subst eo24 | (injection eo24 with f1_ f2_ f3_; have f4_ := f1_.symm; have f5_ := f3_.symm; clear f1_ f2_ f3_; subst f4_; subst f5_))
  obtain ⟨Ao25, co25, eo25⟩ := Kd.R_slice HO1455.out
  (first | subst eo25 | (injection eo25 with f1_ f2_ f3_; have f4_ := f1_.symm; have f5_ := f3_.symm; clear f1_ f2_ f3_; subst f4_; subst f5_))
  refine start_ (n := 8) (S := fun w' => w'.cell? ⟨gb1447, 0, none⟩ = some (.bool a0_0) ∧ w'.cell? ⟨gb1447, 1, none⟩ = some (.slice A0_1 l0_1.length c0_1) ∧ w'.cell? ⟨gb1447, 2, none⟩ = some (.slice A0_2 l0_2.length c0_2)) (ds := []) (bm 8 0) (by kernel_rfl) rfl rfl ⟨bce BK1447 0 _, bce BK1447 1 _, bce BK1447 2 _⟩ (fun hHeld => ?_); refine with_tabW impl_Rat_plus.tab4 impl_Rat_plus.bits4 (fun HT_ HW_ => ?_)
  generalize w20.drew = w23 at HO1452 HO1455 HO1458 BK1447 BK1448 BK1449 HB hHeld ⊢
  refine pu_ 0 (some 29) (bm 8 1) HT_.out ?_
  refine pu_ 2 (some 31) (bm 8 5) HT_.out ?_
  refine pu_ 3 (some 32) (bm 8 13) HT_.out ?_
  refine pu_ 5 (some 34) (bm 8 45) HT_.out ?_
  refine tk_ 1 (some 30) (bm 8 47) HT_.out HW_.out hHeld ?_
  refine one_ (i := 4) (N := some 33) (bm 8 63) rfl rfl (one_of HT_.out (by kernel_rfl)) (by decide) (fun K hK => ?_)
  refine g_ Try.func76 #[.slice Ao24 t1450.length co24, .slice Ao25 t1453.length co25] ?_
  with_reducible refine (impl_natAdd.calls k _ _ t1450 _ _ t1453 t1459 _ ?side1 ?side2 ?side3 ?side4 A7.out).mono ?_
  (case side1 => exact crC (Kd.R_reads' HO1452.out).2.2)
  (case side2 => exact (Kd.R_reads' HO1452.out).2.1)
  (case side3 => exact crC (Kd.R_reads' HO1455.out).2.2)
  (case side4 => exact (Kd.R_reads' HO1455.out).2.1)
  rintro e w26 ⟨v1460, rfl, ho0, hb⟩
  refine ⟨_, rfl, ?_⟩
  have HO1461 := lwR (nwR (nwR (nwR ho0 HO1452) HO1455) HO1458) HB
  replace HO1452 := eldR HO1452 (Kd.R_base ho0) hb
  replace HO1455 := eldR HO1455 (Kd.R_base ho0) hb
  replace HO1458 := eldR HO1458 (Kd.R_base ho0) hb
  replace BK1447 := bkb BK1447 hb
  replace BK1448 := bkb BK1448 hb
  replace BK1449 := bkb BK1449 hb
  replace HB := bst HB hb
  (try clear hb)
  (try clear hb2)
  (try clear hk)
  (try clear hi)
  (try clear ho0)
  obtain ⟨Ao27, co27, eo27⟩ := Kd.R_slice HO1461.out
  (first | subst eo27 | (injection eo27 with f1_ f2_ f3_; have f4_ := f1_.symm; have f5_ := f3_.symm; clear f1_ f2_ f3_; subst f4_; subst f5_))
  obtain ⟨Ao28, co28, eo28⟩ := Kd.R_slice HO1458.out
  (first | subst eo28 | (injection eo28 with f1_ f2_ f3_; have f4_ := f1_.symm; have f5_ := f3_.symm; clear f1_ f2_ f3_; subst f4_; subst f5_))
  refine hK.out _ _ ⟨bce BK1447 0 _, bce BK1447 1 _, bce BK1447 2 _⟩ (fun hHeld => ?_)
  clear hK K
  refine nm_ 33 ?_
  refine one_ (i := 6) (N := some 35) (bm 8 127) rfl rfl (one_of HT_.out (by kernel_rfl)) (by decide) (fun K hK => ?_)
  refine g_ Try.func94 #[.bool a0_0, .slice Ao27 t1459.length co27, .slice Ao28 t1456.length co28] ?_
  with_reducible refine (impl_lowest.calls k a0_0 _ _ t1459 _ _ t1456 t1462 t1463 t1466 _ ?side1 ?side2 ?side3 ?side4 A8.out).mono ?_
  (case side1 => exact crC (Kd.R_reads' HO1461.out).2.2)
  (case side2 => exact (Kd.R_reads' HO1461.out).2.1)
  (case side3 => exact crC (Kd.R_reads' HO1458.out).2.2)
  (case side4 => exact (Kd.R_reads' HO1458.out).2.1)
  rintro e w29 ⟨v1464, v1467, rfl, ho0, ho1, hb⟩
  refine ⟨_, rfl, ?_⟩
  have HO1465 := lwR (nwR (nwR (nwR (nwR ho0 HO1452) HO1455) HO1458) HO1461) HB
  have HO1468 := lwR (nwR (nwR (nwR (nwR ho1 HO1452) HO1455) HO1458) HO1461) HB
  replace HO1452 := tldR HO1452 hb (Kd.R_base ho0) (Kd.R_base ho1)
  replace HO1455 := tldR HO1455 hb (Kd.R_base ho0) (Kd.R_base ho1)
  replace HO1458 := tldR HO1458 hb (Kd.R_base ho0) (Kd.R_base ho1)
  replace HO1461 := tldR HO1461 hb (Kd.R_base ho0) (Kd.R_base ho1)
  replace BK1447 := bkb BK1447 hb
  replace BK1448 := bkb BK1448 hb
  replace BK1449 := bkb BK1449 hb
  replace HB := bst HB hb
  (try clear hb)
  (try clear hb2)
  (try clear hk)
  (try clear hi)
  (try clear ho0)
  (try clear ho1)
  obtain ⟨Ao31, co31, eo31⟩ := Kd.R_slice HO1465.out
  (first | subst eo31 | (injection eo31 with f1_ f2_ f3_; have f4_ := f1_.symm; have f5_ := f3_.symm; clear f1_ f2_ f3_; subst f4_; subst f5_))
  obtain ⟨Ao33, co33, eo33⟩ := Kd.R_slice HO1468.out
  (first | subst eo33 | (injection eo33 with f1_ f2_ f3_; have f4_ := f1_.symm; have f5_ := f3_.symm; clear f1_ f2_ f3_; subst f4_; subst f5_))
  refine hK.out _ _ ⟨bce BK1447 0 _, bce BK1447 1 _, bce BK1447 2 _⟩ (fun hHeld => ?_)
  clear hK K
  refine nm_ 35 ?_
  refine one_ (i := 7) (N := none) (bm 8 255) rfl rfl (one_of HT_.out (by kernel_rfl)) (by decide) (fun K hK => ?_)
  have hs30 : w29.cell? ⟨gb1449, 0, none⟩ = some (.bool false) := bce BK1449 0 _
  have hfs30 := blk_frozen BK1449.out 0
  have hns30_0 := NB1447_1449.out
  have hns30_1 := NB1448_1449.out
  have hms30_0 := NB1449_1447.out
  have hms30_1 := NB1449_1448.out
  have hs32 : w29.cell? ⟨gb1449, 1, none⟩ = some (.slice none 0 0) := bce BK1449 1 _
  have hfs32 := blk_frozen BK1449.out 1
  have hns32_0 := NB1447_1449.out
  have hns32_1 := NB1448_1449.out
  have hms32_0 := NB1449_1447.out
  have hms32_1 := NB1449_1448.out
  have hs34 : w29.cell? ⟨gb1449, 2, none⟩ = some (.slice none 0 0) := bce BK1449 2 _
  have hfs34 := blk_frozen BK1449.out 2
  have hns34_0 := NB1447_1449.out
  have hns34_1 := NB1448_1449.out
  have hms34_0 := NB1449_1447.out
  have hms34_1 := NB1449_1448.out
  refine skip_ (w1 := ?_) (by rfl) rfl ?_ ?_
  rotate_left
  ·
   go_simp
   rfl
  refine hK.out _ _ ⟨((cell_far (p := ⟨gb1449, _, none⟩) NB1447_1449.out _).trans (((cell_far (p := ⟨gb1449, _, none⟩) NB1447_1449.out _).trans (((cell_far (p := ⟨gb1449, _, none⟩) NB1447_1449.out _).trans (hHeld.1)))))), ((cell_far (p := ⟨gb1449, _, none⟩) NB1447_1449.out _).trans (((cell_far (p := ⟨gb1449, _, none⟩) NB1447_1449.out _).trans (((cell_far (p := ⟨gb1449, _, none⟩) NB1447_1449.out _).trans (hHeld.2.1)))))), ((cell_far (p := ⟨gb1449, _, none⟩) NB1447_1449.out _).trans (((cell_far (p := ⟨gb1449, _, none⟩) NB1447_1449.out _).trans (((cell_far (p := ⟨gb1449, _, none⟩) NB1447_1449.out _).trans (hHeld.2.2))))))⟩ (fun hHeld => ?_)
  clear hK K
  refine done_ (done_of HT_.out (by kernel_rfl)) ?_
  try go_wp2
  refine bodyPost_ret (results_cell_row rfl _ _ gb1449 24 #[.bool t1462, .slice Ao31 t1463.length co31, .slice Ao33 t1466.length co33] (0, 0) _ rfl (bp3 BK1449 _ _ _) Try.underlying24 rfl (by kernel_rfl)) rfl ?_
  exact ⟨_, _, er_, (crN HO1465 BK1449 fun _ hk => hk.1.1.1.1.1), (crN HO1468 BK1449 fun _ hk => hk.1.1.1.1.1), blw HB⟩
 ·
  rw [if_neg c6] at H
  have c6b0 : (a0_0 == a1_0) = false := by simpa using c6
  (try (have c6b1 : decide (a0_0 = a1_0) = false := by simpa using c6))
  (try (have c6b2 : (a0_0 == a1_0) = false := by simpa using c6))
  (try (have c6b3 : ¬ (a0_0 = a1_0) := by simpa using c6))
  clear c6
  replace H := Option.bind_eq_some_iff.mp H
  obtain ⟨t1469, A350, H⟩ := H
  replace H : (if t1469 ≥ 0 then ((impl_natSub.f k t1450 t1453).bind fun t1470 => ((impl_lowest.f k a0_0 t1470 t1456).bind fun bt1473 => (some (bt1473.1, bt1473.2.1, bt1473.2.2)))) else ((impl_natSub.f k t1453 t1450).bind fun t1480 => ((impl_lowest.f k a1_0 t1480 t1456).bind fun bt1483 => (some (bt1483.1, bt1483.2.1, bt1483.2.2))))) = some (r1, r2, r3) := H
  have A35 := Aside0.mk A350
  clear A350
  by_cases c36 : t1469 ≥ 0
  ·
   rw [if_pos c36] at H
   have c36b0 : decide (0 ≤ t1469) = true := decide_eq_true c36
   clear c36
   replace H := Option.bind_eq_some_iff.mp H
   obtain ⟨t1470, A370, H⟩ := H
   replace H : ((impl_lowest.f k a0_0 t1470 t1456).bind fun bt1473 => (some (bt1473.1, bt1473.2.1, bt1473.2.2))) = some (r1, r2, r3) := H
   have A37 := Aside0.mk A370
   clear A370
   replace H := Option.bind_eq_some_iff.mp H
   obtain ⟨⟨t1473, t1474, t1477⟩, A380, H⟩ := H
   replace H : (some (t1473, t1474, t1477)) = some (r1, r2, r3) := H
   have A38 := Aside0.mk A380
   clear A380
   simp only [Option.some.injEq, Prod.mk.injEq] at H
   obtain ⟨rfl, rfl, rfl⟩ := H
   go_enter Try.func85, Try.ntmps85
   try go_wp2_with (first | ((with_reducible refine gate_dst (N := 2) rfl ?_); refine bx_ (N := 2) (cs := #[.bool a0_0, .slice A0_1 l0_1.length c0_1, .slice A0_2 l0_2.length c0_2]) (t := 24) ?_; intro gb1447 hg w39 hbox hb; have BK1447 := Aside0.mk (hbox); have GW1447 := geh hg HB; have GE1447 := geh hg HB; replace HB := bst HB hb; clear hb hbox hg) | ((with_reducible refine gate_dst (N := 3) rfl ?_); refine bx_ (N := 3) (cs := #[.bool a1_0, .slice A1_1 l1_1.length c1_1, .slice A1_2 l1_2.length c1_2]) (t := 24) ?_; intro gb1448 hg w40 hbox hb; have BK1448 := Aside0.mk (hbox); have GW1448 := geh hg HB; have GE1448 := geh hg HB; replace HB := bst HB hb; have NB1447_1448 := nlt hg BK1447; have NB1448_1447 := ngt hg BK1447; replace BK1447 := bkb BK1447 hb; clear hb hbox hg) | ((with_reducible refine gate_dst (N := 4) rfl ?_); refine bx_ (N := 4) (cs := #[.bool false, .slice none 0 0, .slice none 0 0]) (t := 24) ?_; intro gb1449 hg w41 hbox hb; have BK1449 := Aside0.mk (hbox); have GW1449 := geh hg HB; have GE1449 := geh hg HB; replace HB := bst HB hb; have NB1447_1449 := nlt hg BK1447; have NB1449_1447 := ngt hg BK1447; replace BK1447 := bkb BK1447 hb; have NB1448_1449 := nlt hg BK1448; have NB1449_1448 := ngt hg BK1448; replace BK1448 := bkb BK1448 hb; clear hb hbox hg))
   replace BK1447 := Aside0.mk (blk_drew BK1447.out)
   replace BK1448 := Aside0.mk (blk_drew BK1448.out)
   replace BK1449 := Aside0.mk (blk_drew BK1449.out)
   replace HB := Aside0.mk (below_drew1 HB.out)
   refine start_ (n := 12) (S := fun w' => w'.cell? ⟨gb1447, 0, none⟩ = some (.bool a0_0) ∧ w'.cell? ⟨gb1447, 1, none⟩ = some (.slice A0_1 l0_1.length c0_1) ∧ w'.cell? ⟨gb1447, 2, none⟩ = some (.slice A0_2 l0_2.length c0_2) ∧ w'.cell? ⟨gb1448, 0, none⟩ = some (.bool a1_0) ∧ w'.cell? ⟨gb1448, 1, none⟩ = some (.slice A1_1 l1_1.length c1_1) ∧ w'.cell? ⟨gb1448, 2, none⟩ = some (.slice A1_2 l1_2.length c1_2)) (ds := []) (bm 12 0) (by kernel_rfl) rfl rfl ⟨bce BK1447 0 _, bce BK1447 1 _, bce BK1447 2 _, bce BK1448 0 _, bce BK1448 1 _, bce BK1448 2 _⟩ (fun hHeld => ?_); refine with_tabW impl_Rat_plus.tab1 impl_Rat_plus.bits1 (fun HT_ HW_ => ?_)
   generalize w41.drew = w42 at BK1447 BK1448 BK1449 HB hHeld ⊢
   refine pu_ 0 (some 8) (bm 12 1) HT_.out ?_
   refine pu_ 2 (some 10) (bm 12 5) HT_.out ?_
   refine pu_ 5 (some 13) (bm 12 37) HT_.out ?_
   refine pu_ 7 (some 15) (bm 12 165) HT_.out ?_
   refine tk_ 1 (some 9) (bm 12 167) HT_.out HW_.out hHeld ?_
   refine tk_ 3 (some 11) (bm 12 175) HT_.out HW_.out hHeld ?_
   refine tk_ 6 (some 14) (bm 12 239) HT_.out HW_.out hHeld ?_
   refine tk_ 8 (some 16) (bm 12 495) HT_.out HW_.out hHeld ?_
   refine one_ (i := 4) (N := some 12) (bm 12 511) rfl rfl (one_of HT_.out (by kernel_rfl)) (by decide) (fun K hK => ?_)
   refine g_ Try.func95 #[.slice A0_1 l0_1.length c0_1, .slice A1_2 l1_2.length c1_2] ?_
   with_reducible refine (impl_natMul.calls k _ _ l0_1 _ _ l1_2 t1450 _ ?side1 ?side2 ?side3 ?side4 A3.out).mono ?_
   (case side1 => exact crC (Kd.C_below HR0_1.out HB.out))
   (case side2 => exact HC0_1.out)
   (case side3 => exact crC (Kd.C_below HR1_2.out HB.out))
   (case side4 => exact HC1_2.out)
   rintro e w43 ⟨v1451, rfl, ho0, hb⟩
   refine ⟨_, rfl, ?_⟩
   have HO1452 := lwR ho0 HB
   replace BK1447 := bkb BK1447 hb
   replace BK1448 := bkb BK1448 hb
   replace BK1449 := bkb BK1449 hb
   replace HB := bst HB hb
   (try clear hb)
   (try clear hb2)
   (try clear hk)
   (try clear hi)
   (try clear ho0)
   refine hK.out _ _ ⟨bce BK1447 0 _, bce BK1447 1 _, bce BK1447 2 _, bce BK1448 0 _, bce BK1448 1 _, bce BK1448 2 _⟩ (fun hHeld => ?_)
   clear hK K
   refine nm_ 12 ?_
   refine one_ (i := 9) (N := some 17) (bm 12 1023) rfl rfl (one_of HT_.out (by kernel_rfl)) (by decide) (fun K hK => ?_)
   refine g_ Try.func95 #[.slice A1_1 l1_1.length c1_1, .slice A0_2 l0_2.length c0_2] ?_
   with_reducible refine (impl_natMul.calls k _ _ l1_1 _ _ l0_2 t1453 _ ?side1 ?side2 ?side3 ?side4 A4.out).mono ?_
   (case side1 => exact crC (Kd.C_below HR1_1.out HB.out))
   (case side2 => exact HC1_1.out)
   (case side3 => exact crC (Kd.C_below HR0_2.out HB.out))
   (case side4 => exact HC0_2.out)
   rintro e w44 ⟨v1454, rfl, ho0, hb⟩
   refine ⟨_, rfl, ?_⟩
   have HO1455 := lwR (nwR ho0 HO1452) HB
   replace HO1452 := eldR HO1452 (Kd.R_base ho0) hb
   replace BK1447 := bkb BK1447 hb
   replace BK1448 := bkb BK1448 hb
   replace BK1449 := bkb BK1449 hb
   replace HB := bst HB hb
   (try clear hb)
   (try clear hb2)
   (try clear hk)
   (try clear hi)
   (try clear ho0)
   refine hK.out _ _ ⟨bce BK1447 0 _, bce BK1447 1 _, bce BK1447 2 _, bce BK1448 0 _, bce BK1448 1 _, bce BK1448 2 _⟩ (fun hHeld => ?_)
   clear hK K
   refine nm_ 17 ?_
   refine pu_ 10 (some 5) (bm 12 2047) HT_.out ?_
   refine pu_ 11 (some 6) (bm 12 4095) HT_.out ?_
   refine done_ (done_of HT_.out (by kernel_rfl)) ?_
   have hnb45 := NB1447_1448.out
   have hnc45 := NB1448_1447.out
   have hnb46 := NB1447_1449.out
   have hnc46 := NB1449_1447.out
   obtain ⟨hcz47_0, hcz47_1, hcz47_2, hfz47_0, hfz47_1, hfz47_2⟩ := bc3 BK1447
   have hnb48 := NB1448_1449.out
   have hnc48 := NB1449_1448.out
   obtain ⟨hcz49_0, hcz49_1, hcz49_2, hfz49_0, hfz49_1, hfz49_2⟩ := bc3 BK1448
   try go_wp2_with (first | ((with_reducible refine gate_callee (f := 95) rfl ?_); refine gL_ (some 22) Try.func95 #[.slice A0_2 l0_2.length c0_2, .slice A1_2 l1_2.length c1_2] ?_; (with_reducible refine (impl_natMul.calls k _ _ l0_2 _ _ l1_2 t1456 _ ?side1 ?side2 ?side3 ?side4 A5.out).mono ?_); (case side1 => exact crC (Kd.C_below HR0_2.out HB.out)); (case side2 => exact HC0_2.out); (case side3 => exact crC (Kd.C_below HR1_2.out HB.out)); (case side4 => exact HC1_2.out); rintro e w50 ⟨v1457, rfl, ho0, hb⟩; refine ⟨_, rfl, ?_⟩; have HO1458 := lwR (nwR (nwR ho0 HO1452) HO1455) HB; replace HO1452 := eldR HO1452 (Kd.R_base ho0) hb; replace HO1455 := eldR HO1455 (Kd.R_base ho0) hb; replace BK1447 := bkb BK1447 hb; replace BK1448 := bkb BK1448 hb; replace BK1449 := bkb BK1449 hb; replace HB := bst HB hb; (try clear hb); (try clear hb2); (try clear hk); (try clear hi); (try clear ho0); obtain ⟨hcz51_0, hcz51_1, hcz51_2, hfz51_0, hfz51_1, hfz51_2⟩ := bc3 BK1447; obtain ⟨hcz52_0, hcz52_1, hcz52_2, hfz52_0, hfz52_1, hfz52_2⟩ := bc3 BK1448; obtain ⟨Ao53, co53, eo53⟩ := Kd.R_slice HO1452.out; subst eo53; obtain ⟨Ao54, co54, eo54⟩ := Kd.R_slice HO1455.out; subst eo54) | ((with_reducible refine gate_callee (f := 60) rfl ?_); refine gL_ (some 39) Try.func60 #[.slice Ao53 t1450.length co53, .slice Ao54 t1453.length co54] ?_; (with_reducible refine (impl_natCmp.calls _ _ t1450 _ _ t1453 t1469 _ ?side1 ?side2 ?side3 ?side4 A35.out).mono ?_); (case side1 => exact crC (Kd.R_reads' HO1452.out).2.2); (case side2 => exact (Kd.R_reads' HO1452.out).2.1); (case side3 => exact crC (Kd.R_reads' HO1455.out).2.2); (case side4 => exact (Kd.R_reads' HO1455.out).2.1); rintro e w55 ⟨rfl, hb⟩; refine ⟨_, rfl, ?_⟩; replace HO1452 := rblR HO1452 hb; replace HO1455 := rblR HO1455 hb; replace HO1458 := rblR HO1458 hb; replace BK1447 := bkb BK1447 hb; replace BK1448 := bkb BK1448 hb; replace BK1449 := bkb BK1449 hb; replace HB := bst HB hb; (try clear hb); (try clear hb2); (try clear hk); (try clear hi)))
   replace HO1452 := Aside0.mk (Kd.R_drew HO1452.out)
   replace HO1455 := Aside0.mk (Kd.R_drew HO1455.out)
   replace HO1458 := Aside0.mk (Kd.R_drew HO1458.out)
   replace BK1447 := Aside0.mk (blk_drew BK1447.out)
   replace BK1448 := Aside0.mk (blk_drew BK1448.out)
   replace BK1449 := Aside0.mk (blk_drew BK1449.out)
   replace HB := Aside0.mk (below_drew1 HB.out)
   refine start_ (n := 8) (S := fun w' => w'.cell? ⟨gb1447, 0, none⟩ = some (.bool a0_0) ∧ w'.cell? ⟨gb1447, 1, none⟩ = some (.slice A0_1 l0_1.length c0_1) ∧ w'.cell? ⟨gb1447, 2, none⟩ = some (.slice A0_2 l0_2.length c0_2)) (ds := []) (bm 8 0) (by kernel_rfl) rfl rfl ⟨bce BK1447 0 _, bce BK1447 1 _, bce BK1447 2 _⟩ (fun hHeld => ?_); refine with_tabW impl_Rat_plus.tab6 impl_Rat_plus.bits6 (fun HT_ HW_ => ?_)
   generalize w55.drew = w56 at HO1452 HO1455 HO1458 BK1447 BK1448 BK1449 HB hHeld ⊢
   refine pu_ 0 (some 41) (bm 8 1) HT_.out ?_
   refine pu_ 2 (some 43) (bm 8 5) HT_.out ?_
   refine pu_ 3 (some 44) (bm 8 13) HT_.out ?_
   refine pu_ 5 (some 46) (bm 8 45) HT_.out ?_
   refine tk_ 1 (some 42) (bm 8 47) HT_.out HW_.out hHeld ?_
   refine one_ (i := 4) (N := some 45) (bm 8 63) rfl rfl (one_of HT_.out (by kernel_rfl)) (by decide) (fun K hK => ?_)
   refine g_ Try.func112 #[.slice Ao53 t1450.length co53, .slice Ao54 t1453.length co54] ?_
   with_reducible refine (impl_natSub.calls k _ _ t1450 _ _ t1453 t1470 _ ?side1 ?side2 ?side3 ?side4 A37.out).mono ?_
   (case side1 => exact crC (Kd.R_reads' HO1452.out).2.2)
   (case side2 => exact (Kd.R_reads' HO1452.out).2.1)
   (case side3 => exact crC (Kd.R_reads' HO1455.out).2.2)
   (case side4 => exact (Kd.R_reads' HO1455.out).2.1)
   rintro e w57 ⟨v1471, rfl, ho0, hb⟩
   refine ⟨_, rfl, ?_⟩
   have HO1472 := lwR (nwR (nwR (nwR ho0 HO1452) HO1455) HO1458) HB
   replace HO1452 := eldR HO1452 (Kd.R_base ho0) hb
   replace HO1455 := eldR HO1455 (Kd.R_base ho0) hb
   replace HO1458 := eldR HO1458 (Kd.R_base ho0) hb
   replace BK1447 := bkb BK1447 hb
   replace BK1448 := bkb BK1448 hb
   replace BK1449 := bkb BK1449 hb
   replace HB := bst HB hb
   (try clear hb)
   (try clear hb2)
   (try clear hk)
   (try clear hi)
   (try clear ho0)
   obtain ⟨Ao58, co58, eo58⟩ := Kd.R_slice HO1472.out
   (first | subst eo58 | (injection eo58 with f1_ f2_ f3_; have f4_ := f1_.symm; have f5_ := f3_.symm; clear f1_ f2_ f3_; subst f4_; subst f5_))
   obtain ⟨Ao59, co59, eo59⟩ := Kd.R_slice HO1458.out
   (first | subst eo59 | (injection eo59 with f1_ f2_ f3_; have f4_ := f1_.symm; have f5_ := f3_.symm; clear f1_ f2_ f3_; subst f4_; subst f5_))
   refine hK.out _ _ ⟨bce BK1447 0 _, bce BK1447 1 _, bce BK1447 2 _⟩ (fun hHeld => ?_)
   clear hK K
   refine nm_ 45 ?_
   refine one_ (i := 6) (N := some 47) (bm 8 127) rfl rfl (one_of HT_.out (by kernel_rfl)) (by decide) (fun K hK => ?_)
   refine g_ Try.func94 #[.bool a0_0, .slice Ao58 t1470.length co58, .slice Ao59 t1456.length co59] ?_
   with_reducible refine (impl_lowest.calls k a0_0 _ _ t1470 _ _ t1456 t1473 t1474 t1477 _ ?side1 ?side2 ?side3 ?side4 A38.out).mono ?_
   (case side1 => exact crC (Kd.R_reads' HO1472.out).2.2)
   (case side2 => exact (Kd.R_reads' HO1472.out).2.1)
   (case side3 => exact crC (Kd.R_reads' HO1458.out).2.2)
   (case side4 => exact (Kd.R_reads' HO1458.out).2.1)
   rintro e w60 ⟨v1475, v1478, rfl, ho0, ho1, hb⟩
   refine ⟨_, rfl, ?_⟩
   have HO1476 := lwR (nwR (nwR (nwR (nwR ho0 HO1452) HO1455) HO1458) HO1472) HB
   have HO1479 := lwR (nwR (nwR (nwR (nwR ho1 HO1452) HO1455) HO1458) HO1472) HB
   replace HO1452 := tldR HO1452 hb (Kd.R_base ho0) (Kd.R_base ho1)
   replace HO1455 := tldR HO1455 hb (Kd.R_base ho0) (Kd.R_base ho1)
   replace HO1458 := tldR HO1458 hb (Kd.R_base ho0) (Kd.R_base ho1)
   replace HO1472 := tldR HO1472 hb (Kd.R_base ho0) (Kd.R_base ho1)
   replace BK1447 := bkb BK1447 hb
   replace BK1448 := bkb BK1448 hb
   replace BK1449 := bkb BK1449 hb
   replace HB := bst HB hb
   (try clear hb)
   (try clear hb2)
   (try clear hk)
   (try clear hi)
   (try clear ho0)
   (try clear ho1)
   obtain ⟨Ao62, co62, eo62⟩ := Kd.R_slice HO1476.out
   (first | subst eo62 | (injection eo62 with f1_ f2_ f3_; have f4_ := f1_.symm; have f5_ := f3_.symm; clear f1_ f2_ f3_; subst f4_; subst f5_))
   obtain ⟨Ao64, co64, eo64⟩ := Kd.R_slice HO1479.out
   (first | subst eo64 | (injection eo64 with f1_ f2_ f3_; have f4_ := f1_.symm; have f5_ := f3_.symm; clear f1_ f2_ f3_; subst f4_; subst f5_))
   refine hK.out _ _ ⟨bce BK1447 0 _, bce BK1447 1 _, bce BK1447 2 _⟩ (fun hHeld => ?_)
   clear hK K
   refine nm_ 47 ?_
   refine one_ (i := 7) (N := none) (bm 8 255) rfl rfl (one_of HT_.out (by kernel_rfl)) (by decide) (fun K hK => ?_)
   have hs61 : w60.cell? ⟨gb1449, 0, none⟩ = some (.bool false) := bce BK1449 0 _
   have hfs61 := blk_frozen BK1449.out 0
   have hns61_0 := NB1447_1449.out
   have hns61_1 := NB1448_1449.out
   have hms61_0 := NB1449_1447.out
   have hms61_1 := NB1449_1448.out
   have hs63 : w60.cell? ⟨gb1449, 1, none⟩ = some (.slice none 0 0) := bce BK1449 1 _
   have hfs63 := blk_frozen BK1449.out 1
   have hns63_0 := NB1447_1449.out
   have hns63_1 := NB1448_1449.out
   have hms63_0 := NB1449_1447.out
   have hms63_1 := NB1449_1448.out
   have hs65 : w60.cell? ⟨gb1449, 2, none⟩ = some (.slice none 0 0) := bce BK1449 2 _
   have hfs65 := blk_frozen BK1449.out 2
   have hns65_0 := NB1447_1449.out
   have hns65_1 := NB1448_1449.out
   have hms65_0 := NB1449_1447.out
   have hms65_1 := NB1449_1448.out
   refine skip_ (w1 := ?_) (by rfl) rfl ?_ ?_
   rotate_left
   ·
    go_simp
    rfl
   refine hK.out _ _ ⟨((cell_far (p := ⟨gb1449, _, none⟩) NB1447_1449.out _).trans (((cell_far (p := ⟨gb1449, _, none⟩) NB1447_1449.out _).trans (((cell_far (p := ⟨gb1449, _, none⟩) NB1447_1449.out _).trans (hHeld.1)))))), ((cell_far (p := ⟨gb1449, _, none⟩) NB1447_1449.out _).trans (((cell_far (p := ⟨gb1449, _, none⟩) NB1447_1449.out _).trans (((cell_far (p := ⟨gb1449, _, none⟩) NB1447_1449.out _).trans (hHeld.2.1)))))), ((cell_far (p := ⟨gb1449, _, none⟩) NB1447_1449.out _).trans (((cell_far (p := ⟨gb1449, _, none⟩) NB1447_1449.out _).trans (((cell_far (p := ⟨gb1449, _, none⟩) NB1447_1449.out _).trans (hHeld.2.2))))))⟩ (fun hHeld => ?_)
   clear hK K
   refine done_ (done_of HT_.out (by kernel_rfl)) ?_
   try go_wp2
   refine bodyPost_ret (results_cell_row rfl _ _ gb1449 24 #[.bool t1473, .slice Ao62 t1474.length co62, .slice Ao64 t1477.length co64] (0, 0) _ rfl (bp3 BK1449 _ _ _) Try.underlying24 rfl (by kernel_rfl)) rfl ?_
   exact ⟨_, _, er_, (crN HO1476 BK1449 fun _ hk => hk.1.1.1.1.1), (crN HO1479 BK1449 fun _ hk => hk.1.1.1.1.1), blw HB⟩
  ·
   rw [if_neg c36] at H
   have c36b0 : decide (0 ≤ t1469) = false := decide_eq_false c36
   clear c36
   replace H := Option.bind_eq_some_iff.mp H
   obtain ⟨t1480, A660, H⟩ := H
   replace H : ((impl_lowest.f k a1_0 t1480 t1456).bind fun bt1483 => (some (bt1483.1, bt1483.2.1, bt1483.2.2))) = some (r1, r2, r3) := H
   have A66 := Aside0.mk A660
   clear A660
   replace H := Option.bind_eq_some_iff.mp H
   obtain ⟨⟨t1483, t1484, t1487⟩, A670, H⟩ := H
   replace H : (some (t1483, t1484, t1487)) = some (r1, r2, r3) := H
   have A67 := Aside0.mk A670
   clear A670
   simp only [Option.some.injEq, Prod.mk.injEq] at H
   obtain ⟨rfl, rfl, rfl⟩ := H
   go_enter Try.func85, Try.ntmps85
   try go_wp2_with (first | ((with_reducible refine gate_dst (N := 2) rfl ?_); refine bx_ (N := 2) (cs := #[.bool a0_0, .slice A0_1 l0_1.length c0_1, .slice A0_2 l0_2.length c0_2]) (t := 24) ?_; intro gb1447 hg w68 hbox hb; have BK1447 := Aside0.mk (hbox); have GW1447 := geh hg HB; have GE1447 := geh hg HB; replace HB := bst HB hb; clear hb hbox hg) | ((with_reducible refine gate_dst (N := 3) rfl ?_); refine bx_ (N := 3) (cs := #[.bool a1_0, .slice A1_1 l1_1.length c1_1, .slice A1_2 l1_2.length c1_2]) (t := 24) ?_; intro gb1448 hg w69 hbox hb; have BK1448 := Aside0.mk (hbox); have GW1448 := geh hg HB; have GE1448 := geh hg HB; replace HB := bst HB hb; have NB1447_1448 := nlt hg BK1447; have NB1448_1447 := ngt hg BK1447; replace BK1447 := bkb BK1447 hb; clear hb hbox hg) | ((with_reducible refine gate_dst (N := 4) rfl ?_); refine bx_ (N := 4) (cs := #[.bool false, .slice none 0 0, .slice none 0 0]) (t := 24) ?_; intro gb1449 hg w70 hbox hb; have BK1449 := Aside0.mk (hbox); have GW1449 := geh hg HB; have GE1449 := geh hg HB; replace HB := bst HB hb; have NB1447_1449 := nlt hg BK1447; have NB1449_1447 := ngt hg BK1447; replace BK1447 := bkb BK1447 hb; have NB1448_1449 := nlt hg BK1448; have NB1449_1448 := ngt hg BK1448; replace BK1448 := bkb BK1448 hb; clear hb hbox hg))
   replace BK1447 := Aside0.mk (blk_drew BK1447.out)
   replace BK1448 := Aside0.mk (blk_drew BK1448.out)
   replace BK1449 := Aside0.mk (blk_drew BK1449.out)
   replace HB := Aside0.mk (below_drew1 HB.out)
   refine start_ (n := 12) (S := fun w' => w'.cell? ⟨gb1447, 0, none⟩ = some (.bool a0_0) ∧ w'.cell? ⟨gb1447, 1, none⟩ = some (.slice A0_1 l0_1.length c0_1) ∧ w'.cell? ⟨gb1447, 2, none⟩ = some (.slice A0_2 l0_2.length c0_2) ∧ w'.cell? ⟨gb1448, 0, none⟩ = some (.bool a1_0) ∧ w'.cell? ⟨gb1448, 1, none⟩ = some (.slice A1_1 l1_1.length c1_1) ∧ w'.cell? ⟨gb1448, 2, none⟩ = some (.slice A1_2 l1_2.length c1_2)) (ds := []) (bm 12 0) (by kernel_rfl) rfl rfl ⟨bce BK1447 0 _, bce BK1447 1 _, bce BK1447 2 _, bce BK1448 0 _, bce BK1448 1 _, bce BK1448 2 _⟩ (fun hHeld => ?_); refine with_tabW impl_Rat_plus.tab1 impl_Rat_plus.bits1 (fun HT_ HW_ => ?_)
   generalize w70.drew = w71 at BK1447 BK1448 BK1449 HB hHeld ⊢
   refine pu_ 0 (some 8) (bm 12 1) HT_.out ?_
   refine pu_ 2 (some 10) (bm 12 5) HT_.out ?_
   refine pu_ 5 (some 13) (bm 12 37) HT_.out ?_
   refine pu_ 7 (some 15) (bm 12 165) HT_.out ?_
   refine tk_ 1 (some 9) (bm 12 167) HT_.out HW_.out hHeld ?_
   refine tk_ 3 (some 11) (bm 12 175) HT_.out HW_.out hHeld ?_
   refine tk_ 6 (some 14) (bm 12 239) HT_.out HW_.out hHeld ?_
   refine tk_ 8 (some 16) (bm 12 495) HT_.out HW_.out hHeld ?_
   refine one_ (i := 4) (N := some 12) (bm 12 511) rfl rfl (one_of HT_.out (by kernel_rfl)) (by decide) (fun K hK => ?_)
   refine g_ Try.func95 #[.slice A0_1 l0_1.length c0_1, .slice A1_2 l1_2.length c1_2] ?_
   with_reducible refine (impl_natMul.calls k _ _ l0_1 _ _ l1_2 t1450 _ ?side1 ?side2 ?side3 ?side4 A3.out).mono ?_
   (case side1 => exact crC (Kd.C_below HR0_1.out HB.out))
   (case side2 => exact HC0_1.out)
   (case side3 => exact crC (Kd.C_below HR1_2.out HB.out))
   (case side4 => exact HC1_2.out)
   rintro e w72 ⟨v1451, rfl, ho0, hb⟩
   refine ⟨_, rfl, ?_⟩
   have HO1452 := lwR ho0 HB
   replace BK1447 := bkb BK1447 hb
   replace BK1448 := bkb BK1448 hb
   replace BK1449 := bkb BK1449 hb
   replace HB := bst HB hb
   (try clear hb)
   (try clear hb2)
   (try clear hk)
   (try clear hi)
   (try clear ho0)
   refine hK.out _ _ ⟨bce BK1447 0 _, bce BK1447 1 _, bce BK1447 2 _, bce BK1448 0 _, bce BK1448 1 _, bce BK1448 2 _⟩ (fun hHeld => ?_)
   clear hK K
   refine nm_ 12 ?_
   refine one_ (i := 9) (N := some 17) (bm 12 1023) rfl rfl (one_of HT_.out (by kernel_rfl)) (by decide) (fun K hK => ?_)
   refine g_ Try.func95 #[.slice A1_1 l1_1.length c1_1, .slice A0_2 l0_2.length c0_2] ?_
   with_reducible refine (impl_natMul.calls k _ _ l1_1 _ _ l0_2 t1453 _ ?side1 ?side2 ?side3 ?side4 A4.out).mono ?_
   (case side1 => exact crC (Kd.C_below HR1_1.out HB.out))
   (case side2 => exact HC1_1.out)
   (case side3 => exact crC (Kd.C_below HR0_2.out HB.out))
   (case side4 => exact HC0_2.out)
   rintro e w73 ⟨v1454, rfl, ho0, hb⟩
   refine ⟨_, rfl, ?_⟩
   have HO1455 := lwR (nwR ho0 HO1452) HB
   replace HO1452 := eldR HO1452 (Kd.R_base ho0) hb
   replace BK1447 := bkb BK1447 hb
   replace BK1448 := bkb BK1448 hb
   replace BK1449 := bkb BK1449 hb
   replace HB := bst HB hb
   (try clear hb)
   (try clear hb2)
   (try clear hk)
   (try clear hi)
   (try clear ho0)
   refine hK.out _ _ ⟨bce BK1447 0 _, bce BK1447 1 _, bce BK1447 2 _, bce BK1448 0 _, bce BK1448 1 _, bce BK1448 2 _⟩ (fun hHeld => ?_)
   clear hK K
   refine nm_ 17 ?_
   refine pu_ 10 (some 5) (bm 12 2047) HT_.out ?_
   refine pu_ 11 (some 6) (bm 12 4095) HT_.out ?_
   refine done_ (done_of HT_.out (by kernel_rfl)) ?_
   have hnb74 := NB1447_1448.out
   have hnc74 := NB1448_1447.out
   have hnb75 := NB1447_1449.out
   have hnc75 := NB1449_1447.out
   obtain ⟨hcz76_0, hcz76_1, hcz76_2, hfz76_0, hfz76_1, hfz76_2⟩ := bc3 BK1447
   have hnb77 := NB1448_1449.out
   have hnc77 := NB1449_1448.out
   obtain ⟨hcz78_0, hcz78_1, hcz78_2, hfz78_0, hfz78_1, hfz78_2⟩ := bc3 BK1448
   try go_wp2_with (first | ((with_reducible refine gate_callee (f := 95) rfl ?_); refine gL_ (some 22) Try.func95 #[.slice A0_2 l0_2.length c0_2, .slice A1_2 l1_2.length c1_2] ?_; (with_reducible refine (impl_natMul.calls k _ _ l0_2 _ _ l1_2 t1456 _ ?side1 ?side2 ?side3 ?side4 A5.out).mono ?_); (case side1 => exact crC (Kd.C_below HR0_2.out HB.out)); (case side2 => exact HC0_2.out); (case side3 => exact crC (Kd.C_below HR1_2.out HB.out)); (case side4 => exact HC1_2.out); rintro e w79 ⟨v1457, rfl, ho0, hb⟩; refine ⟨_, rfl, ?_⟩; have HO1458 := lwR (nwR (nwR ho0 HO1452) HO1455) HB; replace HO1452 := eldR HO1452 (Kd.R_base ho0) hb; replace HO1455 := eldR HO1455 (Kd.R_base ho0) hb; replace BK1447 := bkb BK1447 hb; replace BK1448 := bkb BK1448 hb; replace BK1449 := bkb BK1449 hb; replace HB := bst HB hb; (try clear hb); (try clear hb2); (try clear hk); (try clear hi); (try clear ho0); obtain ⟨hcz80_0, hcz80_1, hcz80_2, hfz80_0, hfz80_1, hfz80_2⟩ := bc3 BK1447; obtain ⟨hcz81_0, hcz81_1, hcz81_2, hfz81_0, hfz81_1, hfz81_2⟩ := bc3 BK1448; obtain ⟨Ao82, co82, eo82⟩ := Kd.R_slice HO1452.out; subst eo82; obtain ⟨Ao83, co83, eo83⟩ := Kd.R_slice HO1455.out; subst eo83) | ((with_reducible refine gate_callee (f := 60) rfl ?_); refine gL_ (some 39) Try.func60 #[.slice Ao82 t1450.length co82, .slice Ao83 t1453.length co83] ?_; (with_reducible refine (impl_natCmp.calls _ _ t1450 _ _ t1453 t1469 _ ?side1 ?side2 ?side3 ?side4 A35.out).mono ?_); (case side1 => exact crC (Kd.R_reads' HO1452.out).2.2); (case side2 => exact (Kd.R_reads' HO1452.out).2.1); (case side3 => exact crC (Kd.R_reads' HO1455.out).2.2); (case side4 => exact (Kd.R_reads' HO1455.out).2.1); rintro e w84 ⟨rfl, hb⟩; refine ⟨_, rfl, ?_⟩; replace HO1452 := rblR HO1452 hb; replace HO1455 := rblR HO1455 hb; replace HO1458 := rblR HO1458 hb; replace BK1447 := bkb BK1447 hb; replace BK1448 := bkb BK1448 hb; replace BK1449 := bkb BK1449 hb; replace HB := bst HB hb; (try clear hb); (try clear hb2); (try clear hk); (try clear hi)))
   replace HO1452 := Aside0.mk (Kd.R_drew HO1452.out)
   replace HO1455 := Aside0.mk (Kd.R_drew HO1455.out)
   replace HO1458 := Aside0.mk (Kd.R_drew HO1458.out)
   replace BK1447 := Aside0.mk (blk_drew BK1447.out)
   replace BK1448 := Aside0.mk (blk_drew BK1448.out)
   replace BK1449 := Aside0.mk (blk_drew BK1449.out)
   replace HB := Aside0.mk (below_drew1 HB.out)
   refine start_ (n := 8) (S := fun w' => w'.cell? ⟨gb1448, 0, none⟩ = some (.bool a1_0) ∧ w'.cell? ⟨gb1448, 1, none⟩ = some (.slice A1_1 l1_1.length c1_1) ∧ w'.cell? ⟨gb1448, 2, none⟩ = some (.slice A1_2 l1_2.length c1_2)) (ds := []) (bm 8 0) (by kernel_rfl) rfl rfl ⟨bce BK1448 0 _, bce BK1448 1 _, bce BK1448 2 _⟩ (fun hHeld => ?_); refine with_tabW impl_Rat_plus.tab7 impl_Rat_plus.bits7 (fun HT_ HW_ => ?_)
   generalize w84.drew = w85 at HO1452 HO1455 HO1458 BK1447 BK1448 BK1449 HB hHeld ⊢
   refine pu_ 0 (some 48) (bm 8 1) HT_.out ?_
   refine pu_ 2 (some 50) (bm 8 5) HT_.out ?_
   refine pu_ 3 (some 51) (bm 8 13) HT_.out ?_
   refine pu_ 5 (some 53) (bm 8 45) HT_.out ?_
   refine tk_ 1 (some 49) (bm 8 47) HT_.out HW_.out hHeld ?_
   refine one_ (i := 4) (N := some 52) (bm 8 63) rfl rfl (one_of HT_.out (by kernel_rfl)) (by decide) (fun K hK => ?_)
   refine g_ Try.func112 #[.slice Ao83 t1453.length co83, .slice Ao82 t1450.length co82] ?_
   with_reducible refine (impl_natSub.calls k _ _ t1453 _ _ t1450 t1480 _ ?side1 ?side2 ?side3 ?side4 A66.out).mono ?_
   (case side1 => exact crC (Kd.R_reads' HO1455.out).2.2)
   (case side2 => exact (Kd.R_reads' HO1455.out).2.1)
   (case side3 => exact crC (Kd.R_reads' HO1452.out).2.2)
   (case side4 => exact (Kd.R_reads' HO1452.out).2.1)
   rintro e w86 ⟨v1481, rfl, ho0, hb⟩
   refine ⟨_, rfl, ?_⟩
   have HO1482 := lwR (nwR (nwR (nwR ho0 HO1452) HO1455) HO1458) HB
   replace HO1452 := eldR HO1452 (Kd.R_base ho0) hb
   replace HO1455 := eldR HO1455 (Kd.R_base ho0) hb
   replace HO1458 := eldR HO1458 (Kd.R_base ho0) hb
   replace BK1447 := bkb BK1447 hb
   replace BK1448 := bkb BK1448 hb
   replace BK1449 := bkb BK1449 hb
   replace HB := bst HB hb
   (try clear hb)
   (try clear hb2)
   (try clear hk)
   (try clear hi)
   (try clear ho0)
   obtain ⟨Ao87, co87, eo87⟩ := Kd.R_slice HO1482.out
   (first | subst eo87 | (injection eo87 with f1_ f2_ f3_; have f4_ := f1_.symm; have f5_ := f3_.symm; clear f1_ f2_ f3_; subst f4_; subst f5_))
   obtain ⟨Ao88, co88, eo88⟩ := Kd.R_slice HO1458.out
   (first | subst eo88 | (injection eo88 with f1_ f2_ f3_; have f4_ := f1_.symm; have f5_ := f3_.symm; clear f1_ f2_ f3_; subst f4_; subst f5_))
   refine hK.out _ _ ⟨bce BK1448 0 _, bce BK1448 1 _, bce BK1448 2 _⟩ (fun hHeld => ?_)
   clear hK K
   refine nm_ 52 ?_
   refine one_ (i := 6) (N := some 54) (bm 8 127) rfl rfl (one_of HT_.out (by kernel_rfl)) (by decide) (fun K hK => ?_)
   refine g_ Try.func94 #[.bool a1_0, .slice Ao87 t1480.length co87, .slice Ao88 t1456.length co88] ?_
   with_reducible refine (impl_lowest.calls k a1_0 _ _ t1480 _ _ t1456 t1483 t1484 t1487 _ ?side1 ?side2 ?side3 ?side4 A67.out).mono ?_
   (case side1 => exact crC (Kd.R_reads' HO1482.out).2.2)
   (case side2 => exact (Kd.R_reads' HO1482.out).2.1)
   (case side3 => exact crC (Kd.R_reads' HO1458.out).2.2)
   (case side4 => exact (Kd.R_reads' HO1458.out).2.1)
   rintro e w89 ⟨v1485, v1488, rfl, ho0, ho1, hb⟩
   refine ⟨_, rfl, ?_⟩
   have HO1486 := lwR (nwR (nwR (nwR (nwR ho0 HO1452) HO1455) HO1458) HO1482) HB
   have HO1489 := lwR (nwR (nwR (nwR (nwR ho1 HO1452) HO1455) HO1458) HO1482) HB
   replace HO1452 := tldR HO1452 hb (Kd.R_base ho0) (Kd.R_base ho1)
   replace HO1455 := tldR HO1455 hb (Kd.R_base ho0) (Kd.R_base ho1)
   replace HO1458 := tldR HO1458 hb (Kd.R_base ho0) (Kd.R_base ho1)
   replace HO1482 := tldR HO1482 hb (Kd.R_base ho0) (Kd.R_base ho1)
   replace BK1447 := bkb BK1447 hb
   replace BK1448 := bkb BK1448 hb
   replace BK1449 := bkb BK1449 hb
   replace HB := bst HB hb
   (try clear hb)
   (try clear hb2)
   (try clear hk)
   (try clear hi)
   (try clear ho0)
   (try clear ho1)
   obtain ⟨Ao91, co91, eo91⟩ := Kd.R_slice HO1486.out
   (first | subst eo91 | (injection eo91 with f1_ f2_ f3_; have f4_ := f1_.symm; have f5_ := f3_.symm; clear f1_ f2_ f3_; subst f4_; subst f5_))
   obtain ⟨Ao93, co93, eo93⟩ := Kd.R_slice HO1489.out
   (first | subst eo93 | (injection eo93 with f1_ f2_ f3_; have f4_ := f1_.symm; have f5_ := f3_.symm; clear f1_ f2_ f3_; subst f4_; subst f5_))
   refine hK.out _ _ ⟨bce BK1448 0 _, bce BK1448 1 _, bce BK1448 2 _⟩ (fun hHeld => ?_)
   clear hK K
   refine nm_ 54 ?_
   refine one_ (i := 7) (N := none) (bm 8 255) rfl rfl (one_of HT_.out (by kernel_rfl)) (by decide) (fun K hK => ?_)
   have hs90 : w89.cell? ⟨gb1449, 0, none⟩ = some (.bool false) := bce BK1449 0 _
   have hfs90 := blk_frozen BK1449.out 0
   have hns90_0 := NB1447_1449.out
   have hns90_1 := NB1448_1449.out
   have hms90_0 := NB1449_1447.out
   have hms90_1 := NB1449_1448.out
   have hs92 : w89.cell? ⟨gb1449, 1, none⟩ = some (.slice none 0 0) := bce BK1449 1 _
   have hfs92 := blk_frozen BK1449.out 1
   have hns92_0 := NB1447_1449.out
   have hns92_1 := NB1448_1449.out
   have hms92_0 := NB1449_1447.out
   have hms92_1 := NB1449_1448.out
   have hs94 : w89.cell? ⟨gb1449, 2, none⟩ = some (.slice none 0 0) := bce BK1449 2 _
   have hfs94 := blk_frozen BK1449.out 2
   have hns94_0 := NB1447_1449.out
   have hns94_1 := NB1448_1449.out
   have hms94_0 := NB1449_1447.out
   have hms94_1 := NB1449_1448.out
   refine skip_ (w1 := ?_) (by rfl) rfl ?_ ?_
   rotate_left
   ·
    go_simp
    rfl
   refine hK.out _ _ ⟨((cell_far (p := ⟨gb1449, _, none⟩) NB1448_1449.out _).trans (((cell_far (p := ⟨gb1449, _, none⟩) NB1448_1449.out _).trans (((cell_far (p := ⟨gb1449, _, none⟩) NB1448_1449.out _).trans (hHeld.1)))))), ((cell_far (p := ⟨gb1449, _, none⟩) NB1448_1449.out _).trans (((cell_far (p := ⟨gb1449, _, none⟩) NB1448_1449.out _).trans (((cell_far (p := ⟨gb1449, _, none⟩) NB1448_1449.out _).trans (hHeld.2.1)))))), ((cell_far (p := ⟨gb1449, _, none⟩) NB1448_1449.out _).trans (((cell_far (p := ⟨gb1449, _, none⟩) NB1448_1449.out _).trans (((cell_far (p := ⟨gb1449, _, none⟩) NB1448_1449.out _).trans (hHeld.2.2))))))⟩ (fun hHeld => ?_)
   clear hK K
   refine done_ (done_of HT_.out (by kernel_rfl)) ?_
   try go_wp2
   refine bodyPost_ret (results_cell_row rfl _ _ gb1449 24 #[.bool t1483, .slice Ao91 t1484.length co91, .slice Ao93 t1487.length co93] (0, 0) _ rfl (bp3 BK1449 _ _ _) Try.underlying24 rfl (by kernel_rfl)) rfl ?_
   exact ⟨_, _, er_, (crN HO1486 BK1449 fun _ hk => hk.1.1.1.1.1), (crN HO1489 BK1449 fun _ hk => hk.1.1.1.1.1), blw HB⟩

end Go.Proofs.Ytacdaijalkkogaa.Q
