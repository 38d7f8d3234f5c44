-- written by a program of this claim's session (myprint.py) out of the translation; Lean checks it.
import Derived.Test.YtacdaijalkkogaaQx0
import Derived.Test.YtacdaijalkkogaaWords
import Derived.Test.YtacdaijalkkogaaQxrk
import Derived.Test.YtacdaijalkkogaaQxcmp
import Derived.Test.YtacdaijalkkogaaQxsub
import Derived.Test.YtacdaijalkkogaaQxrim
import Derived.Test.YtacdaijalkkogaaQxmul
import Derived.Test.YtacdaijalkkogaaQxrmk
import Derived.Test.YtacdaijalkkogaaQxadd
namespace Go.Proofs.Ytacdaijalkkogaa.Q
open Go.RowKit Go.Proofs.YtacdaijalkkogaaW.PrintWords Go.Proofs.YtacdaijalkkogaaW.PrintLast Go.Proofs.YtacdaijalkkogaaW.PrintMore
attribute [local go_sem] max2_int min2_int max_two min_two max_three min_three max_four min_four   -- for this text's walks alone
set_option linter.unusedVariables false
set_option linter.unusedSimpArgs false

def impl_Rat_plus.f (k : Nat) (a0_0 : Bool) (l0_1 : List Int) (l0_2 : List Int) (a1_0 : Bool) (l1_1 : List Int) (l1_2 : List Int) : Option (Bool × List Int × List Int) := (impl_natMul.f k l0_1 l1_2).bind fun tB0 => ((impl_natMul.f k l1_1 l0_2).bind fun tA9 => ((impl_natMul.f k l0_2 l1_2).bind fun tB1 => (if (a0_0 == a1_0) = true then ((impl_natAdd.f k tB0 tA9).bind fun tB9 => ((impl_lowest.f k a0_0 tB9 tB1).bind fun btB4 => (some (btB4.1, btB4.2.1, btB4.2.2)))) else ((impl_natCmp.f tB0 tA9).bind fun tB5 => (if tB5 ≥ 0 then ((impl_natSub.f k tB0 tA9).bind fun tB6 => ((impl_lowest.f k a0_0 tB6 tB1).bind fun btB2 => (some (btB2.1, btB2.2.1, btB2.2.2)))) else ((impl_natSub.f k tA9 tB0).bind fun tB7 => ((impl_lowest.f k a1_0 tB7 tB1).bind fun btB3 => (some (btB3.1, btB3.2.1, btB3.2.2)))))))))
theorem impl_Rat_plus.mono : ∀ a0 a1 a2 a3 a4 a5 k, LeO (impl_Rat_plus.f k a0 a1 a2 a3 a4 a5) (impl_Rat_plus.f (k + 1) a0 a1 a2 a3 a4 a5) := by
 intro a0 a1 a2 a3 a4 a5 k
 unfold impl_Rat_plus.f
 repeat' first
   | (with_reducible exact impl_lowest.mono _ _ _ _)
   | (with_reducible exact impl_natAdd.mono _ _ _)
   | (with_reducible exact impl_natMul.mono _ _ _)
   | (with_reducible exact impl_natSub.mono _ _ _)
   | (with_reducible exact LeO.refl _)
   | (with_reducible exact LeO.none _)
   | (with_reducible refine LeO.ite ?_ ?_)
   | (with_reducible refine LeO.bind ?_ (fun _ => ?_))
   | exact impl_lowest.mono _ _ _ _
   | exact impl_natAdd.mono _ _ _
   | exact impl_natMul.mono _ _ _
   | exact impl_natSub.mono _ _ _
   | exact LeO.none _
   | refine LeO.ite ?_ ?_
   | refine LeO.bind ?_ (fun _ => ?_)
def impl_Rat_plus.T1 : Bool × List (List Nat × List Nat) := (true, [([], []), ([0], [0]), ([], []), ([2], [2]), ([1, 3], [1, 3]), ([], []), ([5], [5]), ([], []), ([7], [7]), ([6, 8, 4], [6, 8]), ([4, 9, 0, 1, 2, 3, 4], [4]), ([9, 10, 0, 1, 2, 3, 4, 5, 6, 7, 8, 9, 10], [9])])
def impl_Rat_plus.B1 : List Nat := [0, 1, 0, 4, 15, 0, 32, 0, 128, 511, 1023, 2047]
theorem impl_Rat_plus.tab1 : rtab .any (opsOf Try.f85 1) = impl_Rat_plus.T1 := by kernel_rfl
theorem impl_Rat_plus.bits1 : waitsOk impl_Rat_plus.T1.2 impl_Rat_plus.B1 = true := by kernel_rfl
def impl_Rat_plus.T4 : Bool × List (List Nat × List Nat) := (true, [([], []), ([0], [0]), ([], []), ([], []), ([2, 3], [2, 3]), ([], []), ([1, 4, 5, 4], [1, 4, 5]), ([6, 6, 0, 1, 2, 3, 4, 5, 6], [6])])
def impl_Rat_plus.B4 : List Nat := [0, 1, 0, 0, 12, 0, 63, 127]
theorem impl_Rat_plus.tab4 : rtab .any (opsOf Try.f85 4) = impl_Rat_plus.T4 := by kernel_rfl
theorem impl_Rat_plus.bits4 : waitsOk impl_Rat_plus.T4.2 impl_Rat_plus.B4 = true := by kernel_rfl
def impl_Rat_plus.T6 : Bool × List (List Nat × List Nat) := (true, [([], []), ([0], [0]), ([], []), ([], []), ([2, 3], [2, 3]), ([], []), ([1, 4, 5, 4], [1, 4, 5]), ([6, 6, 0, 1, 2, 3, 4, 5, 6], [6])])
def impl_Rat_plus.B6 : List Nat := [0, 1, 0, 0, 12, 0, 63, 127]
theorem impl_Rat_plus.tab6 : rtab .any (opsOf Try.f85 6) = impl_Rat_plus.T6 := by kernel_rfl
theorem impl_Rat_plus.bits6 : waitsOk impl_Rat_plus.T6.2 impl_Rat_plus.B6 = true := by kernel_rfl
def impl_Rat_plus.T7 : Bool × List (List Nat × List Nat) := (true, [([], []), ([0], [0]), ([], []), ([], []), ([2, 3], [2, 3]), ([], []), ([1, 4, 5, 4], [1, 4, 5]), ([6, 6, 0, 1, 2, 3, 4, 5, 6], [6])])
def impl_Rat_plus.B7 : List Nat := [0, 1, 0, 0, 12, 0, 63, 127]
theorem impl_Rat_plus.tab7 : rtab .any (opsOf Try.f85 7) = impl_Rat_plus.T7 := by kernel_rfl
theorem impl_Rat_plus.bits7 : waitsOk impl_Rat_plus.T7.2 impl_Rat_plus.B7 = true := by kernel_rfl
set_option maxHeartbeats 8000000 in
set_option maxRecDepth 100000 in
theorem impl_Rat_plus.calls (k : Nat) (a0_0 : Bool) (A0_1 : Option Addr) (c0_1 : Nat) (l0_1 : List Int) (A0_2 : Option Addr) (c0_2 : Nat) (l0_2 : List Int) (a1_0 : Bool) (A1_1 : Option Addr) (c1_1 : Nat) (l1_1 : List Int) (A1_2 : Option Addr) (c1_2 : Nat) (l1_2 : List Int) (r1 : Bool) (r2 : List Int) (r3 : List Int) (w : World) (hr0_1 : Kd.C (Kd.int .i64) w A0_1 l0_1.length l0_1) (hc0_1 : l0_1.length ≤ c0_1) (hr0_2 : Kd.C (Kd.int .i64) w A0_2 l0_2.length l0_2) (hc0_2 : l0_2.length ≤ c0_2) (hr1_1 : Kd.C (Kd.int .i64) w A1_1 l1_1.length l1_1) (hc1_1 : l1_1.length ≤ c1_1) (hr1_2 : Kd.C (Kd.int .i64) w A1_2 l1_2.length l1_2) (hc1_2 : l1_2.length ≤ c1_2) (h : impl_Rat_plus.f k a0_0 l0_1 l0_2 a1_0 l1_1 l1_2 = some (r1, r2, r3)) :
  Calls Try.prog 85 #[.agg #[.bool a0_0, .slice A0_1 l0_1.length c0_1, .slice A0_2 l0_2.length c0_2], .agg #[.bool a1_0, .slice A1_1 l1_1.length c1_1, .slice A1_2 l1_2.length c1_2]] w fun e w' => ∃ v1_ v2_ : Value, e = .returned (.agg #[.bool r1, v1_, v2_]) ∧ Kd.R (Kd.int .i64) 3 w' w.heap.size (fun k_ => nO k_ v2_) v1_ r2 ∧ Kd.R (Kd.int .i64) 3 w' w.heap.size (fun k_ => nO k_ v1_) v2_ r3 ∧ Below w.heap.size w w' := by
 have hu24 := Try.underlying24
 have HR0_1 := Aside0.mk hr0_1
 have HC0_1 := Aside0.mk hc0_1
 clear hr0_1 hc0_1
 have HR0_2 := Aside0.mk hr0_2
 have HC0_2 := Aside0.mk hc0_2
 clear hr0_2 hc0_2
 have HR1_1 := Aside0.mk hr1_1
 have HC1_1 := Aside0.mk hc1_1
 clear hr1_1 hc1_1
 have HR1_2 := Aside0.mk hr1_2
 have HC1_2 := Aside0.mk hc1_2
 clear hr1_2 hc1_2
 have HB := Aside0.mk (Below.refl w.heap.size w)
 have H : ((impl_natMul.f k l0_1 l1_2).bind fun tB0 => ((impl_natMul.f k l1_1 l0_2).bind fun tA9 => ((impl_natMul.f k l0_2 l1_2).bind fun tB1 => (if (a0_0 == a1_0) = true then ((impl_natAdd.f k tB0 tA9).bind fun tB9 => ((impl_lowest.f k a0_0 tB9 tB1).bind fun btB4 => (some (btB4.1, btB4.2.1, btB4.2.2)))) else ((impl_natCmp.f tB0 tA9).bind fun tB5 => (if tB5 ≥ 0 then ((impl_natSub.f k tB0 tA9).bind fun tB6 => ((impl_lowest.f k a0_0 tB6 tB1).bind fun btB2 => (some (btB2.1, btB2.2.1, btB2.2.2)))) else ((impl_natSub.f k tA9 tB0).bind fun tB7 => ((impl_lowest.f k a1_0 tB7 tB1).bind fun btB3 => (some (btB3.1, btB3.2.1, btB3.2.2)))))))))) = some (r1, r2, r3) := h
 clear h
 replace H := Option.bind_eq_some_iff.mp H
 obtain ⟨tB0, A30, H⟩ := H
 replace H : ((impl_natMul.f k l1_1 l0_2).bind fun tA9 => ((impl_natMul.f k l0_2 l1_2).bind fun tB1 => (if (a0_0 == a1_0) = true then ((impl_natAdd.f k tB0 tA9).bind fun tB9 => ((impl_lowest.f k a0_0 tB9 tB1).bind fun btB4 => (some (btB4.1, btB4.2.1, btB4.2.2)))) else ((impl_natCmp.f tB0 tA9).bind fun tB5 => (if tB5 ≥ 0 then ((impl_natSub.f k tB0 tA9).bind fun tB6 => ((impl_lowest.f k a0_0 tB6 tB1).bind fun btB2 => (some (btB2.1, btB2.2.1, btB2.2.2)))) else ((impl_natSub.f k tA9 tB0).bind fun tB7 => ((impl_lowest.f k a1_0 tB7 tB1).bind fun btB3 => (some (btB3.1, btB3.2.1, btB3.2.2))))))))) = some (r1, r2, r3) := H
 have A3 := Aside0.mk A30
 clear A30
 replace H := Option.bind_eq_some_iff.mp H
 obtain ⟨tA9, A40, H⟩ := H
 replace H : ((impl_natMul.f k l0_2 l1_2).bind fun tB1 => (if (a0_0 == a1_0) = true then ((impl_natAdd.f k tB0 tA9).bind fun tB9 => ((impl_lowest.f k a0_0 tB9 tB1).bind fun btB4 => (some (btB4.1, btB4.2.1, btB4.2.2)))) else ((impl_natCmp.f tB0 tA9).bind fun tB5 => (if tB5 ≥ 0 then ((impl_natSub.f k tB0 tA9).bind fun tB6 => ((impl_lowest.f k a0_0 tB6 tB1).bind fun btB2 => (some (btB2.1, btB2.2.1, btB2.2.2)))) else ((impl_natSub.f k tA9 tB0).bind fun tB7 => ((impl_lowest.f k a1_0 tB7 tB1).bind fun btB3 => (some (btB3.1, btB3.2.1, btB3.2.2)))))))) = some (r1, r2, r3) := H
 have A4 := Aside0.mk A40
 clear A40
 replace H := Option.bind_eq_some_iff.mp H
 obtain ⟨tB1, A50, H⟩ := H
 replace H : (if (a0_0 == a1_0) = true then ((impl_natAdd.f k tB0 tA9).bind fun tB9 => ((impl_lowest.f k a0_0 tB9 tB1).bind fun btB4 => (some (btB4.1, btB4.2.1, btB4.2.2)))) else ((impl_natCmp.f tB0 tA9).bind fun tB5 => (if tB5 ≥ 0 then ((impl_natSub.f k tB0 tA9).bind fun tB6 => ((impl_lowest.f k a0_0 tB6 tB1).bind fun btB2 => (some (btB2.1, btB2.2.1, btB2.2.2)))) else ((impl_natSub.f k tA9 tB0).bind fun tB7 => ((impl_lowest.f k a1_0 tB7 tB1).bind fun btB3 => (some (btB3.1, btB3.2.1, btB3.2.2))))))) = some (r1, r2, r3) := H
 have A5 := Aside0.mk A50
 clear A50
 by_cases c6 : (a0_0 == a1_0) = true
 ·
  rw [if_pos c6] at H
  have c6b0 : (a0_0 == a1_0) = true := c6
  (try (have c6b1 : decide (a0_0 = a1_0) = true := by simpa using c6))
  (try (have c6b2 : (a0_0 == a1_0) = true := by simpa using c6))
  clear c6
  replace H := Option.bind_eq_some_iff.mp H
  obtain ⟨tB9, A70, H⟩ := H
  replace H : ((impl_lowest.f k a0_0 tB9 tB1).bind fun btB4 => (some (btB4.1, btB4.2.1, btB4.2.2))) = some (r1, r2, r3) := H
  have A7 := Aside0.mk A70
  clear A70
  replace H := Option.bind_eq_some_iff.mp H
  obtain ⟨⟨tB4, tC8, tC9⟩, A80, H⟩ := H
  replace H : (some (tB4, tC8, tC9)) = some (r1, r2, r3) := H
  have A8 := Aside0.mk A80
  clear A80
  simp only [Option.some.injEq, Prod.mk.injEq] at H
  obtain ⟨rfl, rfl, rfl⟩ := H
  go_enter Try.func85, Try.ntmps85
  try go_wp2_with (first | ((with_reducible refine gate_dst (N := 2) rfl ?_); refine bx_ (N := 2) (cs := #[.bool a0_0, .slice A0_1 l0_1.length c0_1, .slice A0_2 l0_2.length c0_2]) (t := 24) ?_; intro gbA1 hg w9 hbox hb; have BKA1 := Aside0.mk (hbox); have GWA1 := geh hg HB; have GEA1 := geh hg HB; replace HB := bst HB hb; clear hb hbox hg) | ((with_reducible refine gate_dst (N := 3) rfl ?_); refine bx_ (N := 3) (cs := #[.bool a1_0, .slice A1_1 l1_1.length c1_1, .slice A1_2 l1_2.length c1_2]) (t := 24) ?_; intro gbA2 hg w10 hbox hb; have BKA2 := Aside0.mk (hbox); have GWA2 := geh hg HB; have GEA2 := geh hg HB; replace HB := bst HB hb; have NBA1_A2 := nlt hg BKA1; have NBA2_A1 := ngt hg BKA1; replace BKA1 := bkb BKA1 hb; clear hb hbox hg) | ((with_reducible refine gate_dst (N := 4) rfl ?_); refine bx_ (N := 4) (cs := #[.bool false, .slice none 0 0, .slice none 0 0]) (t := 24) ?_; intro gbA0 hg w11 hbox hb; have BKA0 := Aside0.mk (hbox); have GWA0 := geh hg HB; have GEA0 := geh hg HB; replace HB := bst HB hb; have NBA1_A0 := nlt hg BKA1; have NBA0_A1 := ngt hg BKA1; replace BKA1 := bkb BKA1 hb; have NBA2_A0 := nlt hg BKA2; have NBA0_A2 := ngt hg BKA2; replace BKA2 := bkb BKA2 hb; clear hb hbox hg))
  replace BKA1 := Aside0.mk (blk_drew BKA1.out)
  replace BKA2 := Aside0.mk (blk_drew BKA2.out)
  replace BKA0 := Aside0.mk (blk_drew BKA0.out)
  replace HB := Aside0.mk (below_drew1 HB.out)
  refine start_ (n := 12) (S := fun w' => w'.cell? ⟨gbA1, 0, none⟩ = some (.bool a0_0) ∧ w'.cell? ⟨gbA1, 1, none⟩ = some (.slice A0_1 l0_1.length c0_1) ∧ w'.cell? ⟨gbA1, 2, none⟩ = some (.slice A0_2 l0_2.length c0_2) ∧ w'.cell? ⟨gbA2, 0, none⟩ = some (.bool a1_0) ∧ w'.cell? ⟨gbA2, 1, none⟩ = some (.slice A1_1 l1_1.length c1_1) ∧ w'.cell? ⟨gbA2, 2, none⟩ = some (.slice A1_2 l1_2.length c1_2)) (ds := []) (bm 12 0) (by kernel_rfl) rfl rfl ⟨bce BKA1 0 _, bce BKA1 1 _, bce BKA1 2 _, bce BKA2 0 _, bce BKA2 1 _, bce BKA2 2 _⟩ (fun hHeld => ?_); refine with_tabW impl_Rat_plus.tab1 impl_Rat_plus.bits1 (fun HT_ HW_ => ?_)
  generalize w11.drew = w12 at BKA1 BKA2 BKA0 HB hHeld ⊢
  refine pu_ 0 (some 8) (bm 12 1) HT_.out ?_
  refine pu_ 2 (some 10) (bm 12 5) HT_.out ?_
  refine pu_ 5 (some 13) (bm 12 37) HT_.out ?_
  refine pu_ 7 (some 15) (bm 12 165) HT_.out ?_
  refine tk_ 1 (some 9) (bm 12 167) HT_.out HW_.out hHeld ?_
  refine tk_ 3 (some 11) (bm 12 175) HT_.out HW_.out hHeld ?_
  refine tk_ 6 (some 14) (bm 12 239) HT_.out HW_.out hHeld ?_
  refine tk_ 8 (some 16) (bm 12 495) HT_.out HW_.out hHeld ?_
  refine one_ (i := 4) (N := some 12) (bm 12 511) rfl rfl (one_of HT_.out (by kernel_rfl)) (by decide) (fun K hK => ?_)
  refine g_ Try.func95 #[.slice A0_1 l0_1.length c0_1, .slice A1_2 l1_2.length c1_2] ?_
  with_reducible refine (impl_natMul.calls k _ _ l0_1 _ _ l1_2 tB0 _ ?side1 ?side2 ?side3 ?side4 A3.out).mono ?_
  (case side1 => exact crC (Kd.C_below HR0_1.out HB.out))
  (case side2 => exact HC0_1.out)
  (case side3 => exact crC (Kd.C_below HR1_2.out HB.out))
  (case side4 => exact HC1_2.out)
  rintro e w13 ⟨vD6, rfl, ho0, hb⟩
  refine ⟨_, rfl, ?_⟩
  have HOA4 := lwR ho0 HB
  replace BKA1 := bkb BKA1 hb
  replace BKA2 := bkb BKA2 hb
  replace BKA0 := bkb BKA0 hb
  replace HB := bst HB hb
  (try clear hb)
  (try clear hb2)
  (try clear hk)
  (try clear hi)
  (try clear ho0)
  refine hK.out _ _ ⟨bce BKA1 0 _, bce BKA1 1 _, bce BKA1 2 _, bce BKA2 0 _, bce BKA2 1 _, bce BKA2 2 _⟩ (fun hHeld => ?_)
  clear hK K
  refine nm_ 12 ?_
  refine one_ (i := 9) (N := some 17) (bm 12 1023) rfl rfl (one_of HT_.out (by kernel_rfl)) (by decide) (fun K hK => ?_)
  refine g_ Try.func95 #[.slice A1_1 l1_1.length c1_1, .slice A0_2 l0_2.length c0_2] ?_
  with_reducible refine (impl_natMul.calls k _ _ l1_1 _ _ l0_2 tA9 _ ?side1 ?side2 ?side3 ?side4 A4.out).mono ?_
  (case side1 => exact crC (Kd.C_below HR1_1.out HB.out))
  (case side2 => exact HC1_1.out)
  (case side3 => exact crC (Kd.C_below HR0_2.out HB.out))
  (case side4 => exact HC0_2.out)
  rintro e w14 ⟨vD7, rfl, ho0, hb⟩
  refine ⟨_, rfl, ?_⟩
  have HOA5 := lwR (nwR ho0 HOA4) HB
  replace HOA4 := eldR HOA4 (Kd.R_base ho0) hb
  replace BKA1 := bkb BKA1 hb
  replace BKA2 := bkb BKA2 hb
  replace BKA0 := bkb BKA0 hb
  replace HB := bst HB hb
  (try clear hb)
  (try clear hb2)
  (try clear hk)
  (try clear hi)
  (try clear ho0)
  refine hK.out _ _ ⟨bce BKA1 0 _, bce BKA1 1 _, bce BKA1 2 _, bce BKA2 0 _, bce BKA2 1 _, bce BKA2 2 _⟩ (fun hHeld => ?_)
  clear hK K
  refine nm_ 17 ?_
  refine pu_ 10 (some 5) (bm 12 2047) HT_.out ?_
  refine pu_ 11 (some 6) (bm 12 4095) HT_.out ?_
  refine done_ (done_of HT_.out (by kernel_rfl)) ?_
  have hnb15 := NBA1_A2.out
  have hnc15 := NBA2_A1.out
  have hnb16 := NBA1_A0.out
  have hnc16 := NBA0_A1.out
  obtain ⟨hcz17_0, hcz17_1, hcz17_2, hfz17_0, hfz17_1, hfz17_2⟩ := bc3 BKA1
  have hnb18 := NBA2_A0.out
  have hnc18 := NBA0_A2.out
  obtain ⟨hcz19_0, hcz19_1, hcz19_2, hfz19_0, hfz19_1, hfz19_2⟩ := bc3 BKA2
  try go_wp2_with (first | ((with_reducible refine gate_callee (f := 95) rfl ?_); refine gL_ (some 22) Try.func95 #[.slice A0_2 l0_2.length c0_2, .slice A1_2 l1_2.length c1_2] ?_; (with_reducible refine (impl_natMul.calls k _ _ l0_2 _ _ l1_2 tB1 _ ?side1 ?side2 ?side3 ?side4 A5.out).mono ?_); (case side1 => exact crC (Kd.C_below HR0_2.out HB.out)); (case side2 => exact HC0_2.out); (case side3 => exact crC (Kd.C_below HR1_2.out HB.out)); (case side4 => exact HC1_2.out); rintro e w20 ⟨vD8, rfl, ho0, hb⟩; refine ⟨_, rfl, ?_⟩; have HOA7 := lwR (nwR (nwR ho0 HOA4) HOA5) HB; replace HOA4 := eldR HOA4 (Kd.R_base ho0) hb; replace HOA5 := eldR HOA5 (Kd.R_base ho0) hb; replace BKA1 := bkb BKA1 hb; replace BKA2 := bkb BKA2 hb; replace BKA0 := bkb BKA0 hb; replace HB := bst HB hb; (try clear hb); (try clear hb2); (try clear hk); (try clear hi); (try clear ho0); obtain ⟨hcz21_0, hcz21_1, hcz21_2, hfz21_0, hfz21_1, hfz21_2⟩ := bc3 BKA1; obtain ⟨hcz22_0, hcz22_1, hcz22_2, hfz22_0, hfz22_1, hfz22_2⟩ := bc3 BKA2))
  replace HOA4 := Aside0.mk (Kd.R_drew HOA4.out)
  replace HOA5 := Aside0.mk (Kd.R_drew HOA5.out)
  replace HOA7 := Aside0.mk (Kd.R_drew HOA7.out)
  replace BKA1 := Aside0.mk (blk_drew BKA1.out)
  replace BKA2 := Aside0.mk (blk_drew BKA2.out)
  replace BKA0 := Aside0.mk (blk_drew BKA0.out)
  replace HB := Aside0.mk (below_drew1 HB.out)
  obtain ⟨Ao24, co24, eo24⟩ := Kd.R_slice HOA4.out
  (first | subst eo24 | (injection eo24 with f1_ f2_ f3_; have f4_ := f1_.symm; have f5_ := f3_.symm; clear f1_ f2_ f3_; subst f4_; subst f5_))
  obtain ⟨Ao25, co25, eo25⟩ := Kd.R_slice HOA5.out
  (first | subst eo25 | (injection eo25 with f1_ f2_ f3_; have f4_ := f1_.symm; have f5_ := f3_.symm; clear f1_ f2_ f3_; subst f4_; subst f5_))
  refine start_ (n := 8) (S := fun w' => w'.cell? ⟨gbA1, 0, none⟩ = some (.bool a0_0) ∧ w'.cell? ⟨gbA1, 1, none⟩ = some (.slice A0_1 l0_1.length c0_1) ∧ w'.cell? ⟨gbA1, 2, none⟩ = some (.slice A0_2 l0_2.length c0_2)) (ds := []) (bm 8 0) (by kernel_rfl) rfl rfl ⟨bce BKA1 0 _, bce BKA1 1 _, bce BKA1 2 _⟩ (fun hHeld => ?_); refine with_tabW impl_Rat_plus.tab4 impl_Rat_plus.bits4 (fun HT_ HW_ => ?_)
  generalize w20.drew = w23 at HOA4 HOA5 HOA7 BKA1 BKA2 BKA0 HB hHeld ⊢
  refine pu_ 0 (some 29) (bm 8 1) HT_.out ?_
  refine pu_ 2 (some 31) (bm 8 5) HT_.out ?_
  refine pu_ 3 (some 32) (bm 8 13) HT_.out ?_
  refine pu_ 5 (some 34) (bm 8 45) HT_.out ?_
  refine tk_ 1 (some 30) (bm 8 47) HT_.out HW_.out hHeld ?_
  refine one_ (i := 4) (N := some 33) (bm 8 63) rfl rfl (one_of HT_.out (by kernel_rfl)) (by decide) (fun K hK => ?_)
  refine g_ Try.func76 #[.slice Ao24 tB0.length co24, .slice Ao25 tA9.length co25] ?_
  with_reducible refine (impl_natAdd.calls k _ _ tB0 _ _ tA9 tB9 _ ?side1 ?side2 ?side3 ?side4 A7.out).mono ?_
  (case side1 => exact crC (Kd.R_reads' HOA4.out).2.2)
  (case side2 => exact (Kd.R_reads' HOA4.out).2.1)
  (case side3 => exact crC (Kd.R_reads' HOA5.out).2.2)
  (case side4 => exact (Kd.R_reads' HOA5.out).2.1)
  rintro e w26 ⟨vF2, rfl, ho0, hb⟩
  refine ⟨_, rfl, ?_⟩
  have HOC1 := lwR (nwR (nwR (nwR ho0 HOA4) HOA5) HOA7) HB
  replace HOA4 := eldR HOA4 (Kd.R_base ho0) hb
  replace HOA5 := eldR HOA5 (Kd.R_base ho0) hb
  replace HOA7 := eldR HOA7 (Kd.R_base ho0) hb
  replace BKA1 := bkb BKA1 hb
  replace BKA2 := bkb BKA2 hb
  replace BKA0 := bkb BKA0 hb
  replace HB := bst HB hb
  (try clear hb)
  (try clear hb2)
  (try clear hk)
  (try clear hi)
  (try clear ho0)
  obtain ⟨Ao27, co27, eo27⟩ := Kd.R_slice HOC1.out
  (first | subst eo27 | (injection eo27 with f1_ f2_ f3_; have f4_ := f1_.symm; have f5_ := f3_.symm; clear f1_ f2_ f3_; subst f4_; subst f5_))
  obtain ⟨Ao28, co28, eo28⟩ := Kd.R_slice HOA7.out
  (first | subst eo28 | (injection eo28 with f1_ f2_ f3_; have f4_ := f1_.symm; have f5_ := f3_.symm; clear f1_ f2_ f3_; subst f4_; subst f5_))
  refine hK.out _ _ ⟨bce BKA1 0 _, bce BKA1 1 _, bce BKA1 2 _⟩ (fun hHeld => ?_)
  clear hK K
  refine nm_ 33 ?_
  refine one_ (i := 6) (N := some 35) (bm 8 127) rfl rfl (one_of HT_.out (by kernel_rfl)) (by decide) (fun K hK => ?_)
  refine g_ Try.func94 #[.bool a0_0, .slice Ao27 tB9.length co27, .slice Ao28 tB1.length co28] ?_
  with_reducible refine (impl_lowest.calls k a0_0 _ _ tB9 _ _ tB1 tB4 tC8 tC9 _ ?side1 ?side2 ?side3 ?side4 A8.out).mono ?_
  (case side1 => exact crC (Kd.R_reads' HOC1.out).2.2)
  (case side2 => exact (Kd.R_reads' HOC1.out).2.1)
  (case side3 => exact crC (Kd.R_reads' HOA7.out).2.2)
  (case side4 => exact (Kd.R_reads' HOA7.out).2.1)
  rintro e w29 ⟨vF3, vF4, rfl, ho0, ho1, hb⟩
  refine ⟨_, rfl, ?_⟩
  have HOD9 := lwR (nwR (nwR (nwR (nwR ho0 HOA4) HOA5) HOA7) HOC1) HB
  have HOE0 := lwR (nwR (nwR (nwR (nwR ho1 HOA4) HOA5) HOA7) HOC1) HB
  replace HOA4 := tldR HOA4 hb (Kd.R_base ho0) (Kd.R_base ho1)
  replace HOA5 := tldR HOA5 hb (Kd.R_base ho0) (Kd.R_base ho1)
  replace HOA7 := tldR HOA7 hb (Kd.R_base ho0) (Kd.R_base ho1)
  replace HOC1 := tldR HOC1 hb (Kd.R_base ho0) (Kd.R_base ho1)
  replace BKA1 := bkb BKA1 hb
  replace BKA2 := bkb BKA2 hb
  replace BKA0 := bkb BKA0 hb
  replace HB := bst HB hb
  (try clear hb)
  (try clear hb2)
  (try clear hk)
  (try clear hi)
  (try clear ho0)
  (try clear ho1)
  obtain ⟨Ao31, co31, eo31⟩ := Kd.R_slice HOD9.out
  (first | subst eo31 | (injection eo31 with f1_ f2_ f3_; have f4_ := f1_.symm; have f5_ := f3_.symm; clear f1_ f2_ f3_; subst f4_; subst f5_))
  obtain ⟨Ao33, co33, eo33⟩ := Kd.R_slice HOE0.out
  (first | subst eo33 | (injection eo33 with f1_ f2_ f3_; have f4_ := f1_.symm; have f5_ := f3_.symm; clear f1_ f2_ f3_; subst f4_; subst f5_))
  refine hK.out _ _ ⟨bce BKA1 0 _, bce BKA1 1 _, bce BKA1 2 _⟩ (fun hHeld => ?_)
  clear hK K
  refine nm_ 35 ?_
  refine one_ (i := 7) (N := none) (bm 8 255) rfl rfl (one_of HT_.out (by kernel_rfl)) (by decide) (fun K hK => ?_)
  have hs30 : w29.cell? ⟨gbA0, 0, none⟩ = some (.bool false) := bce BKA0 0 _
  have hfs30 := blk_frozen BKA0.out 0
  have hns30_0 := NBA1_A0.out
  have hns30_1 := NBA2_A0.out
  have hms30_0 := NBA0_A1.out
  have hms30_1 := NBA0_A2.out
  have hs32 : w29.cell? ⟨gbA0, 1, none⟩ = some (.slice none 0 0) := bce BKA0 1 _
  have hfs32 := blk_frozen BKA0.out 1
  have hns32_0 := NBA1_A0.out
  have hns32_1 := NBA2_A0.out
  have hms32_0 := NBA0_A1.out
  have hms32_1 := NBA0_A2.out
  have hs34 : w29.cell? ⟨gbA0, 2, none⟩ = some (.slice none 0 0) := bce BKA0 2 _
  have hfs34 := blk_frozen BKA0.out 2
  have hns34_0 := NBA1_A0.out
  have hns34_1 := NBA2_A0.out
  have hms34_0 := NBA0_A1.out
  have hms34_1 := NBA0_A2.out
  refine skip_ (w1 := ?_) (by rfl) rfl ?_ ?_
  rotate_left
  ·
   go_simp
   rfl
  refine hK.out _ _ ⟨((cell_far (p := ⟨gbA0, _, none⟩) NBA1_A0.out _).trans (((cell_far (p := ⟨gbA0, _, none⟩) NBA1_A0.out _).trans (((cell_far (p := ⟨gbA0, _, none⟩) NBA1_A0.out _).trans (hHeld.1)))))), ((cell_far (p := ⟨gbA0, _, none⟩) NBA1_A0.out _).trans (((cell_far (p := ⟨gbA0, _, none⟩) NBA1_A0.out _).trans (((cell_far (p := ⟨gbA0, _, none⟩) NBA1_A0.out _).trans (hHeld.2.1)))))), ((cell_far (p := ⟨gbA0, _, none⟩) NBA1_A0.out _).trans (((cell_far (p := ⟨gbA0, _, none⟩) NBA1_A0.out _).trans (((cell_far (p := ⟨gbA0, _, none⟩) NBA1_A0.out _).trans (hHeld.2.2))))))⟩ (fun hHeld => ?_)
  clear hK K
  refine done_ (done_of HT_.out (by kernel_rfl)) ?_
  try go_wp2
  refine bodyPost_ret (results_cell_row rfl _ _ gbA0 24 #[.bool tB4, .slice Ao31 tC8.length co31, .slice Ao33 tC9.length co33] (0, 0) _ rfl (bp3 BKA0 _ _ _) Try.underlying24 rfl (by kernel_rfl)) rfl ?_
  exact ⟨_, _, er_, (crN HOD9 BKA0 fun _ hk => hk.1.1.1.1.1), (crN HOE0 BKA0 fun _ hk => hk.1.1.1.1.1), blw HB⟩
 ·
  rw [if_neg c6] at H
  have c6b0 : (a0_0 == a1_0) = false := by simpa using c6
  (try (have c6b1 : decide (a0_0 = a1_0) = false := by simpa using c6))
  (try (have c6b2 : (a0_0 == a1_0) = false := by simpa using c6))
  (try (have c6b3 : ¬ (a0_0 = a1_0) := by simpa using c6))
  clear c6
  replace H := Option.bind_eq_some_iff.mp H
  obtain ⟨tB5, AE7, H⟩ := H
  replace H : (if tB5 ≥ 0 then ((impl_natSub.f k tB0 tA9).bind fun tB6 => ((impl_lowest.f k a0_0 tB6 tB1).bind fun btB2 => (some (btB2.1, btB2.2.1, btB2.2.2)))) else ((impl_natSub.f k tA9 tB0).bind fun tB7 => ((impl_lowest.f k a1_0 tB7 tB1).bind fun btB3 => (some (btB3.1, btB3.2.1, btB3.2.2))))) = some (r1, r2, r3) := H
  have A35 := Aside0.mk AE7
  clear AE7
  by_cases c36 : tB5 ≥ 0
  ·
   rw [if_pos c36] at H
   have c36b0 : decide (0 ≤ tB5) = true := decide_eq_true c36
   clear c36
   replace H := Option.bind_eq_some_iff.mp H
   obtain ⟨tB6, AE8, H⟩ := H
   replace H : ((impl_lowest.f k a0_0 tB6 tB1).bind fun btB2 => (some (btB2.1, btB2.2.1, btB2.2.2))) = some (r1, r2, r3) := H
   have A37 := Aside0.mk AE8
   clear AE8
   replace H := Option.bind_eq_some_iff.mp H
   obtain ⟨⟨tB2, tD0, tD1⟩, AE9, H⟩ := H
   replace H : (some (tB2, tD0, tD1)) = some (r1, r2, r3) := H
   have A38 := Aside0.mk AE9
   clear AE9
   simp only [Option.some.injEq, Prod.mk.injEq] at H
   obtain ⟨rfl, rfl, rfl⟩ := H
   go_enter Try.func85, Try.ntmps85
   try go_wp2_with (first | ((with_reducible refine gate_dst (N := 2) rfl ?_); refine bx_ (N := 2) (cs := #[.bool a0_0, .slice A0_1 l0_1.length c0_1, .slice A0_2 l0_2.length c0_2]) (t := 24) ?_; intro gbA1 hg w39 hbox hb; have BKA1 := Aside0.mk (hbox); have GWA1 := geh hg HB; have GEA1 := geh hg HB; replace HB := bst HB hb; clear hb hbox hg) | ((with_reducible refine gate_dst (N := 3) rfl ?_); refine bx_ (N := 3) (cs := #[.bool a1_0, .slice A1_1 l1_1.length c1_1, .slice A1_2 l1_2.length c1_2]) (t := 24) ?_; intro gbA2 hg w40 hbox hb; have BKA2 := Aside0.mk (hbox); have GWA2 := geh hg HB; have GEA2 := geh hg HB; replace HB := bst HB hb; have NBA1_A2 := nlt hg BKA1; have NBA2_A1 := ngt hg BKA1; replace BKA1 := bkb BKA1 hb; clear hb hbox hg) | ((with_reducible refine gate_dst (N := 4) rfl ?_); refine bx_ (N := 4) (cs := #[.bool false, .slice none 0 0, .slice none 0 0]) (t := 24) ?_; intro gbA0 hg w41 hbox hb; have BKA0 := Aside0.mk (hbox); have GWA0 := geh hg HB; have GEA0 := geh hg HB; replace HB := bst HB hb; have NBA1_A0 := nlt hg BKA1; have NBA0_A1 := ngt hg BKA1; replace BKA1 := bkb BKA1 hb; have NBA2_A0 := nlt hg BKA2; have NBA0_A2 := ngt hg BKA2; replace BKA2 := bkb BKA2 hb; clear hb hbox hg))
   replace BKA1 := Aside0.mk (blk_drew BKA1.out)
   replace BKA2 := Aside0.mk (blk_drew BKA2.out)
   replace BKA0 := Aside0.mk (blk_drew BKA0.out)
   replace HB := Aside0.mk (below_drew1 HB.out)
   refine start_ (n := 12) (S := fun w' => w'.cell? ⟨gbA1, 0, none⟩ = some (.bool a0_0) ∧ w'.cell? ⟨gbA1, 1, none⟩ = some (.slice A0_1 l0_1.length c0_1) ∧ w'.cell? ⟨gbA1, 2, none⟩ = some (.slice A0_2 l0_2.length c0_2) ∧ w'.cell? ⟨gbA2, 0, none⟩ = some (.bool a1_0) ∧ w'.cell? ⟨gbA2, 1, none⟩ = some (.slice A1_1 l1_1.length c1_1) ∧ w'.cell? ⟨gbA2, 2, none⟩ = some (.slice A1_2 l1_2.length c1_2)) (ds := []) (bm 12 0) (by kernel_rfl) rfl rfl ⟨bce BKA1 0 _, bce BKA1 1 _, bce BKA1 2 _, bce BKA2 0 _, bce BKA2 1 _, bce BKA2 2 _⟩ (fun hHeld => ?_); refine with_tabW impl_Rat_plus.tab1 impl_Rat_plus.bits1 (fun HT_ HW_ => ?_)
   generalize w41.drew = w42 at BKA1 BKA2 BKA0 HB hHeld ⊢
   refine pu_ 0 (some 8) (bm 12 1) HT_.out ?_
   refine pu_ 2 (some 10) (bm 12 5) HT_.out ?_
   refine pu_ 5 (some 13) (bm 12 37) HT_.out ?_
   refine pu_ 7 (some 15) (bm 12 165) HT_.out ?_
   refine tk_ 1 (some 9) (bm 12 167) HT_.out HW_.out hHeld ?_
   refine tk_ 3 (some 11) (bm 12 175) HT_.out HW_.out hHeld ?_
   refine tk_ 6 (some 14) (bm 12 239) HT_.out HW_.out hHeld ?_
   refine tk_ 8 (some 16) (bm 12 495) HT_.out HW_.out hHeld ?_
   refine one_ (i := 4) (N := some 12) (bm 12 511) rfl rfl (one_of HT_.out (by kernel_rfl)) (by decide) (fun K hK => ?_)
   refine g_ Try.func95 #[.slice A0_1 l0_1.length c0_1, .slice A1_2 l1_2.length c1_2] ?_
   with_reducible refine (impl_natMul.calls k _ _ l0_1 _ _ l1_2 tB0 _ ?side1 ?side2 ?side3 ?side4 A3.out).mono ?_
   (case side1 => exact crC (Kd.C_below HR0_1.out HB.out))
   (case side2 => exact HC0_1.out)
   (case side3 => exact crC (Kd.C_below HR1_2.out HB.out))
   (case side4 => exact HC1_2.out)
   rintro e w43 ⟨vD6, rfl, ho0, hb⟩
   refine ⟨_, rfl, ?_⟩
   have HOA4 := lwR ho0 HB
   replace BKA1 := bkb BKA1 hb
   replace BKA2 := bkb BKA2 hb
   replace BKA0 := bkb BKA0 hb
   replace HB := bst HB hb
   (try clear hb)
   (try clear hb2)
   (try clear hk)
   (try clear hi)
   (try clear ho0)
   refine hK.out _ _ ⟨bce BKA1 0 _, bce BKA1 1 _, bce BKA1 2 _, bce BKA2 0 _, bce BKA2 1 _, bce BKA2 2 _⟩ (fun hHeld => ?_)
   clear hK K
   refine nm_ 12 ?_
   refine one_ (i := 9) (N := some 17) (bm 12 1023) rfl rfl (one_of HT_.out (by kernel_rfl)) (by decide) (fun K hK => ?_)
   refine g_ Try.func95 #[.slice A1_1 l1_1.length c1_1, .slice A0_2 l0_2.length c0_2] ?_
   with_reducible refine (impl_natMul.calls k _ _ l1_1 _ _ l0_2 tA9 _ ?side1 ?side2 ?side3 ?side4 A4.out).mono ?_
   (case side1 => exact crC (Kd.C_below HR1_1.out HB.out))
   (case side2 => exact HC1_1.out)
   (case side3 => exact crC (Kd.C_below HR0_2.out HB.out))
   (case side4 => exact HC0_2.out)
   rintro e w44 ⟨vD7, rfl, ho0, hb⟩
   refine ⟨_, rfl, ?_⟩
   have HOA5 := lwR (nwR ho0 HOA4) HB
   replace HOA4 := eldR HOA4 (Kd.R_base ho0) hb
   replace BKA1 := bkb BKA1 hb
   replace BKA2 := bkb BKA2 hb
   replace BKA0 := bkb BKA0 hb
   replace HB := bst HB hb
   (try clear hb)
   (try clear hb2)
   (try clear hk)
   (try clear hi)
   (try clear ho0)
   refine hK.out _ _ ⟨bce BKA1 0 _, bce BKA1 1 _, bce BKA1 2 _, bce BKA2 0 _, bce BKA2 1 _, bce BKA2 2 _⟩ (fun hHeld => ?_)
   clear hK K
   refine nm_ 17 ?_
   refine pu_ 10 (some 5) (bm 12 2047) HT_.out ?_
   refine pu_ 11 (some 6) (bm 12 4095) HT_.out ?_
   refine done_ (done_of HT_.out (by kernel_rfl)) ?_
   have hnb45 := NBA1_A2.out
   have hnc45 := NBA2_A1.out
   have hnb46 := NBA1_A0.out
   have hnc46 := NBA0_A1.out
   obtain ⟨hcz47_0, hcz47_1, hcz47_2, hfz47_0, hfz47_1, hfz47_2⟩ := bc3 BKA1
   have hnb48 := NBA2_A0.out
   have hnc48 := NBA0_A2.out
   obtain ⟨hcz49_0, hcz49_1, hcz49_2, hfz49_0, hfz49_1, hfz49_2⟩ := bc3 BKA2
   try go_wp2_with (first | ((with_reducible refine gate_callee (f := 95) rfl ?_); refine gL_ (some 22) Try.func95 #[.slice A0_2 l0_2.length c0_2, .slice A1_2 l1_2.length c1_2] ?_; (with_reducible refine (impl_natMul.calls k _ _ l0_2 _ _ l1_2 tB1 _ ?side1 ?side2 ?side3 ?side4 A5.out).mono ?_); (case side1 => exact crC (Kd.C_below HR0_2.out HB.out)); (case side2 => exact HC0_2.out); (case side3 => exact crC (Kd.C_below HR1_2.out HB.out)); (case side4 => exact HC1_2.out); rintro e w50 ⟨vD8, rfl, ho0, hb⟩; refine ⟨_, rfl, ?_⟩; have HOA7 := lwR (nwR (nwR ho0 HOA4) HOA5) HB; replace HOA4 := eldR HOA4 (Kd.R_base ho0) hb; replace HOA5 := eldR HOA5 (Kd.R_base ho0) hb; replace BKA1 := bkb BKA1 hb; replace BKA2 := bkb BKA2 hb; replace BKA0 := bkb BKA0 hb; replace HB := bst HB hb; (try clear hb); (try clear hb2); (try clear hk); (try clear hi); (try clear ho0); obtain ⟨hcz51_0, hcz51_1, hcz51_2, hfz51_0, hfz51_1, hfz51_2⟩ := bc3 BKA1; obtain ⟨hcz52_0, hcz52_1, hcz52_2, hfz52_0, hfz52_1, hfz52_2⟩ := bc3 BKA2; obtain ⟨Ao53, co53, eo53⟩ := Kd.R_slice HOA4.out; subst eo53; obtain ⟨Ao54, co54, eo54⟩ := Kd.R_slice HOA5.out; subst eo54) | ((with_reducible refine gate_callee (f := 60) rfl ?_); refine gL_ (some 39) Try.func60 #[.slice Ao53 tB0.length co53, .slice Ao54 tA9.length co54] ?_; (with_reducible refine (impl_natCmp.calls _ _ tB0 _ _ tA9 tB5 _ ?side1 ?side2 ?side3 ?side4 A35.out).mono ?_); (case side1 => exact crC (Kd.R_reads' HOA4.out).2.2); (case side2 => exact (Kd.R_reads' HOA4.out).2.1); (case side3 => exact crC (Kd.R_reads' HOA5.out).2.2); (case side4 => exact (Kd.R_reads' HOA5.out).2.1); rintro e w55 ⟨rfl, hb⟩; refine ⟨_, rfl, ?_⟩; replace HOA4 := rblR HOA4 hb; replace HOA5 := rblR HOA5 hb; replace HOA7 := rblR HOA7 hb; replace BKA1 := bkb BKA1 hb; replace BKA2 := bkb BKA2 hb; replace BKA0 := bkb BKA0 hb; replace HB := bst HB hb; (try clear hb); (try clear hb2); (try clear hk); (try clear hi)))
   replace HOA4 := Aside0.mk (Kd.R_drew HOA4.out)
   replace HOA5 := Aside0.mk (Kd.R_drew HOA5.out)
   replace HOA7 := Aside0.mk (Kd.R_drew HOA7.out)
   replace BKA1 := Aside0.mk (blk_drew BKA1.out)
   replace BKA2 := Aside0.mk (blk_drew BKA2.out)
   replace BKA0 := Aside0.mk (blk_drew BKA0.out)
   replace HB := Aside0.mk (below_drew1 HB.out)
   refine start_ (n := 8) (S := fun w' => w'.cell? ⟨gbA1, 0, none⟩ = some (.bool a0_0) ∧ w'.cell? ⟨gbA1, 1, none⟩ = some (.slice A0_1 l0_1.length c0_1) ∧ w'.cell? ⟨gbA1, 2, none⟩ = some (.slice A0_2 l0_2.length c0_2)) (ds := []) (bm 8 0) (by kernel_rfl) rfl rfl ⟨bce BKA1 0 _, bce BKA1 1 _, bce BKA1 2 _⟩ (fun hHeld => ?_); refine with_tabW impl_Rat_plus.tab6 impl_Rat_plus.bits6 (fun HT_ HW_ => ?_)
   generalize w55.drew = w56 at HOA4 HOA5 HOA7 BKA1 BKA2 BKA0 HB hHeld ⊢
   refine pu_ 0 (some 41) (bm 8 1) HT_.out ?_
   refine pu_ 2 (some 43) (bm 8 5) HT_.out ?_
   refine pu_ 3 (some 44) (bm 8 13) HT_.out ?_
   refine pu_ 5 (some 46) (bm 8 45) HT_.out ?_
   refine tk_ 1 (some 42) (bm 8 47) HT_.out HW_.out hHeld ?_
   refine one_ (i := 4) (N := some 45) (bm 8 63) rfl rfl (one_of HT_.out (by kernel_rfl)) (by decide) (fun K hK => ?_)
   refine g_ Try.func112 #[.slice Ao53 tB0.length co53, .slice Ao54 tA9.length co54] ?_
   with_reducible refine (impl_natSub.calls k _ _ tB0 _ _ tA9 tB6 _ ?side1 ?side2 ?side3 ?side4 A37.out).mono ?_
   (case side1 => exact crC (Kd.R_reads' HOA4.out).2.2)
   (case side2 => exact (Kd.R_reads' HOA4.out).2.1)
   (case side3 => exact crC (Kd.R_reads' HOA5.out).2.2)
   (case side4 => exact (Kd.R_reads' HOA5.out).2.1)
   rintro e w57 ⟨vF5, rfl, ho0, hb⟩
   refine ⟨_, rfl, ?_⟩
   have HOC2 := lwR (nwR (nwR (nwR ho0 HOA4) HOA5) HOA7) HB
   replace HOA4 := eldR HOA4 (Kd.R_base ho0) hb
   replace HOA5 := eldR HOA5 (Kd.R_base ho0) hb
   replace HOA7 := eldR HOA7 (Kd.R_base ho0) hb
   replace BKA1 := bkb BKA1 hb
   replace BKA2 := bkb BKA2 hb
   replace BKA0 := bkb BKA0 hb
   replace HB := bst HB hb
   (try clear hb)
   (try clear hb2)
   (try clear hk)
   (try clear hi)
   (try clear ho0)
   obtain ⟨Ao58, co58, eo58⟩ := Kd.R_slice HOC2.out
   (first | subst eo58 | (injection eo58 with f1_ f2_ f3_; have f4_ := f1_.symm; have f5_ := f3_.symm; clear f1_ f2_ f3_; subst f4_; subst f5_))
   obtain ⟨Ao59, co59, eo59⟩ := Kd.R_slice HOA7.out
   (first | subst eo59 | (injection eo59 with f1_ f2_ f3_; have f4_ := f1_.symm; have f5_ := f3_.symm; clear f1_ f2_ f3_; subst f4_; subst f5_))
   refine hK.out _ _ ⟨bce BKA1 0 _, bce BKA1 1 _, bce BKA1 2 _⟩ (fun hHeld => ?_)
   clear hK K
   refine nm_ 45 ?_
   refine one_ (i := 6) (N := some 47) (bm 8 127) rfl rfl (one_of HT_.out (by kernel_rfl)) (by decide) (fun K hK => ?_)
   refine g_ Try.func94 #[.bool a0_0, .slice Ao58 tB6.length co58, .slice Ao59 tB1.length co59] ?_
   with_reducible refine (impl_lowest.calls k a0_0 _ _ tB6 _ _ tB1 tB2 tD0 tD1 _ ?side1 ?side2 ?side3 ?side4 A38.out).mono ?_
   (case side1 => exact crC (Kd.R_reads' HOC2.out).2.2)
   (case side2 => exact (Kd.R_reads' HOC2.out).2.1)
   (case side3 => exact crC (Kd.R_reads' HOA7.out).2.2)
   (case side4 => exact (Kd.R_reads' HOA7.out).2.1)
   rintro e w60 ⟨vF6, vF7, rfl, ho0, ho1, hb⟩
   refine ⟨_, rfl, ?_⟩
   have HOE1 := lwR (nwR (nwR (nwR (nwR ho0 HOA4) HOA5) HOA7) HOC2) HB
   have HOE2 := lwR (nwR (nwR (nwR (nwR ho1 HOA4) HOA5) HOA7) HOC2) HB
   replace HOA4 := tldR HOA4 hb (Kd.R_base ho0) (Kd.R_base ho1)
   replace HOA5 := tldR HOA5 hb (Kd.R_base ho0) (Kd.R_base ho1)
   replace HOA7 := tldR HOA7 hb (Kd.R_base ho0) (Kd.R_base ho1)
   replace HOC2 := tldR HOC2 hb (Kd.R_base ho0) (Kd.R_base ho1)
   replace BKA1 := bkb BKA1 hb
   replace BKA2 := bkb BKA2 hb
   replace BKA0 := bkb BKA0 hb
   replace HB := bst HB hb
   (try clear hb)
   (try clear hb2)
   (try clear hk)
   (try clear hi)
   (try clear ho0)
   (try clear ho1)
   obtain ⟨Ao62, co62, eo62⟩ := Kd.R_slice HOE1.out
   (first | subst eo62 | (injection eo62 with f1_ f2_ f3_; have f4_ := f1_.symm; have f5_ := f3_.symm; clear f1_ f2_ f3_; subst f4_; subst f5_))
   obtain ⟨Ao64, co64, eo64⟩ := Kd.R_slice HOE2.out
   (first | subst eo64 | (injection eo64 with f1_ f2_ f3_; have f4_ := f1_.symm; have f5_ := f3_.symm; clear f1_ f2_ f3_; subst f4_; subst f5_))
   refine hK.out _ _ ⟨bce BKA1 0 _, bce BKA1 1 _, bce BKA1 2 _⟩ (fun hHeld => ?_)
   clear hK K
   refine nm_ 47 ?_
   refine one_ (i := 7) (N := none) (bm 8 255) rfl rfl (one_of HT_.out (by kernel_rfl)) (by decide) (fun K hK => ?_)
   have hs61 : w60.cell? ⟨gbA0, 0, none⟩ = some (.bool false) := bce BKA0 0 _
   have hfs61 := blk_frozen BKA0.out 0
   have hns61_0 := NBA1_A0.out
   have hns61_1 := NBA2_A0.out
   have hms61_0 := NBA0_A1.out
   have hms61_1 := NBA0_A2.out
   have hs63 : w60.cell? ⟨gbA0, 1, none⟩ = some (.slice none 0 0) := bce BKA0 1 _
   have hfs63 := blk_frozen BKA0.out 1
   have hns63_0 := NBA1_A0.out
   have hns63_1 := NBA2_A0.out
   have hms63_0 := NBA0_A1.out
   have hms63_1 := NBA0_A2.out
   have hs65 : w60.cell? ⟨gbA0, 2, none⟩ = some (.slice none 0 0) := bce BKA0 2 _
   have hfs65 := blk_frozen BKA0.out 2
   have hns65_0 := NBA1_A0.out
   have hns65_1 := NBA2_A0.out
   have hms65_0 := NBA0_A1.out
   have hms65_1 := NBA0_A2.out
   refine skip_ (w1 := ?_) (by rfl) rfl ?_ ?_
   rotate_left
   ·
    go_simp
    rfl
   refine hK.out _ _ ⟨((cell_far (p := ⟨gbA0, _, none⟩) NBA1_A0.out _).trans (((cell_far (p := ⟨gbA0, _, none⟩) NBA1_A0.out _).trans (((cell_far (p := ⟨gbA0, _, none⟩) NBA1_A0.out _).trans (hHeld.1)))))), ((cell_far (p := ⟨gbA0, _, none⟩) NBA1_A0.out _).trans (((cell_far (p := ⟨gbA0, _, none⟩) NBA1_A0.out _).trans (((cell_far (p := ⟨gbA0, _, none⟩) NBA1_A0.out _).trans (hHeld.2.1)))))), ((cell_far (p := ⟨gbA0, _, none⟩) NBA1_A0.out _).trans (((cell_far (p := ⟨gbA0, _, none⟩) NBA1_A0.out _).trans (((cell_far (p := ⟨gbA0, _, none⟩) NBA1_A0.out _).trans (hHeld.2.2))))))⟩ (fun hHeld => ?_)
   clear hK K
   refine done_ (done_of HT_.out (by kernel_rfl)) ?_
   try go_wp2
   refine bodyPost_ret (results_cell_row rfl _ _ gbA0 24 #[.bool tB2, .slice Ao62 tD0.length co62, .slice Ao64 tD1.length co64] (0, 0) _ rfl (bp3 BKA0 _ _ _) Try.underlying24 rfl (by kernel_rfl)) rfl ?_
   exact ⟨_, _, er_, (crN HOE1 BKA0 fun _ hk => hk.1.1.1.1.1), (crN HOE2 BKA0 fun _ hk => hk.1.1.1.1.1), blw HB⟩
  ·
   rw [if_neg c36] at H
   have c36b0 : decide (0 ≤ tB5) = false := decide_eq_false c36
   clear c36
   replace H := Option.bind_eq_some_iff.mp H
   obtain ⟨tB7, AF0, H⟩ := H
   replace H : ((impl_lowest.f k a1_0 tB7 tB1).bind fun btB3 => (some (btB3.1, btB3.2.1, btB3.2.2))) = some (r1, r2, r3) := H
   have A66 := Aside0.mk AF0
   clear AF0
   replace H := Option.bind_eq_some_iff.mp H
   obtain ⟨⟨tB3, tD2, tD3⟩, AF1, H⟩ := H
   replace H : (some (tB3, tD2, tD3)) = some (r1, r2, r3) := H
   have A67 := Aside0.mk AF1
   clear AF1
   simp only [Option.some.injEq, Prod.mk.injEq] at H
   obtain ⟨rfl, rfl, rfl⟩ := H
   go_enter Try.func85, Try.ntmps85
   try go_wp2_with (first | ((with_reducible refine gate_dst (N := 2) rfl ?_); refine bx_ (N := 2) (cs := #[.bool a0_0, .slice A0_1 l0_1.length c0_1, .slice A0_2 l0_2.length c0_2]) (t := 24) ?_; intro gbA1 hg w68 hbox hb; have BKA1 := Aside0.mk (hbox); have GWA1 := geh hg HB; have GEA1 := geh hg HB; replace HB := bst HB hb; clear hb hbox hg) | ((with_reducible refine gate_dst (N := 3) rfl ?_); refine bx_ (N := 3) (cs := #[.bool a1_0, .slice A1_1 l1_1.length c1_1, .slice A1_2 l1_2.length c1_2]) (t := 24) ?_; intro gbA2 hg w69 hbox hb; have BKA2 := Aside0.mk (hbox); have GWA2 := geh hg HB; have GEA2 := geh hg HB; replace HB := bst HB hb; have NBA1_A2 := nlt hg BKA1; have NBA2_A1 := ngt hg BKA1; replace BKA1 := bkb BKA1 hb; clear hb hbox hg) | ((with_reducible refine gate_dst (N := 4) rfl ?_); refine bx_ (N := 4) (cs := #[.bool false, .slice none 0 0, .slice none 0 0]) (t := 24) ?_; intro gbA0 hg w70 hbox hb; have BKA0 := Aside0.mk (hbox); have GWA0 := geh hg HB; have GEA0 := geh hg HB; replace HB := bst HB hb; have NBA1_A0 := nlt hg BKA1; have NBA0_A1 := ngt hg BKA1; replace BKA1 := bkb BKA1 hb; have NBA2_A0 := nlt hg BKA2; have NBA0_A2 := ngt hg BKA2; replace BKA2 := bkb BKA2 hb; clear hb hbox hg))
   replace BKA1 := Aside0.mk (blk_drew BKA1.out)
   replace BKA2 := Aside0.mk (blk_drew BKA2.out)
   replace BKA0 := Aside0.mk (blk_drew BKA0.out)
   replace HB := Aside0.mk (below_drew1 HB.out)
   refine start_ (n := 12) (S := fun w' => w'.cell? ⟨gbA1, 0, none⟩ = some (.bool a0_0) ∧ w'.cell? ⟨gbA1, 1, none⟩ = some (.slice A0_1 l0_1.length c0_1) ∧ w'.cell? ⟨gbA1, 2, none⟩ = some (.slice A0_2 l0_2.length c0_2) ∧ w'.cell? ⟨gbA2, 0, none⟩ = some (.bool a1_0) ∧ w'.cell? ⟨gbA2, 1, none⟩ = some (.slice A1_1 l1_1.length c1_1) ∧ w'.cell? ⟨gbA2, 2, none⟩ = some (.slice A1_2 l1_2.length c1_2)) (ds := []) (bm 12 0) (by kernel_rfl) rfl rfl ⟨bce BKA1 0 _, bce BKA1 1 _, bce BKA1 2 _, bce BKA2 0 _, bce BKA2 1 _, bce BKA2 2 _⟩ (fun hHeld => ?_); refine with_tabW impl_Rat_plus.tab1 impl_Rat_plus.bits1 (fun HT_ HW_ => ?_)
   generalize w70.drew = w71 at BKA1 BKA2 BKA0 HB hHeld ⊢
   refine pu_ 0 (some 8) (bm 12 1) HT_.out ?_
   refine pu_ 2 (some 10) (bm 12 5) HT_.out ?_
   refine pu_ 5 (some 13) (bm 12 37) HT_.out ?_
   refine pu_ 7 (some 15) (bm 12 165) HT_.out ?_
   refine tk_ 1 (some 9) (bm 12 167) HT_.out HW_.out hHeld ?_
   refine tk_ 3 (some 11) (bm 12 175) HT_.out HW_.out hHeld ?_
   refine tk_ 6 (some 14) (bm 12 239) HT_.out HW_.out hHeld ?_
   refine tk_ 8 (some 16) (bm 12 495) HT_.out HW_.out hHeld ?_
   refine one_ (i := 4) (N := some 12) (bm 12 511) rfl rfl (one_of HT_.out (by kernel_rfl)) (by decide) (fun K hK => ?_)
   refine g_ Try.func95 #[.slice A0_1 l0_1.length c0_1, .slice A1_2 l1_2.length c1_2] ?_
   with_reducible refine (impl_natMul.calls k _ _ l0_1 _ _ l1_2 tB0 _ ?side1 ?side2 ?side3 ?side4 A3.out).mono ?_
   (case side1 => exact crC (Kd.C_below HR0_1.out HB.out))
   (case side2 => exact HC0_1.out)
   (case side3 => exact crC (Kd.C_below HR1_2.out HB.out))
   (case side4 => exact HC1_2.out)
   rintro e w72 ⟨vD6, rfl, ho0, hb⟩
   refine ⟨_, rfl, ?_⟩
   have HOA4 := lwR ho0 HB
   replace BKA1 := bkb BKA1 hb
   replace BKA2 := bkb BKA2 hb
   replace BKA0 := bkb BKA0 hb
   replace HB := bst HB hb
   (try clear hb)
   (try clear hb2)
   (try clear hk)
   (try clear hi)
   (try clear ho0)
   refine hK.out _ _ ⟨bce BKA1 0 _, bce BKA1 1 _, bce BKA1 2 _, bce BKA2 0 _, bce BKA2 1 _, bce BKA2 2 _⟩ (fun hHeld => ?_)
   clear hK K
   refine nm_ 12 ?_
   refine one_ (i := 9) (N := some 17) (bm 12 1023) rfl rfl (one_of HT_.out (by kernel_rfl)) (by decide) (fun K hK => ?_)
   refine g_ Try.func95 #[.slice A1_1 l1_1.length c1_1, .slice A0_2 l0_2.length c0_2] ?_
   with_reducible refine (impl_natMul.calls k _ _ l1_1 _ _ l0_2 tA9 _ ?side1 ?side2 ?side3 ?side4 A4.out).mono ?_
   (case side1 => exact crC (Kd.C_below HR1_1.out HB.out))
   (case side2 => exact HC1_1.out)
   (case side3 => exact crC (Kd.C_below HR0_2.out HB.out))
   (case side4 => exact HC0_2.out)
   rintro e w73 ⟨vD7, rfl, ho0, hb⟩
   refine ⟨_, rfl, ?_⟩
   have HOA5 := lwR (nwR ho0 HOA4) HB
   replace HOA4 := eldR HOA4 (Kd.R_base ho0) hb
   replace BKA1 := bkb BKA1 hb
   replace BKA2 := bkb BKA2 hb
   replace BKA0 := bkb BKA0 hb
   replace HB := bst HB hb
   (try clear hb)
   (try clear hb2)
   (try clear hk)
   (try clear hi)
   (try clear ho0)
   refine hK.out _ _ ⟨bce BKA1 0 _, bce BKA1 1 _, bce BKA1 2 _, bce BKA2 0 _, bce BKA2 1 _, bce BKA2 2 _⟩ (fun hHeld => ?_)
   clear hK K
   refine nm_ 17 ?_
   refine pu_ 10 (some 5) (bm 12 2047) HT_.out ?_
   refine pu_ 11 (some 6) (bm 12 4095) HT_.out ?_
   refine done_ (done_of HT_.out (by kernel_rfl)) ?_
   have hnb74 := NBA1_A2.out
   have hnc74 := NBA2_A1.out
   have hnb75 := NBA1_A0.out
   have hnc75 := NBA0_A1.out
   obtain ⟨hcz76_0, hcz76_1, hcz76_2, hfz76_0, hfz76_1, hfz76_2⟩ := bc3 BKA1
   have hnb77 := NBA2_A0.out
   have hnc77 := NBA0_A2.out
   obtain ⟨hcz78_0, hcz78_1, hcz78_2, hfz78_0, hfz78_1, hfz78_2⟩ := bc3 BKA2
   try go_wp2_with (first | ((with_reducible refine gate_callee (f := 95) rfl ?_); refine gL_ (some 22) Try.func95 #[.slice A0_2 l0_2.length c0_2, .slice A1_2 l1_2.length c1_2] ?_; (with_reducible refine (impl_natMul.calls k _ _ l0_2 _ _ l1_2 tB1 _ ?side1 ?side2 ?side3 ?side4 A5.out).mono ?_); (case side1 => exact crC (Kd.C_below HR0_2.out HB.out)); (case side2 => exact HC0_2.out); (case side3 => exact crC (Kd.C_below HR1_2.out HB.out)); (case side4 => exact HC1_2.out); rintro e w79 ⟨vD8, rfl, ho0, hb⟩; refine ⟨_, rfl, ?_⟩; have HOA7 := lwR (nwR (nwR ho0 HOA4) HOA5) HB; replace HOA4 := eldR HOA4 (Kd.R_base ho0) hb; replace HOA5 := eldR HOA5 (Kd.R_base ho0) hb; replace BKA1 := bkb BKA1 hb; replace BKA2 := bkb BKA2 hb; replace BKA0 := bkb BKA0 hb; replace HB := bst HB hb; (try clear hb); (try clear hb2); (try clear hk); (try clear hi); (try clear ho0); obtain ⟨hcz80_0, hcz80_1, hcz80_2, hfz80_0, hfz80_1, hfz80_2⟩ := bc3 BKA1; obtain ⟨hcz81_0, hcz81_1, hcz81_2, hfz81_0, hfz81_1, hfz81_2⟩ := bc3 BKA2; obtain ⟨Ao82, co82, eo82⟩ := Kd.R_slice HOA4.out; subst eo82; obtain ⟨Ao83, co83, eo83⟩ := Kd.R_slice HOA5.out; subst eo83) | ((with_reducible refine gate_callee (f := 60) rfl ?_); refine gL_ (some 39) Try.func60 #[.slice Ao82 tB0.length co82, .slice Ao83 tA9.length co83] ?_; (with_reducible refine (impl_natCmp.calls _ _ tB0 _ _ tA9 tB5 _ ?side1 ?side2 ?side3 ?side4 A35.out).mono ?_); (case side1 => exact crC (Kd.R_reads' HOA4.out).2.2); (case side2 => exact (Kd.R_reads' HOA4.out).2.1); (case side3 => exact crC (Kd.R_reads' HOA5.out).2.2); (case side4 => exact (Kd.R_reads' HOA5.out).2.1); rintro e w84 ⟨rfl, hb⟩; refine ⟨_, rfl, ?_⟩; replace HOA4 := rblR HOA4 hb; replace HOA5 := rblR HOA5 hb; replace HOA7 := rblR HOA7 hb; replace BKA1 := bkb BKA1 hb; replace BKA2 := bkb BKA2 hb; replace BKA0 := bkb BKA0 hb; replace HB := bst HB hb; (try clear hb); (try clear hb2); (try clear hk); (try clear hi)))
   replace HOA4 := Aside0.mk (Kd.R_drew HOA4.out)
   replace HOA5 := Aside0.mk (Kd.R_drew HOA5.out)
   replace HOA7 := Aside0.mk (Kd.R_drew HOA7.out)
   replace BKA1 := Aside0.mk (blk_drew BKA1.out)
   replace BKA2 := Aside0.mk (blk_drew BKA2.out)
   replace BKA0 := Aside0.mk (blk_drew BKA0.out)
   replace HB := Aside0.mk (below_drew1 HB.out)
   refine start_ (n := 8) (S := fun w' => w'.cell? ⟨gbA2, 0, none⟩ = some (.bool a1_0) ∧ w'.cell? ⟨gbA2, 1, none⟩ = some (.slice A1_1 l1_1.length c1_1) ∧ w'.cell? ⟨gbA2, 2, none⟩ = some (.slice A1_2 l1_2.length c1_2)) (ds := []) (bm 8 0) (by kernel_rfl) rfl rfl ⟨bce BKA2 0 _, bce BKA2 1 _, bce BKA2 2 _⟩ (fun hHeld => ?_); refine with_tabW impl_Rat_plus.tab7 impl_Rat_plus.bits7 (fun HT_ HW_ => ?_)
   generalize w84.drew = w85 at HOA4 HOA5 HOA7 BKA1 BKA2 BKA0 HB hHeld ⊢
   refine pu_ 0 (some 48) (bm 8 1) HT_.out ?_
   refine pu_ 2 (some 50) (bm 8 5) HT_.out ?_
   refine pu_ 3 (some 51) (bm 8 13) HT_.out ?_
   refine pu_ 5 (some 53) (bm 8 45) HT_.out ?_
   refine tk_ 1 (some 49) (bm 8 47) HT_.out HW_.out hHeld ?_
   refine one_ (i := 4) (N := some 52) (bm 8 63) rfl rfl (one_of HT_.out (by kernel_rfl)) (by decide) (fun K hK => ?_)
   refine g_ Try.func112 #[.slice Ao83 tA9.length co83, .slice Ao82 tB0.length co82] ?_
   with_reducible refine (impl_natSub.calls k _ _ tA9 _ _ tB0 tB7 _ ?side1 ?side2 ?side3 ?side4 A66.out).mono ?_
   (case side1 => exact crC (Kd.R_reads' HOA5.out).2.2)
   (case side2 => exact (Kd.R_reads' HOA5.out).2.1)
   (case side3 => exact crC (Kd.R_reads' HOA4.out).2.2)
   (case side4 => exact (Kd.R_reads' HOA4.out).2.1)
   rintro e w86 ⟨vF8, rfl, ho0, hb⟩
   refine ⟨_, rfl, ?_⟩
   have HOC3 := lwR (nwR (nwR (nwR ho0 HOA4) HOA5) HOA7) HB
   replace HOA4 := eldR HOA4 (Kd.R_base ho0) hb
   replace HOA5 := eldR HOA5 (Kd.R_base ho0) hb
   replace HOA7 := eldR HOA7 (Kd.R_base ho0) hb
   replace BKA1 := bkb BKA1 hb
   replace BKA2 := bkb BKA2 hb
   replace BKA0 := bkb BKA0 hb
   replace HB := bst HB hb
   (try clear hb)
   (try clear hb2)
   (try clear hk)
   (try clear hi)
   (try clear ho0)
   obtain ⟨Ao87, co87, eo87⟩ := Kd.R_slice HOC3.out
   (first | subst eo87 | (injection eo87 with f1_ f2_ f3_; have f4_ := f1_.symm; have f5_ := f3_.symm; clear f1_ f2_ f3_; subst f4_; subst f5_))
   obtain ⟨Ao88, co88, eo88⟩ := Kd.R_slice HOA7.out
   (first | subst eo88 | (injection eo88 with f1_ f2_ f3_; have f4_ := f1_.symm; have f5_ := f3_.symm; clear f1_ f2_ f3_; subst f4_; subst f5_))
   refine hK.out _ _ ⟨bce BKA2 0 _, bce BKA2 1 _, bce BKA2 2 _⟩ (fun hHeld => ?_)
   clear hK K
   refine nm_ 52 ?_
   refine one_ (i := 6) (N := some 54) (bm 8 127) rfl rfl (one_of HT_.out (by kernel_rfl)) (by decide) (fun K hK => ?_)
   refine g_ Try.func94 #[.bool a1_0, .slice Ao87 tB7.length co87, .slice Ao88 tB1.length co88] ?_
   with_reducible refine (impl_lowest.calls k a1_0 _ _ tB7 _ _ tB1 tB3 tD2 tD3 _ ?side1 ?side2 ?side3 ?side4 A67.out).mono ?_
   (case side1 => exact crC (Kd.R_reads' HOC3.out).2.2)
   (case side2 => exact (Kd.R_reads' HOC3.out).2.1)
   (case side3 => exact crC (Kd.R_reads' HOA7.out).2.2)
   (case side4 => exact (Kd.R_reads' HOA7.out).2.1)
   rintro e w89 ⟨vF9, vG0, rfl, ho0, ho1, hb⟩
   refine ⟨_, rfl, ?_⟩
   have HOE3 := lwR (nwR (nwR (nwR (nwR ho0 HOA4) HOA5) HOA7) HOC3) HB
   have HOE4 := lwR (nwR (nwR (nwR (nwR ho1 HOA4) HOA5) HOA7) HOC3) HB
   replace HOA4 := tldR HOA4 hb (Kd.R_base ho0) (Kd.R_base ho1)
   replace HOA5 := tldR HOA5 hb (Kd.R_base ho0) (Kd.R_base ho1)
   replace HOA7 := tldR HOA7 hb (Kd.R_base ho0) (Kd.R_base ho1)
   replace HOC3 := tldR HOC3 hb (Kd.R_base ho0) (Kd.R_base ho1)
   replace BKA1 := bkb BKA1 hb
   replace BKA2 := bkb BKA2 hb
   replace BKA0 := bkb BKA0 hb
   replace HB := bst HB hb
   (try clear hb)
   (try clear hb2)
   (try clear hk)
   (try clear hi)
   (try clear ho0)
   (try clear ho1)
   obtain ⟨Ao91, co91, eo91⟩ := Kd.R_slice HOE3.out
   (first | subst eo91 | (injection eo91 with f1_ f2_ f3_; have f4_ := f1_.symm; have f5_ := f3_.symm; clear f1_ f2_ f3_; subst f4_; subst f5_))
   obtain ⟨Ao93, co93, eo93⟩ := Kd.R_slice HOE4.out
   (first | subst eo93 | (injection eo93 with f1_ f2_ f3_; have f4_ := f1_.symm; have f5_ := f3_.symm; clear f1_ f2_ f3_; subst f4_; subst f5_))
   refine hK.out _ _ ⟨bce BKA2 0 _, bce BKA2 1 _, bce BKA2 2 _⟩ (fun hHeld => ?_)
   clear hK K
   refine nm_ 54 ?_
   refine one_ (i := 7) (N := none) (bm 8 255) rfl rfl (one_of HT_.out (by kernel_rfl)) (by decide) (fun K hK => ?_)
   have hs90 : w89.cell? ⟨gbA0, 0, none⟩ = some (.bool false) := bce BKA0 0 _
   have hfs90 := blk_frozen BKA0.out 0
   have hns90_0 := NBA1_A0.out
   have hns90_1 := NBA2_A0.out
   have hms90_0 := NBA0_A1.out
   have hms90_1 := NBA0_A2.out
   have hs92 : w89.cell? ⟨gbA0, 1, none⟩ = some (.slice none 0 0) := bce BKA0 1 _
   have hfs92 := blk_frozen BKA0.out 1
   have hns92_0 := NBA1_A0.out
   have hns92_1 := NBA2_A0.out
   have hms92_0 := NBA0_A1.out
   have hms92_1 := NBA0_A2.out
   have hs94 : w89.cell? ⟨gbA0, 2, none⟩ = some (.slice none 0 0) := bce BKA0 2 _
   have hfs94 := blk_frozen BKA0.out 2
   have hns94_0 := NBA1_A0.out
   have hns94_1 := NBA2_A0.out
   have hms94_0 := NBA0_A1.out
   have hms94_1 := NBA0_A2.out
   refine skip_ (w1 := ?_) (by rfl) rfl ?_ ?_
   rotate_left
   ·
    go_simp
    rfl
   refine hK.out _ _ ⟨((cell_far (p := ⟨gbA0, _, none⟩) NBA2_A0.out _).trans (((cell_far (p := ⟨gbA0, _, none⟩) NBA2_A0.out _).trans (((cell_far (p := ⟨gbA0, _, none⟩) NBA2_A0.out _).trans (hHeld.1)))))), ((cell_far (p := ⟨gbA0, _, none⟩) NBA2_A0.out _).trans (((cell_far (p := ⟨gbA0, _, none⟩) NBA2_A0.out _).trans (((cell_far (p := ⟨gbA0, _, none⟩) NBA2_A0.out _).trans (hHeld.2.1)))))), ((cell_far (p := ⟨gbA0, _, none⟩) NBA2_A0.out _).trans (((cell_far (p := ⟨gbA0, _, none⟩) NBA2_A0.out _).trans (((cell_far (p := ⟨gbA0, _, none⟩) NBA2_A0.out _).trans (hHeld.2.2))))))⟩ (fun hHeld => ?_)
   clear hK K
   refine done_ (done_of HT_.out (by kernel_rfl)) ?_
   try go_wp2
   refine bodyPost_ret (results_cell_row rfl _ _ gbA0 24 #[.bool tB3, .slice Ao91 tD2.length co91, .slice Ao93 tD3.length co93] (0, 0) _ rfl (bp3 BKA0 _ _ _) Try.underlying24 rfl (by kernel_rfl)) rfl ?_
   exact ⟨_, _, er_, (crN HOE3 BKA0 fun _ hk => hk.1.1.1.1.1), (crN HOE4 BKA0 fun _ hk => hk.1.1.1.1.1), blw HB⟩

def impl_Rat_less.f (k : Nat) (a0_0 : Bool) (l0_1 : List Int) (l0_2 : List Int) (a1_0 : Bool) (l1_1 : List Int) (l1_2 : List Int) : Option (Bool × List Int × List Int) := (impl_Rat_neg.f a1_0 l1_1 l1_2).bind fun btC0 => ((impl_Rat_plus.f k a0_0 l0_1 l0_2 btC0.1 btC0.2.1 btC0.2.2).bind fun btB8 => (some (btB8.1, btB8.2.1, btB8.2.2)))
theorem impl_Rat_less.mono : ∀ a0 a1 a2 a3 a4 a5 k, LeO (impl_Rat_less.f k a0 a1 a2 a3 a4 a5) (impl_Rat_less.f (k + 1) a0 a1 a2 a3 a4 a5) := by
 intro a0 a1 a2 a3 a4 a5 k
 unfold impl_Rat_less.f
 repeat' first
   | (with_reducible exact impl_Rat_plus.mono _ _ _ _ _ _ _)
   | (with_reducible exact LeO.refl _)
   | (with_reducible exact LeO.none _)
   | (with_reducible refine LeO.ite ?_ ?_)
   | (with_reducible refine LeO.bind ?_ (fun _ => ?_))
   | exact impl_Rat_plus.mono _ _ _ _ _ _ _
   | exact LeO.none _
   | refine LeO.ite ?_ ?_
   | refine LeO.bind ?_ (fun _ => ?_)
set_option maxHeartbeats 8000000 in
set_option maxRecDepth 100000 in
theorem impl_Rat_less.calls (k : Nat) (a0_0 : Bool) (A0_1 : Option Addr) (c0_1 : Nat) (l0_1 : List Int) (A0_2 : Option Addr) (c0_2 : Nat) (l0_2 : List Int) (a1_0 : Bool) (A1_1 : Option Addr) (c1_1 : Nat) (l1_1 : List Int) (A1_2 : Option Addr) (c1_2 : Nat) (l1_2 : List Int) (r1 : Bool) (r2 : List Int) (r3 : List Int) (w : World) (hr0_1 : Kd.C (Kd.int .i64) w A0_1 l0_1.length l0_1) (hc0_1 : l0_1.length ≤ c0_1) (hr0_2 : Kd.C (Kd.int .i64) w A0_2 l0_2.length l0_2) (hc0_2 : l0_2.length ≤ c0_2) (hr1_1 : Kd.C (Kd.int .i64) w A1_1 l1_1.length l1_1) (hc1_1 : l1_1.length ≤ c1_1) (hr1_2 : Kd.C (Kd.int .i64) w A1_2 l1_2.length l1_2) (hc1_2 : l1_2.length ≤ c1_2) (h : impl_Rat_less.f k a0_0 l0_1 l0_2 a1_0 l1_1 l1_2 = some (r1, r2, r3)) :
  Calls Try.prog 87 #[.agg #[.bool a0_0, .slice A0_1 l0_1.length c0_1, .slice A0_2 l0_2.length c0_2], .agg #[.bool a1_0, .slice A1_1 l1_1.length c1_1, .slice A1_2 l1_2.length c1_2]] w fun e w' => ∃ v1_ v2_ : Value, e = .returned (.agg #[.bool r1, v1_, v2_]) ∧ Kd.R (Kd.int .i64) 3 w' w.heap.size (fun k_ => nO k_ v2_) v1_ r2 ∧ Kd.R (Kd.int .i64) 3 w' w.heap.size (fun k_ => nO k_ v1_) v2_ r3 ∧ Below w.heap.size w w' := by
 have hu24 := Try.underlying24
 have HR0_1 := Aside0.mk hr0_1
 have HC0_1 := Aside0.mk hc0_1
 clear hr0_1 hc0_1
 have HR0_2 := Aside0.mk hr0_2
 have HC0_2 := Aside0.mk hc0_2
 clear hr0_2 hc0_2
 have HR1_1 := Aside0.mk hr1_1
 have HC1_1 := Aside0.mk hc1_1
 clear hr1_1 hc1_1
 have HR1_2 := Aside0.mk hr1_2
 have HC1_2 := Aside0.mk hc1_2
 clear hr1_2 hc1_2
 have HB := Aside0.mk (Below.refl w.heap.size w)
 have H : ((impl_Rat_neg.f a1_0 l1_1 l1_2).bind fun btC0 => ((impl_Rat_plus.f k a0_0 l0_1 l0_2 btC0.1 btC0.2.1 btC0.2.2).bind fun btB8 => (some (btB8.1, btB8.2.1, btB8.2.2)))) = some (r1, r2, r3) := h
 clear h
 replace H := Option.bind_eq_some_iff.mp H
 obtain ⟨⟨tC0, tC6, tC7⟩, A30, H⟩ := H
 replace H : ((impl_Rat_plus.f k a0_0 l0_1 l0_2 tC0 tC6 tC7).bind fun btB8 => (some (btB8.1, btB8.2.1, btB8.2.2))) = some (r1, r2, r3) := H
 have A3 := Aside0.mk A30
 clear A30
 replace H := Option.bind_eq_some_iff.mp H
 obtain ⟨⟨tB8, tD4, tD5⟩, A40, H⟩ := H
 replace H : (some (tB8, tD4, tD5)) = some (r1, r2, r3) := H
 have A4 := Aside0.mk A40
 clear A40
 simp only [Option.some.injEq, Prod.mk.injEq] at H
 obtain ⟨rfl, rfl, rfl⟩ := H
 go_enter Try.func87, Try.ntmps87
 try go_wp2_with (first | ((with_reducible refine gate_dst (N := 2) rfl ?_); refine bx_ (N := 2) (cs := #[.bool a0_0, .slice A0_1 l0_1.length c0_1, .slice A0_2 l0_2.length c0_2]) (t := 24) ?_; intro gbA6 hg w5 hbox hb; have BKA6 := Aside0.mk (hbox); have GWA6 := geh hg HB; have GEA6 := geh hg HB; replace HB := bst HB hb; clear hb hbox hg) | ((with_reducible refine gate_dst (N := 3) rfl ?_); refine bx_ (N := 3) (cs := #[.bool a1_0, .slice A1_1 l1_1.length c1_1, .slice A1_2 l1_2.length c1_2]) (t := 24) ?_; intro gbA8 hg w6 hbox hb; have BKA8 := Aside0.mk (hbox); have GWA8 := geh hg HB; have GEA8 := geh hg HB; replace HB := bst HB hb; have NBA6_A8 := nlt hg BKA6; have NBA8_A6 := ngt hg BKA6; replace BKA6 := bkb BKA6 hb; clear hb hbox hg) | ((with_reducible refine gate_dst (N := 4) rfl ?_); refine bx_ (N := 4) (cs := #[.bool false, .slice none 0 0, .slice none 0 0]) (t := 24) ?_; intro gbA3 hg w7 hbox hb; have BKA3 := Aside0.mk (hbox); have GWA3 := geh hg HB; have GEA3 := geh hg HB; replace HB := bst HB hb; have NBA6_A3 := nlt hg BKA6; have NBA3_A6 := ngt hg BKA6; replace BKA6 := bkb BKA6 hb; have NBA8_A3 := nlt hg BKA8; have NBA3_A8 := ngt hg BKA8; replace BKA8 := bkb BKA8 hb; clear hb hbox hg))
 replace BKA6 := Aside0.mk (blk_drew BKA6.out)
 replace BKA8 := Aside0.mk (blk_drew BKA8.out)
 replace BKA3 := Aside0.mk (blk_drew BKA3.out)
 replace HB := Aside0.mk (below_drew1 HB.out)
 refine start_ (n := 5) (S := fun w' => w'.cell? ⟨gbA6, 0, none⟩ = some (.bool a0_0) ∧ w'.cell? ⟨gbA6, 1, none⟩ = some (.slice A0_1 l0_1.length c0_1) ∧ w'.cell? ⟨gbA6, 2, none⟩ = some (.slice A0_2 l0_2.length c0_2) ∧ w'.cell? ⟨gbA8, 0, none⟩ = some (.bool a1_0) ∧ w'.cell? ⟨gbA8, 1, none⟩ = some (.slice A1_1 l1_1.length c1_1) ∧ w'.cell? ⟨gbA8, 2, none⟩ = some (.slice A1_2 l1_2.length c1_2)) (ds := []) #[false, false, false, false, false] (by kernel_rfl) rfl rfl ⟨bce BKA6 0 _, bce BKA6 1 _, bce BKA6 2 _, bce BKA8 0 _, bce BKA8 1 _, bce BKA8 2 _⟩ (fun hHeld => ?_)
 generalize w7.drew = w8 at BKA6 BKA8 BKA3 HB hHeld ⊢
 refine take_ (i := 0) (N := some 5) (v := ?_) (a' := ?_) #[true, false, false, false, false] rfl rfl (by kernel_rfl) (fun _ _ _ h => h) (Or.inl ⟨by rfl, ?_⟩) hHeld ?_ ?_
 rotate_left
 ·
  rintro w' ⟨s0, s1, s2, s3, s4, s5⟩
  go_simp
  with_reducible rfl
 rotate_left
 ·
  simp only [Act.put, List.setIfInBounds_toArray, List.set_cons_zero, List.set_cons_succ, i64_w, i32_w]
  rfl
 refine take_ (i := 1) (N := some 6) (v := ?_) (a' := ?_) #[true, true, false, false, false] rfl rfl (by kernel_rfl) (fun _ _ _ h => h) (Or.inl ⟨by rfl, ?_⟩) hHeld ?_ ?_
 rotate_left
 ·
  rintro w' ⟨s0, s1, s2, s3, s4, s5⟩
  go_simp
  with_reducible rfl
 rotate_left
 ·
  simp only [Act.put, List.setIfInBounds_toArray, List.set_cons_zero, List.set_cons_succ, i64_w, i32_w]
  rfl
 refine one_ (i := 2) (N := some 7) #[true, true, true, false, false] rfl rfl (by kernel_rfl) (by decide) (fun K hK => ?_)
 refine g_ Try.func66 #[.agg #[.bool a1_0, .slice A1_1 l1_1.length c1_1, .slice A1_2 l1_2.length c1_2]] ?_
 with_reducible refine (impl_Rat_neg.calls a1_0 _ _ l1_1 _ _ l1_2 tC0 tC6 tC7 _ ?side1 ?side2 ?side3 ?side4 A3.out).mono ?_
 (case side1 => exact crC (Kd.C_below HR1_1.out HB.out))
 (case side2 => exact HC1_1.out)
 (case side3 => exact crC (Kd.C_below HR1_2.out HB.out))
 (case side4 => exact HC1_2.out)
 rintro e w9 ⟨vG1, vG2, rfl, ho0, ho1, hb⟩
 refine ⟨_, rfl, ?_⟩
 have HOC4 := lwR ho0 HB
 have HOC5 := lwR ho1 HB
 replace BKA6 := bkb BKA6 hb
 replace BKA8 := bkb BKA8 hb
 replace BKA3 := bkb BKA3 hb
 replace HB := bst HB hb
 (try clear hb)
 (try clear hb2)
 (try clear hk)
 (try clear hi)
 (try clear ho0)
 (try clear ho1)
 obtain ⟨Ao10, co10, eo10⟩ := Kd.R_slice HOC4.out
 (first | subst eo10 | (injection eo10 with f1_ f2_ f3_; have f4_ := f1_.symm; have f5_ := f3_.symm; clear f1_ f2_ f3_; subst f4_; subst f5_))
 obtain ⟨Ao11, co11, eo11⟩ := Kd.R_slice HOC5.out
 (first | subst eo11 | (injection eo11 with f1_ f2_ f3_; have f4_ := f1_.symm; have f5_ := f3_.symm; clear f1_ f2_ f3_; subst f4_; subst f5_))
 refine hK.out _ _ ⟨bce BKA6 0 _, bce BKA6 1 _, bce BKA6 2 _, bce BKA8 0 _, bce BKA8 1 _, bce BKA8 2 _⟩ (fun hHeld => ?_)
 clear hK K
 refine nm_ 7 ?_
 refine one_ (i := 3) (N := some 8) #[true, true, true, true, false] rfl rfl (by kernel_rfl) (by decide) (fun K hK => ?_)
 refine g_ Try.func85 #[.agg #[.bool a0_0, .slice A0_1 l0_1.length c0_1, .slice A0_2 l0_2.length c0_2], .agg #[.bool tC0, .slice Ao10 tC6.length co10, .slice Ao11 tC7.length co11]] ?_
 with_reducible refine (impl_Rat_plus.calls k a0_0 _ _ l0_1 _ _ l0_2 tC0 _ _ tC6 _ _ tC7 tB8 tD4 tD5 _ ?side1 ?side2 ?side3 ?side4 ?side5 ?side6 ?side7 ?side8 A4.out).mono ?_
 (case side1 => exact crC (Kd.C_below HR0_1.out HB.out))
 (case side2 => exact HC0_1.out)
 (case side3 => exact crC (Kd.C_below HR0_2.out HB.out))
 (case side4 => exact HC0_2.out)
 (case side5 => exact crC (Kd.R_reads' HOC4.out).2.2)
 (case side6 => exact (Kd.R_reads' HOC4.out).2.1)
 (case side7 => exact crC (Kd.R_reads' HOC5.out).2.2)
 (case side8 => exact (Kd.R_reads' HOC5.out).2.1)
 rintro e w12 ⟨vG3, vG4, rfl, ho0, ho1, hb⟩
 refine ⟨_, rfl, ?_⟩
 have HOE5 := lwR (nwR (nwR ho0 HOC4) HOC5) HB
 have HOE6 := lwR (nwR (nwR ho1 HOC4) HOC5) HB
 replace HOC4 := tldR HOC4 hb (Kd.R_base ho0) (Kd.R_base ho1)
 replace HOC5 := tldR HOC5 hb (Kd.R_base ho0) (Kd.R_base ho1)
 replace BKA6 := bkb BKA6 hb
 replace BKA8 := bkb BKA8 hb
 replace BKA3 := bkb BKA3 hb
 replace HB := bst HB hb
 (try clear hb)
 (try clear hb2)
 (try clear hk)
 (try clear hi)
 (try clear ho0)
 (try clear ho1)
 obtain ⟨Ao14, co14, eo14⟩ := Kd.R_slice HOE5.out
 (first | subst eo14 | (injection eo14 with f1_ f2_ f3_; have f4_ := f1_.symm; have f5_ := f3_.symm; clear f1_ f2_ f3_; subst f4_; subst f5_))
 obtain ⟨Ao16, co16, eo16⟩ := Kd.R_slice HOE6.out
 (first | subst eo16 | (injection eo16 with f1_ f2_ f3_; have f4_ := f1_.symm; have f5_ := f3_.symm; clear f1_ f2_ f3_; subst f4_; subst f5_))
 refine hK.out _ _ ⟨bce BKA6 0 _, bce BKA6 1 _, bce BKA6 2 _, bce BKA8 0 _, bce BKA8 1 _, bce BKA8 2 _⟩ (fun hHeld => ?_)
 clear hK K
 refine nm_ 8 ?_
 refine one_ (i := 4) (N := none) #[true, true, true, true, true] rfl rfl (by kernel_rfl) (by decide) (fun K hK => ?_)
 have hs13 : w12.cell? ⟨gbA3, 0, none⟩ = some (.bool false) := bce BKA3 0 _
 have hfs13 := blk_frozen BKA3.out 0
 have hns13_0 := NBA6_A3.out
 have hns13_1 := NBA8_A3.out
 have hms13_0 := NBA3_A6.out
 have hms13_1 := NBA3_A8.out
 have hs15 : w12.cell? ⟨gbA3, 1, none⟩ = some (.slice none 0 0) := bce BKA3 1 _
 have hfs15 := blk_frozen BKA3.out 1
 have hns15_0 := NBA6_A3.out
 have hns15_1 := NBA8_A3.out
 have hms15_0 := NBA3_A6.out
 have hms15_1 := NBA3_A8.out
 have hs17 : w12.cell? ⟨gbA3, 2, none⟩ = some (.slice none 0 0) := bce BKA3 2 _
 have hfs17 := blk_frozen BKA3.out 2
 have hns17_0 := NBA6_A3.out
 have hns17_1 := NBA8_A3.out
 have hms17_0 := NBA3_A6.out
 have hms17_1 := NBA3_A8.out
 refine skip_ (w1 := ?_) (by rfl) rfl ?_ ?_
 rotate_left
 ·
  go_simp
  rfl
 refine hK.out _ _ ⟨((cell_far (p := ⟨gbA3, _, none⟩) NBA6_A3.out _).trans (((cell_far (p := ⟨gbA3, _, none⟩) NBA6_A3.out _).trans (((cell_far (p := ⟨gbA3, _, none⟩) NBA6_A3.out _).trans (hHeld.1)))))), ((cell_far (p := ⟨gbA3, _, none⟩) NBA6_A3.out _).trans (((cell_far (p := ⟨gbA3, _, none⟩) NBA6_A3.out _).trans (((cell_far (p := ⟨gbA3, _, none⟩) NBA6_A3.out _).trans (hHeld.2.1)))))), ((cell_far (p := ⟨gbA3, _, none⟩) NBA6_A3.out _).trans (((cell_far (p := ⟨gbA3, _, none⟩) NBA6_A3.out _).trans (((cell_far (p := ⟨gbA3, _, none⟩) NBA6_A3.out _).trans (hHeld.2.2.1)))))), ((cell_far (p := ⟨gbA3, _, none⟩) NBA8_A3.out _).trans (((cell_far (p := ⟨gbA3, _, none⟩) NBA8_A3.out _).trans (((cell_far (p := ⟨gbA3, _, none⟩) NBA8_A3.out _).trans (hHeld.2.2.2.1)))))), ((cell_far (p := ⟨gbA3, _, none⟩) NBA8_A3.out _).trans (((cell_far (p := ⟨gbA3, _, none⟩) NBA8_A3.out _).trans (((cell_far (p := ⟨gbA3, _, none⟩) NBA8_A3.out _).trans (hHeld.2.2.2.2.1)))))), ((cell_far (p := ⟨gbA3, _, none⟩) NBA8_A3.out _).trans (((cell_far (p := ⟨gbA3, _, none⟩) NBA8_A3.out _).trans (((cell_far (p := ⟨gbA3, _, none⟩) NBA8_A3.out _).trans (hHeld.2.2.2.2.2))))))⟩ (fun hHeld => ?_)
 clear hK K
 refine done_ (by kernel_rfl) ?_
 try go_wp2
 refine bodyPost_ret (results_cell_row rfl _ _ gbA3 24 #[.bool tB8, .slice Ao14 tD4.length co14, .slice Ao16 tD5.length co16] (0, 0) _ rfl (bp3 BKA3 _ _ _) Try.underlying24 rfl (by kernel_rfl)) rfl ?_
 exact ⟨_, _, er_, (crN HOE5 BKA3 fun _ hk => hk.1.1.1), (crN HOE6 BKA3 fun _ hk => hk.1.1.1), blw HB⟩

end Go.Proofs.Ytacdaijalkkogaa.Q
