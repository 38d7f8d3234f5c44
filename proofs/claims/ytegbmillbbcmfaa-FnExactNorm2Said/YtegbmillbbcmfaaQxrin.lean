-- written by a program of this claim's session (myprint.py) out of the translation; Lean checks it.
import Derived.Test.YtegbmillbbcmfaaQx0
import Derived.Test.YtegbmillbbcmfaaWords
import Derived.Test.YtegbmillbbcmfaaQxcmp
import Derived.Test.YtegbmillbbcmfaaQxmul
import Derived.Test.YtegbmillbbcmfaaQxsub
import Derived.Test.YtegbmillbbcmfaaQxrim
import Derived.Test.YtegbmillbbcmfaaQxrmk
import Derived.Test.YtegbmillbbcmfaaQxadd
namespace Go.Proofs.Ytegbmillbbcmfaa.Q
open Go.RowKit Go.Proofs.YtegbmillbbcmfaaW.PrintWords Go.Proofs.YtegbmillbbcmfaaW.PrintLast Go.Proofs.YtegbmillbbcmfaaW.PrintMore
attribute [local go_sem] max2_int min2_int max_two min_two max_three min_three max_four min_four   -- for this text's walks alone
set_option linter.unusedVariables false
set_option linter.unusedSimpArgs false

def impl_Rat_plus.f (k : Nat) (a0_0 : Bool) (l0_1 : List Int) (l0_2 : List Int) (a1_0 : Bool) (l1_1 : List Int) (l1_2 : List Int) : Option (Bool × List Int × List Int) := (impl_natMul.f k l0_1 l1_2).bind fun tA7 => ((impl_natMul.f k l1_1 l0_2).bind fun tA6 => ((impl_natMul.f k l0_2 l1_2).bind fun tA8 => (if (a0_0 == a1_0) = true then ((impl_natAdd.f k tA7 tA6).bind fun tB5 => ((impl_lowest.f k a0_0 tB5 tA8).bind fun btB1 => (some (btB1.1, btB1.2.1, btB1.2.2)))) else ((impl_natCmp.f tA7 tA6).bind fun tB2 => (if tB2 ≥ 0 then ((impl_natSub.f k tA7 tA6).bind fun tB3 => ((impl_lowest.f k a0_0 tB3 tA8).bind fun btA9 => (some (btA9.1, btA9.2.1, btA9.2.2)))) else ((impl_natSub.f k tA6 tA7).bind fun tB4 => ((impl_lowest.f k a1_0 tB4 tA8).bind fun btB0 => (some (btB0.1, btB0.2.1, btB0.2.2)))))))))
def impl_Rat_plus.T1 : Bool × List (List Nat × List Nat) := (true, [([], []), ([0], [0]), ([], []), ([2], [2]), ([1, 3], [1, 3]), ([], []), ([5], [5]), ([], []), ([7], [7]), ([6, 8, 4], [6, 8]), ([4, 9, 0, 1, 2, 3, 4], [4]), ([9, 10, 0, 1, 2, 3, 4, 5, 6, 7, 8, 9, 10], [9])])
def impl_Rat_plus.B1 : List Nat := [0, 1, 0, 4, 15, 0, 32, 0, 128, 511, 1023, 2047]
theorem impl_Rat_plus.tab1 : rtab .any (opsOf Try.f59 1) = impl_Rat_plus.T1 := by kernel_rfl
theorem impl_Rat_plus.bits1 : waitsOk impl_Rat_plus.T1.2 impl_Rat_plus.B1 = true := by kernel_rfl
def impl_Rat_plus.T4 : Bool × List (List Nat × List Nat) := (true, [([], []), ([0], [0]), ([], []), ([], []), ([2, 3], [2, 3]), ([], []), ([1, 4, 5, 4], [1, 4, 5]), ([6, 6, 0, 1, 2, 3, 4, 5, 6], [6])])
def impl_Rat_plus.B4 : List Nat := [0, 1, 0, 0, 12, 0, 63, 127]
theorem impl_Rat_plus.tab4 : rtab .any (opsOf Try.f59 4) = impl_Rat_plus.T4 := by kernel_rfl
theorem impl_Rat_plus.bits4 : waitsOk impl_Rat_plus.T4.2 impl_Rat_plus.B4 = true := by kernel_rfl
def impl_Rat_plus.T6 : Bool × List (List Nat × List Nat) := (true, [([], []), ([0], [0]), ([], []), ([], []), ([2, 3], [2, 3]), ([], []), ([1, 4, 5, 4], [1, 4, 5]), ([6, 6, 0, 1, 2, 3, 4, 5, 6], [6])])
def impl_Rat_plus.B6 : List Nat := [0, 1, 0, 0, 12, 0, 63, 127]
theorem impl_Rat_plus.tab6 : rtab .any (opsOf Try.f59 6) = impl_Rat_plus.T6 := by kernel_rfl
theorem impl_Rat_plus.bits6 : waitsOk impl_Rat_plus.T6.2 impl_Rat_plus.B6 = true := by kernel_rfl
def impl_Rat_plus.T7 : Bool × List (List Nat × List Nat) := (true, [([], []), ([0], [0]), ([], []), ([], []), ([2, 3], [2, 3]), ([], []), ([1, 4, 5, 4], [1, 4, 5]), ([6, 6, 0, 1, 2, 3, 4, 5, 6], [6])])
def impl_Rat_plus.B7 : List Nat := [0, 1, 0, 0, 12, 0, 63, 127]
theorem impl_Rat_plus.tab7 : rtab .any (opsOf Try.f59 7) = impl_Rat_plus.T7 := by kernel_rfl
theorem impl_Rat_plus.bits7 : waitsOk impl_Rat_plus.T7.2 impl_Rat_plus.B7 = true := by kernel_rfl
set_option maxHeartbeats 8000000 in
set_option maxRecDepth 100000 in
theorem impl_Rat_plus.calls (k : Nat) (a0_0 : Bool) (A0_1 : Option Addr) (c0_1 : Nat) (l0_1 : List Int) (A0_2 : Option Addr) (c0_2 : Nat) (l0_2 : List Int) (a1_0 : Bool) (A1_1 : Option Addr) (c1_1 : Nat) (l1_1 : List Int) (A1_2 : Option Addr) (c1_2 : Nat) (l1_2 : List Int) (r1 : Bool) (r2 : List Int) (r3 : List Int) (w : World) (hr0_1 : Kd.C (Kd.int .i64) w A0_1 l0_1.length l0_1) (hc0_1 : l0_1.length ≤ c0_1) (hr0_2 : Kd.C (Kd.int .i64) w A0_2 l0_2.length l0_2) (hc0_2 : l0_2.length ≤ c0_2) (hr1_1 : Kd.C (Kd.int .i64) w A1_1 l1_1.length l1_1) (hc1_1 : l1_1.length ≤ c1_1) (hr1_2 : Kd.C (Kd.int .i64) w A1_2 l1_2.length l1_2) (hc1_2 : l1_2.length ≤ c1_2) (h : impl_Rat_plus.f k a0_0 l0_1 l0_2 a1_0 l1_1 l1_2 = some (r1, r2, r3)) :
  Calls Try.prog 59 #[.agg #[.bool a0_0, .slice A0_1 l0_1.length c0_1, .slice A0_2 l0_2.length c0_2], .agg #[.bool a1_0, .slice A1_1 l1_1.length c1_1, .slice A1_2 l1_2.length c1_2]] w fun e w' => ∃ v1_ v2_ : Value, e = .returned (.agg #[.bool r1, v1_, v2_]) ∧ Kd.R (Kd.int .i64) 3 w' w.heap.size (fun k_ => nO k_ v2_) v1_ r2 ∧ Kd.R (Kd.int .i64) 3 w' w.heap.size (fun k_ => nO k_ v1_) v2_ r3 ∧ Below w.heap.size w w' := by
 have hu32 := Try.underlying32
 have HR0_1 := Aside0.mk hr0_1
 have HC0_1 := Aside0.mk hc0_1
 clear hr0_1 hc0_1
 have HR0_2 := Aside0.mk hr0_2
 have HC0_2 := Aside0.mk hc0_2
 clear hr0_2 hc0_2
 have HR1_1 := Aside0.mk hr1_1
 have HC1_1 := Aside0.mk hc1_1
 clear hr1_1 hc1_1
 have HR1_2 := Aside0.mk hr1_2
 have HC1_2 := Aside0.mk hc1_2
 clear hr1_2 hc1_2
 have HB := Aside0.mk (Below.refl w.heap.size w)
 have H : ((impl_natMul.f k l0_1 l1_2).bind fun tA7 => ((impl_natMul.f k l1_1 l0_2).bind fun tA6 => ((impl_natMul.f k l0_2 l1_2).bind fun tA8 => (if (a0_0 == a1_0) = true then ((impl_natAdd.f k tA7 tA6).bind fun tB5 => ((impl_lowest.f k a0_0 tB5 tA8).bind fun btB1 => (some (btB1.1, btB1.2.1, btB1.2.2)))) else ((impl_natCmp.f tA7 tA6).bind fun tB2 => (if tB2 ≥ 0 then ((impl_natSub.f k tA7 tA6).bind fun tB3 => ((impl_lowest.f k a0_0 tB3 tA8).bind fun btA9 => (some (btA9.1, btA9.2.1, btA9.2.2)))) else ((impl_natSub.f k tA6 tA7).bind fun tB4 => ((impl_lowest.f k a1_0 tB4 tA8).bind fun btB0 => (some (btB0.1, btB0.2.1, btB0.2.2)))))))))) = some (r1, r2, r3) := h
 clear h
 replace H := Option.bind_eq_some_iff.mp H
 obtain ⟨tA7, A30, H⟩ := H
 replace H : ((impl_natMul.f k l1_1 l0_2).bind fun tA6 => ((impl_natMul.f k l0_2 l1_2).bind fun tA8 => (if (a0_0 == a1_0) = true then ((impl_natAdd.f k tA7 tA6).bind fun tB5 => ((impl_lowest.f k a0_0 tB5 tA8).bind fun btB1 => (some (btB1.1, btB1.2.1, btB1.2.2)))) else ((impl_natCmp.f tA7 tA6).bind fun tB2 => (if tB2 ≥ 0 then ((impl_natSub.f k tA7 tA6).bind fun tB3 => ((impl_lowest.f k a0_0 tB3 tA8).bind fun btA9 => (some (btA9.1, btA9.2.1, btA9.2.2)))) else ((impl_natSub.f k tA6 tA7).bind fun tB4 => ((impl_lowest.f k a1_0 tB4 tA8).bind fun btB0 => (some (btB0.1, btB0.2.1, btB0.2.2))))))))) = some (r1, r2, r3) := H
 have A3 := Aside0.mk A30
 clear A30
 replace H := Option.bind_eq_some_iff.mp H
 obtain ⟨tA6, A40, H⟩ := H
 replace H : ((impl_natMul.f k l0_2 l1_2).bind fun tA8 => (if (a0_0 == a1_0) = true then ((impl_natAdd.f k tA7 tA6).bind fun tB5 => ((impl_lowest.f k a0_0 tB5 tA8).bind fun btB1 => (some (btB1.1, btB1.2.1, btB1.2.2)))) else ((impl_natCmp.f tA7 tA6).bind fun tB2 => (if tB2 ≥ 0 then ((impl_natSub.f k tA7 tA6).bind fun tB3 => ((impl_lowest.f k a0_0 tB3 tA8).bind fun btA9 => (some (btA9.1, btA9.2.1, btA9.2.2)))) else ((impl_natSub.f k tA6 tA7).bind fun tB4 => ((impl_lowest.f k a1_0 tB4 tA8).bind fun btB0 => (some (btB0.1, btB0.2.1, btB0.2.2)))))))) = some (r1, r2, r3) := H
 have A4 := Aside0.mk A40
 clear A40
 replace H := Option.bind_eq_some_iff.mp H
 obtain ⟨tA8, A50, H⟩ := H
 replace H : (if (a0_0 == a1_0) = true then ((impl_natAdd.f k tA7 tA6).bind fun tB5 => ((impl_lowest.f k a0_0 tB5 tA8).bind fun btB1 => (some (btB1.1, btB1.2.1, btB1.2.2)))) else ((impl_natCmp.f tA7 tA6).bind fun tB2 => (if tB2 ≥ 0 then ((impl_natSub.f k tA7 tA6).bind fun tB3 => ((impl_lowest.f k a0_0 tB3 tA8).bind fun btA9 => (some (btA9.1, btA9.2.1, btA9.2.2)))) else ((impl_natSub.f k tA6 tA7).bind fun tB4 => ((impl_lowest.f k a1_0 tB4 tA8).bind fun btB0 => (some (btB0.1, btB0.2.1, btB0.2.2))))))) = some (r1, r2, r3) := H
 have A5 := Aside0.mk A50
 clear A50
 by_cases c6 : (a0_0 == a1_0) = true
 ·
  rw [if_pos c6] at H
  have c6b0 : (a0_0 == a1_0) = true := c6
  (try (have c6b1 : decide (a0_0 = a1_0) = true := by simpa using c6))
  (try (have c6b2 : (a0_0 == a1_0) = true := by simpa using c6))
  clear c6
  replace H := Option.bind_eq_some_iff.mp H
  obtain ⟨tB5, A70, H⟩ := H
  replace H : ((impl_lowest.f k a0_0 tB5 tA8).bind fun btB1 => (some (btB1.1, btB1.2.1, btB1.2.2))) = some (r1, r2, r3) := H
  have A7 := Aside0.mk A70
  clear A70
  replace H := Option.bind_eq_some_iff.mp H
  obtain ⟨⟨tB1, tB9, tC0⟩, A80, H⟩ := H
  replace H : (some (tB1, tB9, tC0)) = some (r1, r2, r3) := H
  have A8 := Aside0.mk A80
  clear A80
  simp only [Option.some.injEq, Prod.mk.injEq] at H
  obtain ⟨rfl, rfl, rfl⟩ := H
  go_enter Try.func59, Try.ntmps59
  try go_wp2_with (first | ((with_reducible refine gate_dst (N := 2) rfl ?_); refine bx_ (N := 2) (cs := #[.bool a0_0, .slice A0_1 l0_1.length c0_1, .slice A0_2 l0_2.length c0_2]) (t := 32) ?_; intro gbA1 hg w9 hbox hb; have BKA1 := Aside0.mk (hbox); have GWA1 := geh hg HB; have GEA1 := geh hg HB; replace HB := bst HB hb; clear hb hbox hg) | ((with_reducible refine gate_dst (N := 3) rfl ?_); refine bx_ (N := 3) (cs := #[.bool a1_0, .slice A1_1 l1_1.length c1_1, .slice A1_2 l1_2.length c1_2]) (t := 32) ?_; intro gbA2 hg w10 hbox hb; have BKA2 := Aside0.mk (hbox); have GWA2 := geh hg HB; have GEA2 := geh hg HB; replace HB := bst HB hb; have NBA1_A2 := nlt hg BKA1; have NBA2_A1 := ngt hg BKA1; replace BKA1 := bkb BKA1 hb; clear hb hbox hg) | ((with_reducible refine gate_dst (N := 4) rfl ?_); refine bx_ (N := 4) (cs := #[.bool false, .slice none 0 0, .slice none 0 0]) (t := 32) ?_; intro gbA0 hg w11 hbox hb; have BKA0 := Aside0.mk (hbox); have GWA0 := geh hg HB; have GEA0 := geh hg HB; replace HB := bst HB hb; have NBA1_A0 := nlt hg BKA1; have NBA0_A1 := ngt hg BKA1; replace BKA1 := bkb BKA1 hb; have NBA2_A0 := nlt hg BKA2; have NBA0_A2 := ngt hg BKA2; replace BKA2 := bkb BKA2 hb; clear hb hbox hg))
  replace BKA1 := Aside0.mk (blk_drew BKA1.out)
  replace BKA2 := Aside0.mk (blk_drew BKA2.out)
  replace BKA0 := Aside0.mk (blk_drew BKA0.out)
  replace HB := Aside0.mk (below_drew1 HB.out)
  refine start_ (n := 12) (S := fun w' => w'.cell? ⟨gbA1, 0, none⟩ = some (.bool a0_0) ∧ w'.cell? ⟨gbA1, 1, none⟩ = some (.slice A0_1 l0_1.length c0_1) ∧ w'.cell? ⟨gbA1, 2, none⟩ = some (.slice A0_2 l0_2.length c0_2) ∧ w'.cell? ⟨gbA2, 0, none⟩ = some (.bool a1_0) ∧ w'.cell? ⟨gbA2, 1, none⟩ = some (.slice A1_1 l1_1.length c1_1) ∧ w'.cell? ⟨gbA2, 2, none⟩ = some (.slice A1_2 l1_2.length c1_2)) (ds := []) (bm 12 0) (by kernel_rfl) rfl rfl ⟨bce BKA1 0 _, bce BKA1 1 _, bce BKA1 2 _, bce BKA2 0 _, bce BKA2 1 _, bce BKA2 2 _⟩ (fun hHeld => ?_); refine with_tabW impl_Rat_plus.tab1 impl_Rat_plus.bits1 (fun HT_ HW_ => ?_)
  generalize w11.drew = w12 at BKA1 BKA2 BKA0 HB hHeld ⊢
  refine pu_ 0 (some 8) (bm 12 1) HT_.out ?_
  refine pu_ 2 (some 10) (bm 12 5) HT_.out ?_
  refine pu_ 5 (some 13) (bm 12 37) HT_.out ?_
  refine pu_ 7 (some 15) (bm 12 165) HT_.out ?_
  refine tk_ 1 (some 9) (bm 12 167) HT_.out HW_.out hHeld ?_
  refine tk_ 3 (some 11) (bm 12 175) HT_.out HW_.out hHeld ?_
  refine tk_ 6 (some 14) (bm 12 239) HT_.out HW_.out hHeld ?_
  refine tk_ 8 (some 16) (bm 12 495) HT_.out HW_.out hHeld ?_
  refine one_ (i := 4) (N := some 12) (bm 12 511) rfl rfl (one_of HT_.out (by kernel_rfl)) (by decide) (fun K hK => ?_)
  refine g_ Try.func72 #[.slice A0_1 l0_1.length c0_1, .slice A1_2 l1_2.length c1_2] ?_
  with_reducible refine (impl_natMul.calls k _ _ l0_1 _ _ l1_2 tA7 _ ?side1 ?side2 ?side3 ?side4 A3.out).mono ?_
  (case side1 => exact crC (Kd.C_below HR0_1.out HB.out))
  (case side2 => exact HC0_1.out)
  (case side3 => exact crC (Kd.C_below HR1_2.out HB.out))
  (case side4 => exact HC1_2.out)
  rintro e w13 ⟨vC5, rfl, ho0, hb⟩
  refine ⟨_, rfl, ?_⟩
  have HOA3 := lwR ho0 HB
  replace BKA1 := bkb BKA1 hb
  replace BKA2 := bkb BKA2 hb
  replace BKA0 := bkb BKA0 hb
  replace HB := bst HB hb
  (try clear hb)
  (try clear hb2)
  (try clear hk)
  (try clear hi)
  (try clear ho0)
  refine hK.out _ _ ⟨bce BKA1 0 _, bce BKA1 1 _, bce BKA1 2 _, bce BKA2 0 _, bce BKA2 1 _, bce BKA2 2 _⟩ (fun hHeld => ?_)
  clear hK K
  refine nm_ 12 ?_
  refine one_ (i := 9) (N := some 17) (bm 12 1023) rfl rfl (one_of HT_.out (by kernel_rfl)) (by decide) (fun K hK => ?_)
  refine g_ Try.func72 #[.slice A1_1 l1_1.length c1_1, .slice A0_2 l0_2.length c0_2] ?_
  with_reducible refine (impl_natMul.calls k _ _ l1_1 _ _ l0_2 tA6 _ ?side1 ?side2 ?side3 ?side4 A4.out).mono ?_
  (case side1 => exact crC (Kd.C_below HR1_1.out HB.out))
  (case side2 => exact HC1_1.out)
  (case side3 => exact crC (Kd.C_below HR0_2.out HB.out))
  (case side4 => exact HC0_2.out)
  rintro e w14 ⟨vC6, rfl, ho0, hb⟩
  refine ⟨_, rfl, ?_⟩
  have HOA4 := lwR (nwR ho0 HOA3) HB
  replace HOA3 := eldR HOA3 (Kd.R_base ho0) hb
  replace BKA1 := bkb BKA1 hb
  replace BKA2 := bkb BKA2 hb
  replace BKA0 := bkb BKA0 hb
  replace HB := bst HB hb
  (try clear hb)
  (try clear hb2)
  (try clear hk)
  (try clear hi)
  (try clear ho0)
  refine hK.out _ _ ⟨bce BKA1 0 _, bce BKA1 1 _, bce BKA1 2 _, bce BKA2 0 _, bce BKA2 1 _, bce BKA2 2 _⟩ (fun hHeld => ?_)
  clear hK K
  refine nm_ 17 ?_
  refine pu_ 10 (some 5) (bm 12 2047) HT_.out ?_
  refine pu_ 11 (some 6) (bm 12 4095) HT_.out ?_
  refine done_ (done_of HT_.out (by kernel_rfl)) ?_
  have hnb15 := NBA1_A2.out
  have hnc15 := NBA2_A1.out
  have hnb16 := NBA1_A0.out
  have hnc16 := NBA0_A1.out
  obtain ⟨hcz17_0, hcz17_1, hcz17_2, hfz17_0, hfz17_1, hfz17_2⟩ := bc3 BKA1
  have hnb18 := NBA2_A0.out
  have hnc18 := NBA0_A2.out
  obtain ⟨hcz19_0, hcz19_1, hcz19_2, hfz19_0, hfz19_1, hfz19_2⟩ := bc3 BKA2
  try go_wp2_with (first | ((with_reducible refine gate_callee (f := 72) rfl ?_); refine gL_ (some 22) Try.func72 #[.slice A0_2 l0_2.length c0_2, .slice A1_2 l1_2.length c1_2] ?_; (with_reducible refine (impl_natMul.calls k _ _ l0_2 _ _ l1_2 tA8 _ ?side1 ?side2 ?side3 ?side4 A5.out).mono ?_); (case side1 => exact crC (Kd.C_below HR0_2.out HB.out)); (case side2 => exact HC0_2.out); (case side3 => exact crC (Kd.C_below HR1_2.out HB.out)); (case side4 => exact HC1_2.out); rintro e w20 ⟨vC7, rfl, ho0, hb⟩; refine ⟨_, rfl, ?_⟩; have HOA5 := lwR (nwR (nwR ho0 HOA3) HOA4) HB; replace HOA3 := eldR HOA3 (Kd.R_base ho0) hb; replace HOA4 := eldR HOA4 (Kd.R_base ho0) hb; replace BKA1 := bkb BKA1 hb; replace BKA2 := bkb BKA2 hb; replace BKA0 := bkb BKA0 hb; replace HB := bst HB hb; (try clear hb); (try clear hb2); (try clear hk); (try clear hi); (try clear ho0); obtain ⟨hcz21_0, hcz21_1, hcz21_2, hfz21_0, hfz21_1, hfz21_2⟩ := bc3 BKA1; obtain ⟨hcz22_0, hcz22_1, hcz22_2, hfz22_0, hfz22_1, hfz22_2⟩ := bc3 BKA2))
  replace HOA3 := Aside0.mk (Kd.R_drew HOA3.out)
  replace HOA4 := Aside0.mk (Kd.R_drew HOA4.out)
  replace HOA5 := Aside0.mk (Kd.R_drew HOA5.out)
  replace BKA1 := Aside0.mk (blk_drew BKA1.out)
  replace BKA2 := Aside0.mk (blk_drew BKA2.out)
  replace BKA0 := Aside0.mk (blk_drew BKA0.out)
  replace HB := Aside0.mk (below_drew1 HB.out)
  obtain ⟨Ao24, co24, eo24⟩ := Kd.R_slice HOA3.out
  (first | subst eo24 | (injection eo24 with f1_ f2_ f3_; have f4_ := f1_.symm; have f5_ := f3_.symm; clear f1_ f2_ f3_; subst f4_; subst f5_))
  obtain ⟨Ao25, co25, eo25⟩ := Kd.R_slice HOA4.out
  (first | subst eo25 | (injection eo25 with f1_ f2_ f3_; have f4_ := f1_.symm; have f5_ := f3_.symm; clear f1_ f2_ f3_; subst f4_; subst f5_))
  refine start_ (n := 8) (S := fun w' => w'.cell? ⟨gbA1, 0, none⟩ = some (.bool a0_0) ∧ w'.cell? ⟨gbA1, 1, none⟩ = some (.slice A0_1 l0_1.length c0_1) ∧ w'.cell? ⟨gbA1, 2, none⟩ = some (.slice A0_2 l0_2.length c0_2)) (ds := []) (bm 8 0) (by kernel_rfl) rfl rfl ⟨bce BKA1 0 _, bce BKA1 1 _, bce BKA1 2 _⟩ (fun hHeld => ?_); refine with_tabW impl_Rat_plus.tab4 impl_Rat_plus.bits4 (fun HT_ HW_ => ?_)
  generalize w20.drew = w23 at HOA3 HOA4 HOA5 BKA1 BKA2 BKA0 HB hHeld ⊢
  refine pu_ 0 (some 29) (bm 8 1) HT_.out ?_
  refine pu_ 2 (some 31) (bm 8 5) HT_.out ?_
  refine pu_ 3 (some 32) (bm 8 13) HT_.out ?_
  refine pu_ 5 (some 34) (bm 8 45) HT_.out ?_
  refine tk_ 1 (some 30) (bm 8 47) HT_.out HW_.out hHeld ?_
  refine one_ (i := 4) (N := some 33) (bm 8 63) rfl rfl (one_of HT_.out (by kernel_rfl)) (by decide) (fun K hK => ?_)
  refine g_ Try.func81 #[.slice Ao24 tA7.length co24, .slice Ao25 tA6.length co25] ?_
  with_reducible refine (impl_natAdd.calls k _ _ tA7 _ _ tA6 tB5 _ ?side1 ?side2 ?side3 ?side4 A7.out).mono ?_
  (case side1 => exact crC (Kd.R_reads' HOA3.out).2.2)
  (case side2 => exact (Kd.R_reads' HOA3.out).2.1)
  (case side3 => exact crC (Kd.R_reads' HOA4.out).2.2)
  (case side4 => exact (Kd.R_reads' HOA4.out).2.1)
  rintro e w26 ⟨vD9, rfl, ho0, hb⟩
  refine ⟨_, rfl, ?_⟩
  have HOB6 := lwR (nwR (nwR (nwR ho0 HOA3) HOA4) HOA5) HB
  replace HOA3 := eldR HOA3 (Kd.R_base ho0) hb
  replace HOA4 := eldR HOA4 (Kd.R_base ho0) hb
  replace HOA5 := eldR HOA5 (Kd.R_base ho0) hb
  replace BKA1 := bkb BKA1 hb
  replace BKA2 := bkb BKA2 hb
  replace BKA0 := bkb BKA0 hb
  replace HB := bst HB hb
  (try clear hb)
  (try clear hb2)
  (try clear hk)
  (try clear hi)
  (try clear ho0)
  obtain ⟨Ao27, co27, eo27⟩ := Kd.R_slice HOB6.out
  (first | subst eo27 | (injection eo27 with f1_ f2_ f3_; have f4_ := f1_.symm; have f5_ := f3_.symm; clear f1_ f2_ f3_; subst f4_; subst f5_))
  obtain ⟨Ao28, co28, eo28⟩ := Kd.R_slice HOA5.out
  (first | subst eo28 | (injection eo28 with f1_ f2_ f3_; have f4_ := f1_.symm; have f5_ := f3_.symm; clear f1_ f2_ f3_; subst f4_; subst f5_))
  refine hK.out _ _ ⟨bce BKA1 0 _, bce BKA1 1 _, bce BKA1 2 _⟩ (fun hHeld => ?_)
  clear hK K
  refine nm_ 33 ?_
  refine one_ (i := 6) (N := some 35) (bm 8 127) rfl rfl (one_of HT_.out (by kernel_rfl)) (by decide) (fun K hK => ?_)
  refine g_ Try.func80 #[.bool a0_0, .slice Ao27 tB5.length co27, .slice Ao28 tA8.length co28] ?_
  with_reducible refine (impl_lowest.calls k a0_0 _ _ tB5 _ _ tA8 tB1 tB9 tC0 _ ?side1 ?side2 ?side3 ?side4 A8.out).mono ?_
  (case side1 => exact crC (Kd.R_reads' HOB6.out).2.2)
  (case side2 => exact (Kd.R_reads' HOB6.out).2.1)
  (case side3 => exact crC (Kd.R_reads' HOA5.out).2.2)
  (case side4 => exact (Kd.R_reads' HOA5.out).2.1)
  rintro e w29 ⟨vE0, vE1, rfl, ho0, ho1, hb⟩
  refine ⟨_, rfl, ?_⟩
  have HOC8 := lwR (nwR (nwR (nwR (nwR ho0 HOA3) HOA4) HOA5) HOB6) HB
  have HOC9 := lwR (nwR (nwR (nwR (nwR ho1 HOA3) HOA4) HOA5) HOB6) HB
  replace HOA3 := tldR HOA3 hb (Kd.R_base ho0) (Kd.R_base ho1)
  replace HOA4 := tldR HOA4 hb (Kd.R_base ho0) (Kd.R_base ho1)
  replace HOA5 := tldR HOA5 hb (Kd.R_base ho0) (Kd.R_base ho1)
  replace HOB6 := tldR HOB6 hb (Kd.R_base ho0) (Kd.R_base ho1)
  replace BKA1 := bkb BKA1 hb
  replace BKA2 := bkb BKA2 hb
  replace BKA0 := bkb BKA0 hb
  replace HB := bst HB hb
  (try clear hb)
  (try clear hb2)
  (try clear hk)
  (try clear hi)
  (try clear ho0)
  (try clear ho1)
  obtain ⟨Ao31, co31, eo31⟩ := Kd.R_slice HOC8.out
  (first | subst eo31 | (injection eo31 with f1_ f2_ f3_; have f4_ := f1_.symm; have f5_ := f3_.symm; clear f1_ f2_ f3_; subst f4_; subst f5_))
  obtain ⟨Ao33, co33, eo33⟩ := Kd.R_slice HOC9.out
  (first | subst eo33 | (injection eo33 with f1_ f2_ f3_; have f4_ := f1_.symm; have f5_ := f3_.symm; clear f1_ f2_ f3_; subst f4_; subst f5_))
  refine hK.out _ _ ⟨bce BKA1 0 _, bce BKA1 1 _, bce BKA1 2 _⟩ (fun hHeld => ?_)
  clear hK K
  refine nm_ 35 ?_
  refine one_ (i := 7) (N := none) (bm 8 255) rfl rfl (one_of HT_.out (by kernel_rfl)) (by decide) (fun K hK => ?_)
  have hs30 : w29.cell? ⟨gbA0, 0, none⟩ = some (.bool false) := bce BKA0 0 _
  have hfs30 := blk_frozen BKA0.out 0
  have hns30_0 := NBA1_A0.out
  have hns30_1 := NBA2_A0.out
  have hms30_0 := NBA0_A1.out
  have hms30_1 := NBA0_A2.out
  have hs32 : w29.cell? ⟨gbA0, 1, none⟩ = some (.slice none 0 0) := bce BKA0 1 _
  have hfs32 := blk_frozen BKA0.out 1
  have hns32_0 := NBA1_A0.out
  have hns32_1 := NBA2_A0.out
  have hms32_0 := NBA0_A1.out
  have hms32_1 := NBA0_A2.out
  have hs34 : w29.cell? ⟨gbA0, 2, none⟩ = some (.slice none 0 0) := bce BKA0 2 _
  have hfs34 := blk_frozen BKA0.out 2
  have hns34_0 := NBA1_A0.out
  have hns34_1 := NBA2_A0.out
  have hms34_0 := NBA0_A1.out
  have hms34_1 := NBA0_A2.out
  refine skip_ (w1 := ?_) (by rfl) rfl ?_ ?_
  rotate_left
  ·
   go_simp
   rfl
  refine hK.out _ _ ⟨((cell_far (p := ⟨gbA0, _, none⟩) NBA1_A0.out _).trans (((cell_far (p := ⟨gbA0, _, none⟩) NBA1_A0.out _).trans (((cell_far (p := ⟨gbA0, _, none⟩) NBA1_A0.out _).trans (hHeld.1)))))), ((cell_far (p := ⟨gbA0, _, none⟩) NBA1_A0.out _).trans (((cell_far (p := ⟨gbA0, _, none⟩) NBA1_A0.out _).trans (((cell_far (p := ⟨gbA0, _, none⟩) NBA1_A0.out _).trans (hHeld.2.1)))))), ((cell_far (p := ⟨gbA0, _, none⟩) NBA1_A0.out _).trans (((cell_far (p := ⟨gbA0, _, none⟩) NBA1_A0.out _).trans (((cell_far (p := ⟨gbA0, _, none⟩) NBA1_A0.out _).trans (hHeld.2.2))))))⟩ (fun hHeld => ?_)
  clear hK K
  refine done_ (done_of HT_.out (by kernel_rfl)) ?_
  try go_wp2
  refine bodyPost_ret (results_cell_row rfl _ _ gbA0 32 #[.bool tB1, .slice Ao31 tB9.length co31, .slice Ao33 tC0.length co33] (0, 0) _ rfl (bp3 BKA0 _ _ _) Try.underlying32 rfl (by kernel_rfl)) rfl ?_
  exact ⟨_, _, er_, (crN HOC8 BKA0 fun _ hk => hk.1.1.1.1.1), (crN HOC9 BKA0 fun _ hk => hk.1.1.1.1.1), blw HB⟩
 ·
  rw [if_neg c6] at H
  have c6b0 : (a0_0 == a1_0) = false := by simpa using c6
  (try (have c6b1 : decide (a0_0 = a1_0) = false := by simpa using c6))
  (try (have c6b2 : (a0_0 == a1_0) = false := by simpa using c6))
  (try (have c6b3 : ¬ (a0_0 = a1_0) := by simpa using c6))
  clear c6
  replace H := Option.bind_eq_some_iff.mp H
  obtain ⟨tB2, AD0, H⟩ := H
  replace H : (if tB2 ≥ 0 then ((impl_natSub.f k tA7 tA6).bind fun tB3 => ((impl_lowest.f k a0_0 tB3 tA8).bind fun btA9 => (some (btA9.1, btA9.2.1, btA9.2.2)))) else ((impl_natSub.f k tA6 tA7).bind fun tB4 => ((impl_lowest.f k a1_0 tB4 tA8).bind fun btB0 => (some (btB0.1, btB0.2.1, btB0.2.2))))) = some (r1, r2, r3) := H
  have A35 := Aside0.mk AD0
  clear AD0
  by_cases c36 : tB2 ≥ 0
  ·
   rw [if_pos c36] at H
   have c36b0 : decide (0 ≤ tB2) = true := decide_eq_true c36
   clear c36
   replace H := Option.bind_eq_some_iff.mp H
   obtain ⟨tB3, AD1, H⟩ := H
   replace H : ((impl_lowest.f k a0_0 tB3 tA8).bind fun btA9 => (some (btA9.1, btA9.2.1, btA9.2.2))) = some (r1, r2, r3) := H
   have A37 := Aside0.mk AD1
   clear AD1
   replace H := Option.bind_eq_some_iff.mp H
   obtain ⟨⟨tA9, tC1, tC2⟩, AD2, H⟩ := H
   replace H : (some (tA9, tC1, tC2)) = some (r1, r2, r3) := H
   have A38 := Aside0.mk AD2
   clear AD2
   simp only [Option.some.injEq, Prod.mk.injEq] at H
   obtain ⟨rfl, rfl, rfl⟩ := H
   go_enter Try.func59, Try.ntmps59
   try go_wp2_with (first | ((with_reducible refine gate_dst (N := 2) rfl ?_); refine bx_ (N := 2) (cs := #[.bool a0_0, .slice A0_1 l0_1.length c0_1, .slice A0_2 l0_2.length c0_2]) (t := 32) ?_; intro gbA1 hg w39 hbox hb; have BKA1 := Aside0.mk (hbox); have GWA1 := geh hg HB; have GEA1 := geh hg HB; replace HB := bst HB hb; clear hb hbox hg) | ((with_reducible refine gate_dst (N := 3) rfl ?_); refine bx_ (N := 3) (cs := #[.bool a1_0, .slice A1_1 l1_1.length c1_1, .slice A1_2 l1_2.length c1_2]) (t := 32) ?_; intro gbA2 hg w40 hbox hb; have BKA2 := Aside0.mk (hbox); have GWA2 := geh hg HB; have GEA2 := geh hg HB; replace HB := bst HB hb; have NBA1_A2 := nlt hg BKA1; have NBA2_A1 := ngt hg BKA1; replace BKA1 := bkb BKA1 hb; clear hb hbox hg) | ((with_reducible refine gate_dst (N := 4) rfl ?_); refine bx_ (N := 4) (cs := #[.bool false, .slice none 0 0, .slice none 0 0]) (t := 32) ?_; intro gbA0 hg w41 hbox hb; have BKA0 := Aside0.mk (hbox); have GWA0 := geh hg HB; have GEA0 := geh hg HB; replace HB := bst HB hb; have NBA1_A0 := nlt hg BKA1; have NBA0_A1 := ngt hg BKA1; replace BKA1 := bkb BKA1 hb; have NBA2_A0 := nlt hg BKA2; have NBA0_A2 := ngt hg BKA2; replace BKA2 := bkb BKA2 hb; clear hb hbox hg))
   replace BKA1 := Aside0.mk (blk_drew BKA1.out)
   replace BKA2 := Aside0.mk (blk_drew BKA2.out)
   replace BKA0 := Aside0.mk (blk_drew BKA0.out)
   replace HB := Aside0.mk (below_drew1 HB.out)
   refine start_ (n := 12) (S := fun w' => w'.cell? ⟨gbA1, 0, none⟩ = some (.bool a0_0) ∧ w'.cell? ⟨gbA1, 1, none⟩ = some (.slice A0_1 l0_1.length c0_1) ∧ w'.cell? ⟨gbA1, 2, none⟩ = some (.slice A0_2 l0_2.length c0_2) ∧ w'.cell? ⟨gbA2, 0, none⟩ = some (.bool a1_0) ∧ w'.cell? ⟨gbA2, 1, none⟩ = some (.slice A1_1 l1_1.length c1_1) ∧ w'.cell? ⟨gbA2, 2, none⟩ = some (.slice A1_2 l1_2.length c1_2)) (ds := []) (bm 12 0) (by kernel_rfl) rfl rfl ⟨bce BKA1 0 _, bce BKA1 1 _, bce BKA1 2 _, bce BKA2 0 _, bce BKA2 1 _, bce BKA2 2 _⟩ (fun hHeld => ?_); refine with_tabW impl_Rat_plus.tab1 impl_Rat_plus.bits1 (fun HT_ HW_ => ?_)
   generalize w41.drew = w42 at BKA1 BKA2 BKA0 HB hHeld ⊢
   refine pu_ 0 (some 8) (bm 12 1) HT_.out ?_
   refine pu_ 2 (some 10) (bm 12 5) HT_.out ?_
   refine pu_ 5 (some 13) (bm 12 37) HT_.out ?_
   refine pu_ 7 (some 15) (bm 12 165) HT_.out ?_
   refine tk_ 1 (some 9) (bm 12 167) HT_.out HW_.out hHeld ?_
   refine tk_ 3 (some 11) (bm 12 175) HT_.out HW_.out hHeld ?_
   refine tk_ 6 (some 14) (bm 12 239) HT_.out HW_.out hHeld ?_
   refine tk_ 8 (some 16) (bm 12 495) HT_.out HW_.out hHeld ?_
   refine one_ (i := 4) (N := some 12) (bm 12 511) rfl rfl (one_of HT_.out (by kernel_rfl)) (by decide) (fun K hK => ?_)
   refine g_ Try.func72 #[.slice A0_1 l0_1.length c0_1, .slice A1_2 l1_2.length c1_2] ?_
   with_reducible refine (impl_natMul.calls k _ _ l0_1 _ _ l1_2 tA7 _ ?side1 ?side2 ?side3 ?side4 A3.out).mono ?_
   (case side1 => exact crC (Kd.C_below HR0_1.out HB.out))
   (case side2 => exact HC0_1.out)
   (case side3 => exact crC (Kd.C_below HR1_2.out HB.out))
   (case side4 => exact HC1_2.out)
   rintro e w43 ⟨vC5, rfl, ho0, hb⟩
   refine ⟨_, rfl, ?_⟩
   have HOA3 := lwR ho0 HB
   replace BKA1 := bkb BKA1 hb
   replace BKA2 := bkb BKA2 hb
   replace BKA0 := bkb BKA0 hb
   replace HB := bst HB hb
   (try clear hb)
   (try clear hb2)
   (try clear hk)
   (try clear hi)
   (try clear ho0)
   refine hK.out _ _ ⟨bce BKA1 0 _, bce BKA1 1 _, bce BKA1 2 _, bce BKA2 0 _, bce BKA2 1 _, bce BKA2 2 _⟩ (fun hHeld => ?_)
   clear hK K
   refine nm_ 12 ?_
   refine one_ (i := 9) (N := some 17) (bm 12 1023) rfl rfl (one_of HT_.out (by kernel_rfl)) (by decide) (fun K hK => ?_)
   refine g_ Try.func72 #[.slice A1_1 l1_1.length c1_1, .slice A0_2 l0_2.length c0_2] ?_
   with_reducible refine (impl_natMul.calls k _ _ l1_1 _ _ l0_2 tA6 _ ?side1 ?side2 ?side3 ?side4 A4.out).mono ?_
   (case side1 => exact crC (Kd.C_below HR1_1.out HB.out))
   (case side2 => exact HC1_1.out)
   (case side3 => exact crC (Kd.C_below HR0_2.out HB.out))
   (case side4 => exact HC0_2.out)
   rintro e w44 ⟨vC6, rfl, ho0, hb⟩
   refine ⟨_, rfl, ?_⟩
   have HOA4 := lwR (nwR ho0 HOA3) HB
   replace HOA3 := eldR HOA3 (Kd.R_base ho0) hb
   replace BKA1 := bkb BKA1 hb
   replace BKA2 := bkb BKA2 hb
   replace BKA0 := bkb BKA0 hb
   replace HB := bst HB hb
   (try clear hb)
   (try clear hb2)
   (try clear hk)
   (try clear hi)
   (try clear ho0)
   refine hK.out _ _ ⟨bce BKA1 0 _, bce BKA1 1 _, bce BKA1 2 _, bce BKA2 0 _, bce BKA2 1 _, bce BKA2 2 _⟩ (fun hHeld => ?_)
   clear hK K
   refine nm_ 17 ?_
   refine pu_ 10 (some 5) (bm 12 2047) HT_.out ?_
   refine pu_ 11 (some 6) (bm 12 4095) HT_.out ?_
   refine done_ (done_of HT_.out (by kernel_rfl)) ?_
   have hnb45 := NBA1_A2.out
   have hnc45 := NBA2_A1.out
   have hnb46 := NBA1_A0.out
   have hnc46 := NBA0_A1.out
   obtain ⟨hcz47_0, hcz47_1, hcz47_2, hfz47_0, hfz47_1, hfz47_2⟩ := bc3 BKA1
   have hnb48 := NBA2_A0.out
   have hnc48 := NBA0_A2.out
   obtain ⟨hcz49_0, hcz49_1, hcz49_2, hfz49_0, hfz49_1, hfz49_2⟩ := bc3 BKA2
   try go_wp2_with (first | ((with_reducible refine gate_callee (f := 72) rfl ?_); refine gL_ (some 22) Try.func72 #[.slice A0_2 l0_2.length c0_2, .slice A1_2 l1_2.length c1_2] ?_; (with_reducible refine (impl_natMul.calls k _ _ l0_2 _ _ l1_2 tA8 _ ?side1 ?side2 ?side3 ?side4 A5.out).mono ?_); (case side1 => exact crC (Kd.C_below HR0_2.out HB.out)); (case side2 => exact HC0_2.out); (case side3 => exact crC (Kd.C_below HR1_2.out HB.out)); (case side4 => exact HC1_2.out); rintro e w50 ⟨vC7, rfl, ho0, hb⟩; refine ⟨_, rfl, ?_⟩; have HOA5 := lwR (nwR (nwR ho0 HOA3) HOA4) HB; replace HOA3 := eldR HOA3 (Kd.R_base ho0) hb; replace HOA4 := eldR HOA4 (Kd.R_base ho0) hb; replace BKA1 := bkb BKA1 hb; replace BKA2 := bkb BKA2 hb; replace BKA0 := bkb BKA0 hb; replace HB := bst HB hb; (try clear hb); (try clear hb2); (try clear hk); (try clear hi); (try clear ho0); obtain ⟨hcz51_0, hcz51_1, hcz51_2, hfz51_0, hfz51_1, hfz51_2⟩ := bc3 BKA1; obtain ⟨hcz52_0, hcz52_1, hcz52_2, hfz52_0, hfz52_1, hfz52_2⟩ := bc3 BKA2; obtain ⟨Ao53, co53, eo53⟩ := Kd.R_slice HOA3.out; subst eo53; obtain ⟨Ao54, co54, eo54⟩ := Kd.R_slice HOA4.out; subst eo54) | ((with_reducible refine gate_callee (f := 66) rfl ?_); refine gL_ (some 39) Try.func66 #[.slice Ao53 tA7.length co53, .slice Ao54 tA6.length co54] ?_; (with_reducible refine (impl_natCmp.calls _ _ tA7 _ _ tA6 tB2 _ ?side1 ?side2 ?side3 ?side4 A35.out).mono ?_); (case side1 => exact crC (Kd.R_reads' HOA3.out).2.2); (case side2 => exact (Kd.R_reads' HOA3.out).2.1); (case side3 => exact crC (Kd.R_reads' HOA4.out).2.2); (case side4 => exact (Kd.R_reads' HOA4.out).2.1); rintro e w55 ⟨rfl, hb⟩; refine ⟨_, rfl, ?_⟩; replace HOA3 := rblR HOA3 hb; replace HOA4 := rblR HOA4 hb; replace HOA5 := rblR HOA5 hb; replace BKA1 := bkb BKA1 hb; replace BKA2 := bkb BKA2 hb; replace BKA0 := bkb BKA0 hb; replace HB := bst HB hb; (try clear hb); (try clear hb2); (try clear hk); (try clear hi)))
   replace HOA3 := Aside0.mk (Kd.R_drew HOA3.out)
   replace HOA4 := Aside0.mk (Kd.R_drew HOA4.out)
   replace HOA5 := Aside0.mk (Kd.R_drew HOA5.out)
   replace BKA1 := Aside0.mk (blk_drew BKA1.out)
   replace BKA2 := Aside0.mk (blk_drew BKA2.out)
   replace BKA0 := Aside0.mk (blk_drew BKA0.out)
   replace HB := Aside0.mk (below_drew1 HB.out)
   refine start_ (n := 8) (S := fun w' => w'.cell? ⟨gbA1, 0, none⟩ = some (.bool a0_0) ∧ w'.cell? ⟨gbA1, 1, none⟩ = some (.slice A0_1 l0_1.length c0_1) ∧ w'.cell? ⟨gbA1, 2, none⟩ = some (.slice A0_2 l0_2.length c0_2)) (ds := []) (bm 8 0) (by kernel_rfl) rfl rfl ⟨bce BKA1 0 _, bce BKA1 1 _, bce BKA1 2 _⟩ (fun hHeld => ?_); refine with_tabW impl_Rat_plus.tab6 impl_Rat_plus.bits6 (fun HT_ HW_ => ?_)
   generalize w55.drew = w56 at HOA3 HOA4 HOA5 BKA1 BKA2 BKA0 HB hHeld ⊢
   refine pu_ 0 (some 41) (bm 8 1) HT_.out ?_
   refine pu_ 2 (some 43) (bm 8 5) HT_.out ?_
   refine pu_ 3 (some 44) (bm 8 13) HT_.out ?_
   refine pu_ 5 (some 46) (bm 8 45) HT_.out ?_
   refine tk_ 1 (some 42) (bm 8 47) HT_.out HW_.out hHeld ?_
   refine one_ (i := 4) (N := some 45) (bm 8 63) rfl rfl (one_of HT_.out (by kernel_rfl)) (by decide) (fun K hK => ?_)
   refine g_ Try.func82 #[.slice Ao53 tA7.length co53, .slice Ao54 tA6.length co54] ?_
   with_reducible refine (impl_natSub.calls k _ _ tA7 _ _ tA6 tB3 _ ?side1 ?side2 ?side3 ?side4 A37.out).mono ?_
   (case side1 => exact crC (Kd.R_reads' HOA3.out).2.2)
   (case side2 => exact (Kd.R_reads' HOA3.out).2.1)
   (case side3 => exact crC (Kd.R_reads' HOA4.out).2.2)
   (case side4 => exact (Kd.R_reads' HOA4.out).2.1)
   rintro e w57 ⟨vE2, rfl, ho0, hb⟩
   refine ⟨_, rfl, ?_⟩
   have HOB7 := lwR (nwR (nwR (nwR ho0 HOA3) HOA4) HOA5) HB
   replace HOA3 := eldR HOA3 (Kd.R_base ho0) hb
   replace HOA4 := eldR HOA4 (Kd.R_base ho0) hb
   replace HOA5 := eldR HOA5 (Kd.R_base ho0) hb
   replace BKA1 := bkb BKA1 hb
   replace BKA2 := bkb BKA2 hb
   replace BKA0 := bkb BKA0 hb
   replace HB := bst HB hb
   (try clear hb)
   (try clear hb2)
   (try clear hk)
   (try clear hi)
   (try clear ho0)
   obtain ⟨Ao58, co58, eo58⟩ := Kd.R_slice HOB7.out
   (first | subst eo58 | (injection eo58 with f1_ f2_ f3_; have f4_ := f1_.symm; have f5_ := f3_.symm; clear f1_ f2_ f3_; subst f4_; subst f5_))
   obtain ⟨Ao59, co59, eo59⟩ := Kd.R_slice HOA5.out
   (first | subst eo59 | (injection eo59 with f1_ f2_ f3_; have f4_ := f1_.symm; have f5_ := f3_.symm; clear f1_ f2_ f3_; subst f4_; subst f5_))
   refine hK.out _ _ ⟨bce BKA1 0 _, bce BKA1 1 _, bce BKA1 2 _⟩ (fun hHeld => ?_)
   clear hK K
   refine nm_ 45 ?_
   refine one_ (i := 6) (N := some 47) (bm 8 127) rfl rfl (one_of HT_.out (by kernel_rfl)) (by decide) (fun K hK => ?_)
   refine g_ Try.func80 #[.bool a0_0, .slice Ao58 tB3.length co58, .slice Ao59 tA8.length co59] ?_
   with_reducible refine (impl_lowest.calls k a0_0 _ _ tB3 _ _ tA8 tA9 tC1 tC2 _ ?side1 ?side2 ?side3 ?side4 A38.out).mono ?_
   (case side1 => exact crC (Kd.R_reads' HOB7.out).2.2)
   (case side2 => exact (Kd.R_reads' HOB7.out).2.1)
   (case side3 => exact crC (Kd.R_reads' HOA5.out).2.2)
   (case side4 => exact (Kd.R_reads' HOA5.out).2.1)
   rintro e w60 ⟨vE3, vE4, rfl, ho0, ho1, hb⟩
   refine ⟨_, rfl, ?_⟩
   have HOD3 := lwR (nwR (nwR (nwR (nwR ho0 HOA3) HOA4) HOA5) HOB7) HB
   have HOD4 := lwR (nwR (nwR (nwR (nwR ho1 HOA3) HOA4) HOA5) HOB7) HB
   replace HOA3 := tldR HOA3 hb (Kd.R_base ho0) (Kd.R_base ho1)
   replace HOA4 := tldR HOA4 hb (Kd.R_base ho0) (Kd.R_base ho1)
   replace HOA5 := tldR HOA5 hb (Kd.R_base ho0) (Kd.R_base ho1)
   replace HOB7 := tldR HOB7 hb (Kd.R_base ho0) (Kd.R_base ho1)
   replace BKA1 := bkb BKA1 hb
   replace BKA2 := bkb BKA2 hb
   replace BKA0 := bkb BKA0 hb
   replace HB := bst HB hb
   (try clear hb)
   (try clear hb2)
   (try clear hk)
   (try clear hi)
   (try clear ho0)
   (try clear ho1)
   obtain ⟨Ao62, co62, eo62⟩ := Kd.R_slice HOD3.out
   (first | subst eo62 | (injection eo62 with f1_ f2_ f3_; have f4_ := f1_.symm; have f5_ := f3_.symm; clear f1_ f2_ f3_; subst f4_; subst f5_))
   obtain ⟨Ao64, co64, eo64⟩ := Kd.R_slice HOD4.out
   (first | subst eo64 | (injection eo64 with f1_ f2_ f3_; have f4_ := f1_.symm; have f5_ := f3_.symm; clear f1_ f2_ f3_; subst f4_; subst f5_))
   refine hK.out _ _ ⟨bce BKA1 0 _, bce BKA1 1 _, bce BKA1 2 _⟩ (fun hHeld => ?_)
   clear hK K
   refine nm_ 47 ?_
   refine one_ (i := 7) (N := none) (bm 8 255) rfl rfl (one_of HT_.out (by kernel_rfl)) (by decide) (fun K hK => ?_)
   have hs61 : w60.cell? ⟨gbA0, 0, none⟩ = some (.bool false) := bce BKA0 0 _
   have hfs61 := blk_frozen BKA0.out 0
   have hns61_0 := NBA1_A0.out
   have hns61_1 := NBA2_A0.out
   have hms61_0 := NBA0_A1.out
   have hms61_1 := NBA0_A2.out
   have hs63 : w60.cell? ⟨gbA0, 1, none⟩ = some (.slice none 0 0) := bce BKA0 1 _
   have hfs63 := blk_frozen BKA0.out 1
   have hns63_0 := NBA1_A0.out
   have hns63_1 := NBA2_A0.out
   have hms63_0 := NBA0_A1.out
   have hms63_1 := NBA0_A2.out
   have hs65 : w60.cell? ⟨gbA0, 2, none⟩ = some (.slice none 0 0) := bce BKA0 2 _
   have hfs65 := blk_frozen BKA0.out 2
   have hns65_0 := NBA1_A0.out
   have hns65_1 := NBA2_A0.out
   have hms65_0 := NBA0_A1.out
   have hms65_1 := NBA0_A2.out
   refine skip_ (w1 := ?_) (by rfl) rfl ?_ ?_
   rotate_left
   ·
    go_simp
    rfl
   refine hK.out _ _ ⟨((cell_far (p := ⟨gbA0, _, none⟩) NBA1_A0.out _).trans (((cell_far (p := ⟨gbA0, _, none⟩) NBA1_A0.out _).trans (((cell_far (p := ⟨gbA0, _, none⟩) NBA1_A0.out _).trans (hHeld.1)))))), ((cell_far (p := ⟨gbA0, _, none⟩) NBA1_A0.out _).trans (((cell_far (p := ⟨gbA0, _, none⟩) NBA1_A0.out _).trans (((cell_far (p := ⟨gbA0, _, none⟩) NBA1_A0.out _).trans (hHeld.2.1)))))), ((cell_far (p := ⟨gbA0, _, none⟩) NBA1_A0.out _).trans (((cell_far (p := ⟨gbA0, _, none⟩) NBA1_A0.out _).trans (((cell_far (p := ⟨gbA0, _, none⟩) NBA1_A0.out _).trans (hHeld.2.2))))))⟩ (fun hHeld => ?_)
   clear hK K
   refine done_ (done_of HT_.out (by kernel_rfl)) ?_
   try go_wp2
   refine bodyPost_ret (results_cell_row rfl _ _ gbA0 32 #[.bool tA9, .slice Ao62 tC1.length co62, .slice Ao64 tC2.length co64] (0, 0) _ rfl (bp3 BKA0 _ _ _) Try.underlying32 rfl (by kernel_rfl)) rfl ?_
   exact ⟨_, _, er_, (crN HOD3 BKA0 fun _ hk => hk.1.1.1.1.1), (crN HOD4 BKA0 fun _ hk => hk.1.1.1.1.1), blw HB⟩
  ·
   rw [if_neg c36] at H
   have c36b0 : decide (0 ≤ tB2) = false := decide_eq_false c36
   clear c36
   replace H := Option.bind_eq_some_iff.mp H
   obtain ⟨tB4, AD5, H⟩ := H
   replace H : ((impl_lowest.f k a1_0 tB4 tA8).bind fun btB0 => (some (btB0.1, btB0.2.1, btB0.2.2))) = some (r1, r2, r3) := H
   have A66 := Aside0.mk AD5
   clear AD5
   replace H := Option.bind_eq_some_iff.mp H
   obtain ⟨⟨tB0, tC3, tC4⟩, AD6, H⟩ := H
   replace H : (some (tB0, tC3, tC4)) = some (r1, r2, r3) := H
   have A67 := Aside0.mk AD6
   clear AD6
   simp only [Option.some.injEq, Prod.mk.injEq] at H
   obtain ⟨rfl, rfl, rfl⟩ := H
   go_enter Try.func59, Try.ntmps59
   try go_wp2_with (first | ((with_reducible refine gate_dst (N := 2) rfl ?_); refine bx_ (N := 2) (cs := #[.bool a0_0, .slice A0_1 l0_1.length c0_1, .slice A0_2 l0_2.length c0_2]) (t := 32) ?_; intro gbA1 hg w68 hbox hb; have BKA1 := Aside0.mk (hbox); have GWA1 := geh hg HB; have GEA1 := geh hg HB; replace HB := bst HB hb; clear hb hbox hg) | ((with_reducible refine gate_dst (N := 3) rfl ?_); refine bx_ (N := 3) (cs := #[.bool a1_0, .slice A1_1 l1_1.length c1_1, .slice A1_2 l1_2.length c1_2]) (t := 32) ?_; intro gbA2 hg w69 hbox hb; have BKA2 := Aside0.mk (hbox); have GWA2 := geh hg HB; have GEA2 := geh hg HB; replace HB := bst HB hb; have NBA1_A2 := nlt hg BKA1; have NBA2_A1 := ngt hg BKA1; replace BKA1 := bkb BKA1 hb; clear hb hbox hg) | ((with_reducible refine gate_dst (N := 4) rfl ?_); refine bx_ (N := 4) (cs := #[.bool false, .slice none 0 0, .slice none 0 0]) (t := 32) ?_; intro gbA0 hg w70 hbox hb; have BKA0 := Aside0.mk (hbox); have GWA0 := geh hg HB; have GEA0 := geh hg HB; replace HB := bst HB hb; have NBA1_A0 := nlt hg BKA1; have NBA0_A1 := ngt hg BKA1; replace BKA1 := bkb BKA1 hb; have NBA2_A0 := nlt hg BKA2; have NBA0_A2 := ngt hg BKA2; replace BKA2 := bkb BKA2 hb; clear hb hbox hg))
   replace BKA1 := Aside0.mk (blk_drew BKA1.out)
   replace BKA2 := Aside0.mk (blk_drew BKA2.out)
   replace BKA0 := Aside0.mk (blk_drew BKA0.out)
   replace HB := Aside0.mk (below_drew1 HB.out)
   refine start_ (n := 12) (S := fun w' => w'.cell? ⟨gbA1, 0, none⟩ = some (.bool a0_0) ∧ w'.cell? ⟨gbA1, 1, none⟩ = some (.slice A0_1 l0_1.length c0_1) ∧ w'.cell? ⟨gbA1, 2, none⟩ = some (.slice A0_2 l0_2.length c0_2) ∧ w'.cell? ⟨gbA2, 0, none⟩ = some (.bool a1_0) ∧ w'.cell? ⟨gbA2, 1, none⟩ = some (.slice A1_1 l1_1.length c1_1) ∧ w'.cell? ⟨gbA2, 2, none⟩ = some (.slice A1_2 l1_2.length c1_2)) (ds := []) (bm 12 0) (by kernel_rfl) rfl rfl ⟨bce BKA1 0 _, bce BKA1 1 _, bce BKA1 2 _, bce BKA2 0 _, bce BKA2 1 _, bce BKA2 2 _⟩ (fun hHeld => ?_); refine with_tabW impl_Rat_plus.tab1 impl_Rat_plus.bits1 (fun HT_ HW_ => ?_)
   generalize w70.drew = w71 at BKA1 BKA2 BKA0 HB hHeld ⊢
   refine pu_ 0 (some 8) (bm 12 1) HT_.out ?_
   refine pu_ 2 (some 10) (bm 12 5) HT_.out ?_
   refine pu_ 5 (some 13) (bm 12 37) HT_.out ?_
   refine pu_ 7 (some 15) (bm 12 165) HT_.out ?_
   refine tk_ 1 (some 9) (bm 12 167) HT_.out HW_.out hHeld ?_
   refine tk_ 3 (some 11) (bm 12 175) HT_.out HW_.out hHeld ?_
   refine tk_ 6 (some 14) (bm 12 239) HT_.out HW_.out hHeld ?_
   refine tk_ 8 (some 16) (bm 12 495) HT_.out HW_.out hHeld ?_
   refine one_ (i := 4) (N := some 12) (bm 12 511) rfl rfl (one_of HT_.out (by kernel_rfl)) (by decide) (fun K hK => ?_)
   refine g_ Try.func72 #[.slice A0_1 l0_1.length c0_1, .slice A1_2 l1_2.length c1_2] ?_
   with_reducible refine (impl_natMul.calls k _ _ l0_1 _ _ l1_2 tA7 _ ?side1 ?side2 ?side3 ?side4 A3.out).mono ?_
   (case side1 => exact crC (Kd.C_below HR0_1.out HB.out))
   (case side2 => exact HC0_1.out)
   (case side3 => exact crC (Kd.C_below HR1_2.out HB.out))
   (case side4 => exact HC1_2.out)
   rintro e w72 ⟨vC5, rfl, ho0, hb⟩
   refine ⟨_, rfl, ?_⟩
   have HOA3 := lwR ho0 HB
   replace BKA1 := bkb BKA1 hb
   replace BKA2 := bkb BKA2 hb
   replace BKA0 := bkb BKA0 hb
   replace HB := bst HB hb
   (try clear hb)
   (try clear hb2)
   (try clear hk)
   (try clear hi)
   (try clear ho0)
   refine hK.out _ _ ⟨bce BKA1 0 _, bce BKA1 1 _, bce BKA1 2 _, bce BKA2 0 _, bce BKA2 1 _, bce BKA2 2 _⟩ (fun hHeld => ?_)
   clear hK K
   refine nm_ 12 ?_
   refine one_ (i := 9) (N := some 17) (bm 12 1023) rfl rfl (one_of HT_.out (by kernel_rfl)) (by decide) (fun K hK => ?_)
   refine g_ Try.func72 #[.slice A1_1 l1_1.length c1_1, .slice A0_2 l0_2.length c0_2] ?_
   with_reducible refine (impl_natMul.calls k _ _ l1_1 _ _ l0_2 tA6 _ ?side1 ?side2 ?side3 ?side4 A4.out).mono ?_
   (case side1 => exact crC (Kd.C_below HR1_1.out HB.out))
   (case side2 => exact HC1_1.out)
   (case side3 => exact crC (Kd.C_below HR0_2.out HB.out))
   (case side4 => exact HC0_2.out)
   rintro e w73 ⟨vC6, rfl, ho0, hb⟩
   refine ⟨_, rfl, ?_⟩
   have HOA4 := lwR (nwR ho0 HOA3) HB
   replace HOA3 := eldR HOA3 (Kd.R_base ho0) hb
   replace BKA1 := bkb BKA1 hb
   replace BKA2 := bkb BKA2 hb
   replace BKA0 := bkb BKA0 hb
   replace HB := bst HB hb
   (try clear hb)
   (try clear hb2)
   (try clear hk)
   (try clear hi)
   (try clear ho0)
   refine hK.out _ _ ⟨bce BKA1 0 _, bce BKA1 1 _, bce BKA1 2 _, bce BKA2 0 _, bce BKA2 1 _, bce BKA2 2 _⟩ (fun hHeld => ?_)
   clear hK K
   refine nm_ 17 ?_
   refine pu_ 10 (some 5) (bm 12 2047) HT_.out ?_
   refine pu_ 11 (some 6) (bm 12 4095) HT_.out ?_
   refine done_ (done_of HT_.out (by kernel_rfl)) ?_
   have hnb74 := NBA1_A2.out
   have hnc74 := NBA2_A1.out
   have hnb75 := NBA1_A0.out
   have hnc75 := NBA0_A1.out
   obtain ⟨hcz76_0, hcz76_1, hcz76_2, hfz76_0, hfz76_1, hfz76_2⟩ := bc3 BKA1
   have hnb77 := NBA2_A0.out
   have hnc77 := NBA0_A2.out
   obtain ⟨hcz78_0, hcz78_1, hcz78_2, hfz78_0, hfz78_1, hfz78_2⟩ := bc3 BKA2
   try go_wp2_with (first | ((with_reducible refine gate_callee (f := 72) rfl ?_); refine gL_ (some 22) Try.func72 #[.slice A0_2 l0_2.length c0_2, .slice A1_2 l1_2.length c1_2] ?_; (with_reducible refine (impl_natMul.calls k _ _ l0_2 _ _ l1_2 tA8 _ ?side1 ?side2 ?side3 ?side4 A5.out).mono ?_); (case side1 => exact crC (Kd.C_below HR0_2.out HB.out)); (case side2 => exact HC0_2.out); (case side3 => exact crC (Kd.C_below HR1_2.out HB.out)); (case side4 => exact HC1_2.out); rintro e w79 ⟨vC7, rfl, ho0, hb⟩; refine ⟨_, rfl, ?_⟩; have HOA5 := lwR (nwR (nwR ho0 HOA3) HOA4) HB; replace HOA3 := eldR HOA3 (Kd.R_base ho0) hb; replace HOA4 := eldR HOA4 (Kd.R_base ho0) hb; replace BKA1 := bkb BKA1 hb; replace BKA2 := bkb BKA2 hb; replace BKA0 := bkb BKA0 hb; replace HB := bst HB hb; (try clear hb); (try clear hb2); (try clear hk); (try clear hi); (try clear ho0); obtain ⟨hcz80_0, hcz80_1, hcz80_2, hfz80_0, hfz80_1, hfz80_2⟩ := bc3 BKA1; obtain ⟨hcz81_0, hcz81_1, hcz81_2, hfz81_0, hfz81_1, hfz81_2⟩ := bc3 BKA2; obtain ⟨Ao82, co82, eo82⟩ := Kd.R_slice HOA3.out; subst eo82; obtain ⟨Ao83, co83, eo83⟩ := Kd.R_slice HOA4.out; subst eo83) | ((with_reducible refine gate_callee (f := 66) rfl ?_); refine gL_ (some 39) Try.func66 #[.slice Ao82 tA7.length co82, .slice Ao83 tA6.length co83] ?_; (with_reducible refine (impl_natCmp.calls _ _ tA7 _ _ tA6 tB2 _ ?side1 ?side2 ?side3 ?side4 A35.out).mono ?_); (case side1 => exact crC (Kd.R_reads' HOA3.out).2.2); (case side2 => exact (Kd.R_reads' HOA3.out).2.1); (case side3 => exact crC (Kd.R_reads' HOA4.out).2.2); (case side4 => exact (Kd.R_reads' HOA4.out).2.1); rintro e w84 ⟨rfl, hb⟩; refine ⟨_, rfl, ?_⟩; replace HOA3 := rblR HOA3 hb; replace HOA4 := rblR HOA4 hb; replace HOA5 := rblR HOA5 hb; replace BKA1 := bkb BKA1 hb; replace BKA2 := bkb BKA2 hb; replace BKA0 := bkb BKA0 hb; replace HB := bst HB hb; (try clear hb); (try clear hb2); (try clear hk); (try clear hi)))
   replace HOA3 := Aside0.mk (Kd.R_drew HOA3.out)
   replace HOA4 := Aside0.mk (Kd.R_drew HOA4.out)
   replace HOA5 := Aside0.mk (Kd.R_drew HOA5.out)
   replace BKA1 := Aside0.mk (blk_drew BKA1.out)
   replace BKA2 := Aside0.mk (blk_drew BKA2.out)
   replace BKA0 := Aside0.mk (blk_drew BKA0.out)
   replace HB := Aside0.mk (below_drew1 HB.out)
   refine start_ (n := 8) (S := fun w' => w'.cell? ⟨gbA2, 0, none⟩ = some (.bool a1_0) ∧ w'.cell? ⟨gbA2, 1, none⟩ = some (.slice A1_1 l1_1.length c1_1) ∧ w'.cell? ⟨gbA2, 2, none⟩ = some (.slice A1_2 l1_2.length c1_2)) (ds := []) (bm 8 0) (by kernel_rfl) rfl rfl ⟨bce BKA2 0 _, bce BKA2 1 _, bce BKA2 2 _⟩ (fun hHeld => ?_); refine with_tabW impl_Rat_plus.tab7 impl_Rat_plus.bits7 (fun HT_ HW_ => ?_)
   generalize w84.drew = w85 at HOA3 HOA4 HOA5 BKA1 BKA2 BKA0 HB hHeld ⊢
   refine pu_ 0 (some 48) (bm 8 1) HT_.out ?_
   refine pu_ 2 (some 50) (bm 8 5) HT_.out ?_
   refine pu_ 3 (some 51) (bm 8 13) HT_.out ?_
   refine pu_ 5 (some 53) (bm 8 45) HT_.out ?_
   refine tk_ 1 (some 49) (bm 8 47) HT_.out HW_.out hHeld ?_
   refine one_ (i := 4) (N := some 52) (bm 8 63) rfl rfl (one_of HT_.out (by kernel_rfl)) (by decide) (fun K hK => ?_)
   refine g_ Try.func82 #[.slice Ao83 tA6.length co83, .slice Ao82 tA7.length co82] ?_
   with_reducible refine (impl_natSub.calls k _ _ tA6 _ _ tA7 tB4 _ ?side1 ?side2 ?side3 ?side4 A66.out).mono ?_
   (case side1 => exact crC (Kd.R_reads' HOA4.out).2.2)
   (case side2 => exact (Kd.R_reads' HOA4.out).2.1)
   (case side3 => exact crC (Kd.R_reads' HOA3.out).2.2)
   (case side4 => exact (Kd.R_reads' HOA3.out).2.1)
   rintro e w86 ⟨vE5, rfl, ho0, hb⟩
   refine ⟨_, rfl, ?_⟩
   have HOB8 := lwR (nwR (nwR (nwR ho0 HOA3) HOA4) HOA5) HB
   replace HOA3 := eldR HOA3 (Kd.R_base ho0) hb
   replace HOA4 := eldR HOA4 (Kd.R_base ho0) hb
   replace HOA5 := eldR HOA5 (Kd.R_base ho0) hb
   replace BKA1 := bkb BKA1 hb
   replace BKA2 := bkb BKA2 hb
   replace BKA0 := bkb BKA0 hb
   replace HB := bst HB hb
   (try clear hb)
   (try clear hb2)
   (try clear hk)
   (try clear hi)
   (try clear ho0)
   obtain ⟨Ao87, co87, eo87⟩ := Kd.R_slice HOB8.out
   (first | subst eo87 | (injection eo87 with f1_ f2_ f3_; have f4_ := f1_.symm; have f5_ := f3_.symm; clear f1_ f2_ f3_; subst f4_; subst f5_))
   obtain ⟨Ao88, co88, eo88⟩ := Kd.R_slice HOA5.out
   (first | subst eo88 | (injection eo88 with f1_ f2_ f3_; have f4_ := f1_.symm; have f5_ := f3_.symm; clear f1_ f2_ f3_; subst f4_; subst f5_))
   refine hK.out _ _ ⟨bce BKA2 0 _, bce BKA2 1 _, bce BKA2 2 _⟩ (fun hHeld => ?_)
   clear hK K
   refine nm_ 52 ?_
   refine one_ (i := 6) (N := some 54) (bm 8 127) rfl rfl (one_of HT_.out (by kernel_rfl)) (by decide) (fun K hK => ?_)
   refine g_ Try.func80 #[.bool a1_0, .slice Ao87 tB4.length co87, .slice Ao88 tA8.length co88] ?_
   with_reducible refine (impl_lowest.calls k a1_0 _ _ tB4 _ _ tA8 tB0 tC3 tC4 _ ?side1 ?side2 ?side3 ?side4 A67.out).mono ?_
   (case side1 => exact crC (Kd.R_reads' HOB8.out).2.2)
   (case side2 => exact (Kd.R_reads' HOB8.out).2.1)
   (case side3 => exact crC (Kd.R_reads' HOA5.out).2.2)
   (case side4 => exact (Kd.R_reads' HOA5.out).2.1)
   rintro e w89 ⟨vE6, vE7, rfl, ho0, ho1, hb⟩
   refine ⟨_, rfl, ?_⟩
   have HOD7 := lwR (nwR (nwR (nwR (nwR ho0 HOA3) HOA4) HOA5) HOB8) HB
   have HOD8 := lwR (nwR (nwR (nwR (nwR ho1 HOA3) HOA4) HOA5) HOB8) HB
   replace HOA3 := tldR HOA3 hb (Kd.R_base ho0) (Kd.R_base ho1)
   replace HOA4 := tldR HOA4 hb (Kd.R_base ho0) (Kd.R_base ho1)
   replace HOA5 := tldR HOA5 hb (Kd.R_base ho0) (Kd.R_base ho1)
   replace HOB8 := tldR HOB8 hb (Kd.R_base ho0) (Kd.R_base ho1)
   replace BKA1 := bkb BKA1 hb
   replace BKA2 := bkb BKA2 hb
   replace BKA0 := bkb BKA0 hb
   replace HB := bst HB hb
   (try clear hb)
   (try clear hb2)
   (try clear hk)
   (try clear hi)
   (try clear ho0)
   (try clear ho1)
   obtain ⟨Ao91, co91, eo91⟩ := Kd.R_slice HOD7.out
   (first | subst eo91 | (injection eo91 with f1_ f2_ f3_; have f4_ := f1_.symm; have f5_ := f3_.symm; clear f1_ f2_ f3_; subst f4_; subst f5_))
   obtain ⟨Ao93, co93, eo93⟩ := Kd.R_slice HOD8.out
   (first | subst eo93 | (injection eo93 with f1_ f2_ f3_; have f4_ := f1_.symm; have f5_ := f3_.symm; clear f1_ f2_ f3_; subst f4_; subst f5_))
   refine hK.out _ _ ⟨bce BKA2 0 _, bce BKA2 1 _, bce BKA2 2 _⟩ (fun hHeld => ?_)
   clear hK K
   refine nm_ 54 ?_
   refine one_ (i := 7) (N := none) (bm 8 255) rfl rfl (one_of HT_.out (by kernel_rfl)) (by decide) (fun K hK => ?_)
   have hs90 : w89.cell? ⟨gbA0, 0, none⟩ = some (.bool false) := bce BKA0 0 _
   have hfs90 := blk_frozen BKA0.out 0
   have hns90_0 := NBA1_A0.out
   have hns90_1 := NBA2_A0.out
   have hms90_0 := NBA0_A1.out
   have hms90_1 := NBA0_A2.out
   have hs92 : w89.cell? ⟨gbA0, 1, none⟩ = some (.slice none 0 0) := bce BKA0 1 _
   have hfs92 := blk_frozen BKA0.out 1
   have hns92_0 := NBA1_A0.out
   have hns92_1 := NBA2_A0.out
   have hms92_0 := NBA0_A1.out
   have hms92_1 := NBA0_A2.out
   have hs94 : w89.cell? ⟨gbA0, 2, none⟩ = some (.slice none 0 0) := bce BKA0 2 _
   have hfs94 := blk_frozen BKA0.out 2
   have hns94_0 := NBA1_A0.out
   have hns94_1 := NBA2_A0.out
   have hms94_0 := NBA0_A1.out
   have hms94_1 := NBA0_A2.out
   refine skip_ (w1 := ?_) (by rfl) rfl ?_ ?_
   rotate_left
   ·
    go_simp
    rfl
   refine hK.out _ _ ⟨((cell_far (p := ⟨gbA0, _, none⟩) NBA2_A0.out _).trans (((cell_far (p := ⟨gbA0, _, none⟩) NBA2_A0.out _).trans (((cell_far (p := ⟨gbA0, _, none⟩) NBA2_A0.out _).trans (hHeld.1)))))), ((cell_far (p := ⟨gbA0, _, none⟩) NBA2_A0.out _).trans (((cell_far (p := ⟨gbA0, _, none⟩) NBA2_A0.out _).trans (((cell_far (p := ⟨gbA0, _, none⟩) NBA2_A0.out _).trans (hHeld.2.1)))))), ((cell_far (p := ⟨gbA0, _, none⟩) NBA2_A0.out _).trans (((cell_far (p := ⟨gbA0, _, none⟩) NBA2_A0.out _).trans (((cell_far (p := ⟨gbA0, _, none⟩) NBA2_A0.out _).trans (hHeld.2.2))))))⟩ (fun hHeld => ?_)
   clear hK K
   refine done_ (done_of HT_.out (by kernel_rfl)) ?_
   try go_wp2
   refine bodyPost_ret (results_cell_row rfl _ _ gbA0 32 #[.bool tB0, .slice Ao91 tC3.length co91, .slice Ao93 tC4.length co93] (0, 0) _ rfl (bp3 BKA0 _ _ _) Try.underlying32 rfl (by kernel_rfl)) rfl ?_
   exact ⟨_, _, er_, (crN HOD7 BKA0 fun _ hk => hk.1.1.1.1.1), (crN HOD8 BKA0 fun _ hk => hk.1.1.1.1.1), blw HB⟩

end Go.Proofs.Ytegbmillbbcmfaa.Q
