-- written by a program of this claim's session (myprint.py) out of the translation; Lean checks it.
import Derived.Test.YtegbmillbbcmfaaQx0
import Derived.Test.YtegbmillbbcmfaaWords
import Derived.Test.YtegbmillbbcmfaaQxcmp
import Derived.Test.YtegbmillbbcmfaaQxmul
import Derived.Test.YtegbmillbbcmfaaQxsub
import Derived.Test.YtegbmillbbcmfaaQxrsp
import Derived.Test.YtegbmillbbcmfaaQxrmk
import Derived.Test.YtegbmillbbcmfaaQxadd
namespace Go.Proofs.Ytegbmillbbcmfaa.Q
open Go.RowKit Go.Proofs.YtegbmillbbcmfaaW.PrintWords Go.Proofs.YtegbmillbbcmfaaW.PrintLast Go.Proofs.YtegbmillbbcmfaaW.PrintMore
attribute [local go_sem] max2_int min2_int max_two min_two max_three min_three max_four min_four   -- for this text's walks alone
set_option linter.unusedVariables false
set_option linter.unusedSimpArgs false

def spec_l02Add.f (k : Nat) (a0_0 : Bool) (l0_1 : List Int) (l0_2 : List Int) (a1_0 : Bool) (l1_1 : List Int) (l1_2 : List Int) : Option (Bool × List Int × List Int) := (spec_l01Mul.f k l0_1 l1_2).bind fun tA6 => ((spec_l01Mul.f k l1_1 l0_2).bind fun tA5 => ((spec_l01Mul.f k l0_2 l1_2).bind fun tA8 => (if (a0_0 == a1_0) = true then ((spec_l01Add.f k tA6 tA5).bind fun tB5 => ((spec_l02Make.f k a0_0 tB5 tA8).bind fun btB1 => (some (btB1.1, btB1.2.1, btB1.2.2)))) else ((spec_l01Cmp.f k tA6 tA5).bind fun tB2 => (if tB2 ≥ 0 then ((spec_l01Sub.f k tA6 tA5).bind fun tB3 => ((spec_l02Make.f k a0_0 tB3 tA8).bind fun btA9 => (some (btA9.1, btA9.2.1, btA9.2.2)))) else ((spec_l01Sub.f k tA5 tA6).bind fun tB4 => ((spec_l02Make.f k a1_0 tB4 tA8).bind fun btB0 => (some (btB0.1, btB0.2.1, btB0.2.2)))))))))
def spec_l02Add.T5 : Bool × List (List Nat × List Nat) := (true, [([], []), ([0], [0]), ([], []), ([], []), ([2, 3], [2, 3]), ([], []), ([1, 4, 5, 4], [1, 4, 5]), ([6, 6, 0, 1, 2, 3, 4, 5, 6], [6])])
def spec_l02Add.B5 : List Nat := [0, 1, 0, 0, 12, 0, 63, 127]
theorem spec_l02Add.tab5 : rtab .any (opsOf Try.f54 5) = spec_l02Add.T5 := by kernel_rfl
theorem spec_l02Add.bits5 : waitsOk spec_l02Add.T5.2 spec_l02Add.B5 = true := by kernel_rfl
def spec_l02Add.T7 : Bool × List (List Nat × List Nat) := (true, [([], []), ([0], [0]), ([], []), ([], []), ([2, 3], [2, 3]), ([], []), ([1, 4, 5, 4], [1, 4, 5]), ([6, 6, 0, 1, 2, 3, 4, 5, 6], [6])])
def spec_l02Add.B7 : List Nat := [0, 1, 0, 0, 12, 0, 63, 127]
theorem spec_l02Add.tab7 : rtab .any (opsOf Try.f54 7) = spec_l02Add.T7 := by kernel_rfl
theorem spec_l02Add.bits7 : waitsOk spec_l02Add.T7.2 spec_l02Add.B7 = true := by kernel_rfl
def spec_l02Add.T8 : Bool × List (List Nat × List Nat) := (true, [([], []), ([0], [0]), ([], []), ([], []), ([2, 3], [2, 3]), ([], []), ([1, 4, 5, 4], [1, 4, 5]), ([6, 6, 0, 1, 2, 3, 4, 5, 6], [6])])
def spec_l02Add.B8 : List Nat := [0, 1, 0, 0, 12, 0, 63, 127]
theorem spec_l02Add.tab8 : rtab .any (opsOf Try.f54 8) = spec_l02Add.T8 := by kernel_rfl
theorem spec_l02Add.bits8 : waitsOk spec_l02Add.T8.2 spec_l02Add.B8 = true := by kernel_rfl
set_option maxHeartbeats 8000000 in
set_option maxRecDepth 100000 in
theorem spec_l02Add.calls (k : Nat) (a0_0 : Bool) (A0_1 : Option Addr) (c0_1 : Nat) (l0_1 : List Int) (A0_2 : Option Addr) (c0_2 : Nat) (l0_2 : List Int) (a1_0 : Bool) (A1_1 : Option Addr) (c1_1 : Nat) (l1_1 : List Int) (A1_2 : Option Addr) (c1_2 : Nat) (l1_2 : List Int) (r1 : Bool) (r2 : List Int) (r3 : List Int) (w : World) (hr0_1 : Kd.C (Kd.int .i64) w A0_1 l0_1.length l0_1) (hc0_1 : l0_1.length ≤ c0_1) (hr0_2 : Kd.C (Kd.int .i64) w A0_2 l0_2.length l0_2) (hc0_2 : l0_2.length ≤ c0_2) (hr1_1 : Kd.C (Kd.int .i64) w A1_1 l1_1.length l1_1) (hc1_1 : l1_1.length ≤ c1_1) (hr1_2 : Kd.C (Kd.int .i64) w A1_2 l1_2.length l1_2) (hc1_2 : l1_2.length ≤ c1_2) (h : spec_l02Add.f k a0_0 l0_1 l0_2 a1_0 l1_1 l1_2 = some (r1, r2, r3)) :
  Calls Try.prog 54 #[.agg #[.bool a0_0, .slice A0_1 l0_1.length c0_1, .slice A0_2 l0_2.length c0_2], .agg #[.bool a1_0, .slice A1_1 l1_1.length c1_1, .slice A1_2 l1_2.length c1_2]] w fun e w' => ∃ v1_ v2_ : Value, e = .returned (.agg #[.bool r1, v1_, v2_]) ∧ Kd.R (Kd.int .i64) 3 w' w.heap.size (fun k_ => nO k_ v2_) v1_ r2 ∧ Kd.R (Kd.int .i64) 3 w' w.heap.size (fun k_ => nO k_ v1_) v2_ r3 ∧ Below w.heap.size w w' := by
 have hu32 := Try.underlying32
 have HR0_1 := Aside0.mk hr0_1
 have HC0_1 := Aside0.mk hc0_1
 clear hr0_1 hc0_1
 have HR0_2 := Aside0.mk hr0_2
 have HC0_2 := Aside0.mk hc0_2
 clear hr0_2 hc0_2
 have HR1_1 := Aside0.mk hr1_1
 have HC1_1 := Aside0.mk hc1_1
 clear hr1_1 hc1_1
 have HR1_2 := Aside0.mk hr1_2
 have HC1_2 := Aside0.mk hc1_2
 clear hr1_2 hc1_2
 have HB := Aside0.mk (Below.refl w.heap.size w)
 have H : ((spec_l01Mul.f k l0_1 l1_2).bind fun tA6 => ((spec_l01Mul.f k l1_1 l0_2).bind fun tA5 => ((spec_l01Mul.f k l0_2 l1_2).bind fun tA8 => (if (a0_0 == a1_0) = true then ((spec_l01Add.f k tA6 tA5).bind fun tB5 => ((spec_l02Make.f k a0_0 tB5 tA8).bind fun btB1 => (some (btB1.1, btB1.2.1, btB1.2.2)))) else ((spec_l01Cmp.f k tA6 tA5).bind fun tB2 => (if tB2 ≥ 0 then ((spec_l01Sub.f k tA6 tA5).bind fun tB3 => ((spec_l02Make.f k a0_0 tB3 tA8).bind fun btA9 => (some (btA9.1, btA9.2.1, btA9.2.2)))) else ((spec_l01Sub.f k tA5 tA6).bind fun tB4 => ((spec_l02Make.f k a1_0 tB4 tA8).bind fun btB0 => (some (btB0.1, btB0.2.1, btB0.2.2)))))))))) = some (r1, r2, r3) := h
 clear h
 replace H := Option.bind_eq_some_iff.mp H
 obtain ⟨tA6, A30, H⟩ := H
 replace H : ((spec_l01Mul.f k l1_1 l0_2).bind fun tA5 => ((spec_l01Mul.f k l0_2 l1_2).bind fun tA8 => (if (a0_0 == a1_0) = true then ((spec_l01Add.f k tA6 tA5).bind fun tB5 => ((spec_l02Make.f k a0_0 tB5 tA8).bind fun btB1 => (some (btB1.1, btB1.2.1, btB1.2.2)))) else ((spec_l01Cmp.f k tA6 tA5).bind fun tB2 => (if tB2 ≥ 0 then ((spec_l01Sub.f k tA6 tA5).bind fun tB3 => ((spec_l02Make.f k a0_0 tB3 tA8).bind fun btA9 => (some (btA9.1, btA9.2.1, btA9.2.2)))) else ((spec_l01Sub.f k tA5 tA6).bind fun tB4 => ((spec_l02Make.f k a1_0 tB4 tA8).bind fun btB0 => (some (btB0.1, btB0.2.1, btB0.2.2))))))))) = some (r1, r2, r3) := H
 have A3 := Aside0.mk A30
 clear A30
 replace H := Option.bind_eq_some_iff.mp H
 obtain ⟨tA5, A40, H⟩ := H
 replace H : ((spec_l01Mul.f k l0_2 l1_2).bind fun tA8 => (if (a0_0 == a1_0) = true then ((spec_l01Add.f k tA6 tA5).bind fun tB5 => ((spec_l02Make.f k a0_0 tB5 tA8).bind fun btB1 => (some (btB1.1, btB1.2.1, btB1.2.2)))) else ((spec_l01Cmp.f k tA6 tA5).bind fun tB2 => (if tB2 ≥ 0 then ((spec_l01Sub.f k tA6 tA5).bind fun tB3 => ((spec_l02Make.f k a0_0 tB3 tA8).bind fun btA9 => (some (btA9.1, btA9.2.1, btA9.2.2)))) else ((spec_l01Sub.f k tA5 tA6).bind fun tB4 => ((spec_l02Make.f k a1_0 tB4 tA8).bind fun btB0 => (some (btB0.1, btB0.2.1, btB0.2.2)))))))) = some (r1, r2, r3) := H
 have A4 := Aside0.mk A40
 clear A40
 replace H := Option.bind_eq_some_iff.mp H
 obtain ⟨tA8, A50, H⟩ := H
 replace H : (if (a0_0 == a1_0) = true then ((spec_l01Add.f k tA6 tA5).bind fun tB5 => ((spec_l02Make.f k a0_0 tB5 tA8).bind fun btB1 => (some (btB1.1, btB1.2.1, btB1.2.2)))) else ((spec_l01Cmp.f k tA6 tA5).bind fun tB2 => (if tB2 ≥ 0 then ((spec_l01Sub.f k tA6 tA5).bind fun tB3 => ((spec_l02Make.f k a0_0 tB3 tA8).bind fun btA9 => (some (btA9.1, btA9.2.1, btA9.2.2)))) else ((spec_l01Sub.f k tA5 tA6).bind fun tB4 => ((spec_l02Make.f k a1_0 tB4 tA8).bind fun btB0 => (some (btB0.1, btB0.2.1, btB0.2.2))))))) = some (r1, r2, r3) := H
 have A5 := Aside0.mk A50
 clear A50
 by_cases c6 : (a0_0 == a1_0) = true
 ·
  rw [if_pos c6] at H
  have c6b0 : (a0_0 == a1_0) = true := c6
  (try (have c6b1 : decide (a0_0 = a1_0) = true := by simpa using c6))
  (try (have c6b2 : (a0_0 == a1_0) = true := by simpa using c6))
  clear c6
  replace H := Option.bind_eq_some_iff.mp H
  obtain ⟨tB5, A70, H⟩ := H
  replace H : ((spec_l02Make.f k a0_0 tB5 tA8).bind fun btB1 => (some (btB1.1, btB1.2.1, btB1.2.2))) = some (r1, r2, r3) := H
  have A7 := Aside0.mk A70
  clear A70
  replace H := Option.bind_eq_some_iff.mp H
  obtain ⟨⟨tB1, tC2, tC3⟩, A80, H⟩ := H
  replace H : (some (tB1, tC2, tC3)) = some (r1, r2, r3) := H
  have A8 := Aside0.mk A80
  clear A80
  simp only [Option.some.injEq, Prod.mk.injEq] at H
  obtain ⟨rfl, rfl, rfl⟩ := H
  go_enter Try.func54, Try.ntmps54
  try go_wp2_with (first | ((with_reducible refine gate_dst (N := 2) rfl ?_); refine bx_ (N := 2) (cs := #[.bool a0_0, .slice A0_1 l0_1.length c0_1, .slice A0_2 l0_2.length c0_2]) (t := 32) ?_; intro gbA1 hg w9 hbox hb; have BKA1 := Aside0.mk (hbox); have GWA1 := geh hg HB; have GEA1 := geh hg HB; replace HB := bst HB hb; clear hb hbox hg) | ((with_reducible refine gate_dst (N := 3) rfl ?_); refine bx_ (N := 3) (cs := #[.bool a1_0, .slice A1_1 l1_1.length c1_1, .slice A1_2 l1_2.length c1_2]) (t := 32) ?_; intro gbA2 hg w10 hbox hb; have BKA2 := Aside0.mk (hbox); have GWA2 := geh hg HB; have GEA2 := geh hg HB; replace HB := bst HB hb; have NBA1_A2 := nlt hg BKA1; have NBA2_A1 := ngt hg BKA1; replace BKA1 := bkb BKA1 hb; clear hb hbox hg) | ((with_reducible refine gate_dst (N := 4) rfl ?_); refine bx_ (N := 4) (cs := #[.bool false, .slice none 0 0, .slice none 0 0]) (t := 32) ?_; intro gbA0 hg w11 hbox hb; have BKA0 := Aside0.mk (hbox); have GWA0 := geh hg HB; have GEA0 := geh hg HB; replace HB := bst HB hb; have NBA1_A0 := nlt hg BKA1; have NBA0_A1 := ngt hg BKA1; replace BKA1 := bkb BKA1 hb; have NBA2_A0 := nlt hg BKA2; have NBA0_A2 := ngt hg BKA2; replace BKA2 := bkb BKA2 hb; clear hb hbox hg; have hnb12 := NBA1_A2.out; have hnc12 := NBA2_A1.out; have hnb13 := NBA1_A0.out; have hnc13 := NBA0_A1.out; obtain ⟨hcz14_0, hcz14_1, hcz14_2, hfz14_0, hfz14_1, hfz14_2⟩ := bc3 BKA1; have hnb15 := NBA2_A0.out; have hnc15 := NBA0_A2.out; obtain ⟨hcz16_0, hcz16_1, hcz16_2, hfz16_0, hfz16_1, hfz16_2⟩ := bc3 BKA2) | ((with_reducible refine gate_callee (f := 74) rfl ?_); refine gL_ (some 12) Try.func74 #[.slice A0_1 l0_1.length c0_1, .slice A1_2 l1_2.length c1_2] ?_; (with_reducible refine (spec_l01Mul.calls k _ _ l0_1 _ _ l1_2 tA6 _ ?side1 ?side2 ?side3 ?side4 A3.out).mono ?_); (case side1 => exact crC (Kd.C_below HR0_1.out HB.out)); (case side2 => exact HC0_1.out); (case side3 => exact crC (Kd.C_below HR1_2.out HB.out)); (case side4 => exact HC1_2.out); rintro e w17 ⟨vC8, rfl, ho0, hb⟩; refine ⟨_, rfl, ?_⟩; have HOA3 := lwR ho0 HB; replace BKA1 := bkb BKA1 hb; replace BKA2 := bkb BKA2 hb; replace BKA0 := bkb BKA0 hb; replace HB := bst HB hb; (try clear hb); (try clear hb2); (try clear hk); (try clear hi); (try clear ho0); obtain ⟨hcz18_0, hcz18_1, hcz18_2, hfz18_0, hfz18_1, hfz18_2⟩ := bc3 BKA2; obtain ⟨hcz19_0, hcz19_1, hcz19_2, hfz19_0, hfz19_1, hfz19_2⟩ := bc3 BKA1) | ((with_reducible refine gate_callee (f := 74) rfl ?_); refine gL_ (some 17) Try.func74 #[.slice A1_1 l1_1.length c1_1, .slice A0_2 l0_2.length c0_2] ?_; (with_reducible refine (spec_l01Mul.calls k _ _ l1_1 _ _ l0_2 tA5 _ ?side1 ?side2 ?side3 ?side4 A4.out).mono ?_); (case side1 => exact crC (Kd.C_below HR1_1.out HB.out)); (case side2 => exact HC1_1.out); (case side3 => exact crC (Kd.C_below HR0_2.out HB.out)); (case side4 => exact HC0_2.out); rintro e w20 ⟨vC9, rfl, ho0, hb⟩; refine ⟨_, rfl, ?_⟩; have HOA4 := lwR (nwR ho0 HOA3) HB; replace HOA3 := eldR HOA3 (Kd.R_base ho0) hb; replace BKA1 := bkb BKA1 hb; replace BKA2 := bkb BKA2 hb; replace BKA0 := bkb BKA0 hb; replace HB := bst HB hb; (try clear hb); (try clear hb2); (try clear hk); (try clear hi); (try clear ho0); obtain ⟨hcz21_0, hcz21_1, hcz21_2, hfz21_0, hfz21_1, hfz21_2⟩ := bc3 BKA1; obtain ⟨hcz22_0, hcz22_1, hcz22_2, hfz22_0, hfz22_1, hfz22_2⟩ := bc3 BKA2) | ((with_reducible refine gate_callee (f := 74) rfl ?_); refine gL_ (some 22) Try.func74 #[.slice A0_2 l0_2.length c0_2, .slice A1_2 l1_2.length c1_2] ?_; (with_reducible refine (spec_l01Mul.calls k _ _ l0_2 _ _ l1_2 tA8 _ ?side1 ?side2 ?side3 ?side4 A5.out).mono ?_); (case side1 => exact crC (Kd.C_below HR0_2.out HB.out)); (case side2 => exact HC0_2.out); (case side3 => exact crC (Kd.C_below HR1_2.out HB.out)); (case side4 => exact HC1_2.out); rintro e w23 ⟨vB6, rfl, ho0, hb⟩; refine ⟨_, rfl, ?_⟩; have HOA7 := lwR (nwR (nwR ho0 HOA3) HOA4) HB; replace HOA3 := eldR HOA3 (Kd.R_base ho0) hb; replace HOA4 := eldR HOA4 (Kd.R_base ho0) hb; replace BKA1 := bkb BKA1 hb; replace BKA2 := bkb BKA2 hb; replace BKA0 := bkb BKA0 hb; replace HB := bst HB hb; (try clear hb); (try clear hb2); (try clear hk); (try clear hi); (try clear ho0); obtain ⟨hcz24_0, hcz24_1, hcz24_2, hfz24_0, hfz24_1, hfz24_2⟩ := bc3 BKA1; obtain ⟨hcz25_0, hcz25_1, hcz25_2, hfz25_0, hfz25_1, hfz25_2⟩ := bc3 BKA2))
  replace HOA3 := Aside0.mk (Kd.R_drew HOA3.out)
  replace HOA4 := Aside0.mk (Kd.R_drew HOA4.out)
  replace HOA7 := Aside0.mk (Kd.R_drew HOA7.out)
  replace BKA1 := Aside0.mk (blk_drew BKA1.out)
  replace BKA2 := Aside0.mk (blk_drew BKA2.out)
  replace BKA0 := Aside0.mk (blk_drew BKA0.out)
  replace HB := Aside0.mk (below_drew1 HB.out)
  obtain ⟨Ao27, co27, eo27⟩ := Kd.R_slice HOA3.out
  (first | subst eo27 | (injection eo27 with f1_ f2_ f3_; have f4_ := f1_.symm; have f5_ := f3_.symm; clear f1_ f2_ f3_; subst f4_; subst f5_))
  obtain ⟨Ao28, co28, eo28⟩ := Kd.R_slice HOA4.out
  (first | subst eo28 | (injection eo28 with f1_ f2_ f3_; have f4_ := f1_.symm; have f5_ := f3_.symm; clear f1_ f2_ f3_; subst f4_; subst f5_))
  refine start_ (n := 8) (S := fun w' => w'.cell? ⟨gbA1, 0, none⟩ = some (.bool a0_0) ∧ w'.cell? ⟨gbA1, 1, none⟩ = some (.slice A0_1 l0_1.length c0_1) ∧ w'.cell? ⟨gbA1, 2, none⟩ = some (.slice A0_2 l0_2.length c0_2)) (ds := []) (bm 8 0) (by kernel_rfl) rfl rfl ⟨bce BKA1 0 _, bce BKA1 1 _, bce BKA1 2 _⟩ (fun hHeld => ?_); refine with_tabW spec_l02Add.tab5 spec_l02Add.bits5 (fun HT_ HW_ => ?_)
  generalize w23.drew = w26 at HOA3 HOA4 HOA7 BKA1 BKA2 BKA0 HB hHeld ⊢
  refine pu_ 0 (some 28) (bm 8 1) HT_.out ?_
  refine pu_ 2 (some 30) (bm 8 5) HT_.out ?_
  refine pu_ 3 (some 31) (bm 8 13) HT_.out ?_
  refine pu_ 5 (some 33) (bm 8 45) HT_.out ?_
  refine tk_ 1 (some 29) (bm 8 47) HT_.out HW_.out hHeld ?_
  refine one_ (i := 4) (N := some 32) (bm 8 63) rfl rfl (one_of HT_.out (by kernel_rfl)) (by decide) (fun K hK => ?_)
  refine g_ Try.func76 #[.slice Ao27 tA6.length co27, .slice Ao28 tA5.length co28] ?_
  with_reducible refine (spec_l01Add.calls k _ _ tA6 _ _ tA5 tB5 _ ?side1 ?side2 ?side3 ?side4 A7.out).mono ?_
  (case side1 => exact crC (Kd.R_reads' HOA3.out).2.2)
  (case side2 => exact (Kd.R_reads' HOA3.out).2.1)
  (case side3 => exact crC (Kd.R_reads' HOA4.out).2.2)
  (case side4 => exact (Kd.R_reads' HOA4.out).2.1)
  rintro e w29 ⟨vE1, rfl, ho0, hb⟩
  refine ⟨_, rfl, ?_⟩
  have HOB7 := lwR (nwR (nwR (nwR ho0 HOA3) HOA4) HOA7) HB
  replace HOA3 := eldR HOA3 (Kd.R_base ho0) hb
  replace HOA4 := eldR HOA4 (Kd.R_base ho0) hb
  replace HOA7 := eldR HOA7 (Kd.R_base ho0) hb
  replace BKA1 := bkb BKA1 hb
  replace BKA2 := bkb BKA2 hb
  replace BKA0 := bkb BKA0 hb
  replace HB := bst HB hb
  (try clear hb)
  (try clear hb2)
  (try clear hk)
  (try clear hi)
  (try clear ho0)
  obtain ⟨Ao30, co30, eo30⟩ := Kd.R_slice HOB7.out
  (first | subst eo30 | (injection eo30 with f1_ f2_ f3_; have f4_ := f1_.symm; have f5_ := f3_.symm; clear f1_ f2_ f3_; subst f4_; subst f5_))
  obtain ⟨Ao31, co31, eo31⟩ := Kd.R_slice HOA7.out
  (first | subst eo31 | (injection eo31 with f1_ f2_ f3_; have f4_ := f1_.symm; have f5_ := f3_.symm; clear f1_ f2_ f3_; subst f4_; subst f5_))
  refine hK.out _ _ ⟨bce BKA1 0 _, bce BKA1 1 _, bce BKA1 2 _⟩ (fun hHeld => ?_)
  clear hK K
  refine nm_ 32 ?_
  refine one_ (i := 6) (N := some 34) (bm 8 127) rfl rfl (one_of HT_.out (by kernel_rfl)) (by decide) (fun K hK => ?_)
  refine g_ Try.func75 #[.bool a0_0, .slice Ao30 tB5.length co30, .slice Ao31 tA8.length co31] ?_
  with_reducible refine (spec_l02Make.calls k a0_0 _ _ tB5 _ _ tA8 tB1 tC2 tC3 _ ?side1 ?side2 ?side3 ?side4 A8.out).mono ?_
  (case side1 => exact crC (Kd.R_reads' HOB7.out).2.2)
  (case side2 => exact (Kd.R_reads' HOB7.out).2.1)
  (case side3 => exact crC (Kd.R_reads' HOA7.out).2.2)
  (case side4 => exact (Kd.R_reads' HOA7.out).2.1)
  rintro e w32 ⟨vE2, vE3, rfl, ho0, ho1, hb⟩
  refine ⟨_, rfl, ?_⟩
  have HOD0 := lwR (nwR (nwR (nwR (nwR ho0 HOA3) HOA4) HOA7) HOB7) HB
  have HOD1 := lwR (nwR (nwR (nwR (nwR ho1 HOA3) HOA4) HOA7) HOB7) HB
  replace HOA3 := tldR HOA3 hb (Kd.R_base ho0) (Kd.R_base ho1)
  replace HOA4 := tldR HOA4 hb (Kd.R_base ho0) (Kd.R_base ho1)
  replace HOA7 := tldR HOA7 hb (Kd.R_base ho0) (Kd.R_base ho1)
  replace HOB7 := tldR HOB7 hb (Kd.R_base ho0) (Kd.R_base ho1)
  replace BKA1 := bkb BKA1 hb
  replace BKA2 := bkb BKA2 hb
  replace BKA0 := bkb BKA0 hb
  replace HB := bst HB hb
  (try clear hb)
  (try clear hb2)
  (try clear hk)
  (try clear hi)
  (try clear ho0)
  (try clear ho1)
  obtain ⟨Ao34, co34, eo34⟩ := Kd.R_slice HOD0.out
  (first | subst eo34 | (injection eo34 with f1_ f2_ f3_; have f4_ := f1_.symm; have f5_ := f3_.symm; clear f1_ f2_ f3_; subst f4_; subst f5_))
  obtain ⟨Ao36, co36, eo36⟩ := Kd.R_slice HOD1.out
  (first | subst eo36 | (injection eo36 with f1_ f2_ f3_; have f4_ := f1_.symm; have f5_ := f3_.symm; clear f1_ f2_ f3_; subst f4_; subst f5_))
  refine hK.out _ _ ⟨bce BKA1 0 _, bce BKA1 1 _, bce BKA1 2 _⟩ (fun hHeld => ?_)
  clear hK K
  refine nm_ 34 ?_
  refine one_ (i := 7) (N := none) (bm 8 255) rfl rfl (one_of HT_.out (by kernel_rfl)) (by decide) (fun K hK => ?_)
  have hs33 : w32.cell? ⟨gbA0, 0, none⟩ = some (.bool false) := bce BKA0 0 _
  have hfs33 := blk_frozen BKA0.out 0
  have hns33_0 := NBA1_A0.out
  have hns33_1 := NBA2_A0.out
  have hms33_0 := NBA0_A1.out
  have hms33_1 := NBA0_A2.out
  have hs35 : w32.cell? ⟨gbA0, 1, none⟩ = some (.slice none 0 0) := bce BKA0 1 _
  have hfs35 := blk_frozen BKA0.out 1
  have hns35_0 := NBA1_A0.out
  have hns35_1 := NBA2_A0.out
  have hms35_0 := NBA0_A1.out
  have hms35_1 := NBA0_A2.out
  have hs37 : w32.cell? ⟨gbA0, 2, none⟩ = some (.slice none 0 0) := bce BKA0 2 _
  have hfs37 := blk_frozen BKA0.out 2
  have hns37_0 := NBA1_A0.out
  have hns37_1 := NBA2_A0.out
  have hms37_0 := NBA0_A1.out
  have hms37_1 := NBA0_A2.out
  refine skip_ (w1 := ?_) (by rfl) rfl ?_ ?_
  rotate_left
  ·
   go_simp
   rfl
  refine hK.out _ _ ⟨((cell_far (p := ⟨gbA0, _, none⟩) NBA1_A0.out _).trans (((cell_far (p := ⟨gbA0, _, none⟩) NBA1_A0.out _).trans (((cell_far (p := ⟨gbA0, _, none⟩) NBA1_A0.out _).trans (hHeld.1)))))), ((cell_far (p := ⟨gbA0, _, none⟩) NBA1_A0.out _).trans (((cell_far (p := ⟨gbA0, _, none⟩) NBA1_A0.out _).trans (((cell_far (p := ⟨gbA0, _, none⟩) NBA1_A0.out _).trans (hHeld.2.1)))))), ((cell_far (p := ⟨gbA0, _, none⟩) NBA1_A0.out _).trans (((cell_far (p := ⟨gbA0, _, none⟩) NBA1_A0.out _).trans (((cell_far (p := ⟨gbA0, _, none⟩) NBA1_A0.out _).trans (hHeld.2.2))))))⟩ (fun hHeld => ?_)
  clear hK K
  refine done_ (done_of HT_.out (by kernel_rfl)) ?_
  try go_wp2
  refine bodyPost_ret (results_cell_row rfl _ _ gbA0 32 #[.bool tB1, .slice Ao34 tC2.length co34, .slice Ao36 tC3.length co36] (0, 0) _ rfl (bp3 BKA0 _ _ _) Try.underlying32 rfl (by kernel_rfl)) rfl ?_
  exact ⟨_, _, er_, (crN HOD0 BKA0 fun _ hk => hk.1.1.1.1.1), (crN HOD1 BKA0 fun _ hk => hk.1.1.1.1.1), blw HB⟩
 ·
  rw [if_neg c6] at H
  have c6b0 : (a0_0 == a1_0) = false := by simpa using c6
  (try (have c6b1 : decide (a0_0 = a1_0) = false := by simpa using c6))
  (try (have c6b2 : (a0_0 == a1_0) = false := by simpa using c6))
  (try (have c6b3 : ¬ (a0_0 = a1_0) := by simpa using c6))
  clear c6
  replace H := Option.bind_eq_some_iff.mp H
  obtain ⟨tB2, AD2, H⟩ := H
  replace H : (if tB2 ≥ 0 then ((spec_l01Sub.f k tA6 tA5).bind fun tB3 => ((spec_l02Make.f k a0_0 tB3 tA8).bind fun btA9 => (some (btA9.1, btA9.2.1, btA9.2.2)))) else ((spec_l01Sub.f k tA5 tA6).bind fun tB4 => ((spec_l02Make.f k a1_0 tB4 tA8).bind fun btB0 => (some (btB0.1, btB0.2.1, btB0.2.2))))) = some (r1, r2, r3) := H
  have A38 := Aside0.mk AD2
  clear AD2
  by_cases c39 : tB2 ≥ 0
  ·
   rw [if_pos c39] at H
   have c39b0 : decide (0 ≤ tB2) = true := decide_eq_true c39
   clear c39
   replace H := Option.bind_eq_some_iff.mp H
   obtain ⟨tB3, AD3, H⟩ := H
   replace H : ((spec_l02Make.f k a0_0 tB3 tA8).bind fun btA9 => (some (btA9.1, btA9.2.1, btA9.2.2))) = some (r1, r2, r3) := H
   have A40 := Aside0.mk AD3
   clear AD3
   replace H := Option.bind_eq_some_iff.mp H
   obtain ⟨⟨tA9, tC4, tC5⟩, AD4, H⟩ := H
   replace H : (some (tA9, tC4, tC5)) = some (r1, r2, r3) := H
   have A41 := Aside0.mk AD4
   clear AD4
   simp only [Option.some.injEq, Prod.mk.injEq] at H
   obtain ⟨rfl, rfl, rfl⟩ := H
   go_enter Try.func54, Try.ntmps54
   try go_wp2_with (first | ((with_reducible refine gate_dst (N := 2) rfl ?_); refine bx_ (N := 2) (cs := #[.bool a0_0, .slice A0_1 l0_1.length c0_1, .slice A0_2 l0_2.length c0_2]) (t := 32) ?_; intro gbA1 hg w42 hbox hb; have BKA1 := Aside0.mk (hbox); have GWA1 := geh hg HB; have GEA1 := geh hg HB; replace HB := bst HB hb; clear hb hbox hg) | ((with_reducible refine gate_dst (N := 3) rfl ?_); refine bx_ (N := 3) (cs := #[.bool a1_0, .slice A1_1 l1_1.length c1_1, .slice A1_2 l1_2.length c1_2]) (t := 32) ?_; intro gbA2 hg w43 hbox hb; have BKA2 := Aside0.mk (hbox); have GWA2 := geh hg HB; have GEA2 := geh hg HB; replace HB := bst HB hb; have NBA1_A2 := nlt hg BKA1; have NBA2_A1 := ngt hg BKA1; replace BKA1 := bkb BKA1 hb; clear hb hbox hg) | ((with_reducible refine gate_dst (N := 4) rfl ?_); refine bx_ (N := 4) (cs := #[.bool false, .slice none 0 0, .slice none 0 0]) (t := 32) ?_; intro gbA0 hg w44 hbox hb; have BKA0 := Aside0.mk (hbox); have GWA0 := geh hg HB; have GEA0 := geh hg HB; replace HB := bst HB hb; have NBA1_A0 := nlt hg BKA1; have NBA0_A1 := ngt hg BKA1; replace BKA1 := bkb BKA1 hb; have NBA2_A0 := nlt hg BKA2; have NBA0_A2 := ngt hg BKA2; replace BKA2 := bkb BKA2 hb; clear hb hbox hg; have hnb45 := NBA1_A2.out; have hnc45 := NBA2_A1.out; have hnb46 := NBA1_A0.out; have hnc46 := NBA0_A1.out; obtain ⟨hcz47_0, hcz47_1, hcz47_2, hfz47_0, hfz47_1, hfz47_2⟩ := bc3 BKA1; have hnb48 := NBA2_A0.out; have hnc48 := NBA0_A2.out; obtain ⟨hcz49_0, hcz49_1, hcz49_2, hfz49_0, hfz49_1, hfz49_2⟩ := bc3 BKA2) | ((with_reducible refine gate_callee (f := 74) rfl ?_); refine gL_ (some 12) Try.func74 #[.slice A0_1 l0_1.length c0_1, .slice A1_2 l1_2.length c1_2] ?_; (with_reducible refine (spec_l01Mul.calls k _ _ l0_1 _ _ l1_2 tA6 _ ?side1 ?side2 ?side3 ?side4 A3.out).mono ?_); (case side1 => exact crC (Kd.C_below HR0_1.out HB.out)); (case side2 => exact HC0_1.out); (case side3 => exact crC (Kd.C_below HR1_2.out HB.out)); (case side4 => exact HC1_2.out); rintro e w50 ⟨vC8, rfl, ho0, hb⟩; refine ⟨_, rfl, ?_⟩; have HOA3 := lwR ho0 HB; replace BKA1 := bkb BKA1 hb; replace BKA2 := bkb BKA2 hb; replace BKA0 := bkb BKA0 hb; replace HB := bst HB hb; (try clear hb); (try clear hb2); (try clear hk); (try clear hi); (try clear ho0); obtain ⟨hcz51_0, hcz51_1, hcz51_2, hfz51_0, hfz51_1, hfz51_2⟩ := bc3 BKA2; obtain ⟨hcz52_0, hcz52_1, hcz52_2, hfz52_0, hfz52_1, hfz52_2⟩ := bc3 BKA1) | ((with_reducible refine gate_callee (f := 74) rfl ?_); refine gL_ (some 17) Try.func74 #[.slice A1_1 l1_1.length c1_1, .slice A0_2 l0_2.length c0_2] ?_; (with_reducible refine (spec_l01Mul.calls k _ _ l1_1 _ _ l0_2 tA5 _ ?side1 ?side2 ?side3 ?side4 A4.out).mono ?_); (case side1 => exact crC (Kd.C_below HR1_1.out HB.out)); (case side2 => exact HC1_1.out); (case side3 => exact crC (Kd.C_below HR0_2.out HB.out)); (case side4 => exact HC0_2.out); rintro e w53 ⟨vC9, rfl, ho0, hb⟩; refine ⟨_, rfl, ?_⟩; have HOA4 := lwR (nwR ho0 HOA3) HB; replace HOA3 := eldR HOA3 (Kd.R_base ho0) hb; replace BKA1 := bkb BKA1 hb; replace BKA2 := bkb BKA2 hb; replace BKA0 := bkb BKA0 hb; replace HB := bst HB hb; (try clear hb); (try clear hb2); (try clear hk); (try clear hi); (try clear ho0); obtain ⟨hcz54_0, hcz54_1, hcz54_2, hfz54_0, hfz54_1, hfz54_2⟩ := bc3 BKA1; obtain ⟨hcz55_0, hcz55_1, hcz55_2, hfz55_0, hfz55_1, hfz55_2⟩ := bc3 BKA2) | ((with_reducible refine gate_callee (f := 74) rfl ?_); refine gL_ (some 22) Try.func74 #[.slice A0_2 l0_2.length c0_2, .slice A1_2 l1_2.length c1_2] ?_; (with_reducible refine (spec_l01Mul.calls k _ _ l0_2 _ _ l1_2 tA8 _ ?side1 ?side2 ?side3 ?side4 A5.out).mono ?_); (case side1 => exact crC (Kd.C_below HR0_2.out HB.out)); (case side2 => exact HC0_2.out); (case side3 => exact crC (Kd.C_below HR1_2.out HB.out)); (case side4 => exact HC1_2.out); rintro e w56 ⟨vB6, rfl, ho0, hb⟩; refine ⟨_, rfl, ?_⟩; have HOA7 := lwR (nwR (nwR ho0 HOA3) HOA4) HB; replace HOA3 := eldR HOA3 (Kd.R_base ho0) hb; replace HOA4 := eldR HOA4 (Kd.R_base ho0) hb; replace BKA1 := bkb BKA1 hb; replace BKA2 := bkb BKA2 hb; replace BKA0 := bkb BKA0 hb; replace HB := bst HB hb; (try clear hb); (try clear hb2); (try clear hk); (try clear hi); (try clear ho0); obtain ⟨hcz57_0, hcz57_1, hcz57_2, hfz57_0, hfz57_1, hfz57_2⟩ := bc3 BKA1; obtain ⟨hcz58_0, hcz58_1, hcz58_2, hfz58_0, hfz58_1, hfz58_2⟩ := bc3 BKA2; obtain ⟨Ao59, co59, eo59⟩ := Kd.R_slice HOA3.out; subst eo59; obtain ⟨Ao60, co60, eo60⟩ := Kd.R_slice HOA4.out; subst eo60) | ((with_reducible refine gate_callee (f := 40) rfl ?_); refine gL_ (some 37) Try.func40 #[.slice Ao59 tA6.length co59, .slice Ao60 tA5.length co60] ?_; (with_reducible refine (spec_l01Cmp.calls k _ _ tA6 _ _ tA5 tB2 _ ?side1 ?side2 ?side3 ?side4 A38.out).mono ?_); (case side1 => exact crC (Kd.R_reads' HOA3.out).2.2); (case side2 => exact (Kd.R_reads' HOA3.out).2.1); (case side3 => exact crC (Kd.R_reads' HOA4.out).2.2); (case side4 => exact (Kd.R_reads' HOA4.out).2.1); rintro e w' ⟨rfl, ⟨nd, rfl⟩⟩; refine ⟨_, rfl, ?_⟩; (try (rw [drewN_self w56]; generalize hq_ : World.drewN w56 _ = w56; replace HOA3 : Aside0 (Kd.R (Kd.int .i64) 3 w56 w.heap.size (fun k_ => nO k_ (.slice Ao60 tA5.length co60) ∧ nO k_ vB6) (.slice Ao59 tA6.length co59) tA6) := ⟨by rw [← hq_]; exact (crM HOA3 fun _ hk => ⟨hk.1.2, hk.2⟩)⟩; replace HOA4 : Aside0 (Kd.R (Kd.int .i64) 3 w56 w.heap.size (fun k_ => nO k_ (.slice Ao59 tA6.length co59) ∧ nO k_ vB6) (.slice Ao60 tA5.length co60) tA5) := ⟨by rw [← hq_]; exact (crM HOA4 fun _ hk => ⟨hk.1.2, hk.2⟩)⟩; replace HOA7 : Aside0 (Kd.R (Kd.int .i64) 3 w56 w.heap.size (fun k_ => nO k_ (.slice Ao59 tA6.length co59) ∧ nO k_ (.slice Ao60 tA5.length co60)) vB6 tA8) := ⟨by rw [← hq_]; exact (crM HOA7 fun _ hk => ⟨hk.1.2, hk.2⟩)⟩; replace BKA1 : Aside0 (w56.heap[gbA1]? = some (.cells #[.bool a0_0, .slice A0_1 l0_1.length c0_1, .slice A0_2 l0_2.length c0_2] 32 (0, 0))) := ⟨by rw [← hq_]; exact (crb BKA1)⟩; replace BKA2 : Aside0 (w56.heap[gbA2]? = some (.cells #[.bool a1_0, .slice A1_1 l1_1.length c1_1, .slice A1_2 l1_2.length c1_2] 32 (0, 0))) := ⟨by rw [← hq_]; exact (crb BKA2)⟩; replace BKA0 : Aside0 (w56.heap[gbA0]? = some (.cells #[.bool false, .slice none 0 0, .slice none 0 0] 32 (0, 0))) := ⟨by rw [← hq_]; exact (crb BKA0)⟩; replace HB : Aside0 (Below w.heap.size w w56) := ⟨by rw [← hq_]; exact (blw HB)⟩; clear hq_))))
   replace HOA3 := Aside0.mk (Kd.R_drew HOA3.out)
   replace HOA4 := Aside0.mk (Kd.R_drew HOA4.out)
   replace HOA7 := Aside0.mk (Kd.R_drew HOA7.out)
   replace BKA1 := Aside0.mk (blk_drew BKA1.out)
   replace BKA2 := Aside0.mk (blk_drew BKA2.out)
   replace BKA0 := Aside0.mk (blk_drew BKA0.out)
   replace HB := Aside0.mk (below_drew1 HB.out)
   refine start_ (n := 8) (S := fun w' => w'.cell? ⟨gbA1, 0, none⟩ = some (.bool a0_0) ∧ w'.cell? ⟨gbA1, 1, none⟩ = some (.slice A0_1 l0_1.length c0_1) ∧ w'.cell? ⟨gbA1, 2, none⟩ = some (.slice A0_2 l0_2.length c0_2)) (ds := []) (bm 8 0) (by kernel_rfl) rfl rfl ⟨bce BKA1 0 _, bce BKA1 1 _, bce BKA1 2 _⟩ (fun hHeld => ?_); refine with_tabW spec_l02Add.tab7 spec_l02Add.bits7 (fun HT_ HW_ => ?_)
   generalize w56.drew = w61 at HOA3 HOA4 HOA7 BKA1 BKA2 BKA0 HB hHeld ⊢
   refine pu_ 0 (some 39) (bm 8 1) HT_.out ?_
   refine pu_ 2 (some 41) (bm 8 5) HT_.out ?_
   refine pu_ 3 (some 42) (bm 8 13) HT_.out ?_
   refine pu_ 5 (some 44) (bm 8 45) HT_.out ?_
   refine tk_ 1 (some 40) (bm 8 47) HT_.out HW_.out hHeld ?_
   refine one_ (i := 4) (N := some 43) (bm 8 63) rfl rfl (one_of HT_.out (by kernel_rfl)) (by decide) (fun K hK => ?_)
   refine g_ Try.func77 #[.slice Ao59 tA6.length co59, .slice Ao60 tA5.length co60] ?_
   with_reducible refine (spec_l01Sub.calls k _ _ tA6 _ _ tA5 tB3 _ ?side1 ?side2 ?side3 ?side4 A40.out).mono ?_
   (case side1 => exact crC (Kd.R_reads' HOA3.out).2.2)
   (case side2 => exact (Kd.R_reads' HOA3.out).2.1)
   (case side3 => exact crC (Kd.R_reads' HOA4.out).2.2)
   (case side4 => exact (Kd.R_reads' HOA4.out).2.1)
   rintro e w62 ⟨vE4, rfl, ho0, hb⟩
   refine ⟨_, rfl, ?_⟩
   have HOB8 := lwR (nwR (nwR (nwR ho0 HOA3) HOA4) HOA7) HB
   replace HOA3 := eldR HOA3 (Kd.R_base ho0) hb
   replace HOA4 := eldR HOA4 (Kd.R_base ho0) hb
   replace HOA7 := eldR HOA7 (Kd.R_base ho0) hb
   replace BKA1 := bkb BKA1 hb
   replace BKA2 := bkb BKA2 hb
   replace BKA0 := bkb BKA0 hb
   replace HB := bst HB hb
   (try clear hb)
   (try clear hb2)
   (try clear hk)
   (try clear hi)
   (try clear ho0)
   obtain ⟨Ao63, co63, eo63⟩ := Kd.R_slice HOB8.out
   (first | subst eo63 | (injection eo63 with f1_ f2_ f3_; have f4_ := f1_.symm; have f5_ := f3_.symm; clear f1_ f2_ f3_; subst f4_; subst f5_))
   obtain ⟨Ao64, co64, eo64⟩ := Kd.R_slice HOA7.out
   (first | subst eo64 | (injection eo64 with f1_ f2_ f3_; have f4_ := f1_.symm; have f5_ := f3_.symm; clear f1_ f2_ f3_; subst f4_; subst f5_))
   refine hK.out _ _ ⟨bce BKA1 0 _, bce BKA1 1 _, bce BKA1 2 _⟩ (fun hHeld => ?_)
   clear hK K
   refine nm_ 43 ?_
   refine one_ (i := 6) (N := some 45) (bm 8 127) rfl rfl (one_of HT_.out (by kernel_rfl)) (by decide) (fun K hK => ?_)
   refine g_ Try.func75 #[.bool a0_0, .slice Ao63 tB3.length co63, .slice Ao64 tA8.length co64] ?_
   with_reducible refine (spec_l02Make.calls k a0_0 _ _ tB3 _ _ tA8 tA9 tC4 tC5 _ ?side1 ?side2 ?side3 ?side4 A41.out).mono ?_
   (case side1 => exact crC (Kd.R_reads' HOB8.out).2.2)
   (case side2 => exact (Kd.R_reads' HOB8.out).2.1)
   (case side3 => exact crC (Kd.R_reads' HOA7.out).2.2)
   (case side4 => exact (Kd.R_reads' HOA7.out).2.1)
   rintro e w65 ⟨vE5, vE6, rfl, ho0, ho1, hb⟩
   refine ⟨_, rfl, ?_⟩
   have HOD5 := lwR (nwR (nwR (nwR (nwR ho0 HOA3) HOA4) HOA7) HOB8) HB
   have HOD6 := lwR (nwR (nwR (nwR (nwR ho1 HOA3) HOA4) HOA7) HOB8) HB
   replace HOA3 := tldR HOA3 hb (Kd.R_base ho0) (Kd.R_base ho1)
   replace HOA4 := tldR HOA4 hb (Kd.R_base ho0) (Kd.R_base ho1)
   replace HOA7 := tldR HOA7 hb (Kd.R_base ho0) (Kd.R_base ho1)
   replace HOB8 := tldR HOB8 hb (Kd.R_base ho0) (Kd.R_base ho1)
   replace BKA1 := bkb BKA1 hb
   replace BKA2 := bkb BKA2 hb
   replace BKA0 := bkb BKA0 hb
   replace HB := bst HB hb
   (try clear hb)
   (try clear hb2)
   (try clear hk)
   (try clear hi)
   (try clear ho0)
   (try clear ho1)
   obtain ⟨Ao67, co67, eo67⟩ := Kd.R_slice HOD5.out
   (first | subst eo67 | (injection eo67 with f1_ f2_ f3_; have f4_ := f1_.symm; have f5_ := f3_.symm; clear f1_ f2_ f3_; subst f4_; subst f5_))
   obtain ⟨Ao69, co69, eo69⟩ := Kd.R_slice HOD6.out
   (first | subst eo69 | (injection eo69 with f1_ f2_ f3_; have f4_ := f1_.symm; have f5_ := f3_.symm; clear f1_ f2_ f3_; subst f4_; subst f5_))
   refine hK.out _ _ ⟨bce BKA1 0 _, bce BKA1 1 _, bce BKA1 2 _⟩ (fun hHeld => ?_)
   clear hK K
   refine nm_ 45 ?_
   refine one_ (i := 7) (N := none) (bm 8 255) rfl rfl (one_of HT_.out (by kernel_rfl)) (by decide) (fun K hK => ?_)
   have hs66 : w65.cell? ⟨gbA0, 0, none⟩ = some (.bool false) := bce BKA0 0 _
   have hfs66 := blk_frozen BKA0.out 0
   have hns66_0 := NBA1_A0.out
   have hns66_1 := NBA2_A0.out
   have hms66_0 := NBA0_A1.out
   have hms66_1 := NBA0_A2.out
   have hs68 : w65.cell? ⟨gbA0, 1, none⟩ = some (.slice none 0 0) := bce BKA0 1 _
   have hfs68 := blk_frozen BKA0.out 1
   have hns68_0 := NBA1_A0.out
   have hns68_1 := NBA2_A0.out
   have hms68_0 := NBA0_A1.out
   have hms68_1 := NBA0_A2.out
   have hs70 : w65.cell? ⟨gbA0, 2, none⟩ = some (.slice none 0 0) := bce BKA0 2 _
   have hfs70 := blk_frozen BKA0.out 2
   have hns70_0 := NBA1_A0.out
   have hns70_1 := NBA2_A0.out
   have hms70_0 := NBA0_A1.out
   have hms70_1 := NBA0_A2.out
   refine skip_ (w1 := ?_) (by rfl) rfl ?_ ?_
   rotate_left
   ·
    go_simp
    rfl
   refine hK.out _ _ ⟨((cell_far (p := ⟨gbA0, _, none⟩) NBA1_A0.out _).trans (((cell_far (p := ⟨gbA0, _, none⟩) NBA1_A0.out _).trans (((cell_far (p := ⟨gbA0, _, none⟩) NBA1_A0.out _).trans (hHeld.1)))))), ((cell_far (p := ⟨gbA0, _, none⟩) NBA1_A0.out _).trans (((cell_far (p := ⟨gbA0, _, none⟩) NBA1_A0.out _).trans (((cell_far (p := ⟨gbA0, _, none⟩) NBA1_A0.out _).trans (hHeld.2.1)))))), ((cell_far (p := ⟨gbA0, _, none⟩) NBA1_A0.out _).trans (((cell_far (p := ⟨gbA0, _, none⟩) NBA1_A0.out _).trans (((cell_far (p := ⟨gbA0, _, none⟩) NBA1_A0.out _).trans (hHeld.2.2))))))⟩ (fun hHeld => ?_)
   clear hK K
   refine done_ (done_of HT_.out (by kernel_rfl)) ?_
   try go_wp2
   refine bodyPost_ret (results_cell_row rfl _ _ gbA0 32 #[.bool tA9, .slice Ao67 tC4.length co67, .slice Ao69 tC5.length co69] (0, 0) _ rfl (bp3 BKA0 _ _ _) Try.underlying32 rfl (by kernel_rfl)) rfl ?_
   exact ⟨_, _, er_, (crN HOD5 BKA0 fun _ hk => hk.1.1.1.1.1), (crN HOD6 BKA0 fun _ hk => hk.1.1.1.1.1), blw HB⟩
  ·
   rw [if_neg c39] at H
   have c39b0 : decide (0 ≤ tB2) = false := decide_eq_false c39
   clear c39
   replace H := Option.bind_eq_some_iff.mp H
   obtain ⟨tB4, AD7, H⟩ := H
   replace H : ((spec_l02Make.f k a1_0 tB4 tA8).bind fun btB0 => (some (btB0.1, btB0.2.1, btB0.2.2))) = some (r1, r2, r3) := H
   have A71 := Aside0.mk AD7
   clear AD7
   replace H := Option.bind_eq_some_iff.mp H
   obtain ⟨⟨tB0, tC6, tC7⟩, AD8, H⟩ := H
   replace H : (some (tB0, tC6, tC7)) = some (r1, r2, r3) := H
   have A72 := Aside0.mk AD8
   clear AD8
   simp only [Option.some.injEq, Prod.mk.injEq] at H
   obtain ⟨rfl, rfl, rfl⟩ := H
   go_enter Try.func54, Try.ntmps54
   try go_wp2_with (first | ((with_reducible refine gate_dst (N := 2) rfl ?_); refine bx_ (N := 2) (cs := #[.bool a0_0, .slice A0_1 l0_1.length c0_1, .slice A0_2 l0_2.length c0_2]) (t := 32) ?_; intro gbA1 hg w73 hbox hb; have BKA1 := Aside0.mk (hbox); have GWA1 := geh hg HB; have GEA1 := geh hg HB; replace HB := bst HB hb; clear hb hbox hg) | ((with_reducible refine gate_dst (N := 3) rfl ?_); refine bx_ (N := 3) (cs := #[.bool a1_0, .slice A1_1 l1_1.length c1_1, .slice A1_2 l1_2.length c1_2]) (t := 32) ?_; intro gbA2 hg w74 hbox hb; have BKA2 := Aside0.mk (hbox); have GWA2 := geh hg HB; have GEA2 := geh hg HB; replace HB := bst HB hb; have NBA1_A2 := nlt hg BKA1; have NBA2_A1 := ngt hg BKA1; replace BKA1 := bkb BKA1 hb; clear hb hbox hg) | ((with_reducible refine gate_dst (N := 4) rfl ?_); refine bx_ (N := 4) (cs := #[.bool false, .slice none 0 0, .slice none 0 0]) (t := 32) ?_; intro gbA0 hg w75 hbox hb; have BKA0 := Aside0.mk (hbox); have GWA0 := geh hg HB; have GEA0 := geh hg HB; replace HB := bst HB hb; have NBA1_A0 := nlt hg BKA1; have NBA0_A1 := ngt hg BKA1; replace BKA1 := bkb BKA1 hb; have NBA2_A0 := nlt hg BKA2; have NBA0_A2 := ngt hg BKA2; replace BKA2 := bkb BKA2 hb; clear hb hbox hg; have hnb76 := NBA1_A2.out; have hnc76 := NBA2_A1.out; have hnb77 := NBA1_A0.out; have hnc77 := NBA0_A1.out; obtain ⟨hcz78_0, hcz78_1, hcz78_2, hfz78_0, hfz78_1, hfz78_2⟩ := bc3 BKA1; have hnb79 := NBA2_A0.out; have hnc79 := NBA0_A2.out; obtain ⟨hcz80_0, hcz80_1, hcz80_2, hfz80_0, hfz80_1, hfz80_2⟩ := bc3 BKA2) | ((with_reducible refine gate_callee (f := 74) rfl ?_); refine gL_ (some 12) Try.func74 #[.slice A0_1 l0_1.length c0_1, .slice A1_2 l1_2.length c1_2] ?_; (with_reducible refine (spec_l01Mul.calls k _ _ l0_1 _ _ l1_2 tA6 _ ?side1 ?side2 ?side3 ?side4 A3.out).mono ?_); (case side1 => exact crC (Kd.C_below HR0_1.out HB.out)); (case side2 => exact HC0_1.out); (case side3 => exact crC (Kd.C_below HR1_2.out HB.out)); (case side4 => exact HC1_2.out); rintro e w81 ⟨vC8, rfl, ho0, hb⟩; refine ⟨_, rfl, ?_⟩; have HOA3 := lwR ho0 HB; replace BKA1 := bkb BKA1 hb; replace BKA2 := bkb BKA2 hb; replace BKA0 := bkb BKA0 hb; replace HB := bst HB hb; (try clear hb); (try clear hb2); (try clear hk); (try clear hi); (try clear ho0); obtain ⟨hcz82_0, hcz82_1, hcz82_2, hfz82_0, hfz82_1, hfz82_2⟩ := bc3 BKA2; obtain ⟨hcz83_0, hcz83_1, hcz83_2, hfz83_0, hfz83_1, hfz83_2⟩ := bc3 BKA1) | ((with_reducible refine gate_callee (f := 74) rfl ?_); refine gL_ (some 17) Try.func74 #[.slice A1_1 l1_1.length c1_1, .slice A0_2 l0_2.length c0_2] ?_; (with_reducible refine (spec_l01Mul.calls k _ _ l1_1 _ _ l0_2 tA5 _ ?side1 ?side2 ?side3 ?side4 A4.out).mono ?_); (case side1 => exact crC (Kd.C_below HR1_1.out HB.out)); (case side2 => exact HC1_1.out); (case side3 => exact crC (Kd.C_below HR0_2.out HB.out)); (case side4 => exact HC0_2.out); rintro e w84 ⟨vC9, rfl, ho0, hb⟩; refine ⟨_, rfl, ?_⟩; have HOA4 := lwR (nwR ho0 HOA3) HB; replace HOA3 := eldR HOA3 (Kd.R_base ho0) hb; replace BKA1 := bkb BKA1 hb; replace BKA2 := bkb BKA2 hb; replace BKA0 := bkb BKA0 hb; replace HB := bst HB hb; (try clear hb); (try clear hb2); (try clear hk); (try clear hi); (try clear ho0); obtain ⟨hcz85_0, hcz85_1, hcz85_2, hfz85_0, hfz85_1, hfz85_2⟩ := bc3 BKA1; obtain ⟨hcz86_0, hcz86_1, hcz86_2, hfz86_0, hfz86_1, hfz86_2⟩ := bc3 BKA2) | ((with_reducible refine gate_callee (f := 74) rfl ?_); refine gL_ (some 22) Try.func74 #[.slice A0_2 l0_2.length c0_2, .slice A1_2 l1_2.length c1_2] ?_; (with_reducible refine (spec_l01Mul.calls k _ _ l0_2 _ _ l1_2 tA8 _ ?side1 ?side2 ?side3 ?side4 A5.out).mono ?_); (case side1 => exact crC (Kd.C_below HR0_2.out HB.out)); (case side2 => exact HC0_2.out); (case side3 => exact crC (Kd.C_below HR1_2.out HB.out)); (case side4 => exact HC1_2.out); rintro e w87 ⟨vB6, rfl, ho0, hb⟩; refine ⟨_, rfl, ?_⟩; have HOA7 := lwR (nwR (nwR ho0 HOA3) HOA4) HB; replace HOA3 := eldR HOA3 (Kd.R_base ho0) hb; replace HOA4 := eldR HOA4 (Kd.R_base ho0) hb; replace BKA1 := bkb BKA1 hb; replace BKA2 := bkb BKA2 hb; replace BKA0 := bkb BKA0 hb; replace HB := bst HB hb; (try clear hb); (try clear hb2); (try clear hk); (try clear hi); (try clear ho0); obtain ⟨hcz88_0, hcz88_1, hcz88_2, hfz88_0, hfz88_1, hfz88_2⟩ := bc3 BKA1; obtain ⟨hcz89_0, hcz89_1, hcz89_2, hfz89_0, hfz89_1, hfz89_2⟩ := bc3 BKA2; obtain ⟨Ao90, co90, eo90⟩ := Kd.R_slice HOA3.out; subst eo90; obtain ⟨Ao91, co91, eo91⟩ := Kd.R_slice HOA4.out; subst eo91) | ((with_reducible refine gate_callee (f := 40) rfl ?_); refine gL_ (some 37) Try.func40 #[.slice Ao90 tA6.length co90, .slice Ao91 tA5.length co91] ?_; (with_reducible refine (spec_l01Cmp.calls k _ _ tA6 _ _ tA5 tB2 _ ?side1 ?side2 ?side3 ?side4 A38.out).mono ?_); (case side1 => exact crC (Kd.R_reads' HOA3.out).2.2); (case side2 => exact (Kd.R_reads' HOA3.out).2.1); (case side3 => exact crC (Kd.R_reads' HOA4.out).2.2); (case side4 => exact (Kd.R_reads' HOA4.out).2.1); rintro e w' ⟨rfl, ⟨nd, rfl⟩⟩; refine ⟨_, rfl, ?_⟩; (try (rw [drewN_self w87]; generalize hq_ : World.drewN w87 _ = w87; replace HOA3 : Aside0 (Kd.R (Kd.int .i64) 3 w87 w.heap.size (fun k_ => nO k_ (.slice Ao91 tA5.length co91) ∧ nO k_ vB6) (.slice Ao90 tA6.length co90) tA6) := ⟨by rw [← hq_]; exact (crM HOA3 fun _ hk => ⟨hk.1.2, hk.2⟩)⟩; replace HOA4 : Aside0 (Kd.R (Kd.int .i64) 3 w87 w.heap.size (fun k_ => nO k_ (.slice Ao90 tA6.length co90) ∧ nO k_ vB6) (.slice Ao91 tA5.length co91) tA5) := ⟨by rw [← hq_]; exact (crM HOA4 fun _ hk => ⟨hk.1.2, hk.2⟩)⟩; replace HOA7 : Aside0 (Kd.R (Kd.int .i64) 3 w87 w.heap.size (fun k_ => nO k_ (.slice Ao90 tA6.length co90) ∧ nO k_ (.slice Ao91 tA5.length co91)) vB6 tA8) := ⟨by rw [← hq_]; exact (crM HOA7 fun _ hk => ⟨hk.1.2, hk.2⟩)⟩; replace BKA1 : Aside0 (w87.heap[gbA1]? = some (.cells #[.bool a0_0, .slice A0_1 l0_1.length c0_1, .slice A0_2 l0_2.length c0_2] 32 (0, 0))) := ⟨by rw [← hq_]; exact (crb BKA1)⟩; replace BKA2 : Aside0 (w87.heap[gbA2]? = some (.cells #[.bool a1_0, .slice A1_1 l1_1.length c1_1, .slice A1_2 l1_2.length c1_2] 32 (0, 0))) := ⟨by rw [← hq_]; exact (crb BKA2)⟩; replace BKA0 : Aside0 (w87.heap[gbA0]? = some (.cells #[.bool false, .slice none 0 0, .slice none 0 0] 32 (0, 0))) := ⟨by rw [← hq_]; exact (crb BKA0)⟩; replace HB : Aside0 (Below w.heap.size w w87) := ⟨by rw [← hq_]; exact (blw HB)⟩; clear hq_))))
   replace HOA3 := Aside0.mk (Kd.R_drew HOA3.out)
   replace HOA4 := Aside0.mk (Kd.R_drew HOA4.out)
   replace HOA7 := Aside0.mk (Kd.R_drew HOA7.out)
   replace BKA1 := Aside0.mk (blk_drew BKA1.out)
   replace BKA2 := Aside0.mk (blk_drew BKA2.out)
   replace BKA0 := Aside0.mk (blk_drew BKA0.out)
   replace HB := Aside0.mk (below_drew1 HB.out)
   refine start_ (n := 8) (S := fun w' => w'.cell? ⟨gbA2, 0, none⟩ = some (.bool a1_0) ∧ w'.cell? ⟨gbA2, 1, none⟩ = some (.slice A1_1 l1_1.length c1_1) ∧ w'.cell? ⟨gbA2, 2, none⟩ = some (.slice A1_2 l1_2.length c1_2)) (ds := []) (bm 8 0) (by kernel_rfl) rfl rfl ⟨bce BKA2 0 _, bce BKA2 1 _, bce BKA2 2 _⟩ (fun hHeld => ?_); refine with_tabW spec_l02Add.tab8 spec_l02Add.bits8 (fun HT_ HW_ => ?_)
   generalize w87.drew = w92 at HOA3 HOA4 HOA7 BKA1 BKA2 BKA0 HB hHeld ⊢
   refine pu_ 0 (some 46) (bm 8 1) HT_.out ?_
   refine pu_ 2 (some 48) (bm 8 5) HT_.out ?_
   refine pu_ 3 (some 49) (bm 8 13) HT_.out ?_
   refine pu_ 5 (some 51) (bm 8 45) HT_.out ?_
   refine tk_ 1 (some 47) (bm 8 47) HT_.out HW_.out hHeld ?_
   refine one_ (i := 4) (N := some 50) (bm 8 63) rfl rfl (one_of HT_.out (by kernel_rfl)) (by decide) (fun K hK => ?_)
   refine g_ Try.func77 #[.slice Ao91 tA5.length co91, .slice Ao90 tA6.length co90] ?_
   with_reducible refine (spec_l01Sub.calls k _ _ tA5 _ _ tA6 tB4 _ ?side1 ?side2 ?side3 ?side4 A71.out).mono ?_
   (case side1 => exact crC (Kd.R_reads' HOA4.out).2.2)
   (case side2 => exact (Kd.R_reads' HOA4.out).2.1)
   (case side3 => exact crC (Kd.R_reads' HOA3.out).2.2)
   (case side4 => exact (Kd.R_reads' HOA3.out).2.1)
   rintro e w93 ⟨vE7, rfl, ho0, hb⟩
   refine ⟨_, rfl, ?_⟩
   have HOB9 := lwR (nwR (nwR (nwR ho0 HOA3) HOA4) HOA7) HB
   replace HOA3 := eldR HOA3 (Kd.R_base ho0) hb
   replace HOA4 := eldR HOA4 (Kd.R_base ho0) hb
   replace HOA7 := eldR HOA7 (Kd.R_base ho0) hb
   replace BKA1 := bkb BKA1 hb
   replace BKA2 := bkb BKA2 hb
   replace BKA0 := bkb BKA0 hb
   replace HB := bst HB hb
   (try clear hb)
   (try clear hb2)
   (try clear hk)
   (try clear hi)
   (try clear ho0)
   obtain ⟨Ao94, co94, eo94⟩ := Kd.R_slice HOB9.out
   (first | subst eo94 | (injection eo94 with f1_ f2_ f3_; have f4_ := f1_.symm; have f5_ := f3_.symm; clear f1_ f2_ f3_; subst f4_; subst f5_))
   obtain ⟨Ao95, co95, eo95⟩ := Kd.R_slice HOA7.out
   (first | subst eo95 | (injection eo95 with f1_ f2_ f3_; have f4_ := f1_.symm; have f5_ := f3_.symm; clear f1_ f2_ f3_; subst f4_; subst f5_))
   refine hK.out _ _ ⟨bce BKA2 0 _, bce BKA2 1 _, bce BKA2 2 _⟩ (fun hHeld => ?_)
   clear hK K
   refine nm_ 50 ?_
   refine one_ (i := 6) (N := some 52) (bm 8 127) rfl rfl (one_of HT_.out (by kernel_rfl)) (by decide) (fun K hK => ?_)
   refine g_ Try.func75 #[.bool a1_0, .slice Ao94 tB4.length co94, .slice Ao95 tA8.length co95] ?_
   with_reducible refine (spec_l02Make.calls k a1_0 _ _ tB4 _ _ tA8 tB0 tC6 tC7 _ ?side1 ?side2 ?side3 ?side4 A72.out).mono ?_
   (case side1 => exact crC (Kd.R_reads' HOB9.out).2.2)
   (case side2 => exact (Kd.R_reads' HOB9.out).2.1)
   (case side3 => exact crC (Kd.R_reads' HOA7.out).2.2)
   (case side4 => exact (Kd.R_reads' HOA7.out).2.1)
   rintro e w96 ⟨vE8, vE9, rfl, ho0, ho1, hb⟩
   refine ⟨_, rfl, ?_⟩
   have HOD9 := lwR (nwR (nwR (nwR (nwR ho0 HOA3) HOA4) HOA7) HOB9) HB
   have HOE0 := lwR (nwR (nwR (nwR (nwR ho1 HOA3) HOA4) HOA7) HOB9) HB
   replace HOA3 := tldR HOA3 hb (Kd.R_base ho0) (Kd.R_base ho1)
   replace HOA4 := tldR HOA4 hb (Kd.R_base ho0) (Kd.R_base ho1)
   replace HOA7 := tldR HOA7 hb (Kd.R_base ho0) (Kd.R_base ho1)
   replace HOB9 := tldR HOB9 hb (Kd.R_base ho0) (Kd.R_base ho1)
   replace BKA1 := bkb BKA1 hb
   replace BKA2 := bkb BKA2 hb
   replace BKA0 := bkb BKA0 hb
   replace HB := bst HB hb
   (try clear hb)
   (try clear hb2)
   (try clear hk)
   (try clear hi)
   (try clear ho0)
   (try clear ho1)
   obtain ⟨Ao98, co98, eo98⟩ := Kd.R_slice HOD9.out
   (first | subst eo98 | (injection eo98 with f1_ f2_ f3_; have f4_ := f1_.symm; have f5_ := f3_.symm; clear f1_ f2_ f3_; subst f4_; subst f5_))
   obtain ⟨AoC0, coC0, eoC0⟩ := Kd.R_slice HOE0.out
   (first | subst eoC0 | (injection eoC0 with f1_ f2_ f3_; have f4_ := f1_.symm; have f5_ := f3_.symm; clear f1_ f2_ f3_; subst f4_; subst f5_))
   refine hK.out _ _ ⟨bce BKA2 0 _, bce BKA2 1 _, bce BKA2 2 _⟩ (fun hHeld => ?_)
   clear hK K
   refine nm_ 52 ?_
   refine one_ (i := 7) (N := none) (bm 8 255) rfl rfl (one_of HT_.out (by kernel_rfl)) (by decide) (fun K hK => ?_)
   have hs97 : w96.cell? ⟨gbA0, 0, none⟩ = some (.bool false) := bce BKA0 0 _
   have hfs97 := blk_frozen BKA0.out 0
   have hns97_0 := NBA1_A0.out
   have hns97_1 := NBA2_A0.out
   have hms97_0 := NBA0_A1.out
   have hms97_1 := NBA0_A2.out
   have hs99 : w96.cell? ⟨gbA0, 1, none⟩ = some (.slice none 0 0) := bce BKA0 1 _
   have hfs99 := blk_frozen BKA0.out 1
   have hns99_0 := NBA1_A0.out
   have hns99_1 := NBA2_A0.out
   have hms99_0 := NBA0_A1.out
   have hms99_1 := NBA0_A2.out
   have hsC1 : w96.cell? ⟨gbA0, 2, none⟩ = some (.slice none 0 0) := bce BKA0 2 _
   have hfsC1 := blk_frozen BKA0.out 2
   have hnsC1_0 := NBA1_A0.out
   have hnsC1_1 := NBA2_A0.out
   have hmsC1_0 := NBA0_A1.out
   have hmsC1_1 := NBA0_A2.out
   refine skip_ (w1 := ?_) (by rfl) rfl ?_ ?_
   rotate_left
   ·
    go_simp
    rfl
   refine hK.out _ _ ⟨((cell_far (p := ⟨gbA0, _, none⟩) NBA2_A0.out _).trans (((cell_far (p := ⟨gbA0, _, none⟩) NBA2_A0.out _).trans (((cell_far (p := ⟨gbA0, _, none⟩) NBA2_A0.out _).trans (hHeld.1)))))), ((cell_far (p := ⟨gbA0, _, none⟩) NBA2_A0.out _).trans (((cell_far (p := ⟨gbA0, _, none⟩) NBA2_A0.out _).trans (((cell_far (p := ⟨gbA0, _, none⟩) NBA2_A0.out _).trans (hHeld.2.1)))))), ((cell_far (p := ⟨gbA0, _, none⟩) NBA2_A0.out _).trans (((cell_far (p := ⟨gbA0, _, none⟩) NBA2_A0.out _).trans (((cell_far (p := ⟨gbA0, _, none⟩) NBA2_A0.out _).trans (hHeld.2.2))))))⟩ (fun hHeld => ?_)
   clear hK K
   refine done_ (done_of HT_.out (by kernel_rfl)) ?_
   try go_wp2
   refine bodyPost_ret (results_cell_row rfl _ _ gbA0 32 #[.bool tB0, .slice Ao98 tC6.length co98, .slice AoC0 tC7.length coC0] (0, 0) _ rfl (bp3 BKA0 _ _ _) Try.underlying32 rfl (by kernel_rfl)) rfl ?_
   exact ⟨_, _, er_, (crN HOD9 BKA0 fun _ hk => hk.1.1.1.1.1), (crN HOE0 BKA0 fun _ hk => hk.1.1.1.1.1), blw HB⟩

end Go.Proofs.Ytegbmillbbcmfaa.Q
