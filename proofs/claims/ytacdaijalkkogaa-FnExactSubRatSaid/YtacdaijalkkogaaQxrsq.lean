-- written by a program of this claim's session (myprint.py) out of the translation; Lean checks it.
import Derived.Test.YtacdaijalkkogaaQx0
import Derived.Test.YtacdaijalkkogaaSq
import Derived.Test.YtacdaijalkkogaaQxcmp
import Derived.Test.YtacdaijalkkogaaQxdiv
import Derived.Test.YtacdaijalkkogaaQxmul
import Derived.Test.YtacdaijalkkogaaQxsub
import Derived.Test.YtacdaijalkkogaaQxrsp
import Derived.Test.YtacdaijalkkogaaQxrmk
import Derived.Test.YtacdaijalkkogaaQxadd
namespace Go.Proofs.Ytacdaijalkkogaa.Q
open Go.RowKit Go.Proofs.YtacdaijalkkogaaW.PrintWords Go.Proofs.YtacdaijalkkogaaW.PrintLast Go.Proofs.YtacdaijalkkogaaW.PrintMore
attribute [local go_sem] max2_int min2_int max_two min_two max_three min_three max_four min_four   -- for this text's walks alone
set_option linter.unusedVariables false
set_option linter.unusedSimpArgs false

def spec_l02Add.f (k : Nat) (a0_0 : Bool) (l0_1 : List Int) (l0_2 : List Int) (a1_0 : Bool) (l1_1 : List Int) (l1_2 : List Int) : Option (Bool × List Int × List Int) := (spec_l01Mul.f k l0_1 l1_2).bind fun tA9 => ((spec_l01Mul.f k l1_1 l0_2).bind fun tA8 => ((spec_l01Mul.f k l0_2 l1_2).bind fun tB1 => (if (a0_0 == a1_0) = true then ((spec_l01Add.f k tA9 tA8).bind fun tC2 => ((spec_l02Make.f k a0_0 tC2 tB1).bind fun btB5 => (some (btB5.1, btB5.2.1, btB5.2.2)))) else ((spec_l01Cmp.f k tA9 tA8).bind fun tB7 => (if tB7 ≥ 0 then ((spec_l01Sub.f k tA9 tA8).bind fun tB8 => ((spec_l02Make.f k a0_0 tB8 tB1).bind fun btB2 => (some (btB2.1, btB2.2.1, btB2.2.2)))) else ((spec_l01Sub.f k tA8 tA9).bind fun tB9 => ((spec_l02Make.f k a1_0 tB9 tB1).bind fun btB3 => (some (btB3.1, btB3.2.1, btB3.2.2)))))))))
theorem spec_l02Add.mono : ∀ a0 a1 a2 a3 a4 a5 k, LeO (spec_l02Add.f k a0 a1 a2 a3 a4 a5) (spec_l02Add.f (k + 1) a0 a1 a2 a3 a4 a5) := by
 intro a0 a1 a2 a3 a4 a5 k
 unfold spec_l02Add.f
 repeat' first
   | (with_reducible exact spec_l01Add.mono _ _ _)
   | (with_reducible exact spec_l01Cmp.mono _ _ _)
   | (with_reducible exact spec_l01Mul.mono _ _ _)
   | (with_reducible exact spec_l01Sub.mono _ _ _)
   | (with_reducible exact spec_l02Make.mono _ _ _ _)
   | (with_reducible exact LeO.refl _)
   | (with_reducible exact LeO.none _)
   | (with_reducible refine LeO.ite ?_ ?_)
   | (with_reducible refine LeO.bind ?_ (fun _ => ?_))
   | exact spec_l01Add.mono _ _ _
   | exact spec_l01Cmp.mono _ _ _
   | exact spec_l01Mul.mono _ _ _
   | exact spec_l01Sub.mono _ _ _
   | exact spec_l02Make.mono _ _ _ _
   | exact LeO.none _
   | refine LeO.ite ?_ ?_
   | refine LeO.bind ?_ (fun _ => ?_)
def spec_l02Add.T5 : Bool × List (List Nat × List Nat) := (true, [([], []), ([0], [0]), ([], []), ([], []), ([2, 3], [2, 3]), ([], []), ([1, 4, 5, 4], [1, 4, 5]), ([6, 6, 0, 1, 2, 3, 4, 5, 6], [6])])
def spec_l02Add.B5 : List Nat := [0, 1, 0, 0, 12, 0, 63, 127]
theorem spec_l02Add.tab5 : rtab .any (opsOf Try.f84 5) = spec_l02Add.T5 := by kernel_rfl
theorem spec_l02Add.bits5 : waitsOk spec_l02Add.T5.2 spec_l02Add.B5 = true := by kernel_rfl
def spec_l02Add.T7 : Bool × List (List Nat × List Nat) := (true, [([], []), ([0], [0]), ([], []), ([], []), ([2, 3], [2, 3]), ([], []), ([1, 4, 5, 4], [1, 4, 5]), ([6, 6, 0, 1, 2, 3, 4, 5, 6], [6])])
def spec_l02Add.B7 : List Nat := [0, 1, 0, 0, 12, 0, 63, 127]
theorem spec_l02Add.tab7 : rtab .any (opsOf Try.f84 7) = spec_l02Add.T7 := by kernel_rfl
theorem spec_l02Add.bits7 : waitsOk spec_l02Add.T7.2 spec_l02Add.B7 = true := by kernel_rfl
def spec_l02Add.T8 : Bool × List (List Nat × List Nat) := (true, [([], []), ([0], [0]), ([], []), ([], []), ([2, 3], [2, 3]), ([], []), ([1, 4, 5, 4], [1, 4, 5]), ([6, 6, 0, 1, 2, 3, 4, 5, 6], [6])])
def spec_l02Add.B8 : List Nat := [0, 1, 0, 0, 12, 0, 63, 127]
theorem spec_l02Add.tab8 : rtab .any (opsOf Try.f84 8) = spec_l02Add.T8 := by kernel_rfl
theorem spec_l02Add.bits8 : waitsOk spec_l02Add.T8.2 spec_l02Add.B8 = true := by kernel_rfl
set_option maxHeartbeats 8000000 in
set_option maxRecDepth 100000 in
theorem spec_l02Add.calls (k : Nat) (a0_0 : Bool) (A0_1 : Option Addr) (c0_1 : Nat) (l0_1 : List Int) (A0_2 : Option Addr) (c0_2 : Nat) (l0_2 : List Int) (a1_0 : Bool) (A1_1 : Option Addr) (c1_1 : Nat) (l1_1 : List Int) (A1_2 : Option Addr) (c1_2 : Nat) (l1_2 : List Int) (r1 : Bool) (r2 : List Int) (r3 : List Int) (w : World) (hr0_1 : Kd.C (Kd.int .i64) w A0_1 l0_1.length l0_1) (hc0_1 : l0_1.length ≤ c0_1) (hr0_2 : Kd.C (Kd.int .i64) w A0_2 l0_2.length l0_2) (hc0_2 : l0_2.length ≤ c0_2) (hr1_1 : Kd.C (Kd.int .i64) w A1_1 l1_1.length l1_1) (hc1_1 : l1_1.length ≤ c1_1) (hr1_2 : Kd.C (Kd.int .i64) w A1_2 l1_2.length l1_2) (hc1_2 : l1_2.length ≤ c1_2) (h : spec_l02Add.f k a0_0 l0_1 l0_2 a1_0 l1_1 l1_2 = some (r1, r2, r3)) :
  Calls Try.prog 84 #[.agg #[.bool a0_0, .slice A0_1 l0_1.length c0_1, .slice A0_2 l0_2.length c0_2], .agg #[.bool a1_0, .slice A1_1 l1_1.length c1_1, .slice A1_2 l1_2.length c1_2]] w fun e w' => ∃ v1_ v2_ : Value, e = .returned (.agg #[.bool r1, v1_, v2_]) ∧ Kd.R (Kd.int .i64) 3 w' w.heap.size (fun k_ => nO k_ v2_) v1_ r2 ∧ Kd.R (Kd.int .i64) 3 w' w.heap.size (fun k_ => nO k_ v1_) v2_ r3 ∧ Below w.heap.size w w' := by
 have hu24 := Try.underlying24
 have HR0_1 := Aside0.mk hr0_1
 have HC0_1 := Aside0.mk hc0_1
 clear hr0_1 hc0_1
 have HR0_2 := Aside0.mk hr0_2
 have HC0_2 := Aside0.mk hc0_2
 clear hr0_2 hc0_2
 have HR1_1 := Aside0.mk hr1_1
 have HC1_1 := Aside0.mk hc1_1
 clear hr1_1 hc1_1
 have HR1_2 := Aside0.mk hr1_2
 have HC1_2 := Aside0.mk hc1_2
 clear hr1_2 hc1_2
 have HB := Aside0.mk (Below.refl w.heap.size w)
 have H : ((spec_l01Mul.f k l0_1 l1_2).bind fun tA9 => ((spec_l01Mul.f k l1_1 l0_2).bind fun tA8 => ((spec_l01Mul.f k l0_2 l1_2).bind fun tB1 => (if (a0_0 == a1_0) = true then ((spec_l01Add.f k tA9 tA8).bind fun tC2 => ((spec_l02Make.f k a0_0 tC2 tB1).bind fun btB5 => (some (btB5.1, btB5.2.1, btB5.2.2)))) else ((spec_l01Cmp.f k tA9 tA8).bind fun tB7 => (if tB7 ≥ 0 then ((spec_l01Sub.f k tA9 tA8).bind fun tB8 => ((spec_l02Make.f k a0_0 tB8 tB1).bind fun btB2 => (some (btB2.1, btB2.2.1, btB2.2.2)))) else ((spec_l01Sub.f k tA8 tA9).bind fun tB9 => ((spec_l02Make.f k a1_0 tB9 tB1).bind fun btB3 => (some (btB3.1, btB3.2.1, btB3.2.2)))))))))) = some (r1, r2, r3) := h
 clear h
 replace H := Option.bind_eq_some_iff.mp H
 obtain ⟨tA9, A30, H⟩ := H
 replace H : ((spec_l01Mul.f k l1_1 l0_2).bind fun tA8 => ((spec_l01Mul.f k l0_2 l1_2).bind fun tB1 => (if (a0_0 == a1_0) = true then ((spec_l01Add.f k tA9 tA8).bind fun tC2 => ((spec_l02Make.f k a0_0 tC2 tB1).bind fun btB5 => (some (btB5.1, btB5.2.1, btB5.2.2)))) else ((spec_l01Cmp.f k tA9 tA8).bind fun tB7 => (if tB7 ≥ 0 then ((spec_l01Sub.f k tA9 tA8).bind fun tB8 => ((spec_l02Make.f k a0_0 tB8 tB1).bind fun btB2 => (some (btB2.1, btB2.2.1, btB2.2.2)))) else ((spec_l01Sub.f k tA8 tA9).bind fun tB9 => ((spec_l02Make.f k a1_0 tB9 tB1).bind fun btB3 => (some (btB3.1, btB3.2.1, btB3.2.2))))))))) = some (r1, r2, r3) := H
 have A3 := Aside0.mk A30
 clear A30
 replace H := Option.bind_eq_some_iff.mp H
 obtain ⟨tA8, A40, H⟩ := H
 replace H : ((spec_l01Mul.f k l0_2 l1_2).bind fun tB1 => (if (a0_0 == a1_0) = true then ((spec_l01Add.f k tA9 tA8).bind fun tC2 => ((spec_l02Make.f k a0_0 tC2 tB1).bind fun btB5 => (some (btB5.1, btB5.2.1, btB5.2.2)))) else ((spec_l01Cmp.f k tA9 tA8).bind fun tB7 => (if tB7 ≥ 0 then ((spec_l01Sub.f k tA9 tA8).bind fun tB8 => ((spec_l02Make.f k a0_0 tB8 tB1).bind fun btB2 => (some (btB2.1, btB2.2.1, btB2.2.2)))) else ((spec_l01Sub.f k tA8 tA9).bind fun tB9 => ((spec_l02Make.f k a1_0 tB9 tB1).bind fun btB3 => (some (btB3.1, btB3.2.1, btB3.2.2)))))))) = some (r1, r2, r3) := H
 have A4 := Aside0.mk A40
 clear A40
 replace H := Option.bind_eq_some_iff.mp H
 obtain ⟨tB1, A50, H⟩ := H
 replace H : (if (a0_0 == a1_0) = true then ((spec_l01Add.f k tA9 tA8).bind fun tC2 => ((spec_l02Make.f k a0_0 tC2 tB1).bind fun btB5 => (some (btB5.1, btB5.2.1, btB5.2.2)))) else ((spec_l01Cmp.f k tA9 tA8).bind fun tB7 => (if tB7 ≥ 0 then ((spec_l01Sub.f k tA9 tA8).bind fun tB8 => ((spec_l02Make.f k a0_0 tB8 tB1).bind fun btB2 => (some (btB2.1, btB2.2.1, btB2.2.2)))) else ((spec_l01Sub.f k tA8 tA9).bind fun tB9 => ((spec_l02Make.f k a1_0 tB9 tB1).bind fun btB3 => (some (btB3.1, btB3.2.1, btB3.2.2))))))) = some (r1, r2, r3) := H
 have A5 := Aside0.mk A50
 clear A50
 by_cases c6 : (a0_0 == a1_0) = true
 ·
  rw [if_pos c6] at H
  have c6b0 : (a0_0 == a1_0) = true := c6
  (try (have c6b1 : decide (a0_0 = a1_0) = true := by simpa using c6))
  (try (have c6b2 : (a0_0 == a1_0) = true := by simpa using c6))
  clear c6
  replace H := Option.bind_eq_some_iff.mp H
  obtain ⟨tC2, A70, H⟩ := H
  replace H : ((spec_l02Make.f k a0_0 tC2 tB1).bind fun btB5 => (some (btB5.1, btB5.2.1, btB5.2.2))) = some (r1, r2, r3) := H
  have A7 := Aside0.mk A70
  clear A70
  replace H := Option.bind_eq_some_iff.mp H
  obtain ⟨⟨tB5, tD7, tD8⟩, A80, H⟩ := H
  replace H : (some (tB5, tD7, tD8)) = some (r1, r2, r3) := H
  have A8 := Aside0.mk A80
  clear A80
  simp only [Option.some.injEq, Prod.mk.injEq] at H
  obtain ⟨rfl, rfl, rfl⟩ := H
  go_enter Try.func84, Try.ntmps84
  try go_wp2_with (first | ((with_reducible refine gate_dst (N := 2) rfl ?_); refine bx_ (N := 2) (cs := #[.bool a0_0, .slice A0_1 l0_1.length c0_1, .slice A0_2 l0_2.length c0_2]) (t := 24) ?_; intro gbA2 hg w9 hbox hb; have BKA2 := Aside0.mk (hbox); have GWA2 := geh hg HB; have GEA2 := geh hg HB; replace HB := bst HB hb; clear hb hbox hg) | ((with_reducible refine gate_dst (N := 3) rfl ?_); refine bx_ (N := 3) (cs := #[.bool a1_0, .slice A1_1 l1_1.length c1_1, .slice A1_2 l1_2.length c1_2]) (t := 24) ?_; intro gbA3 hg w10 hbox hb; have BKA3 := Aside0.mk (hbox); have GWA3 := geh hg HB; have GEA3 := geh hg HB; replace HB := bst HB hb; have NBA2_A3 := nlt hg BKA2; have NBA3_A2 := ngt hg BKA2; replace BKA2 := bkb BKA2 hb; clear hb hbox hg) | ((with_reducible refine gate_dst (N := 4) rfl ?_); refine bx_ (N := 4) (cs := #[.bool false, .slice none 0 0, .slice none 0 0]) (t := 24) ?_; intro gbA0 hg w11 hbox hb; have BKA0 := Aside0.mk (hbox); have GWA0 := geh hg HB; have GEA0 := geh hg HB; replace HB := bst HB hb; have NBA2_A0 := nlt hg BKA2; have NBA0_A2 := ngt hg BKA2; replace BKA2 := bkb BKA2 hb; have NBA3_A0 := nlt hg BKA3; have NBA0_A3 := ngt hg BKA3; replace BKA3 := bkb BKA3 hb; clear hb hbox hg; have hnb12 := NBA2_A3.out; have hnc12 := NBA3_A2.out; have hnb13 := NBA2_A0.out; have hnc13 := NBA0_A2.out; obtain ⟨hcz14_0, hcz14_1, hcz14_2, hfz14_0, hfz14_1, hfz14_2⟩ := bc3 BKA2; have hnb15 := NBA3_A0.out; have hnc15 := NBA0_A3.out; obtain ⟨hcz16_0, hcz16_1, hcz16_2, hfz16_0, hfz16_1, hfz16_2⟩ := bc3 BKA3) | ((with_reducible refine gate_callee (f := 106) rfl ?_); refine gL_ (some 12) Try.func106 #[.slice A0_1 l0_1.length c0_1, .slice A1_2 l1_2.length c1_2] ?_; (with_reducible refine (spec_l01Mul.calls k _ _ l0_1 _ _ l1_2 tA9 _ ?side1 ?side2 ?side3 ?side4 A3.out).mono ?_); (case side1 => exact crC (Kd.C_below HR0_1.out HB.out)); (case side2 => exact HC0_1.out); (case side3 => exact crC (Kd.C_below HR1_2.out HB.out)); (case side4 => exact HC1_2.out); rintro e w17 ⟨vE5, rfl, ho0, hb⟩; refine ⟨_, rfl, ?_⟩; have HOA6 := lwR ho0 HB; replace BKA2 := bkb BKA2 hb; replace BKA3 := bkb BKA3 hb; replace BKA0 := bkb BKA0 hb; replace HB := bst HB hb; (try clear hb); (try clear hb2); (try clear hk); (try clear hi); (try clear ho0); obtain ⟨hcz18_0, hcz18_1, hcz18_2, hfz18_0, hfz18_1, hfz18_2⟩ := bc3 BKA3; obtain ⟨hcz19_0, hcz19_1, hcz19_2, hfz19_0, hfz19_1, hfz19_2⟩ := bc3 BKA2) | ((with_reducible refine gate_callee (f := 106) rfl ?_); refine gL_ (some 17) Try.func106 #[.slice A1_1 l1_1.length c1_1, .slice A0_2 l0_2.length c0_2] ?_; (with_reducible refine (spec_l01Mul.calls k _ _ l1_1 _ _ l0_2 tA8 _ ?side1 ?side2 ?side3 ?side4 A4.out).mono ?_); (case side1 => exact crC (Kd.C_below HR1_1.out HB.out)); (case side2 => exact HC1_1.out); (case side3 => exact crC (Kd.C_below HR0_2.out HB.out)); (case side4 => exact HC0_2.out); rintro e w20 ⟨vE6, rfl, ho0, hb⟩; refine ⟨_, rfl, ?_⟩; have HOA7 := lwR (nwR ho0 HOA6) HB; replace HOA6 := eldR HOA6 (Kd.R_base ho0) hb; replace BKA2 := bkb BKA2 hb; replace BKA3 := bkb BKA3 hb; replace BKA0 := bkb BKA0 hb; replace HB := bst HB hb; (try clear hb); (try clear hb2); (try clear hk); (try clear hi); (try clear ho0); obtain ⟨hcz21_0, hcz21_1, hcz21_2, hfz21_0, hfz21_1, hfz21_2⟩ := bc3 BKA2; obtain ⟨hcz22_0, hcz22_1, hcz22_2, hfz22_0, hfz22_1, hfz22_2⟩ := bc3 BKA3) | ((with_reducible refine gate_callee (f := 106) rfl ?_); refine gL_ (some 22) Try.func106 #[.slice A0_2 l0_2.length c0_2, .slice A1_2 l1_2.length c1_2] ?_; (with_reducible refine (spec_l01Mul.calls k _ _ l0_2 _ _ l1_2 tB1 _ ?side1 ?side2 ?side3 ?side4 A5.out).mono ?_); (case side1 => exact crC (Kd.C_below HR0_2.out HB.out)); (case side2 => exact HC0_2.out); (case side3 => exact crC (Kd.C_below HR1_2.out HB.out)); (case side4 => exact HC1_2.out); rintro e w23 ⟨vC7, rfl, ho0, hb⟩; refine ⟨_, rfl, ?_⟩; have HOB0 := lwR (nwR (nwR ho0 HOA6) HOA7) HB; replace HOA6 := eldR HOA6 (Kd.R_base ho0) hb; replace HOA7 := eldR HOA7 (Kd.R_base ho0) hb; replace BKA2 := bkb BKA2 hb; replace BKA3 := bkb BKA3 hb; replace BKA0 := bkb BKA0 hb; replace HB := bst HB hb; (try clear hb); (try clear hb2); (try clear hk); (try clear hi); (try clear ho0); obtain ⟨hcz24_0, hcz24_1, hcz24_2, hfz24_0, hfz24_1, hfz24_2⟩ := bc3 BKA2; obtain ⟨hcz25_0, hcz25_1, hcz25_2, hfz25_0, hfz25_1, hfz25_2⟩ := bc3 BKA3))
  replace HOA6 := Aside0.mk (Kd.R_drew HOA6.out)
  replace HOA7 := Aside0.mk (Kd.R_drew HOA7.out)
  replace HOB0 := Aside0.mk (Kd.R_drew HOB0.out)
  replace BKA2 := Aside0.mk (blk_drew BKA2.out)
  replace BKA3 := Aside0.mk (blk_drew BKA3.out)
  replace BKA0 := Aside0.mk (blk_drew BKA0.out)
  replace HB := Aside0.mk (below_drew1 HB.out)
  obtain ⟨Ao27, co27, eo27⟩ := Kd.R_slice HOA6.out
  (first | subst eo27 | (injection eo27 with f1_ f2_ f3_; have f4_ := f1_.symm; have f5_ := f3_.symm; clear f1_ f2_ f3_; subst f4_; subst f5_))
  obtain ⟨Ao28, co28, eo28⟩ := Kd.R_slice HOA7.out
  (first | subst eo28 | (injection eo28 with f1_ f2_ f3_; have f4_ := f1_.symm; have f5_ := f3_.symm; clear f1_ f2_ f3_; subst f4_; subst f5_))
  refine start_ (n := 8) (S := fun w' => w'.cell? ⟨gbA2, 0, none⟩ = some (.bool a0_0) ∧ w'.cell? ⟨gbA2, 1, none⟩ = some (.slice A0_1 l0_1.length c0_1) ∧ w'.cell? ⟨gbA2, 2, none⟩ = some (.slice A0_2 l0_2.length c0_2)) (ds := []) (bm 8 0) (by kernel_rfl) rfl rfl ⟨bce BKA2 0 _, bce BKA2 1 _, bce BKA2 2 _⟩ (fun hHeld => ?_); refine with_tabW spec_l02Add.tab5 spec_l02Add.bits5 (fun HT_ HW_ => ?_)
  generalize w23.drew = w26 at HOA6 HOA7 HOB0 BKA2 BKA3 BKA0 HB hHeld ⊢
  refine pu_ 0 (some 28) (bm 8 1) HT_.out ?_
  refine pu_ 2 (some 30) (bm 8 5) HT_.out ?_
  refine pu_ 3 (some 31) (bm 8 13) HT_.out ?_
  refine pu_ 5 (some 33) (bm 8 45) HT_.out ?_
  refine tk_ 1 (some 29) (bm 8 47) HT_.out HW_.out hHeld ?_
  refine one_ (i := 4) (N := some 32) (bm 8 63) rfl rfl (one_of HT_.out (by kernel_rfl)) (by decide) (fun K hK => ?_)
  refine g_ Try.func107 #[.slice Ao27 tA9.length co27, .slice Ao28 tA8.length co28] ?_
  with_reducible refine (spec_l01Add.calls k _ _ tA9 _ _ tA8 tC2 _ ?side1 ?side2 ?side3 ?side4 A7.out).mono ?_
  (case side1 => exact crC (Kd.R_reads' HOA6.out).2.2)
  (case side2 => exact (Kd.R_reads' HOA6.out).2.1)
  (case side3 => exact crC (Kd.R_reads' HOA7.out).2.2)
  (case side4 => exact (Kd.R_reads' HOA7.out).2.1)
  rintro e w29 ⟨vG0, rfl, ho0, hb⟩
  refine ⟨_, rfl, ?_⟩
  have HOC8 := lwR (nwR (nwR (nwR ho0 HOA6) HOA7) HOB0) HB
  replace HOA6 := eldR HOA6 (Kd.R_base ho0) hb
  replace HOA7 := eldR HOA7 (Kd.R_base ho0) hb
  replace HOB0 := eldR HOB0 (Kd.R_base ho0) hb
  replace BKA2 := bkb BKA2 hb
  replace BKA3 := bkb BKA3 hb
  replace BKA0 := bkb BKA0 hb
  replace HB := bst HB hb
  (try clear hb)
  (try clear hb2)
  (try clear hk)
  (try clear hi)
  (try clear ho0)
  obtain ⟨Ao30, co30, eo30⟩ := Kd.R_slice HOC8.out
  (first | subst eo30 | (injection eo30 with f1_ f2_ f3_; have f4_ := f1_.symm; have f5_ := f3_.symm; clear f1_ f2_ f3_; subst f4_; subst f5_))
  obtain ⟨Ao31, co31, eo31⟩ := Kd.R_slice HOB0.out
  (first | subst eo31 | (injection eo31 with f1_ f2_ f3_; have f4_ := f1_.symm; have f5_ := f3_.symm; clear f1_ f2_ f3_; subst f4_; subst f5_))
  refine hK.out _ _ ⟨bce BKA2 0 _, bce BKA2 1 _, bce BKA2 2 _⟩ (fun hHeld => ?_)
  clear hK K
  refine nm_ 32 ?_
  refine one_ (i := 6) (N := some 34) (bm 8 127) rfl rfl (one_of HT_.out (by kernel_rfl)) (by decide) (fun K hK => ?_)
  refine g_ Try.func47 #[.bool a0_0, .slice Ao30 tC2.length co30, .slice Ao31 tB1.length co31] ?_
  with_reducible refine (spec_l02Make.calls k a0_0 _ _ tC2 _ _ tB1 tB5 tD7 tD8 _ ?side1 ?side2 ?side3 ?side4 A8.out).mono ?_
  (case side1 => exact crC (Kd.R_reads' HOC8.out).2.2)
  (case side2 => exact (Kd.R_reads' HOC8.out).2.1)
  (case side3 => exact crC (Kd.R_reads' HOB0.out).2.2)
  (case side4 => exact (Kd.R_reads' HOB0.out).2.1)
  rintro e w32 ⟨vG1, vG2, rfl, ho0, ho1, hb⟩
  refine ⟨_, rfl, ?_⟩
  have HOE7 := lwR (nwR (nwR (nwR (nwR ho0 HOA6) HOA7) HOB0) HOC8) HB
  have HOE8 := lwR (nwR (nwR (nwR (nwR ho1 HOA6) HOA7) HOB0) HOC8) HB
  replace HOA6 := tldR HOA6 hb (Kd.R_base ho0) (Kd.R_base ho1)
  replace HOA7 := tldR HOA7 hb (Kd.R_base ho0) (Kd.R_base ho1)
  replace HOB0 := tldR HOB0 hb (Kd.R_base ho0) (Kd.R_base ho1)
  replace HOC8 := tldR HOC8 hb (Kd.R_base ho0) (Kd.R_base ho1)
  replace BKA2 := bkb BKA2 hb
  replace BKA3 := bkb BKA3 hb
  replace BKA0 := bkb BKA0 hb
  replace HB := bst HB hb
  (try clear hb)
  (try clear hb2)
  (try clear hk)
  (try clear hi)
  (try clear ho0)
  (try clear ho1)
  obtain ⟨Ao34, co34, eo34⟩ := Kd.R_slice HOE7.out
  (first | subst eo34 | (injection eo34 with f1_ f2_ f3_; have f4_ := f1_.symm; have f5_ := f3_.symm; clear f1_ f2_ f3_; subst f4_; subst f5_))
  obtain ⟨Ao36, co36, eo36⟩ := Kd.R_slice HOE8.out
  (first | subst eo36 | (injection eo36 with f1_ f2_ f3_; have f4_ := f1_.symm; have f5_ := f3_.symm; clear f1_ f2_ f3_; subst f4_; subst f5_))
  refine hK.out _ _ ⟨bce BKA2 0 _, bce BKA2 1 _, bce BKA2 2 _⟩ (fun hHeld => ?_)
  clear hK K
  refine nm_ 34 ?_
  refine one_ (i := 7) (N := none) (bm 8 255) rfl rfl (one_of HT_.out (by kernel_rfl)) (by decide) (fun K hK => ?_)
  have hs33 : w32.cell? ⟨gbA0, 0, none⟩ = some (.bool false) := bce BKA0 0 _
  have hfs33 := blk_frozen BKA0.out 0
  have hns33_0 := NBA2_A0.out
  have hns33_1 := NBA3_A0.out
  have hms33_0 := NBA0_A2.out
  have hms33_1 := NBA0_A3.out
  have hs35 : w32.cell? ⟨gbA0, 1, none⟩ = some (.slice none 0 0) := bce BKA0 1 _
  have hfs35 := blk_frozen BKA0.out 1
  have hns35_0 := NBA2_A0.out
  have hns35_1 := NBA3_A0.out
  have hms35_0 := NBA0_A2.out
  have hms35_1 := NBA0_A3.out
  have hs37 : w32.cell? ⟨gbA0, 2, none⟩ = some (.slice none 0 0) := bce BKA0 2 _
  have hfs37 := blk_frozen BKA0.out 2
  have hns37_0 := NBA2_A0.out
  have hns37_1 := NBA3_A0.out
  have hms37_0 := NBA0_A2.out
  have hms37_1 := NBA0_A3.out
  refine skip_ (w1 := ?_) (by rfl) rfl ?_ ?_
  rotate_left
  ·
   go_simp
   rfl
  refine hK.out _ _ ⟨((cell_far (p := ⟨gbA0, _, none⟩) NBA2_A0.out _).trans (((cell_far (p := ⟨gbA0, _, none⟩) NBA2_A0.out _).trans (((cell_far (p := ⟨gbA0, _, none⟩) NBA2_A0.out _).trans (hHeld.1)))))), ((cell_far (p := ⟨gbA0, _, none⟩) NBA2_A0.out _).trans (((cell_far (p := ⟨gbA0, _, none⟩) NBA2_A0.out _).trans (((cell_far (p := ⟨gbA0, _, none⟩) NBA2_A0.out _).trans (hHeld.2.1)))))), ((cell_far (p := ⟨gbA0, _, none⟩) NBA2_A0.out _).trans (((cell_far (p := ⟨gbA0, _, none⟩) NBA2_A0.out _).trans (((cell_far (p := ⟨gbA0, _, none⟩) NBA2_A0.out _).trans (hHeld.2.2))))))⟩ (fun hHeld => ?_)
  clear hK K
  refine done_ (done_of HT_.out (by kernel_rfl)) ?_
  try go_wp2
  refine bodyPost_ret (results_cell_row rfl _ _ gbA0 24 #[.bool tB5, .slice Ao34 tD7.length co34, .slice Ao36 tD8.length co36] (0, 0) _ rfl (bp3 BKA0 _ _ _) Try.underlying24 rfl (by kernel_rfl)) rfl ?_
  exact ⟨_, _, er_, (crN HOE7 BKA0 fun _ hk => hk.1.1.1.1.1), (crN HOE8 BKA0 fun _ hk => hk.1.1.1.1.1), blw HB⟩
 ·
  rw [if_neg c6] at H
  have c6b0 : (a0_0 == a1_0) = false := by simpa using c6
  (try (have c6b1 : decide (a0_0 = a1_0) = false := by simpa using c6))
  (try (have c6b2 : (a0_0 == a1_0) = false := by simpa using c6))
  (try (have c6b3 : ¬ (a0_0 = a1_0) := by simpa using c6))
  clear c6
  replace H := Option.bind_eq_some_iff.mp H
  obtain ⟨tB7, AE9, H⟩ := H
  replace H : (if tB7 ≥ 0 then ((spec_l01Sub.f k tA9 tA8).bind fun tB8 => ((spec_l02Make.f k a0_0 tB8 tB1).bind fun btB2 => (some (btB2.1, btB2.2.1, btB2.2.2)))) else ((spec_l01Sub.f k tA8 tA9).bind fun tB9 => ((spec_l02Make.f k a1_0 tB9 tB1).bind fun btB3 => (some (btB3.1, btB3.2.1, btB3.2.2))))) = some (r1, r2, r3) := H
  have A38 := Aside0.mk AE9
  clear AE9
  by_cases c39 : tB7 ≥ 0
  ·
   rw [if_pos c39] at H
   have c39b0 : decide (0 ≤ tB7) = true := decide_eq_true c39
   clear c39
   replace H := Option.bind_eq_some_iff.mp H
   obtain ⟨tB8, AF0, H⟩ := H
   replace H : ((spec_l02Make.f k a0_0 tB8 tB1).bind fun btB2 => (some (btB2.1, btB2.2.1, btB2.2.2))) = some (r1, r2, r3) := H
   have A40 := Aside0.mk AF0
   clear AF0
   replace H := Option.bind_eq_some_iff.mp H
   obtain ⟨⟨tB2, tD9, tE0⟩, AF1, H⟩ := H
   replace H : (some (tB2, tD9, tE0)) = some (r1, r2, r3) := H
   have A41 := Aside0.mk AF1
   clear AF1
   simp only [Option.some.injEq, Prod.mk.injEq] at H
   obtain ⟨rfl, rfl, rfl⟩ := H
   go_enter Try.func84, Try.ntmps84
   try go_wp2_with (first | ((with_reducible refine gate_dst (N := 2) rfl ?_); refine bx_ (N := 2) (cs := #[.bool a0_0, .slice A0_1 l0_1.length c0_1, .slice A0_2 l0_2.length c0_2]) (t := 24) ?_; intro gbA2 hg w42 hbox hb; have BKA2 := Aside0.mk (hbox); have GWA2 := geh hg HB; have GEA2 := geh hg HB; replace HB := bst HB hb; clear hb hbox hg) | ((with_reducible refine gate_dst (N := 3) rfl ?_); refine bx_ (N := 3) (cs := #[.bool a1_0, .slice A1_1 l1_1.length c1_1, .slice A1_2 l1_2.length c1_2]) (t := 24) ?_; intro gbA3 hg w43 hbox hb; have BKA3 := Aside0.mk (hbox); have GWA3 := geh hg HB; have GEA3 := geh hg HB; replace HB := bst HB hb; have NBA2_A3 := nlt hg BKA2; have NBA3_A2 := ngt hg BKA2; replace BKA2 := bkb BKA2 hb; clear hb hbox hg) | ((with_reducible refine gate_dst (N := 4) rfl ?_); refine bx_ (N := 4) (cs := #[.bool false, .slice none 0 0, .slice none 0 0]) (t := 24) ?_; intro gbA0 hg w44 hbox hb; have BKA0 := Aside0.mk (hbox); have GWA0 := geh hg HB; have GEA0 := geh hg HB; replace HB := bst HB hb; have NBA2_A0 := nlt hg BKA2; have NBA0_A2 := ngt hg BKA2; replace BKA2 := bkb BKA2 hb; have NBA3_A0 := nlt hg BKA3; have NBA0_A3 := ngt hg BKA3; replace BKA3 := bkb BKA3 hb; clear hb hbox hg; have hnb45 := NBA2_A3.out; have hnc45 := NBA3_A2.out; have hnb46 := NBA2_A0.out; have hnc46 := NBA0_A2.out; obtain ⟨hcz47_0, hcz47_1, hcz47_2, hfz47_0, hfz47_1, hfz47_2⟩ := bc3 BKA2; have hnb48 := NBA3_A0.out; have hnc48 := NBA0_A3.out; obtain ⟨hcz49_0, hcz49_1, hcz49_2, hfz49_0, hfz49_1, hfz49_2⟩ := bc3 BKA3) | ((with_reducible refine gate_callee (f := 106) rfl ?_); refine gL_ (some 12) Try.func106 #[.slice A0_1 l0_1.length c0_1, .slice A1_2 l1_2.length c1_2] ?_; (with_reducible refine (spec_l01Mul.calls k _ _ l0_1 _ _ l1_2 tA9 _ ?side1 ?side2 ?side3 ?side4 A3.out).mono ?_); (case side1 => exact crC (Kd.C_below HR0_1.out HB.out)); (case side2 => exact HC0_1.out); (case side3 => exact crC (Kd.C_below HR1_2.out HB.out)); (case side4 => exact HC1_2.out); rintro e w50 ⟨vE5, rfl, ho0, hb⟩; refine ⟨_, rfl, ?_⟩; have HOA6 := lwR ho0 HB; replace BKA2 := bkb BKA2 hb; replace BKA3 := bkb BKA3 hb; replace BKA0 := bkb BKA0 hb; replace HB := bst HB hb; (try clear hb); (try clear hb2); (try clear hk); (try clear hi); (try clear ho0); obtain ⟨hcz51_0, hcz51_1, hcz51_2, hfz51_0, hfz51_1, hfz51_2⟩ := bc3 BKA3; obtain ⟨hcz52_0, hcz52_1, hcz52_2, hfz52_0, hfz52_1, hfz52_2⟩ := bc3 BKA2) | ((with_reducible refine gate_callee (f := 106) rfl ?_); refine gL_ (some 17) Try.func106 #[.slice A1_1 l1_1.length c1_1, .slice A0_2 l0_2.length c0_2] ?_; (with_reducible refine (spec_l01Mul.calls k _ _ l1_1 _ _ l0_2 tA8 _ ?side1 ?side2 ?side3 ?side4 A4.out).mono ?_); (case side1 => exact crC (Kd.C_below HR1_1.out HB.out)); (case side2 => exact HC1_1.out); (case side3 => exact crC (Kd.C_below HR0_2.out HB.out)); (case side4 => exact HC0_2.out); rintro e w53 ⟨vE6, rfl, ho0, hb⟩; refine ⟨_, rfl, ?_⟩; have HOA7 := lwR (nwR ho0 HOA6) HB; replace HOA6 := eldR HOA6 (Kd.R_base ho0) hb; replace BKA2 := bkb BKA2 hb; replace BKA3 := bkb BKA3 hb; replace BKA0 := bkb BKA0 hb; replace HB := bst HB hb; (try clear hb); (try clear hb2); (try clear hk); (try clear hi); (try clear ho0); obtain ⟨hcz54_0, hcz54_1, hcz54_2, hfz54_0, hfz54_1, hfz54_2⟩ := bc3 BKA2; obtain ⟨hcz55_0, hcz55_1, hcz55_2, hfz55_0, hfz55_1, hfz55_2⟩ := bc3 BKA3) | ((with_reducible refine gate_callee (f := 106) rfl ?_); refine gL_ (some 22) Try.func106 #[.slice A0_2 l0_2.length c0_2, .slice A1_2 l1_2.length c1_2] ?_; (with_reducible refine (spec_l01Mul.calls k _ _ l0_2 _ _ l1_2 tB1 _ ?side1 ?side2 ?side3 ?side4 A5.out).mono ?_); (case side1 => exact crC (Kd.C_below HR0_2.out HB.out)); (case side2 => exact HC0_2.out); (case side3 => exact crC (Kd.C_below HR1_2.out HB.out)); (case side4 => exact HC1_2.out); rintro e w56 ⟨vC7, rfl, ho0, hb⟩; refine ⟨_, rfl, ?_⟩; have HOB0 := lwR (nwR (nwR ho0 HOA6) HOA7) HB; replace HOA6 := eldR HOA6 (Kd.R_base ho0) hb; replace HOA7 := eldR HOA7 (Kd.R_base ho0) hb; replace BKA2 := bkb BKA2 hb; replace BKA3 := bkb BKA3 hb; replace BKA0 := bkb BKA0 hb; replace HB := bst HB hb; (try clear hb); (try clear hb2); (try clear hk); (try clear hi); (try clear ho0); obtain ⟨hcz57_0, hcz57_1, hcz57_2, hfz57_0, hfz57_1, hfz57_2⟩ := bc3 BKA2; obtain ⟨hcz58_0, hcz58_1, hcz58_2, hfz58_0, hfz58_1, hfz58_2⟩ := bc3 BKA3; obtain ⟨Ao59, co59, eo59⟩ := Kd.R_slice HOA6.out; subst eo59; obtain ⟨Ao60, co60, eo60⟩ := Kd.R_slice HOA7.out; subst eo60) | ((with_reducible refine gate_callee (f := 55) rfl ?_); refine gL_ (some 37) Try.func55 #[.slice Ao59 tA9.length co59, .slice Ao60 tA8.length co60] ?_; (with_reducible refine (spec_l01Cmp.calls k _ _ tA9 _ _ tA8 tB7 _ ?side1 ?side2 ?side3 ?side4 A38.out).mono ?_); (case side1 => exact crC (Kd.R_reads' HOA6.out).2.2); (case side2 => exact (Kd.R_reads' HOA6.out).2.1); (case side3 => exact crC (Kd.R_reads' HOA7.out).2.2); (case side4 => exact (Kd.R_reads' HOA7.out).2.1); rintro e w' ⟨rfl, ⟨nd, rfl⟩⟩; refine ⟨_, rfl, ?_⟩; (try (rw [drewN_self w56]; generalize hq_ : World.drewN w56 _ = w56; replace HOA6 : Aside0 (Kd.R (Kd.int .i64) 3 w56 w.heap.size (fun k_ => nO k_ (.slice Ao60 tA8.length co60) ∧ nO k_ vC7) (.slice Ao59 tA9.length co59) tA9) := ⟨by rw [← hq_]; exact (crM HOA6 fun _ hk => ⟨hk.1.2, hk.2⟩)⟩; replace HOA7 : Aside0 (Kd.R (Kd.int .i64) 3 w56 w.heap.size (fun k_ => nO k_ (.slice Ao59 tA9.length co59) ∧ nO k_ vC7) (.slice Ao60 tA8.length co60) tA8) := ⟨by rw [← hq_]; exact (crM HOA7 fun _ hk => ⟨hk.1.2, hk.2⟩)⟩; replace HOB0 : Aside0 (Kd.R (Kd.int .i64) 3 w56 w.heap.size (fun k_ => nO k_ (.slice Ao59 tA9.length co59) ∧ nO k_ (.slice Ao60 tA8.length co60)) vC7 tB1) := ⟨by rw [← hq_]; exact (crM HOB0 fun _ hk => ⟨hk.1.2, hk.2⟩)⟩; replace BKA2 : Aside0 (w56.heap[gbA2]? = some (.cells #[.bool a0_0, .slice A0_1 l0_1.length c0_1, .slice A0_2 l0_2.length c0_2] 24 (0, 0))) := ⟨by rw [← hq_]; exact (crb BKA2)⟩; replace BKA3 : Aside0 (w56.heap[gbA3]? = some (.cells #[.bool a1_0, .slice A1_1 l1_1.length c1_1, .slice A1_2 l1_2.length c1_2] 24 (0, 0))) := ⟨by rw [← hq_]; exact (crb BKA3)⟩; replace BKA0 : Aside0 (w56.heap[gbA0]? = some (.cells #[.bool false, .slice none 0 0, .slice none 0 0] 24 (0, 0))) := ⟨by rw [← hq_]; exact (crb BKA0)⟩; replace HB : Aside0 (Below w.heap.size w w56) := ⟨by rw [← hq_]; exact (blw HB)⟩; clear hq_))))
   replace HOA6 := Aside0.mk (Kd.R_drew HOA6.out)
   replace HOA7 := Aside0.mk (Kd.R_drew HOA7.out)
   replace HOB0 := Aside0.mk (Kd.R_drew HOB0.out)
   replace BKA2 := Aside0.mk (blk_drew BKA2.out)
   replace BKA3 := Aside0.mk (blk_drew BKA3.out)
   replace BKA0 := Aside0.mk (blk_drew BKA0.out)
   replace HB := Aside0.mk (below_drew1 HB.out)
   refine start_ (n := 8) (S := fun w' => w'.cell? ⟨gbA2, 0, none⟩ = some (.bool a0_0) ∧ w'.cell? ⟨gbA2, 1, none⟩ = some (.slice A0_1 l0_1.length c0_1) ∧ w'.cell? ⟨gbA2, 2, none⟩ = some (.slice A0_2 l0_2.length c0_2)) (ds := []) (bm 8 0) (by kernel_rfl) rfl rfl ⟨bce BKA2 0 _, bce BKA2 1 _, bce BKA2 2 _⟩ (fun hHeld => ?_); refine with_tabW spec_l02Add.tab7 spec_l02Add.bits7 (fun HT_ HW_ => ?_)
   generalize w56.drew = w61 at HOA6 HOA7 HOB0 BKA2 BKA3 BKA0 HB hHeld ⊢
   refine pu_ 0 (some 39) (bm 8 1) HT_.out ?_
   refine pu_ 2 (some 41) (bm 8 5) HT_.out ?_
   refine pu_ 3 (some 42) (bm 8 13) HT_.out ?_
   refine pu_ 5 (some 44) (bm 8 45) HT_.out ?_
   refine tk_ 1 (some 40) (bm 8 47) HT_.out HW_.out hHeld ?_
   refine one_ (i := 4) (N := some 43) (bm 8 63) rfl rfl (one_of HT_.out (by kernel_rfl)) (by decide) (fun K hK => ?_)
   refine g_ Try.func111 #[.slice Ao59 tA9.length co59, .slice Ao60 tA8.length co60] ?_
   with_reducible refine (spec_l01Sub.calls k _ _ tA9 _ _ tA8 tB8 _ ?side1 ?side2 ?side3 ?side4 A40.out).mono ?_
   (case side1 => exact crC (Kd.R_reads' HOA6.out).2.2)
   (case side2 => exact (Kd.R_reads' HOA6.out).2.1)
   (case side3 => exact crC (Kd.R_reads' HOA7.out).2.2)
   (case side4 => exact (Kd.R_reads' HOA7.out).2.1)
   rintro e w62 ⟨vG3, rfl, ho0, hb⟩
   refine ⟨_, rfl, ?_⟩
   have HOC9 := lwR (nwR (nwR (nwR ho0 HOA6) HOA7) HOB0) HB
   replace HOA6 := eldR HOA6 (Kd.R_base ho0) hb
   replace HOA7 := eldR HOA7 (Kd.R_base ho0) hb
   replace HOB0 := eldR HOB0 (Kd.R_base ho0) hb
   replace BKA2 := bkb BKA2 hb
   replace BKA3 := bkb BKA3 hb
   replace BKA0 := bkb BKA0 hb
   replace HB := bst HB hb
   (try clear hb)
   (try clear hb2)
   (try clear hk)
   (try clear hi)
   (try clear ho0)
   obtain ⟨Ao63, co63, eo63⟩ := Kd.R_slice HOC9.out
   (first | subst eo63 | (injection eo63 with f1_ f2_ f3_; have f4_ := f1_.symm; have f5_ := f3_.symm; clear f1_ f2_ f3_; subst f4_; subst f5_))
   obtain ⟨Ao64, co64, eo64⟩ := Kd.R_slice HOB0.out
   (first | subst eo64 | (injection eo64 with f1_ f2_ f3_; have f4_ := f1_.symm; have f5_ := f3_.symm; clear f1_ f2_ f3_; subst f4_; subst f5_))
   refine hK.out _ _ ⟨bce BKA2 0 _, bce BKA2 1 _, bce BKA2 2 _⟩ (fun hHeld => ?_)
   clear hK K
   refine nm_ 43 ?_
   refine one_ (i := 6) (N := some 45) (bm 8 127) rfl rfl (one_of HT_.out (by kernel_rfl)) (by decide) (fun K hK => ?_)
   refine g_ Try.func47 #[.bool a0_0, .slice Ao63 tB8.length co63, .slice Ao64 tB1.length co64] ?_
   with_reducible refine (spec_l02Make.calls k a0_0 _ _ tB8 _ _ tB1 tB2 tD9 tE0 _ ?side1 ?side2 ?side3 ?side4 A41.out).mono ?_
   (case side1 => exact crC (Kd.R_reads' HOC9.out).2.2)
   (case side2 => exact (Kd.R_reads' HOC9.out).2.1)
   (case side3 => exact crC (Kd.R_reads' HOB0.out).2.2)
   (case side4 => exact (Kd.R_reads' HOB0.out).2.1)
   rintro e w65 ⟨vG4, vG5, rfl, ho0, ho1, hb⟩
   refine ⟨_, rfl, ?_⟩
   have HOF2 := lwR (nwR (nwR (nwR (nwR ho0 HOA6) HOA7) HOB0) HOC9) HB
   have HOF3 := lwR (nwR (nwR (nwR (nwR ho1 HOA6) HOA7) HOB0) HOC9) HB
   replace HOA6 := tldR HOA6 hb (Kd.R_base ho0) (Kd.R_base ho1)
   replace HOA7 := tldR HOA7 hb (Kd.R_base ho0) (Kd.R_base ho1)
   replace HOB0 := tldR HOB0 hb (Kd.R_base ho0) (Kd.R_base ho1)
   replace HOC9 := tldR HOC9 hb (Kd.R_base ho0) (Kd.R_base ho1)
   replace BKA2 := bkb BKA2 hb
   replace BKA3 := bkb BKA3 hb
   replace BKA0 := bkb BKA0 hb
   replace HB := bst HB hb
   (try clear hb)
   (try clear hb2)
   (try clear hk)
   (try clear hi)
   (try clear ho0)
   (try clear ho1)
   obtain ⟨Ao67, co67, eo67⟩ := Kd.R_slice HOF2.out
   (first | subst eo67 | (injection eo67 with f1_ f2_ f3_; have f4_ := f1_.symm; have f5_ := f3_.symm; clear f1_ f2_ f3_; subst f4_; subst f5_))
   obtain ⟨Ao69, co69, eo69⟩ := Kd.R_slice HOF3.out
   (first | subst eo69 | (injection eo69 with f1_ f2_ f3_; have f4_ := f1_.symm; have f5_ := f3_.symm; clear f1_ f2_ f3_; subst f4_; subst f5_))
   refine hK.out _ _ ⟨bce BKA2 0 _, bce BKA2 1 _, bce BKA2 2 _⟩ (fun hHeld => ?_)
   clear hK K
   refine nm_ 45 ?_
   refine one_ (i := 7) (N := none) (bm 8 255) rfl rfl (one_of HT_.out (by kernel_rfl)) (by decide) (fun K hK => ?_)
   have hs66 : w65.cell? ⟨gbA0, 0, none⟩ = some (.bool false) := bce BKA0 0 _
   have hfs66 := blk_frozen BKA0.out 0
   have hns66_0 := NBA2_A0.out
   have hns66_1 := NBA3_A0.out
   have hms66_0 := NBA0_A2.out
   have hms66_1 := NBA0_A3.out
   have hs68 : w65.cell? ⟨gbA0, 1, none⟩ = some (.slice none 0 0) := bce BKA0 1 _
   have hfs68 := blk_frozen BKA0.out 1
   have hns68_0 := NBA2_A0.out
   have hns68_1 := NBA3_A0.out
   have hms68_0 := NBA0_A2.out
   have hms68_1 := NBA0_A3.out
   have hs70 : w65.cell? ⟨gbA0, 2, none⟩ = some (.slice none 0 0) := bce BKA0 2 _
   have hfs70 := blk_frozen BKA0.out 2
   have hns70_0 := NBA2_A0.out
   have hns70_1 := NBA3_A0.out
   have hms70_0 := NBA0_A2.out
   have hms70_1 := NBA0_A3.out
   refine skip_ (w1 := ?_) (by rfl) rfl ?_ ?_
   rotate_left
   ·
    go_simp
    rfl
   refine hK.out _ _ ⟨((cell_far (p := ⟨gbA0, _, none⟩) NBA2_A0.out _).trans (((cell_far (p := ⟨gbA0, _, none⟩) NBA2_A0.out _).trans (((cell_far (p := ⟨gbA0, _, none⟩) NBA2_A0.out _).trans (hHeld.1)))))), ((cell_far (p := ⟨gbA0, _, none⟩) NBA2_A0.out _).trans (((cell_far (p := ⟨gbA0, _, none⟩) NBA2_A0.out _).trans (((cell_far (p := ⟨gbA0, _, none⟩) NBA2_A0.out _).trans (hHeld.2.1)))))), ((cell_far (p := ⟨gbA0, _, none⟩) NBA2_A0.out _).trans (((cell_far (p := ⟨gbA0, _, none⟩) NBA2_A0.out _).trans (((cell_far (p := ⟨gbA0, _, none⟩) NBA2_A0.out _).trans (hHeld.2.2))))))⟩ (fun hHeld => ?_)
   clear hK K
   refine done_ (done_of HT_.out (by kernel_rfl)) ?_
   try go_wp2
   refine bodyPost_ret (results_cell_row rfl _ _ gbA0 24 #[.bool tB2, .slice Ao67 tD9.length co67, .slice Ao69 tE0.length co69] (0, 0) _ rfl (bp3 BKA0 _ _ _) Try.underlying24 rfl (by kernel_rfl)) rfl ?_
   exact ⟨_, _, er_, (crN HOF2 BKA0 fun _ hk => hk.1.1.1.1.1), (crN HOF3 BKA0 fun _ hk => hk.1.1.1.1.1), blw HB⟩
  ·
   rw [if_neg c39] at H
   have c39b0 : decide (0 ≤ tB7) = false := decide_eq_false c39
   clear c39
   replace H := Option.bind_eq_some_iff.mp H
   obtain ⟨tB9, AF4, H⟩ := H
   replace H : ((spec_l02Make.f k a1_0 tB9 tB1).bind fun btB3 => (some (btB3.1, btB3.2.1, btB3.2.2))) = some (r1, r2, r3) := H
   have A71 := Aside0.mk AF4
   clear AF4
   replace H := Option.bind_eq_some_iff.mp H
   obtain ⟨⟨tB3, tE1, tE2⟩, AF5, H⟩ := H
   replace H : (some (tB3, tE1, tE2)) = some (r1, r2, r3) := H
   have A72 := Aside0.mk AF5
   clear AF5
   simp only [Option.some.injEq, Prod.mk.injEq] at H
   obtain ⟨rfl, rfl, rfl⟩ := H
   go_enter Try.func84, Try.ntmps84
   try go_wp2_with (first | ((with_reducible refine gate_dst (N := 2) rfl ?_); refine bx_ (N := 2) (cs := #[.bool a0_0, .slice A0_1 l0_1.length c0_1, .slice A0_2 l0_2.length c0_2]) (t := 24) ?_; intro gbA2 hg w73 hbox hb; have BKA2 := Aside0.mk (hbox); have GWA2 := geh hg HB; have GEA2 := geh hg HB; replace HB := bst HB hb; clear hb hbox hg) | ((with_reducible refine gate_dst (N := 3) rfl ?_); refine bx_ (N := 3) (cs := #[.bool a1_0, .slice A1_1 l1_1.length c1_1, .slice A1_2 l1_2.length c1_2]) (t := 24) ?_; intro gbA3 hg w74 hbox hb; have BKA3 := Aside0.mk (hbox); have GWA3 := geh hg HB; have GEA3 := geh hg HB; replace HB := bst HB hb; have NBA2_A3 := nlt hg BKA2; have NBA3_A2 := ngt hg BKA2; replace BKA2 := bkb BKA2 hb; clear hb hbox hg) | ((with_reducible refine gate_dst (N := 4) rfl ?_); refine bx_ (N := 4) (cs := #[.bool false, .slice none 0 0, .slice none 0 0]) (t := 24) ?_; intro gbA0 hg w75 hbox hb; have BKA0 := Aside0.mk (hbox); have GWA0 := geh hg HB; have GEA0 := geh hg HB; replace HB := bst HB hb; have NBA2_A0 := nlt hg BKA2; have NBA0_A2 := ngt hg BKA2; replace BKA2 := bkb BKA2 hb; have NBA3_A0 := nlt hg BKA3; have NBA0_A3 := ngt hg BKA3; replace BKA3 := bkb BKA3 hb; clear hb hbox hg; have hnb76 := NBA2_A3.out; have hnc76 := NBA3_A2.out; have hnb77 := NBA2_A0.out; have hnc77 := NBA0_A2.out; obtain ⟨hcz78_0, hcz78_1, hcz78_2, hfz78_0, hfz78_1, hfz78_2⟩ := bc3 BKA2; have hnb79 := NBA3_A0.out; have hnc79 := NBA0_A3.out; obtain ⟨hcz80_0, hcz80_1, hcz80_2, hfz80_0, hfz80_1, hfz80_2⟩ := bc3 BKA3) | ((with_reducible refine gate_callee (f := 106) rfl ?_); refine gL_ (some 12) Try.func106 #[.slice A0_1 l0_1.length c0_1, .slice A1_2 l1_2.length c1_2] ?_; (with_reducible refine (spec_l01Mul.calls k _ _ l0_1 _ _ l1_2 tA9 _ ?side1 ?side2 ?side3 ?side4 A3.out).mono ?_); (case side1 => exact crC (Kd.C_below HR0_1.out HB.out)); (case side2 => exact HC0_1.out); (case side3 => exact crC (Kd.C_below HR1_2.out HB.out)); (case side4 => exact HC1_2.out); rintro e w81 ⟨vE5, rfl, ho0, hb⟩; refine ⟨_, rfl, ?_⟩; have HOA6 := lwR ho0 HB; replace BKA2 := bkb BKA2 hb; replace BKA3 := bkb BKA3 hb; replace BKA0 := bkb BKA0 hb; replace HB := bst HB hb; (try clear hb); (try clear hb2); (try clear hk); (try clear hi); (try clear ho0); obtain ⟨hcz82_0, hcz82_1, hcz82_2, hfz82_0, hfz82_1, hfz82_2⟩ := bc3 BKA3; obtain ⟨hcz83_0, hcz83_1, hcz83_2, hfz83_0, hfz83_1, hfz83_2⟩ := bc3 BKA2) | ((with_reducible refine gate_callee (f := 106) rfl ?_); refine gL_ (some 17) Try.func106 #[.slice A1_1 l1_1.length c1_1, .slice A0_2 l0_2.length c0_2] ?_; (with_reducible refine (spec_l01Mul.calls k _ _ l1_1 _ _ l0_2 tA8 _ ?side1 ?side2 ?side3 ?side4 A4.out).mono ?_); (case side1 => exact crC (Kd.C_below HR1_1.out HB.out)); (case side2 => exact HC1_1.out); (case side3 => exact crC (Kd.C_below HR0_2.out HB.out)); (case side4 => exact HC0_2.out); rintro e w84 ⟨vE6, rfl, ho0, hb⟩; refine ⟨_, rfl, ?_⟩; have HOA7 := lwR (nwR ho0 HOA6) HB; replace HOA6 := eldR HOA6 (Kd.R_base ho0) hb; replace BKA2 := bkb BKA2 hb; replace BKA3 := bkb BKA3 hb; replace BKA0 := bkb BKA0 hb; replace HB := bst HB hb; (try clear hb); (try clear hb2); (try clear hk); (try clear hi); (try clear ho0); obtain ⟨hcz85_0, hcz85_1, hcz85_2, hfz85_0, hfz85_1, hfz85_2⟩ := bc3 BKA2; obtain ⟨hcz86_0, hcz86_1, hcz86_2, hfz86_0, hfz86_1, hfz86_2⟩ := bc3 BKA3) | ((with_reducible refine gate_callee (f := 106) rfl ?_); refine gL_ (some 22) Try.func106 #[.slice A0_2 l0_2.length c0_2, .slice A1_2 l1_2.length c1_2] ?_; (with_reducible refine (spec_l01Mul.calls k _ _ l0_2 _ _ l1_2 tB1 _ ?side1 ?side2 ?side3 ?side4 A5.out).mono ?_); (case side1 => exact crC (Kd.C_below HR0_2.out HB.out)); (case side2 => exact HC0_2.out); (case side3 => exact crC (Kd.C_below HR1_2.out HB.out)); (case side4 => exact HC1_2.out); rintro e w87 ⟨vC7, rfl, ho0, hb⟩; refine ⟨_, rfl, ?_⟩; have HOB0 := lwR (nwR (nwR ho0 HOA6) HOA7) HB; replace HOA6 := eldR HOA6 (Kd.R_base ho0) hb; replace HOA7 := eldR HOA7 (Kd.R_base ho0) hb; replace BKA2 := bkb BKA2 hb; replace BKA3 := bkb BKA3 hb; replace BKA0 := bkb BKA0 hb; replace HB := bst HB hb; (try clear hb); (try clear hb2); (try clear hk); (try clear hi); (try clear ho0); obtain ⟨hcz88_0, hcz88_1, hcz88_2, hfz88_0, hfz88_1, hfz88_2⟩ := bc3 BKA2; obtain ⟨hcz89_0, hcz89_1, hcz89_2, hfz89_0, hfz89_1, hfz89_2⟩ := bc3 BKA3; obtain ⟨Ao90, co90, eo90⟩ := Kd.R_slice HOA6.out; subst eo90; obtain ⟨Ao91, co91, eo91⟩ := Kd.R_slice HOA7.out; subst eo91) | ((with_reducible refine gate_callee (f := 55) rfl ?_); refine gL_ (some 37) Try.func55 #[.slice Ao90 tA9.length co90, .slice Ao91 tA8.length co91] ?_; (with_reducible refine (spec_l01Cmp.calls k _ _ tA9 _ _ tA8 tB7 _ ?side1 ?side2 ?side3 ?side4 A38.out).mono ?_); (case side1 => exact crC (Kd.R_reads' HOA6.out).2.2); (case side2 => exact (Kd.R_reads' HOA6.out).2.1); (case side3 => exact crC (Kd.R_reads' HOA7.out).2.2); (case side4 => exact (Kd.R_reads' HOA7.out).2.1); rintro e w' ⟨rfl, ⟨nd, rfl⟩⟩; refine ⟨_, rfl, ?_⟩; (try (rw [drewN_self w87]; generalize hq_ : World.drewN w87 _ = w87; replace HOA6 : Aside0 (Kd.R (Kd.int .i64) 3 w87 w.heap.size (fun k_ => nO k_ (.slice Ao91 tA8.length co91) ∧ nO k_ vC7) (.slice Ao90 tA9.length co90) tA9) := ⟨by rw [← hq_]; exact (crM HOA6 fun _ hk => ⟨hk.1.2, hk.2⟩)⟩; replace HOA7 : Aside0 (Kd.R (Kd.int .i64) 3 w87 w.heap.size (fun k_ => nO k_ (.slice Ao90 tA9.length co90) ∧ nO k_ vC7) (.slice Ao91 tA8.length co91) tA8) := ⟨by rw [← hq_]; exact (crM HOA7 fun _ hk => ⟨hk.1.2, hk.2⟩)⟩; replace HOB0 : Aside0 (Kd.R (Kd.int .i64) 3 w87 w.heap.size (fun k_ => nO k_ (.slice Ao90 tA9.length co90) ∧ nO k_ (.slice Ao91 tA8.length co91)) vC7 tB1) := ⟨by rw [← hq_]; exact (crM HOB0 fun _ hk => ⟨hk.1.2, hk.2⟩)⟩; replace BKA2 : Aside0 (w87.heap[gbA2]? = some (.cells #[.bool a0_0, .slice A0_1 l0_1.length c0_1, .slice A0_2 l0_2.length c0_2] 24 (0, 0))) := ⟨by rw [← hq_]; exact (crb BKA2)⟩; replace BKA3 : Aside0 (w87.heap[gbA3]? = some (.cells #[.bool a1_0, .slice A1_1 l1_1.length c1_1, .slice A1_2 l1_2.length c1_2] 24 (0, 0))) := ⟨by rw [← hq_]; exact (crb BKA3)⟩; replace BKA0 : Aside0 (w87.heap[gbA0]? = some (.cells #[.bool false, .slice none 0 0, .slice none 0 0] 24 (0, 0))) := ⟨by rw [← hq_]; exact (crb BKA0)⟩; replace HB : Aside0 (Below w.heap.size w w87) := ⟨by rw [← hq_]; exact (blw HB)⟩; clear hq_))))
   replace HOA6 := Aside0.mk (Kd.R_drew HOA6.out)
   replace HOA7 := Aside0.mk (Kd.R_drew HOA7.out)
   replace HOB0 := Aside0.mk (Kd.R_drew HOB0.out)
   replace BKA2 := Aside0.mk (blk_drew BKA2.out)
   replace BKA3 := Aside0.mk (blk_drew BKA3.out)
   replace BKA0 := Aside0.mk (blk_drew BKA0.out)
   replace HB := Aside0.mk (below_drew1 HB.out)
   refine start_ (n := 8) (S := fun w' => w'.cell? ⟨gbA3, 0, none⟩ = some (.bool a1_0) ∧ w'.cell? ⟨gbA3, 1, none⟩ = some (.slice A1_1 l1_1.length c1_1) ∧ w'.cell? ⟨gbA3, 2, none⟩ = some (.slice A1_2 l1_2.length c1_2)) (ds := []) (bm 8 0) (by kernel_rfl) rfl rfl ⟨bce BKA3 0 _, bce BKA3 1 _, bce BKA3 2 _⟩ (fun hHeld => ?_); refine with_tabW spec_l02Add.tab8 spec_l02Add.bits8 (fun HT_ HW_ => ?_)
   generalize w87.drew = w92 at HOA6 HOA7 HOB0 BKA2 BKA3 BKA0 HB hHeld ⊢
   refine pu_ 0 (some 46) (bm 8 1) HT_.out ?_
   refine pu_ 2 (some 48) (bm 8 5) HT_.out ?_
   refine pu_ 3 (some 49) (bm 8 13) HT_.out ?_
   refine pu_ 5 (some 51) (bm 8 45) HT_.out ?_
   refine tk_ 1 (some 47) (bm 8 47) HT_.out HW_.out hHeld ?_
   refine one_ (i := 4) (N := some 50) (bm 8 63) rfl rfl (one_of HT_.out (by kernel_rfl)) (by decide) (fun K hK => ?_)
   refine g_ Try.func111 #[.slice Ao91 tA8.length co91, .slice Ao90 tA9.length co90] ?_
   with_reducible refine (spec_l01Sub.calls k _ _ tA8 _ _ tA9 tB9 _ ?side1 ?side2 ?side3 ?side4 A71.out).mono ?_
   (case side1 => exact crC (Kd.R_reads' HOA7.out).2.2)
   (case side2 => exact (Kd.R_reads' HOA7.out).2.1)
   (case side3 => exact crC (Kd.R_reads' HOA6.out).2.2)
   (case side4 => exact (Kd.R_reads' HOA6.out).2.1)
   rintro e w93 ⟨vG6, rfl, ho0, hb⟩
   refine ⟨_, rfl, ?_⟩
   have HOD0 := lwR (nwR (nwR (nwR ho0 HOA6) HOA7) HOB0) HB
   replace HOA6 := eldR HOA6 (Kd.R_base ho0) hb
   replace HOA7 := eldR HOA7 (Kd.R_base ho0) hb
   replace HOB0 := eldR HOB0 (Kd.R_base ho0) hb
   replace BKA2 := bkb BKA2 hb
   replace BKA3 := bkb BKA3 hb
   replace BKA0 := bkb BKA0 hb
   replace HB := bst HB hb
   (try clear hb)
   (try clear hb2)
   (try clear hk)
   (try clear hi)
   (try clear ho0)
   obtain ⟨Ao94, co94, eo94⟩ := Kd.R_slice HOD0.out
   (first | subst eo94 | (injection eo94 with f1_ f2_ f3_; have f4_ := f1_.symm; have f5_ := f3_.symm; clear f1_ f2_ f3_; subst f4_; subst f5_))
   obtain ⟨Ao95, co95, eo95⟩ := Kd.R_slice HOB0.out
   (first | subst eo95 | (injection eo95 with f1_ f2_ f3_; have f4_ := f1_.symm; have f5_ := f3_.symm; clear f1_ f2_ f3_; subst f4_; subst f5_))
   refine hK.out _ _ ⟨bce BKA3 0 _, bce BKA3 1 _, bce BKA3 2 _⟩ (fun hHeld => ?_)
   clear hK K
   refine nm_ 50 ?_
   refine one_ (i := 6) (N := some 52) (bm 8 127) rfl rfl (one_of HT_.out (by kernel_rfl)) (by decide) (fun K hK => ?_)
   refine g_ Try.func47 #[.bool a1_0, .slice Ao94 tB9.length co94, .slice Ao95 tB1.length co95] ?_
   with_reducible refine (spec_l02Make.calls k a1_0 _ _ tB9 _ _ tB1 tB3 tE1 tE2 _ ?side1 ?side2 ?side3 ?side4 A72.out).mono ?_
   (case side1 => exact crC (Kd.R_reads' HOD0.out).2.2)
   (case side2 => exact (Kd.R_reads' HOD0.out).2.1)
   (case side3 => exact crC (Kd.R_reads' HOB0.out).2.2)
   (case side4 => exact (Kd.R_reads' HOB0.out).2.1)
   rintro e w96 ⟨vG7, vG8, rfl, ho0, ho1, hb⟩
   refine ⟨_, rfl, ?_⟩
   have HOF6 := lwR (nwR (nwR (nwR (nwR ho0 HOA6) HOA7) HOB0) HOD0) HB
   have HOF7 := lwR (nwR (nwR (nwR (nwR ho1 HOA6) HOA7) HOB0) HOD0) HB
   replace HOA6 := tldR HOA6 hb (Kd.R_base ho0) (Kd.R_base ho1)
   replace HOA7 := tldR HOA7 hb (Kd.R_base ho0) (Kd.R_base ho1)
   replace HOB0 := tldR HOB0 hb (Kd.R_base ho0) (Kd.R_base ho1)
   replace HOD0 := tldR HOD0 hb (Kd.R_base ho0) (Kd.R_base ho1)
   replace BKA2 := bkb BKA2 hb
   replace BKA3 := bkb BKA3 hb
   replace BKA0 := bkb BKA0 hb
   replace HB := bst HB hb
   (try clear hb)
   (try clear hb2)
   (try clear hk)
   (try clear hi)
   (try clear ho0)
   (try clear ho1)
   obtain ⟨Ao98, co98, eo98⟩ := Kd.R_slice HOF6.out
   (first | subst eo98 | (injection eo98 with f1_ f2_ f3_; have f4_ := f1_.symm; have f5_ := f3_.symm; clear f1_ f2_ f3_; subst f4_; subst f5_))
   obtain ⟨AoD3, coD3, eoD3⟩ := Kd.R_slice HOF7.out
   (first | subst eoD3 | (injection eoD3 with f1_ f2_ f3_; have f4_ := f1_.symm; have f5_ := f3_.symm; clear f1_ f2_ f3_; subst f4_; subst f5_))
   refine hK.out _ _ ⟨bce BKA3 0 _, bce BKA3 1 _, bce BKA3 2 _⟩ (fun hHeld => ?_)
   clear hK K
   refine nm_ 52 ?_
   refine one_ (i := 7) (N := none) (bm 8 255) rfl rfl (one_of HT_.out (by kernel_rfl)) (by decide) (fun K hK => ?_)
   have hs97 : w96.cell? ⟨gbA0, 0, none⟩ = some (.bool false) := bce BKA0 0 _
   have hfs97 := blk_frozen BKA0.out 0
   have hns97_0 := NBA2_A0.out
   have hns97_1 := NBA3_A0.out
   have hms97_0 := NBA0_A2.out
   have hms97_1 := NBA0_A3.out
   have hs99 : w96.cell? ⟨gbA0, 1, none⟩ = some (.slice none 0 0) := bce BKA0 1 _
   have hfs99 := blk_frozen BKA0.out 1
   have hns99_0 := NBA2_A0.out
   have hns99_1 := NBA3_A0.out
   have hms99_0 := NBA0_A2.out
   have hms99_1 := NBA0_A3.out
   have hsD4 : w96.cell? ⟨gbA0, 2, none⟩ = some (.slice none 0 0) := bce BKA0 2 _
   have hfsD4 := blk_frozen BKA0.out 2
   have hnsD4_0 := NBA2_A0.out
   have hnsD4_1 := NBA3_A0.out
   have hmsD4_0 := NBA0_A2.out
   have hmsD4_1 := NBA0_A3.out
   refine skip_ (w1 := ?_) (by rfl) rfl ?_ ?_
   rotate_left
   ·
    go_simp
    rfl
   refine hK.out _ _ ⟨((cell_far (p := ⟨gbA0, _, none⟩) NBA3_A0.out _).trans (((cell_far (p := ⟨gbA0, _, none⟩) NBA3_A0.out _).trans (((cell_far (p := ⟨gbA0, _, none⟩) NBA3_A0.out _).trans (hHeld.1)))))), ((cell_far (p := ⟨gbA0, _, none⟩) NBA3_A0.out _).trans (((cell_far (p := ⟨gbA0, _, none⟩) NBA3_A0.out _).trans (((cell_far (p := ⟨gbA0, _, none⟩) NBA3_A0.out _).trans (hHeld.2.1)))))), ((cell_far (p := ⟨gbA0, _, none⟩) NBA3_A0.out _).trans (((cell_far (p := ⟨gbA0, _, none⟩) NBA3_A0.out _).trans (((cell_far (p := ⟨gbA0, _, none⟩) NBA3_A0.out _).trans (hHeld.2.2))))))⟩ (fun hHeld => ?_)
   clear hK K
   refine done_ (done_of HT_.out (by kernel_rfl)) ?_
   try go_wp2
   refine bodyPost_ret (results_cell_row rfl _ _ gbA0 24 #[.bool tB3, .slice Ao98 tE1.length co98, .slice AoD3 tE2.length coD3] (0, 0) _ rfl (bp3 BKA0 _ _ _) Try.underlying24 rfl (by kernel_rfl)) rfl ?_
   exact ⟨_, _, er_, (crN HOF6 BKA0 fun _ hk => hk.1.1.1.1.1), (crN HOF7 BKA0 fun _ hk => hk.1.1.1.1.1), blw HB⟩

def spec_l02Sub.f (k : Nat) (a0_0 : Bool) (l0_1 : List Int) (l0_2 : List Int) (a1_0 : Bool) (l1_1 : List Int) (l1_2 : List Int) : Option (Bool × List Int × List Int) := (spec_l02Neg.f a1_0 l1_1 l1_2).bind fun btB6 => ((spec_l02Add.f k a0_0 l0_1 l0_2 btB6.1 btB6.2.1 btB6.2.2).bind fun btB4 => (some (btB4.1, btB4.2.1, btB4.2.2)))
theorem spec_l02Sub.mono : ∀ a0 a1 a2 a3 a4 a5 k, LeO (spec_l02Sub.f k a0 a1 a2 a3 a4 a5) (spec_l02Sub.f (k + 1) a0 a1 a2 a3 a4 a5) := by
 intro a0 a1 a2 a3 a4 a5 k
 unfold spec_l02Sub.f
 repeat' first
   | (with_reducible exact spec_l02Add.mono _ _ _ _ _ _ _)
   | (with_reducible exact LeO.refl _)
   | (with_reducible exact LeO.none _)
   | (with_reducible refine LeO.ite ?_ ?_)
   | (with_reducible refine LeO.bind ?_ (fun _ => ?_))
   | exact spec_l02Add.mono _ _ _ _ _ _ _
   | exact LeO.none _
   | refine LeO.ite ?_ ?_
   | refine LeO.bind ?_ (fun _ => ?_)
set_option maxHeartbeats 8000000 in
set_option maxRecDepth 100000 in
theorem spec_l02Sub.calls (k : Nat) (a0_0 : Bool) (A0_1 : Option Addr) (c0_1 : Nat) (l0_1 : List Int) (A0_2 : Option Addr) (c0_2 : Nat) (l0_2 : List Int) (a1_0 : Bool) (P1_1_ : Nat → Prop) (uC3_ : Value) (l1_1 : List Int) (P1_2_ : Nat → Prop) (uC4_ : Value) (l1_2 : List Int) (r1 : Bool) (r2 : List Int) (r3 : List Int) (w0 w : World) (hB : Below w0.heap.size w0 w) (hr0_1 : ∀ W_, Kept w W_ (fun k_ => P1_1_ k_ ∨ P1_2_ k_) → Kd.C (Kd.int .i64) W_ A0_1 l0_1.length l0_1) (hc0_1 : l0_1.length ≤ c0_1) (hr0_2 : ∀ W_, Kept w W_ (fun k_ => P1_1_ k_ ∨ P1_2_ k_) → Kd.C (Kd.int .i64) W_ A0_2 l0_2.length l0_2) (hc0_2 : l0_2.length ≤ c0_2) (ho1_1 : Kd.R (Kd.int .i64) 3 w w0.heap.size P1_1_ uC3_ l1_1) (hp1_1_1_2 : ∀ k_, P1_1_ k_ → ¬ P1_2_ k_) (ho1_2 : Kd.R (Kd.int .i64) 3 w w0.heap.size P1_2_ uC4_ l1_2) (hp1_2_1_1 : ∀ k_, P1_2_ k_ → ¬ P1_1_ k_) (h : spec_l02Sub.f k a0_0 l0_1 l0_2 a1_0 l1_1 l1_2 = some (r1, r2, r3)) :
  Calls Try.prog 86 #[.agg #[.bool a0_0, .slice A0_1 l0_1.length c0_1, .slice A0_2 l0_2.length c0_2], .agg #[.bool a1_0, uC3_, uC4_]] w fun e w' => ∃ v1_ v2_ : Value, e = .returned (.agg #[.bool r1, v1_, v2_]) ∧ Kd.R (Kd.int .i64) 3 w' w0.heap.size (fun k_ => ((P1_1_ k_ ∨ P1_2_ k_) ∨ w.heap.size ≤ k_) ∧ nO k_ v2_) v1_ r2 ∧ Kd.R (Kd.int .i64) 3 w' w0.heap.size (fun k_ => ((P1_1_ k_ ∨ P1_2_ k_) ∨ w.heap.size ≤ k_) ∧ nO k_ v1_) v2_ r3 ∧ Below w0.heap.size w0 w' ∧ Kept w w' (fun k_ => P1_1_ k_ ∨ P1_2_ k_) := by
 have hu24 := Try.underlying24
 have HR0_1 := Aside0.mk hr0_1
 have HC0_1 := Aside0.mk hc0_1
 clear hr0_1 hc0_1
 have HR0_2 := Aside0.mk hr0_2
 have HC0_2 := Aside0.mk hc0_2
 clear hr0_2 hc0_2
 have HO1_1 := Aside0.mk (show Kd.R (Kd.int .i64) 3 w w0.heap.size (fun k_ => ((P1_1_ k_ ∨ P1_2_ k_) ∨ w.heap.size ≤ k_) ∧ nO k_ uC4_) uC3_ l1_1 from Kd.R_mono ho1_1 (fun k_ hk => ⟨(.inl (.inl hk)), fun e_ => hp1_1_1_2 k_ hk (ho1_2.1 k_ e_.symm)⟩))
 have HO1_2 := Aside0.mk (show Kd.R (Kd.int .i64) 3 w w0.heap.size (fun k_ => ((P1_1_ k_ ∨ P1_2_ k_) ∨ w.heap.size ≤ k_) ∧ nO k_ uC3_) uC4_ l1_2 from Kd.R_mono ho1_2 (fun k_ hk => ⟨(.inl (.inr hk)), fun e_ => hp1_2_1_1 k_ hk (ho1_1.1 k_ e_.symm)⟩))
 have HK := Aside0.mk (Kept.refl w (fun k_ => P1_1_ k_ ∨ P1_2_ k_))
 have HW0 := Aside0.mk hB.size
 have HB := Aside0.mk hB
 clear hB
 have H : ((spec_l02Neg.f a1_0 l1_1 l1_2).bind fun btB6 => ((spec_l02Add.f k a0_0 l0_1 l0_2 btB6.1 btB6.2.1 btB6.2.2).bind fun btB4 => (some (btB4.1, btB4.2.1, btB4.2.2)))) = some (r1, r2, r3) := h
 clear h
 replace H := Option.bind_eq_some_iff.mp H
 obtain ⟨⟨tB6, tC5, tC6⟩, A30, H⟩ := H
 replace H : ((spec_l02Add.f k a0_0 l0_1 l0_2 tB6 tC5 tC6).bind fun btB4 => (some (btB4.1, btB4.2.1, btB4.2.2))) = some (r1, r2, r3) := H
 have A3 := Aside0.mk A30
 clear A30
 replace H := Option.bind_eq_some_iff.mp H
 obtain ⟨⟨tB4, tD1, tD2⟩, A40, H⟩ := H
 replace H : (some (tB4, tD1, tD2)) = some (r1, r2, r3) := H
 have A4 := Aside0.mk A40
 clear A40
 simp only [Option.some.injEq, Prod.mk.injEq] at H
 obtain ⟨rfl, rfl, rfl⟩ := H
 go_enter Try.func86, Try.ntmps86
 try go_wp2_with (first | ((with_reducible refine gate_dst (N := 2) rfl ?_); refine bx_ (N := 2) (cs := #[.bool a0_0, .slice A0_1 l0_1.length c0_1, .slice A0_2 l0_2.length c0_2]) (t := 24) ?_; intro gbA4 hg w5 hbox hb; replace HO1_1 := rblR HO1_1 hb; replace HO1_2 := rblR HO1_2 hb; have BKA4 := Aside0.mk (hbox); have GWA4 := Aside0.mk ((by rw [hg]; exact (by first | exact HK.out.1 | exact (show Kept w _ (fun k_ => P1_1_ k_ ∨ P1_2_ k_) from by repeat (first | (with_reducible first | exact HK.out | apply Kept.alloc | apply Kept.drewN | apply Kept.drew) | exact HK.out)).1) : w.heap.size ≤ gbA4)); replace HK := Aside0.mk (Kept.below (S := (fun k_ => P1_1_ k_ ∨ P1_2_ k_)) (by repeat (first | (with_reducible first | exact HK.out | apply Kept.alloc | apply Kept.drewN | apply Kept.drew) | exact HK.out)) hb); have GEA4 := geh hg HB; replace HB := bst HB hb; clear hb hbox hg; obtain ⟨Ao6, co6, eo6⟩ := Kd.R_slice HO1_1.out; subst eo6; obtain ⟨Ao7, co7, eo7⟩ := Kd.R_slice HO1_2.out; subst eo7) | ((with_reducible refine gate_dst (N := 3) rfl ?_); refine bx_ (N := 3) (cs := #[.bool a1_0, .slice Ao6 l1_1.length co6, .slice Ao7 l1_2.length co7]) (t := 24) ?_; intro gbA5 hg w8 hbox hb; replace HO1_1 := rblR HO1_1 hb; replace HO1_2 := rblR HO1_2 hb; have BKA5 := Aside0.mk (hbox); have GWA5 := Aside0.mk ((by rw [hg]; exact (by first | exact HK.out.1 | exact (show Kept w _ (fun k_ => P1_1_ k_ ∨ P1_2_ k_) from by repeat (first | (with_reducible first | exact HK.out | apply Kept.alloc | apply Kept.drewN | apply Kept.drew | refine Kept.setCell ?_ (.inr GWA4.out) _) | exact HK.out)).1) : w.heap.size ≤ gbA5)); replace HK := Aside0.mk (Kept.below (S := (fun k_ => P1_1_ k_ ∨ P1_2_ k_)) (by repeat (first | (with_reducible first | exact HK.out | apply Kept.alloc | apply Kept.drewN | apply Kept.drew | refine Kept.setCell ?_ (.inr GWA4.out) _) | exact HK.out)) hb); have GEA5 := geh hg HB; replace HB := bst HB hb; have NBA4_A5 := nlt hg BKA4; have NBA5_A4 := ngt hg BKA4; replace BKA4 := bkb BKA4 hb; clear hb hbox hg) | ((with_reducible refine gate_dst (N := 4) rfl ?_); refine bx_ (N := 4) (cs := #[.bool false, .slice none 0 0, .slice none 0 0]) (t := 24) ?_; intro gbA1 hg w9 hbox hb; replace HO1_1 := rblR HO1_1 hb; replace HO1_2 := rblR HO1_2 hb; have BKA1 := Aside0.mk (hbox); have GWA1 := Aside0.mk ((by rw [hg]; exact (by first | exact HK.out.1 | exact (show Kept w _ (fun k_ => P1_1_ k_ ∨ P1_2_ k_) from by repeat (first | (with_reducible first | exact HK.out | apply Kept.alloc | apply Kept.drewN | apply Kept.drew | refine Kept.setCell ?_ (.inr GWA4.out) _ | refine Kept.setCell ?_ (.inr GWA5.out) _) | exact HK.out)).1) : w.heap.size ≤ gbA1)); replace HK := Aside0.mk (Kept.below (S := (fun k_ => P1_1_ k_ ∨ P1_2_ k_)) (by repeat (first | (with_reducible first | exact HK.out | apply Kept.alloc | apply Kept.drewN | apply Kept.drew | refine Kept.setCell ?_ (.inr GWA4.out) _ | refine Kept.setCell ?_ (.inr GWA5.out) _) | exact HK.out)) hb); have GEA1 := geh hg HB; replace HB := bst HB hb; have NBA4_A1 := nlt hg BKA4; have NBA1_A4 := ngt hg BKA4; replace BKA4 := bkb BKA4 hb; have NBA5_A1 := nlt hg BKA5; have NBA1_A5 := ngt hg BKA5; replace BKA5 := bkb BKA5 hb; clear hb hbox hg))
 replace HO1_1 := Aside0.mk (Kd.R_drew HO1_1.out)
 replace HO1_2 := Aside0.mk (Kd.R_drew HO1_2.out)
 replace BKA4 := Aside0.mk (blk_drew BKA4.out)
 replace BKA5 := Aside0.mk (blk_drew BKA5.out)
 replace BKA1 := Aside0.mk (blk_drew BKA1.out)
 replace HK := Aside0.mk (Kept.drew HK.out)
 replace HB := Aside0.mk (below_drew1 HB.out)
 refine start_ (n := 5) (S := fun w' => w'.cell? ⟨gbA4, 0, none⟩ = some (.bool a0_0) ∧ w'.cell? ⟨gbA4, 1, none⟩ = some (.slice A0_1 l0_1.length c0_1) ∧ w'.cell? ⟨gbA4, 2, none⟩ = some (.slice A0_2 l0_2.length c0_2) ∧ w'.cell? ⟨gbA5, 0, none⟩ = some (.bool a1_0) ∧ w'.cell? ⟨gbA5, 1, none⟩ = some (.slice Ao6 l1_1.length co6) ∧ w'.cell? ⟨gbA5, 2, none⟩ = some (.slice Ao7 l1_2.length co7)) (ds := []) #[false, false, false, false, false] (by kernel_rfl) rfl rfl ⟨bce BKA4 0 _, bce BKA4 1 _, bce BKA4 2 _, bce BKA5 0 _, bce BKA5 1 _, bce BKA5 2 _⟩ (fun hHeld => ?_)
 generalize w9.drew = w10 at HO1_1 HO1_2 BKA4 BKA5 BKA1 HK HB hHeld ⊢
 refine take_ (i := 0) (N := some 5) (v := ?_) (a' := ?_) #[true, false, false, false, false] rfl rfl (by kernel_rfl) (fun _ _ _ h => h) (Or.inl ⟨by rfl, ?_⟩) hHeld ?_ ?_
 rotate_left
 ·
  rintro w' ⟨s0, s1, s2, s3, s4, s5⟩
  go_simp
  with_reducible rfl
 rotate_left
 ·
  simp only [Act.put, List.setIfInBounds_toArray, List.set_cons_zero, List.set_cons_succ, i64_w, i32_w]
  rfl
 refine take_ (i := 1) (N := some 6) (v := ?_) (a' := ?_) #[true, true, false, false, false] rfl rfl (by kernel_rfl) (fun _ _ _ h => h) (Or.inl ⟨by rfl, ?_⟩) hHeld ?_ ?_
 rotate_left
 ·
  rintro w' ⟨s0, s1, s2, s3, s4, s5⟩
  go_simp
  with_reducible rfl
 rotate_left
 ·
  simp only [Act.put, List.setIfInBounds_toArray, List.set_cons_zero, List.set_cons_succ, i64_w, i32_w]
  rfl
 refine one_ (i := 2) (N := some 7) #[true, true, true, false, false] rfl rfl (by kernel_rfl) (by decide) (fun K hK => ?_)
 refine g_ Try.func64 #[.agg #[.bool a1_0, .slice Ao6 l1_1.length co6, .slice Ao7 l1_2.length co7]] ?_
 with_reducible refine (spec_l02Neg.calls a1_0 (fun k_ => some k_ = (.slice Ao6 l1_1.length co6 : Value).ownBlock) (.slice Ao6 l1_1.length co6) l1_1 (fun k_ => some k_ = (.slice Ao7 l1_2.length co7 : Value).ownBlock) (.slice Ao7 l1_2.length co7) l1_2 tB6 tC5 tC6 w0 _ ?side1 ?side2 ?side3 ?side4 ?side5 A3.out).mono ?_
 (case side1 => repeat (first | (with_reducible first | exact HB.out | apply below_alloc | apply pw_below_drewN | apply below_drew1 | refine below_set ?_ GEA4.out | refine below_set ?_ GEA5.out | refine below_set ?_ GEA1.out) | exact HB.out))
 (case side2 => exact Kd.R_tight rfl HO1_1.out)
 (case side3 => exact fun k_ e_ => (HO1_1.out.1 k_ e_.symm).2)
 (case side4 => exact Kd.R_tight rfl HO1_2.out)
 (case side5 => exact fun k_ e_ => (HO1_2.out.1 k_ e_.symm).2)
 rintro e w11 ⟨vE3, vE4, rfl, ho0, ho1, hb, hkp⟩
 refine ⟨_, rfl, ?_⟩
 replace BKA4 := Aside0.mk (blk_kept (crb BKA4) hkp (fun hs_ => Or.elim hs_ (fun e_ => (fun e_ => (Kd.R_ne HO1_1.out BKA4.out (by decide)) e_) e_) (fun e_ => (fun e_ => (Kd.R_ne HO1_2.out BKA4.out (by decide)) e_) e_)))
 replace BKA5 := Aside0.mk (blk_kept (crb BKA5) hkp (fun hs_ => Or.elim hs_ (fun e_ => (fun e_ => (Kd.R_ne HO1_1.out BKA5.out (by decide)) e_) e_) (fun e_ => (fun e_ => (Kd.R_ne HO1_2.out BKA5.out (by decide)) e_) e_)))
 replace BKA1 := Aside0.mk (blk_kept (crb BKA1) hkp (fun hs_ => Or.elim hs_ (fun e_ => (fun e_ => (Kd.R_ne HO1_1.out BKA1.out (by decide)) e_) e_) (fun e_ => (fun e_ => (Kd.R_ne HO1_2.out BKA1.out (by decide)) e_) e_)))
 have HOC0 := Aside0.mk (Kd.R_mono (ok' := fun k_ => ((P1_1_ k_ ∨ P1_2_ k_) ∨ w.heap.size ≤ k_) ∧ nO k_ vE4) ho0 (fun k_ hk_ => ⟨Or.elim hk_.1 (fun hs_ => Or.elim hs_ (fun hs_ => (HO1_1.out.1 k_ (hs_).symm).1) (fun hs_ => (HO1_2.out.1 k_ (hs_).symm).1)) (fun hn_ => (.inr (Nat.le_trans (by first | exact HK.out.1 | exact (show Kept w _ (fun k_ => P1_1_ k_ ∨ P1_2_ k_) from by repeat (first | (with_reducible first | exact HK.out | apply Kept.alloc | apply Kept.drewN | apply Kept.drew | refine Kept.setCell ?_ (.inr GWA4.out) _ | refine Kept.setCell ?_ (.inr GWA5.out) _ | refine Kept.setCell ?_ (.inr GWA1.out) _) | exact HK.out)).1) hn_))), hk_.2⟩))
 have HOC1 := Aside0.mk (Kd.R_mono (ok' := fun k_ => ((P1_1_ k_ ∨ P1_2_ k_) ∨ w.heap.size ≤ k_) ∧ nO k_ vE3) ho1 (fun k_ hk_ => ⟨Or.elim hk_.1 (fun hs_ => Or.elim hs_ (fun hs_ => (HO1_1.out.1 k_ (hs_).symm).1) (fun hs_ => (HO1_2.out.1 k_ (hs_).symm).1)) (fun hn_ => (.inr (Nat.le_trans (by first | exact HK.out.1 | exact (show Kept w _ (fun k_ => P1_1_ k_ ∨ P1_2_ k_) from by repeat (first | (with_reducible first | exact HK.out | apply Kept.alloc | apply Kept.drewN | apply Kept.drew | refine Kept.setCell ?_ (.inr GWA4.out) _ | refine Kept.setCell ?_ (.inr GWA5.out) _ | refine Kept.setCell ?_ (.inr GWA1.out) _) | exact HK.out)).1) hn_))), hk_.2⟩))
 replace HK := Aside0.mk (Kept.then_ (S := (fun k_ => P1_1_ k_ ∨ P1_2_ k_)) (by repeat (first | (with_reducible first | exact HK.out | apply Kept.alloc | apply Kept.drewN | apply Kept.drew | refine Kept.setCell ?_ (.inr GWA4.out) _ | refine Kept.setCell ?_ (.inr GWA5.out) _ | refine Kept.setCell ?_ (.inr GWA1.out) _) | exact HK.out)) hkp (fun k_ hs_ => Or.elim hs_ (fun e_ => (fun e_ => (HO1_1.out.1 k_ e_.symm).1) e_) (fun e_ => (fun e_ => (HO1_2.out.1 k_ e_.symm).1) e_)))
 replace HB := Aside0.mk (hb)
 clear HO1_1 HO1_2
 (try clear hb)
 (try clear hkp)
 (try clear ho0)
 (try clear ho1)
 obtain ⟨Ao12, co12, eo12⟩ := Kd.R_slice HOC0.out
 (first | subst eo12 | (injection eo12 with f1_ f2_ f3_; have f4_ := f1_.symm; have f5_ := f3_.symm; clear f1_ f2_ f3_; subst f4_; subst f5_))
 obtain ⟨Ao13, co13, eo13⟩ := Kd.R_slice HOC1.out
 (first | subst eo13 | (injection eo13 with f1_ f2_ f3_; have f4_ := f1_.symm; have f5_ := f3_.symm; clear f1_ f2_ f3_; subst f4_; subst f5_))
 refine hK.out _ _ ⟨bce BKA4 0 _, bce BKA4 1 _, bce BKA4 2 _, bce BKA5 0 _, bce BKA5 1 _, bce BKA5 2 _⟩ (fun hHeld => ?_)
 clear hK K
 refine nm_ 7 ?_
 refine one_ (i := 3) (N := some 8) #[true, true, true, true, false] rfl rfl (by kernel_rfl) (by decide) (fun K hK => ?_)
 refine g_ Try.func84 #[.agg #[.bool a0_0, .slice A0_1 l0_1.length c0_1, .slice A0_2 l0_2.length c0_2], .agg #[.bool tB6, .slice Ao12 tC5.length co12, .slice Ao13 tC6.length co13]] ?_
 with_reducible refine (spec_l02Add.calls k a0_0 _ _ l0_1 _ _ l0_2 tB6 _ _ tC5 _ _ tC6 tB4 tD1 tD2 _ ?side1 ?side2 ?side3 ?side4 ?side5 ?side6 ?side7 ?side8 A4.out).mono ?_
 (case side1 => exact Kd.C_kept_now HR0_1.out (by repeat (first | (with_reducible first | exact HK.out | apply Kept.alloc | apply Kept.drewN | apply Kept.drew | refine Kept.setCell ?_ (.inr GWA4.out) _ | refine Kept.setCell ?_ (.inr GWA5.out) _ | refine Kept.setCell ?_ (.inr GWA1.out) _) | exact HK.out)))
 (case side2 => exact HC0_1.out)
 (case side3 => exact Kd.C_kept_now HR0_2.out (by repeat (first | (with_reducible first | exact HK.out | apply Kept.alloc | apply Kept.drewN | apply Kept.drew | refine Kept.setCell ?_ (.inr GWA4.out) _ | refine Kept.setCell ?_ (.inr GWA5.out) _ | refine Kept.setCell ?_ (.inr GWA1.out) _) | exact HK.out)))
 (case side4 => exact HC0_2.out)
 (case side5 => exact crC (Kd.R_reads' HOC0.out).2.2)
 (case side6 => exact (Kd.R_reads' HOC0.out).2.1)
 (case side7 => exact crC (Kd.R_reads' HOC1.out).2.2)
 (case side8 => exact (Kd.R_reads' HOC1.out).2.1)
 rintro e w14 ⟨vF8, vF9, rfl, ho0, ho1, hb⟩
 refine ⟨_, rfl, ?_⟩
 have HOD5 := lwR (nwR (nwR (Kd.R_newM (M := fun k_ => ((P1_1_ k_ ∨ P1_2_ k_) ∨ w.heap.size ≤ k_)) ho0 (by first | exact HK.out.1 | exact (show Kept w _ (fun k_ => P1_1_ k_ ∨ P1_2_ k_) from by repeat (first | (with_reducible first | exact HK.out | apply Kept.alloc | apply Kept.drewN | apply Kept.drew | refine Kept.setCell ?_ (.inr GWA4.out) _ | refine Kept.setCell ?_ (.inr GWA5.out) _ | refine Kept.setCell ?_ (.inr GWA1.out) _) | exact HK.out)).1) (fun k_ h_ => .inr h_)) HOC0) HOC1) HB
 have HOD6 := lwR (nwR (nwR (Kd.R_newM (M := fun k_ => ((P1_1_ k_ ∨ P1_2_ k_) ∨ w.heap.size ≤ k_)) ho1 (by first | exact HK.out.1 | exact (show Kept w _ (fun k_ => P1_1_ k_ ∨ P1_2_ k_) from by repeat (first | (with_reducible first | exact HK.out | apply Kept.alloc | apply Kept.drewN | apply Kept.drew | refine Kept.setCell ?_ (.inr GWA4.out) _ | refine Kept.setCell ?_ (.inr GWA5.out) _ | refine Kept.setCell ?_ (.inr GWA1.out) _) | exact HK.out)).1) (fun k_ h_ => .inr h_)) HOC0) HOC1) HB
 replace HOC0 := tldR HOC0 hb (Kd.R_base ho0) (Kd.R_base ho1)
 replace HOC1 := tldR HOC1 hb (Kd.R_base ho0) (Kd.R_base ho1)
 replace BKA4 := bkb BKA4 hb
 replace BKA5 := bkb BKA5 hb
 replace BKA1 := bkb BKA1 hb
 replace HK := Aside0.mk (Kept.below (S := (fun k_ => P1_1_ k_ ∨ P1_2_ k_)) (by repeat (first | (with_reducible first | exact HK.out | apply Kept.alloc | apply Kept.drewN | apply Kept.drew | refine Kept.setCell ?_ (.inr GWA4.out) _ | refine Kept.setCell ?_ (.inr GWA5.out) _ | refine Kept.setCell ?_ (.inr GWA1.out) _) | exact HK.out)) hb)
 replace HB := bst HB hb
 (try clear hb)
 (try clear hb2)
 (try clear hk)
 (try clear hi)
 (try clear ho0)
 (try clear ho1)
 obtain ⟨Ao16, co16, eo16⟩ := Kd.R_slice HOD5.out
 (first | subst eo16 | (injection eo16 with f1_ f2_ f3_; have f4_ := f1_.symm; have f5_ := f3_.symm; clear f1_ f2_ f3_; subst f4_; subst f5_))
 obtain ⟨Ao18, co18, eo18⟩ := Kd.R_slice HOD6.out
 (first | subst eo18 | (injection eo18 with f1_ f2_ f3_; have f4_ := f1_.symm; have f5_ := f3_.symm; clear f1_ f2_ f3_; subst f4_; subst f5_))
 refine hK.out _ _ ⟨bce BKA4 0 _, bce BKA4 1 _, bce BKA4 2 _, bce BKA5 0 _, bce BKA5 1 _, bce BKA5 2 _⟩ (fun hHeld => ?_)
 clear hK K
 refine nm_ 8 ?_
 refine one_ (i := 4) (N := none) #[true, true, true, true, true] rfl rfl (by kernel_rfl) (by decide) (fun K hK => ?_)
 have hs15 : w14.cell? ⟨gbA1, 0, none⟩ = some (.bool false) := bce BKA1 0 _
 have hfs15 := blk_frozen BKA1.out 0
 have hns15_0 := NBA4_A1.out
 have hns15_1 := NBA5_A1.out
 have hms15_0 := NBA1_A4.out
 have hms15_1 := NBA1_A5.out
 have hs17 : w14.cell? ⟨gbA1, 1, none⟩ = some (.slice none 0 0) := bce BKA1 1 _
 have hfs17 := blk_frozen BKA1.out 1
 have hns17_0 := NBA4_A1.out
 have hns17_1 := NBA5_A1.out
 have hms17_0 := NBA1_A4.out
 have hms17_1 := NBA1_A5.out
 have hs19 : w14.cell? ⟨gbA1, 2, none⟩ = some (.slice none 0 0) := bce BKA1 2 _
 have hfs19 := blk_frozen BKA1.out 2
 have hns19_0 := NBA4_A1.out
 have hns19_1 := NBA5_A1.out
 have hms19_0 := NBA1_A4.out
 have hms19_1 := NBA1_A5.out
 refine skip_ (w1 := ?_) (by rfl) rfl ?_ ?_
 rotate_left
 ·
  go_simp
  rfl
 refine hK.out _ _ ⟨((cell_far (p := ⟨gbA1, _, none⟩) NBA4_A1.out _).trans (((cell_far (p := ⟨gbA1, _, none⟩) NBA4_A1.out _).trans (((cell_far (p := ⟨gbA1, _, none⟩) NBA4_A1.out _).trans (hHeld.1)))))), ((cell_far (p := ⟨gbA1, _, none⟩) NBA4_A1.out _).trans (((cell_far (p := ⟨gbA1, _, none⟩) NBA4_A1.out _).trans (((cell_far (p := ⟨gbA1, _, none⟩) NBA4_A1.out _).trans (hHeld.2.1)))))), ((cell_far (p := ⟨gbA1, _, none⟩) NBA4_A1.out _).trans (((cell_far (p := ⟨gbA1, _, none⟩) NBA4_A1.out _).trans (((cell_far (p := ⟨gbA1, _, none⟩) NBA4_A1.out _).trans (hHeld.2.2.1)))))), ((cell_far (p := ⟨gbA1, _, none⟩) NBA5_A1.out _).trans (((cell_far (p := ⟨gbA1, _, none⟩) NBA5_A1.out _).trans (((cell_far (p := ⟨gbA1, _, none⟩) NBA5_A1.out _).trans (hHeld.2.2.2.1)))))), ((cell_far (p := ⟨gbA1, _, none⟩) NBA5_A1.out _).trans (((cell_far (p := ⟨gbA1, _, none⟩) NBA5_A1.out _).trans (((cell_far (p := ⟨gbA1, _, none⟩) NBA5_A1.out _).trans (hHeld.2.2.2.2.1)))))), ((cell_far (p := ⟨gbA1, _, none⟩) NBA5_A1.out _).trans (((cell_far (p := ⟨gbA1, _, none⟩) NBA5_A1.out _).trans (((cell_far (p := ⟨gbA1, _, none⟩) NBA5_A1.out _).trans (hHeld.2.2.2.2.2))))))⟩ (fun hHeld => ?_)
 clear hK K
 refine done_ (by kernel_rfl) ?_
 try go_wp2
 refine bodyPost_ret (results_cell_row rfl _ _ gbA1 24 #[.bool tB4, .slice Ao16 tD1.length co16, .slice Ao18 tD2.length co18] (0, 0) _ rfl (bp3 BKA1 _ _ _) Try.underlying24 rfl (by kernel_rfl)) rfl ?_
 exact ⟨_, _, er_, (crN HOD5 BKA1 fun _ hk => ⟨hk.1.1.1.1, hk.1.1.1.2⟩), (crN HOD6 BKA1 fun _ hk => ⟨hk.1.1.1.1, hk.1.1.1.2⟩), by repeat (first | (with_reducible first | exact HB.out | apply below_alloc | apply pw_below_drewN | apply below_drew1 | refine below_set ?_ GEA4.out | refine below_set ?_ GEA5.out | refine below_set ?_ GEA1.out) | exact HB.out), by repeat (first | (with_reducible first | exact HK.out | apply Kept.alloc | apply Kept.drewN | apply Kept.drew | refine Kept.setCell ?_ (.inr GWA4.out) _ | refine Kept.setCell ?_ (.inr GWA5.out) _ | refine Kept.setCell ?_ (.inr GWA1.out) _) | exact HK.out)⟩

end Go.Proofs.Ytacdaijalkkogaa.Q
