-- written by a program of this claim's session (myprint.py) out of the translation; Lean checks it.
import Derived.Test.YtacdaijalkkogaaQx0
import Derived.Test.YtacdaijalkkogaaSq
import Derived.Test.YtacdaijalkkogaaQxcmp
import Derived.Test.YtacdaijalkkogaaQxdiv
import Derived.Test.YtacdaijalkkogaaQxmul
import Derived.Test.YtacdaijalkkogaaQxsub
import Derived.Test.YtacdaijalkkogaaQxrsp
import Derived.Test.YtacdaijalkkogaaQxrmk
import Derived.Test.YtacdaijalkkogaaQxadd
namespace Go.Proofs.Ytacdaijalkkogaa.Q
open Go.RowKit Go.Proofs.YtacdaijalkkogaaW.PrintWords Go.Proofs.YtacdaijalkkogaaW.PrintLast Go.Proofs.YtacdaijalkkogaaW.PrintMore
attribute [local go_sem] max2_int min2_int max_two min_two max_three min_three max_four min_four   -- for this text's walks alone
set_option linter.unusedVariables false
set_option linter.unusedSimpArgs false

def spec_l02Add.f (k : Nat) (a0_0 : Bool) (l0_1 : List Int) (l0_2 : List Int) (a1_0 : Bool) (l1_1 : List Int) (l1_2 : List Int) : Option (Bool × List Int × List Int) := (spec_l01Mul.f k l0_1 l1_2).bind fun t861 => ((spec_l01Mul.f k l1_1 l0_2).bind fun t864 => ((spec_l01Mul.f k l0_2 l1_2).bind fun t867 => (if (a0_0 == a1_0) = true then ((spec_l01Add.f k t861 t864).bind fun t870 => ((spec_l02Make.f k a0_0 t870 t867).bind fun bt873 => (some (bt873.1, bt873.2.1, bt873.2.2)))) else ((spec_l01Cmp.f k t861 t864).bind fun t880 => (if t880 ≥ 0 then ((spec_l01Sub.f k t861 t864).bind fun t881 => ((spec_l02Make.f k a0_0 t881 t867).bind fun bt884 => (some (bt884.1, bt884.2.1, bt884.2.2)))) else ((spec_l01Sub.f k t864 t861).bind fun t891 => ((spec_l02Make.f k a1_0 t891 t867).bind fun bt894 => (some (bt894.1, bt894.2.1, bt894.2.2)))))))))
theorem spec_l02Add.mono : ∀ a0 a1 a2 a3 a4 a5 k, LeO (spec_l02Add.f k a0 a1 a2 a3 a4 a5) (spec_l02Add.f (k + 1) a0 a1 a2 a3 a4 a5) := by
 intro a0 a1 a2 a3 a4 a5 k
 unfold spec_l02Add.f
 repeat' first
   | (with_reducible exact spec_l01Add.mono _ _ _)
   | (with_reducible exact spec_l01Cmp.mono _ _ _)
   | (with_reducible exact spec_l01Mul.mono _ _ _)
   | (with_reducible exact spec_l01Sub.mono _ _ _)
   | (with_reducible exact spec_l02Make.mono _ _ _ _)
   | (with_reducible exact LeO.refl _)
   | (with_reducible exact LeO.none _)
   | (with_reducible refine LeO.ite ?_ ?_)
   | (with_reducible refine LeO.bind ?_ (fun _ => ?_))
   | exact spec_l01Add.mono _ _ _
   | exact spec_l01Cmp.mono _ _ _
   | exact spec_l01Mul.mono _ _ _
   | exact spec_l01Sub.mono _ _ _
   | exact spec_l02Make.mono _ _ _ _
   | exact LeO.none _
   | refine LeO.ite ?_ ?_
   | refine LeO.bind ?_ (fun _ => ?_)
def spec_l02Add.T5 : Bool × List (List Nat × List Nat) := (true, [([], []), ([0], [0]), ([], []), ([], []), ([2, 3], [2, 3]), ([], []), ([1, 4, 5, 4], [1, 4, 5]), ([6, 6, 0, 1, 2, 3, 4, 5, 6], [6])])
def spec_l02Add.B5 : List Nat := [0, 1, 0, 0, 12, 0, 63, 127]
theorem spec_l02Add.tab5 : rtab .any (opsOf Try.f84 5) = spec_l02Add.T5 := by kernel_rfl
theorem spec_l02Add.bits5 : waitsOk spec_l02Add.T5.2 spec_l02Add.B5 = true := by kernel_rfl
def spec_l02Add.T7 : Bool × List (List Nat × List Nat) := (true, [([], []), ([0], [0]), ([], []), ([], []), ([2, 3], [2, 3]), ([], []), ([1, 4, 5, 4], [1, 4, 5]), ([6, 6, 0, 1, 2, 3, 4, 5, 6], [6])])
def spec_l02Add.B7 : List Nat := [0, 1, 0, 0, 12, 0, 63, 127]
theorem spec_l02Add.tab7 : rtab .any (opsOf Try.f84 7) = spec_l02Add.T7 := by kernel_rfl
theorem spec_l02Add.bits7 : waitsOk spec_l02Add.T7.2 spec_l02Add.B7 = true := by kernel_rfl
def spec_l02Add.T8 : Bool × List (List Nat × List Nat) := (true, [([], []), ([0], [0]), ([], []), ([], []), ([2, 3], [2, 3]), ([], []), ([1, 4, 5, 4], [1, 4, 5]), ([6, 6, 0, 1, 2, 3, 4, 5, 6], [6])])
def spec_l02Add.B8 : List Nat := [0, 1, 0, 0, 12, 0, 63, 127]
theorem spec_l02Add.tab8 : rtab .any (opsOf Try.f84 8) = spec_l02Add.T8 := by kernel_rfl
theorem spec_l02Add.bits8 : waitsOk spec_l02Add.T8.2 spec_l02Add.B8 = true := by kernel_rfl
set_option maxHeartbeats 8000000 in
set_option maxRecDepth 100000 in
theorem spec_l02Add.calls (k : Nat) (a0_0 : Bool) (A0_1 : Option Addr) (c0_1 : Nat) (l0_1 : List Int) (A0_2 : Option Addr) (c0_2 : Nat) (l0_2 : List Int) (a1_0 : Bool) (A1_1 : Option Addr) (c1_1 : Nat) (l1_1 : List Int) (A1_2 : Option Addr) (c1_2 : Nat) (l1_2 : List Int) (r1 : Bool) (r2 : List Int) (r3 : List Int) (w : World) (hr0_1 : Kd.C (Kd.int .i64) w A0_1 l0_1.length l0_1) (hc0_1 : l0_1.length ≤ c0_1) (hr0_2 : Kd.C (Kd.int .i64) w A0_2 l0_2.length l0_2) (hc0_2 : l0_2.length ≤ c0_2) (hr1_1 : Kd.C (Kd.int .i64) w A1_1 l1_1.length l1_1) (hc1_1 : l1_1.length ≤ c1_1) (hr1_2 : Kd.C (Kd.int .i64) w A1_2 l1_2.length l1_2) (hc1_2 : l1_2.length ≤ c1_2) (h : spec_l02Add.f k a0_0 l0_1 l0_2 a1_0 l1_1 l1_2 = some (r1, r2, r3)) :
  Calls Try.prog 84 #[.agg #[.bool a0_0, .slice A0_1 l0_1.length c0_1, .slice A0_2 l0_2.length c0_2], .agg #[.bool a1_0, .slice A1_1 l1_1.length c1_1, .slice A1_2 l1_2.length c1_2]] w fun e w' => ∃ v1_ v2_ : Value, e = .returned (.agg #[.bool r1, v1_, v2_]) ∧ Kd.R (Kd.int .i64) 3 w' w.heap.size (fun k_ => nO k_ v2_) v1_ r2 ∧ Kd.R (Kd.int .i64) 3 w' w.heap.size (fun k_ => nO k_ v1_) v2_ r3 ∧ Below w.heap.size w w' := by
 have hu24 := Try.underlying24
 have HR0_1 := Aside0.mk hr0_1
 have HC0_1 := Aside0.mk hc0_1
 clear hr0_1 hc0_1
 have HR0_2 := Aside0.mk hr0_2
 have HC0_2 := Aside0.mk hc0_2
 clear hr0_2 hc0_2
 have HR1_1 := Aside0.mk hr1_1
 have HC1_1 := Aside0.mk hc1_1
 clear hr1_1 hc1_1
 have HR1_2 := Aside0.mk hr1_2
 have HC1_2 := Aside0.mk hc1_2
 clear hr1_2 hc1_2
 have HB := Aside0.mk (Below.refl w.heap.size w)
 have H : ((spec_l01Mul.f k l0_1 l1_2).bind fun t861 => ((spec_l01Mul.f k l1_1 l0_2).bind fun t864 => ((spec_l01Mul.f k l0_2 l1_2).bind fun t867 => (if (a0_0 == a1_0) = true then ((spec_l01Add.f k t861 t864).bind fun t870 => ((spec_l02Make.f k a0_0 t870 t867).bind fun bt873 => (some (bt873.1, bt873.2.1, bt873.2.2)))) else ((spec_l01Cmp.f k t861 t864).bind fun t880 => (if t880 ≥ 0 then ((spec_l01Sub.f k t861 t864).bind fun t881 => ((spec_l02Make.f k a0_0 t881 t867).bind fun bt884 => (some (bt884.1, bt884.2.1, bt884.2.2)))) else ((spec_l01Sub.f k t864 t861).bind fun t891 => ((spec_l02Make.f k a1_0 t891 t867).bind fun bt894 => (some (bt894.1, bt894.2.1, bt894.2.2)))))))))) = some (r1, r2, r3) := h
 clear h
 replace H := Option.bind_eq_some_iff.mp H
 obtain ⟨t861, A30, H⟩ := H
 replace H : ((spec_l01Mul.f k l1_1 l0_2).bind fun t864 => ((spec_l01Mul.f k l0_2 l1_2).bind fun t867 => (if (a0_0 == a1_0) = true then ((spec_l01Add.f k t861 t864).bind fun t870 => ((spec_l02Make.f k a0_0 t870 t867).bind fun bt873 => (some (bt873.1, bt873.2.1, bt873.2.2)))) else ((spec_l01Cmp.f k t861 t864).bind fun t880 => (if t880 ≥ 0 then ((spec_l01Sub.f k t861 t864).bind fun t881 => ((spec_l02Make.f k a0_0 t881 t867).bind fun bt884 => (some (bt884.1, bt884.2.1, bt884.2.2)))) else ((spec_l01Sub.f k t864 t861).bind fun t891 => ((spec_l02Make.f k a1_0 t891 t867).bind fun bt894 => (some (bt894.1, bt894.2.1, bt894.2.2))))))))) = some (r1, r2, r3) := H
 have A3 := Aside0.mk A30
 clear A30
 replace H := Option.bind_eq_some_iff.mp H
 obtain ⟨t864, A40, H⟩ := H
 replace H : ((spec_l01Mul.f k l0_2 l1_2).bind fun t867 => (if (a0_0 == a1_0) = true then ((spec_l01Add.f k t861 t864).bind fun t870 => ((spec_l02Make.f k a0_0 t870 t867).bind fun bt873 => (some (bt873.1, bt873.2.1, bt873.2.2)))) else ((spec_l01Cmp.f k t861 t864).bind fun t880 => (if t880 ≥ 0 then ((spec_l01Sub.f k t861 t864).bind fun t881 => ((spec_l02Make.f k a0_0 t881 t867).bind fun bt884 => (some (bt884.1, bt884.2.1, bt884.2.2)))) else ((spec_l01Sub.f k t864 t861).bind fun t891 => ((spec_l02Make.f k a1_0 t891 t867).bind fun bt894 => (some (bt894.1, bt894.2.1, bt894.2.2)))))))) = some (r1, r2, r3) := H
 have A4 := Aside0.mk A40
 clear A40
 replace H := Option.bind_eq_some_iff.mp H
 obtain ⟨t867, A50, H⟩ := H
 replace H : (if (a0_0 == a1_0) = true then ((spec_l01Add.f k t861 t864).bind fun t870 => ((spec_l02Make.f k a0_0 t870 t867).bind fun bt873 => (some (bt873.1, bt873.2.1, bt873.2.2)))) else ((spec_l01Cmp.f k t861 t864).bind fun t880 => (if t880 ≥ 0 then ((spec_l01Sub.f k t861 t864).bind fun t881 => ((spec_l02Make.f k a0_0 t881 t867).bind fun bt884 => (some (bt884.1, bt884.2.1, bt884.2.2)))) else ((spec_l01Sub.f k t864 t861).bind fun t891 => ((spec_l02Make.f k a1_0 t891 t867).bind fun bt894 => (some (bt894.1, bt894.2.1, bt894.2.2))))))) = some (r1, r2, r3) := H
 have A5 := Aside0.mk A50
 clear A50
 by_cases c6 : (a0_0 == a1_0) = true
 ·
  rw [if_pos c6] at H
  have c6b0 : (a0_0 == a1_0) = true := c6
  (try (have c6b1 : decide (a0_0 = a1_0) = true := by simpa using c6))
  (try (have c6b2 : (a0_0 == a1_0) = true := by simpa using c6))
  clear c6
  replace H := Option.bind_eq_some_iff.mp H
  obtain ⟨t870, A70, H⟩ := H
  replace H : ((spec_l02Make.f k a0_0 t870 t867).bind fun bt873 => (some (bt873.1, bt873.2.1, bt873.2.2))) = some (r1, r2, r3) := H
  have A7 := Aside0.mk A70
  clear A70
  replace H := Option.bind_eq_some_iff.mp H
  obtain ⟨⟨t873, t874, t877⟩, A80, H⟩ := H
  replace H : (some (t873, t874, t877)) = some (r1, r2, r3) := H
  have A8 := Aside0.mk A80
  clear A80
  simp only [Option.some.injEq, Prod.mk.injEq] at H
  obtain ⟨rfl, rfl, rfl⟩ := H
  go_enter Try.func84, Try.ntmps84
  try go_wp2_with (first | ((with_reducible refine gate_dst (N := 2) rfl ?_); refine bx_ (N := 2) (cs := #[.bool a0_0, .slice A0_1 l0_1.length c0_1, .slice A0_2 l0_2.length c0_2]) (t := 24) ?_; intro gb858 hg w9 hbox hb; have BK858 := Aside0.mk (hbox); have GW858 := geh hg HB; have GE858 := geh hg HB; replace HB := bst HB hb; clear hb hbox hg) | ((with_reducible refine gate_dst (N := 3) rfl ?_); refine bx_ (N := 3) (cs := #[.bool a1_0, .slice A1_1 l1_1.length c1_1, .slice A1_2 l1_2.length c1_2]) (t := 24) ?_; intro gb859 hg w10 hbox hb; have BK859 := Aside0.mk (hbox); have GW859 := geh hg HB; have GE859 := geh hg HB; replace HB := bst HB hb; have NB858_859 := nlt hg BK858; have NB859_858 := ngt hg BK858; replace BK858 := bkb BK858 hb; clear hb hbox hg) | ((with_reducible refine gate_dst (N := 4) rfl ?_); refine bx_ (N := 4) (cs := #[.bool false, .slice none 0 0, .slice none 0 0]) (t := 24) ?_; intro gb860 hg w11 hbox hb; have BK860 := Aside0.mk (hbox); have GW860 := geh hg HB; have GE860 := geh hg HB; replace HB := bst HB hb; have NB858_860 := nlt hg BK858; have NB860_858 := ngt hg BK858; replace BK858 := bkb BK858 hb; have NB859_860 := nlt hg BK859; have NB860_859 := ngt hg BK859; replace BK859 := bkb BK859 hb; clear hb hbox hg; have hnb12 := NB858_859.out; have hnc12 := NB859_858.out; have hnb13 := NB858_860.out; have hnc13 := NB860_858.out; obtain ⟨hcz14_0, hcz14_1, hcz14_2, hfz14_0, hfz14_1, hfz14_2⟩ := bc3 BK858; have hnb15 := NB859_860.out; have hnc15 := NB860_859.out; obtain ⟨hcz16_0, hcz16_1, hcz16_2, hfz16_0, hfz16_1, hfz16_2⟩ := bc3 BK859) | ((with_reducible refine gate_callee (f := 106) rfl ?_); refine gL_ (some 12) Try.func106 #[.slice A0_1 l0_1.length c0_1, .slice A1_2 l1_2.length c1_2] ?_; (with_reducible refine (spec_l01Mul.calls k _ _ l0_1 _ _ l1_2 t861 _ ?side1 ?side2 ?side3 ?side4 A3.out).mono ?_); (case side1 => exact crC (Kd.C_below HR0_1.out HB.out)); (case side2 => exact HC0_1.out); (case side3 => exact crC (Kd.C_below HR1_2.out HB.out)); (case side4 => exact HC1_2.out); rintro e w17 ⟨v862, rfl, ho0, hb⟩; refine ⟨_, rfl, ?_⟩; have HO863 := lwR ho0 HB; replace BK858 := bkb BK858 hb; replace BK859 := bkb BK859 hb; replace BK860 := bkb BK860 hb; replace HB := bst HB hb; (try clear hb); (try clear hb2); (try clear hk); (try clear hi); (try clear ho0); obtain ⟨hcz18_0, hcz18_1, hcz18_2, hfz18_0, hfz18_1, hfz18_2⟩ := bc3 BK859; obtain ⟨hcz19_0, hcz19_1, hcz19_2, hfz19_0, hfz19_1, hfz19_2⟩ := bc3 BK858) | ((with_reducible refine gate_callee (f := 106) rfl ?_); refine gL_ (some 17) Try.func106 #[.slice A1_1 l1_1.length c1_1, .slice A0_2 l0_2.length c0_2] ?_; (with_reducible refine (spec_l01Mul.calls k _ _ l1_1 _ _ l0_2 t864 _ ?side1 ?side2 ?side3 ?side4 A4.out).mono ?_); (case side1 => exact crC (Kd.C_below HR1_1.out HB.out)); (case side2 => exact HC1_1.out); (case side3 => exact crC (Kd.C_below HR0_2.out HB.out)); (case side4 => exact HC0_2.out); rintro e w20 ⟨v865, rfl, ho0, hb⟩; refine ⟨_, rfl, ?_⟩; have HO866 := lwR (nwR ho0 HO863) HB; replace HO863 := eldR HO863 (Kd.R_base ho0) hb; replace BK858 := bkb BK858 hb; replace BK859 := bkb BK859 hb; replace BK860 := bkb BK860 hb; replace HB := bst HB hb; (try clear hb); (try clear hb2); (try clear hk); (try clear hi); (try clear ho0); obtain ⟨hcz21_0, hcz21_1, hcz21_2, hfz21_0, hfz21_1, hfz21_2⟩ := bc3 BK858; obtain ⟨hcz22_0, hcz22_1, hcz22_2, hfz22_0, hfz22_1, hfz22_2⟩ := bc3 BK859) | ((with_reducible refine gate_callee (f := 106) rfl ?_); refine gL_ (some 22) Try.func106 #[.slice A0_2 l0_2.length c0_2, .slice A1_2 l1_2.length c1_2] ?_; (with_reducible refine (spec_l01Mul.calls k _ _ l0_2 _ _ l1_2 t867 _ ?side1 ?side2 ?side3 ?side4 A5.out).mono ?_); (case side1 => exact crC (Kd.C_below HR0_2.out HB.out)); (case side2 => exact HC0_2.out); (case side3 => exact crC (Kd.C_below HR1_2.out HB.out)); (case side4 => exact HC1_2.out); rintro e w23 ⟨v868, rfl, ho0, hb⟩; refine ⟨_, rfl, ?_⟩; have HO869 := lwR (nwR (nwR ho0 HO863) HO866) HB; replace HO863 := eldR HO863 (Kd.R_base ho0) hb; replace HO866 := eldR HO866 (Kd.R_base ho0) hb; replace BK858 := bkb BK858 hb; replace BK859 := bkb BK859 hb; replace BK860 := bkb BK860 hb; replace HB := bst HB hb; (try clear hb); (try clear hb2); (try clear hk); (try clear hi); (try clear ho0); obtain ⟨hcz24_0, hcz24_1, hcz24_2, hfz24_0, hfz24_1, hfz24_2⟩ := bc3 BK858; obtain ⟨hcz25_0, hcz25_1, hcz25_2, hfz25_0, hfz25_1, hfz25_2⟩ := bc3 BK859))
  replace HO863 := Aside0.mk (Kd.R_drew HO863.out)
  replace HO866 := Aside0.mk (Kd.R_drew HO866.out)
  replace HO869 := Aside0.mk (Kd.R_drew HO869.out)
  replace BK858 := Aside0.mk (blk_drew BK858.out)
  replace BK859 := Aside0.mk (blk_drew BK859.out)
  replace BK860 := Aside0.mk (blk_drew BK860.out)
  replace HB := Aside0.mk (below_drew1 HB.out)
  obtain ⟨Ao27, co27, eo27⟩ := Kd.R_slice HO863.out
  (first | subst eo27 | (injection eo27 with f1_ f2_ f3_; have f4_ := f1_.symm; have f5_ := f3_.symm; clear f1_ f2_ f3_; subst f4_; subst f5_))
  obtain ⟨Ao28, co28, eo28⟩ := Kd.R_slice HO866.out
  (first | subst eo28 | (injection eo28 with f1_ f2_ f3_; have f4_ := f1_.symm; have f5_ := f3_.symm; clear f1_ f2_ f3_; subst f4_; subst f5_))
  refine start_ (n := 8) (S := fun w' => w'.cell? ⟨gb858, 0, none⟩ = some (.bool a0_0) ∧ w'.cell? ⟨gb858, 1, none⟩ = some (.slice A0_1 l0_1.length c0_1) ∧ w'.cell? ⟨gb858, 2, none⟩ = some (.slice A0_2 l0_2.length c0_2)) (ds := []) (bm 8 0) (by kernel_rfl) rfl rfl ⟨bce BK858 0 _, bce BK858 1 _, bce BK858 2 _⟩ (fun hHeld => ?_); refine with_tabW spec_l02Add.tab5 spec_l02Add.bits5 (fun HT_ HW_ => ?_)
  generalize w23.drew = w26 at HO863 HO866 HO869 BK858 BK859 BK860 HB hHeld ⊢
  refine pu_ 0 (some 28) (bm 8 1) HT_.out ?_
  refine pu_ 2 (some 30) (bm 8 5) HT_.out ?_
  refine pu_ 3 (some 31) (bm 8 13) HT_.out ?_
  refine pu_ 5 (some 33) (bm 8 45) HT_.out ?_
  refine tk_ 1 (some 29) (bm 8 47) HT_.out HW_.out hHeld ?_
  refine one_ (i := 4) (N := some 32) (bm 8 63) rfl rfl (one_of HT_.out (by kernel_rfl)) (by decide) (fun K hK => ?_)
  refine g_ Try.func107 #[.slice Ao27 t861.length co27, .slice Ao28 t864.length co28] ?_
  with_reducible refine (spec_l01Add.calls k _ _ t861 _ _ t864 t870 _ ?side1 ?side2 ?side3 ?side4 A7.out).mono ?_
  (case side1 => exact crC (Kd.R_reads' HO863.out).2.2)
  (case side2 => exact (Kd.R_reads' HO863.out).2.1)
  (case side3 => exact crC (Kd.R_reads' HO866.out).2.2)
  (case side4 => exact (Kd.R_reads' HO866.out).2.1)
  rintro e w29 ⟨v871, rfl, ho0, hb⟩
  refine ⟨_, rfl, ?_⟩
  have HO872 := lwR (nwR (nwR (nwR ho0 HO863) HO866) HO869) HB
  replace HO863 := eldR HO863 (Kd.R_base ho0) hb
  replace HO866 := eldR HO866 (Kd.R_base ho0) hb
  replace HO869 := eldR HO869 (Kd.R_base ho0) hb
  replace BK858 := bkb BK858 hb
  replace BK859 := bkb BK859 hb
  replace BK860 := bkb BK860 hb
  replace HB := bst HB hb
  (try clear hb)
  (try clear hb2)
  (try clear hk)
  (try clear hi)
  (try clear ho0)
  obtain ⟨Ao30, co30, eo30⟩ := Kd.R_slice HO872.out
  (first | subst eo30 | (injection eo30 with f1_ f2_ f3_; have f4_ := f1_.symm; have f5_ := f3_.symm; clear f1_ f2_ f3_; subst f4_; subst f5_))
  obtain ⟨Ao31, co31, eo31⟩ := Kd.R_slice HO869.out
  (first | subst eo31 | (injection eo31 with f1_ f2_ f3_; have f4_ := f1_.symm; have f5_ := f3_.symm; clear f1_ f2_ f3_; subst f4_; subst f5_))
  refine hK.out _ _ ⟨bce BK858 0 _, bce BK858 1 _, bce BK858 2 _⟩ (fun hHeld => ?_)
  clear hK K
  refine nm_ 32 ?_
  refine one_ (i := 6) (N := some 34) (bm 8 127) rfl rfl (one_of HT_.out (by kernel_rfl)) (by decide) (fun K hK => ?_)
  refine g_ Try.func47 #[.bool a0_0, .slice Ao30 t870.length co30, .slice Ao31 t867.length co31] ?_
  with_reducible refine (spec_l02Make.calls k a0_0 _ _ t870 _ _ t867 t873 t874 t877 _ ?side1 ?side2 ?side3 ?side4 A8.out).mono ?_
  (case side1 => exact crC (Kd.R_reads' HO872.out).2.2)
  (case side2 => exact (Kd.R_reads' HO872.out).2.1)
  (case side3 => exact crC (Kd.R_reads' HO869.out).2.2)
  (case side4 => exact (Kd.R_reads' HO869.out).2.1)
  rintro e w32 ⟨v875, v878, rfl, ho0, ho1, hb⟩
  refine ⟨_, rfl, ?_⟩
  have HO876 := lwR (nwR (nwR (nwR (nwR ho0 HO863) HO866) HO869) HO872) HB
  have HO879 := lwR (nwR (nwR (nwR (nwR ho1 HO863) HO866) HO869) HO872) HB
  replace HO863 := tldR HO863 hb (Kd.R_base ho0) (Kd.R_base ho1)
  replace HO866 := tldR HO866 hb (Kd.R_base ho0) (Kd.R_base ho1)
  replace HO869 := tldR HO869 hb (Kd.R_base ho0) (Kd.R_base ho1)
  replace HO872 := tldR HO872 hb (Kd.R_base ho0) (Kd.R_base ho1)
  replace BK858 := bkb BK858 hb
  replace BK859 := bkb BK859 hb
  replace BK860 := bkb BK860 hb
  replace HB := bst HB hb
  (try clear hb)
  (try clear hb2)
  (try clear hk)
  (try clear hi)
  (try clear ho0)
  (try clear ho1)
  obtain ⟨Ao34, co34, eo34⟩ := Kd.R_slice HO876.out
  (first | subst eo34 | (injection eo34 with f1_ f2_ f3_; have f4_ := f1_.symm; have f5_ := f3_.symm; clear f1_ f2_ f3_; subst f4_; subst f5_))
  obtain ⟨Ao36, co36, eo36⟩ := Kd.R_slice HO879.out
  (first | subst eo36 | (injection eo36 with f1_ f2_ f3_; have f4_ := f1_.symm; have f5_ := f3_.symm; clear f1_ f2_ f3_; subst f4_; subst f5_))
  refine hK.out _ _ ⟨bce BK858 0 _, bce BK858 1 _, bce BK858 2 _⟩ (fun hHeld => ?_)
  clear hK K
  refine nm_ 34 ?_
  refine one_ (i := 7) (N := none) (bm 8 255) rfl rfl (one_of HT_.out (by kernel_rfl)) (by decide) (fun K hK => ?_)
  have hs33 : w32.cell? ⟨gb860, 0, none⟩ = some (.bool false) := bce BK860 0 _
  have hfs33 := blk_frozen BK860.out 0
  have hns33_0 := NB858_860.out
  have hns33_1 := NB859_860.out
  have hms33_0 := NB860_858.out
  have hms33_1 := NB860_859.out
  have hs35 : w32.cell? ⟨gb860, 1, none⟩ = some (.slice none 0 0) := bce BK860 1 _
  have hfs35 := blk_frozen BK860.out 1
  have hns35_0 := NB858_860.out
  have hns35_1 := NB859_860.out
  have hms35_0 := NB860_858.out
  have hms35_1 := NB860_859.out
  have hs37 : w32.cell? ⟨gb860, 2, none⟩ = some (.slice none 0 0) := bce BK860 2 _
  have hfs37 := blk_frozen BK860.out 2
  have hns37_0 := NB858_860.out
  have hns37_1 := NB859_860.out
  have hms37_0 := NB860_858.out
  have hms37_1 := NB860_859.out
  refine skip_ (w1 := ?_) (by rfl) rfl ?_ ?_
  rotate_left
  ·
   go_simp
   rfl
  refine hK.out _ _ ⟨((cell_far (p := ⟨gb860, _, none⟩) NB858_860.out _).trans (((cell_far (p := ⟨gb860, _, none⟩) NB858_860.out _).trans (((cell_far (p := ⟨gb860, _, none⟩) NB858_860.out _).trans (hHeld.1)))))), ((cell_far (p := ⟨gb860, _, none⟩) NB858_860.out _).trans (((cell_far (p := ⟨gb860, _, none⟩) NB858_860.out _).trans (((cell_far (p := ⟨gb860, _, none⟩) NB858_860.out _).trans (hHeld.2.1)))))), ((cell_far (p := ⟨gb860, _, none⟩) NB858_860.out _).trans (((cell_far (p := ⟨gb860, _, none⟩) NB858_860.out _).trans (((cell_far (p := ⟨gb860, _, none⟩) NB858_860.out _).trans (hHeld.2.2))))))⟩ (fun hHeld => ?_)
  clear hK K
  refine done_ (done_of HT_.out (by kernel_rfl)) ?_
  try go_wp2
  refine bodyPost_ret (results_cell_row rfl _ _ gb860 24 #[.bool t873, .slice Ao34 t874.length co34, .slice Ao36 t877.length co36] (0, 0) _ rfl (bp3 BK860 _ _ _) Try.underlying24 rfl (by kernel_rfl)) rfl ?_
  exact ⟨_, _, er_, (crN HO876 BK860 fun _ hk => hk.1.1.1.1.1), (crN HO879 BK860 fun _ hk => hk.1.1.1.1.1), blw HB⟩
 ·
  rw [if_neg c6] at H
  have c6b0 : (a0_0 == a1_0) = false := by simpa using c6
  (try (have c6b1 : decide (a0_0 = a1_0) = false := by simpa using c6))
  (try (have c6b2 : (a0_0 == a1_0) = false := by simpa using c6))
  (try (have c6b3 : ¬ (a0_0 = a1_0) := by simpa using c6))
  clear c6
  replace H := Option.bind_eq_some_iff.mp H
  obtain ⟨t880, A380, H⟩ := H
  replace H : (if t880 ≥ 0 then ((spec_l01Sub.f k t861 t864).bind fun t881 => ((spec_l02Make.f k a0_0 t881 t867).bind fun bt884 => (some (bt884.1, bt884.2.1, bt884.2.2)))) else ((spec_l01Sub.f k t864 t861).bind fun t891 => ((spec_l02Make.f k a1_0 t891 t867).bind fun bt894 => (some (bt894.1, bt894.2.1, bt894.2.2))))) = some (r1, r2, r3) := H
  have A38 := Aside0.mk A380
  clear A380
  by_cases c39 : t880 ≥ 0
  ·
   rw [if_pos c39] at H
   have c39b0 : decide (0 ≤ t880) = true := decide_eq_true c39
   clear c39
   replace H := Option.bind_eq_some_iff.mp H
   obtain ⟨t881, A400, H⟩ := H
   replace H : ((spec_l02Make.f k a0_0 t881 t867).bind fun bt884 => (some (bt884.1, bt884.2.1, bt884.2.2))) = some (r1, r2, r3) := H
   have A40 := Aside0.mk A400
   clear A400
   replace H := Option.bind_eq_some_iff.mp H
   obtain ⟨⟨t884, t885, t888⟩, A410, H⟩ := H
   replace H : (some (t884, t885, t888)) = some (r1, r2, r3) := H
   have A41 := Aside0.mk A410
   clear A410
   simp only [Option.some.injEq, Prod.mk.injEq] at H
   obtain ⟨rfl, rfl, rfl⟩ := H
   go_enter Try.func84, Try.ntmps84
   try go_wp2_with (first | ((with_reducible refine gate_dst (N := 2) rfl ?_); refine bx_ (N := 2) (cs := #[.bool a0_0, .slice A0_1 l0_1.length c0_1, .slice A0_2 l0_2.length c0_2]) (t := 24) ?_; intro gb858 hg w42 hbox hb; have BK858 := Aside0.mk (hbox); have GW858 := geh hg HB; have GE858 := geh hg HB; replace HB := bst HB hb; clear hb hbox hg) | ((with_reducible refine gate_dst (N := 3) rfl ?_); refine bx_ (N := 3) (cs := #[.bool a1_0, .slice A1_1 l1_1.length c1_1, .slice A1_2 l1_2.length c1_2]) (t := 24) ?_; intro gb859 hg w43 hbox hb; have BK859 := Aside0.mk (hbox); have GW859 := geh hg HB; have GE859 := geh hg HB; replace HB := bst HB hb; have NB858_859 := nlt hg BK858; have NB859_858 := ngt hg BK858; replace BK858 := bkb BK858 hb; clear hb hbox hg) | ((with_reducible refine gate_dst (N := 4) rfl ?_); refine bx_ (N := 4) (cs := #[.bool false, .slice none 0 0, .slice none 0 0]) (t := 24) ?_; intro gb860 hg w44 hbox hb; have BK860 := Aside0.mk (hbox); have GW860 := geh hg HB; have GE860 := geh hg HB; replace HB := bst HB hb; have NB858_860 := nlt hg BK858; have NB860_858 := ngt hg BK858; replace BK858 := bkb BK858 hb; have NB859_860 := nlt hg BK859; have NB860_859 := ngt hg BK859; replace BK859 := bkb BK859 hb; clear hb hbox hg; have hnb45 := NB858_859.out; have hnc45 := NB859_858.out; have hnb46 := NB858_860.out; have hnc46 := NB860_858.out; obtain ⟨hcz47_0, hcz47_1, hcz47_2, hfz47_0, hfz47_1, hfz47_2⟩ := bc3 BK858; have hnb48 := NB859_860.out; have hnc48 := NB860_859.out; obtain ⟨hcz49_0, hcz49_1, hcz49_2, hfz49_0, hfz49_1, hfz49_2⟩ := bc3 BK859) | ((with_reducible refine gate_callee (f := 106) rfl ?_); refine gL_ (some 12) Try.func106 #[.slice A0_1 l0_1.length c0_1, .slice A1_2 l1_2.length c1_2] ?_; (with_reducible refine (spec_l01Mul.calls k _ _ l0_1 _ _ l1_2 t861 _ ?side1 ?side2 ?side3 ?side4 A3.out).mono ?_); (case side1 => exact crC (Kd.C_below HR0_1.out HB.out)); (case side2 => exact HC0_1.out); (case side3 => exact crC (Kd.C_below HR1_2.out HB.out)); (case side4 => exact HC1_2.out); rintro e w50 ⟨v862, rfl, ho0, hb⟩; refine ⟨_, rfl, ?_⟩; have HO863 := lwR ho0 HB; replace BK858 := bkb BK858 hb; replace BK859 := bkb BK859 hb; replace BK860 := bkb BK860 hb; replace HB := bst HB hb; (try clear hb); (try clear hb2); (try clear hk); (try clear hi); (try clear ho0); obtain ⟨hcz51_0, hcz51_1, hcz51_2, hfz51_0, hfz51_1, hfz51_2⟩ := bc3 BK859; obtain ⟨hcz52_0, hcz52_1, hcz52_2, hfz52_0, hfz52_1, hfz52_2⟩ := bc3 BK858) | ((with_reducible refine gate_callee (f := 106) rfl ?_); refine gL_ (some 17) Try.func106 #[.slice A1_1 l1_1.length c1_1, .slice A0_2 l0_2.length c0_2] ?_; (with_reducible refine (spec_l01Mul.calls k _ _ l1_1 _ _ l0_2 t864 _ ?side1 ?side2 ?side3 ?side4 A4.out).mono ?_); (case side1 => exact crC (Kd.C_below HR1_1.out HB.out)); (case side2 => exact HC1_1.out); (case side3 => exact crC (Kd.C_below HR0_2.out HB.out)); (case side4 => exact HC0_2.out); rintro e w53 ⟨v865, rfl, ho0, hb⟩; refine ⟨_, rfl, ?_⟩; have HO866 := lwR (nwR ho0 HO863) HB; replace HO863 := eldR HO863 (Kd.R_base ho0) hb; replace BK858 := bkb BK858 hb; replace BK859 := bkb BK859 hb; replace BK860 := bkb BK860 hb; replace HB := bst HB hb; (try clear hb); (try clear hb2); (try clear hk); (try clear hi); (try clear ho0); obtain ⟨hcz54_0, hcz54_1, hcz54_2, hfz54_0, hfz54_1, hfz54_2⟩ := bc3 BK858; obtain ⟨hcz55_0, hcz55_1, hcz55_2, hfz55_0, hfz55_1, hfz55_2⟩ := bc3 BK859) | ((with_reducible refine gate_callee (f := 106) rfl ?_); refine gL_ (some 22) Try.func106 #[.slice A0_2 l0_2.length c0_2, .slice A1_2 l1_2.length c1_2] ?_; (with_reducible refine (spec_l01Mul.calls k _ _ l0_2 _ _ l1_2 t867 _ ?side1 ?side2 ?side3 ?side4 A5.out).mono ?_); (case side1 => exact crC (Kd.C_below HR0_2.out HB.out)); (case side2 => exact HC0_2.out); (case side3 => exact crC (Kd.C_below HR1_2.out HB.out)); (case side4 => exact HC1_2.out); rintro e w56 ⟨v868, rfl, ho0, hb⟩; refine ⟨_, rfl, ?_⟩; have HO869 := lwR (nwR (nwR ho0 HO863) HO866) HB; replace HO863 := eldR HO863 (Kd.R_base ho0) hb; replace HO866 := eldR HO866 (Kd.R_base ho0) hb; replace BK858 := bkb BK858 hb; replace BK859 := bkb BK859 hb; replace BK860 := bkb BK860 hb; replace HB := bst HB hb; (try clear hb); (try clear hb2); (try clear hk); (try clear hi); (try clear ho0); obtain ⟨hcz57_0, hcz57_1, hcz57_2, hfz57_0, hfz57_1, hfz57_2⟩ := bc3 BK858; obtain ⟨hcz58_0, hcz58_1, hcz58_2, hfz58_0, hfz58_1, hfz58_2⟩ := bc3 BK859; obtain ⟨Ao59, co59, eo59⟩ := Kd.R_slice HO863.out; subst eo59; obtain ⟨Ao60, co60, eo60⟩ := Kd.R_slice HO866.out; subst eo60) | ((with_reducible refine gate_callee (f := 55) rfl ?_); refine gL_ (some 37) Try.func55 #[.slice Ao59 t861.length co59, .slice Ao60 t864.length co60] ?_; (with_reducible refine (spec_l01Cmp.calls k _ _ t861 _ _ t864 t880 _ ?side1 ?side2 ?side3 ?side4 A38.out).mono ?_); (case side1 => exact crC (Kd.R_reads' HO863.out).2.2); (case side2 => exact (Kd.R_reads' HO863.out).2.1); (case side3 => exact crC (Kd.R_reads' HO866.out).2.2); (case side4 => exact (Kd.R_reads' HO866.out).2.1); rintro e w' ⟨rfl, ⟨nd, rfl⟩⟩; refine ⟨_, rfl, ?_⟩; (try (rw [drewN_self w56]; generalize hq_ : World.drewN w56 _ = w56; replace HO863 : Aside0 (Kd.R (Kd.int .i64) 3 w56 w.heap.size (fun k_ => nO k_ (.slice Ao60 t864.length co60) ∧ nO k_ v868) (.slice Ao59 t861.length co59) t861) := ⟨by rw [← hq_]; exact (crM HO863 fun _ hk => ⟨hk.1.2, hk.2⟩)⟩; replace HO866 : Aside0 (Kd.R (Kd.int .i64) 3 w56 w.heap.size (fun k_ => nO k_ (.slice Ao59 t861.length co59) ∧ nO k_ v868) (.slice Ao60 t864.length co60) t864) := ⟨by rw [← hq_]; exact (crM HO866 fun _ hk => ⟨hk.1.2, hk.2⟩)⟩; replace HO869 : Aside0 (Kd.R (Kd.int .i64) 3 w56 w.heap.size (fun k_ => nO k_ (.slice Ao59 t861.length co59) ∧ nO k_ (.slice Ao60 t864.length co60)) v868 t867) := ⟨by rw [← hq_]; exact (crM HO869 fun _ hk => ⟨hk.1.2, hk.2⟩)⟩; replace BK858 : Aside0 (w56.heap[gb858]? = some (.cells #[.bool a0_0, .slice A0_1 l0_1.length c0_1, .slice A0_2 l0_2.length c0_2] 24 (0, 0))) := ⟨by rw [← hq_]; exact (crb BK858)⟩; replace BK859 : Aside0 (w56.heap[gb859]? = some (.cells #[.bool a1_0, .slice A1_1 l1_1.length c1_1, .slice A1_2 l1_2.length c1_2] 24 (0, 0))) := ⟨by rw [← hq_]; exact (crb BK859)⟩; replace BK860 : Aside0 (w56.heap[gb860]? = some (.cells #[.bool false, .slice none 0 0, .slice none 0 0] 24 (0, 0))) := ⟨by rw [← hq_]; exact (crb BK860)⟩; replace HB : Aside0 (Below w.heap.size w w56) := ⟨by rw [← hq_]; exact (blw HB)⟩; clear hq_))))
   replace HO863 := Aside0.mk (Kd.R_drew HO863.out)
   replace HO866 := Aside0.mk (Kd.R_drew HO866.out)
   replace HO869 := Aside0.mk (Kd.R_drew HO869.out)
   replace BK858 := Aside0.mk (blk_drew BK858.out)
   replace BK859 := Aside0.mk (blk_drew BK859.out)
   replace BK860 := Aside0.mk (blk_drew BK860.out)
   replace HB := Aside0.mk (below_drew1 HB.out)
   refine start_ (n := 8) (S := fun w' => w'.cell? ⟨gb858, 0, none⟩ = some (.bool a0_0) ∧ w'.cell? ⟨gb858, 1, none⟩ = some (.slice A0_1 l0_1.length c0_1) ∧ w'.cell? ⟨gb858, 2, none⟩ = some (.slice A0_2 l0_2.length c0_2)) (ds := []) (bm 8 0) (by kernel_rfl) rfl rfl ⟨bce BK858 0 _, bce BK858 1 _, bce BK858 2 _⟩ (fun hHeld => ?_); refine with_tabW spec_l02Add.tab7 spec_l02Add.bits7 (fun HT_ HW_ => ?_)
   generalize w56.drew = w61 at HO863 HO866 HO869 BK858 BK859 BK860 HB hHeld ⊢
   refine pu_ 0 (some 39) (bm 8 1) HT_.out ?_
   refine pu_ 2 (some 41) (bm 8 5) HT_.out ?_
   refine pu_ 3 (some 42) (bm 8 13) HT_.out ?_
   refine pu_ 5 (some 44) (bm 8 45) HT_.out ?_
   refine tk_ 1 (some 40) (bm 8 47) HT_.out HW_.out hHeld ?_
   refine one_ (i := 4) (N := some 43) (bm 8 63) rfl rfl (one_of HT_.out (by kernel_rfl)) (by decide) (fun K hK => ?_)
   refine g_ Try.func111 #[.slice Ao59 t861.length co59, .slice Ao60 t864.length co60] ?_
   with_reducible refine (spec_l01Sub.calls k _ _ t861 _ _ t864 t881 _ ?side1 ?side2 ?side3 ?side4 A40.out).mono ?_
   (case side1 => exact crC (Kd.R_reads' HO863.out).2.2)
   (case side2 => exact (Kd.R_reads' HO863.out).2.1)
   (case side3 => exact crC (Kd.R_reads' HO866.out).2.2)
   (case side4 => exact (Kd.R_reads' HO866.out).2.1)
   rintro e w62 ⟨v882, rfl, ho0, hb⟩
   refine ⟨_, rfl, ?_⟩
   have HO883 := lwR (nwR (nwR (nwR ho0 HO863) HO866) HO869) HB
   replace HO863 := eldR HO863 (Kd.R_base ho0) hb
   replace HO866 := eldR HO866 (Kd.R_base ho0) hb
   replace HO869 := eldR HO869 (Kd.R_base ho0) hb
   replace BK858 := bkb BK858 hb
   replace BK859 := bkb BK859 hb
   replace BK860 := bkb BK860 hb
   replace HB := bst HB hb
   (try clear hb)
   (try clear hb2)
   (try clear hk)
   (try clear hi)
   (try clear ho0)
   obtain ⟨Ao63, co63, eo63⟩ := Kd.R_slice HO883.out
   (first | subst eo63 | (injection eo63 with f1_ f2_ f3_; have f4_ := f1_.symm; have f5_ := f3_.symm; clear f1_ f2_ f3_; subst f4_; subst f5_))
   obtain ⟨Ao64, co64, eo64⟩ := Kd.R_slice HO869.out
   (first | subst eo64 | (injection eo64 with f1_ f2_ f3_; have f4_ := f1_.symm; have f5_ := f3_.symm; clear f1_ f2_ f3_; subst f4_; subst f5_))
   refine hK.out _ _ ⟨bce BK858 0 _, bce BK858 1 _, bce BK858 2 _⟩ (fun hHeld => ?_)
   clear hK K
   refine nm_ 43 ?_
   refine one_ (i := 6) (N := some 45) (bm 8 127) rfl rfl (one_of HT_.out (by kernel_rfl)) (by decide) (fun K hK => ?_)
   refine g_ Try.func47 #[.bool a0_0, .slice Ao63 t881.length co63, .slice Ao64 t867.length co64] ?_
   with_reducible refine (spec_l02Make.calls k a0_0 _ _ t881 _ _ t867 t884 t885 t888 _ ?side1 ?side2 ?side3 ?side4 A41.out).mono ?_
   (case side1 => exact crC (Kd.R_reads' HO883.out).2.2)
   (case side2 => exact (Kd.R_reads' HO883.out).2.1)
   (case side3 => exact crC (Kd.R_reads' HO869.out).2.2)
   (case side4 => exact (Kd.R_reads' HO869.out).2.1)
   rintro e w65 ⟨v886, v889, rfl, ho0, ho1, hb⟩
   refine ⟨_, rfl, ?_⟩
   have HO887 := lwR (nwR (nwR (nwR (nwR ho0 HO863) HO866) HO869) HO883) HB
   have HO890 := lwR (nwR (nwR (nwR (nwR ho1 HO863) HO866) HO869) HO883) HB
   replace HO863 := tldR HO863 hb (Kd.R_base ho0) (Kd.R_base ho1)
   replace HO866 := tldR HO866 hb (Kd.R_base ho0) (Kd.R_base ho1)
   replace HO869 := tldR HO869 hb (Kd.R_base ho0) (Kd.R_base ho1)
   replace HO883 := tldR HO883 hb (Kd.R_base ho0) (Kd.R_base ho1)
   replace BK858 := bkb BK858 hb
   replace BK859 := bkb BK859 hb
   replace BK860 := bkb BK860 hb
   replace HB := bst HB hb
   (try clear hb)
   (try clear hb2)
   (try clear hk)
   (try clear hi)
   (try clear ho0)
   (try clear ho1)
   obtain ⟨Ao67, co67, eo67⟩ := Kd.R_slice HO887.out
   (first | subst eo67 | (injection eo67 with f1_ f2_ f3_; have f4_ := f1_.symm; have f5_ := f3_.symm; clear f1_ f2_ f3_; subst f4_; subst f5_))
   obtain ⟨Ao69, co69, eo69⟩ := Kd.R_slice HO890.out
   (first | subst eo69 | (injection eo69 with f1_ f2_ f3_; have f4_ := f1_.symm; have f5_ := f3_.symm; clear f1_ f2_ f3_; subst f4_; subst f5_))
   refine hK.out _ _ ⟨bce BK858 0 _, bce BK858 1 _, bce BK858 2 _⟩ (fun hHeld => ?_)
   clear hK K
   refine nm_ 45 ?_
   refine one_ (i := 7) (N := none) (bm 8 255) rfl rfl (one_of HT_.out (by kernel_rfl)) (by decide) (fun K hK => ?_)
   have hs66 : w65.cell? ⟨gb860, 0, none⟩ = some (.bool false) := bce BK860 0 _
   have hfs66 := blk_frozen BK860.out 0
   have hns66_0 := NB858_860.out
   have hns66_1 := NB859_860.out
   have hms66_0 := NB860_858.out
   have hms66_1 := NB860_859.out
   have hs68 : w65.cell? ⟨gb860, 1, none⟩ = some (.slice none 0 0) := bce BK860 1 _
   have hfs68 := blk_frozen BK860.out 1
   have hns68_0 := NB858_860.out
   have hns68_1 := NB859_860.out
   have hms68_0 := NB860_858.out
   have hms68_1 := NB860_859.out
   have hs70 : w65.cell? ⟨gb860, 2, none⟩ = some (.slice none 0 0) := bce BK860 2 _
   have hfs70 := blk_frozen BK860.out 2
   have hns70_0 := NB858_860.out
   have hns70_1 := NB859_860.out
   have hms70_0 := NB860_858.out
   have hms70_1 := NB860_859.out
   refine skip_ (w1 := ?_) (by rfl) rfl ?_ ?_
   rotate_left
   ·
    go_simp
    rfl
   refine hK.out _ _ ⟨((cell_far (p := ⟨gb860, _, none⟩) NB858_860.out _).trans (((cell_far (p := ⟨gb860, _, none⟩) NB858_860.out _).trans (((cell_far (p := ⟨gb860, _, none⟩) NB858_860.out _).trans (hHeld.1)))))), ((cell_far (p := ⟨gb860, _, none⟩) NB858_860.out _).trans (((cell_far (p := ⟨gb860, _, none⟩) NB858_860.out _).trans (((cell_far (p := ⟨gb860, _, none⟩) NB858_860.out _).trans (hHeld.2.1)))))), ((cell_far (p := ⟨gb860, _, none⟩) NB858_860.out _).trans (((cell_far (p := ⟨gb860, _, none⟩) NB858_860.out _).trans (((cell_far (p := ⟨gb860, _, none⟩) NB858_860.out _).trans (hHeld.2.2))))))⟩ (fun hHeld => ?_)
   clear hK K
   refine done_ (done_of HT_.out (by kernel_rfl)) ?_
   try go_wp2
   refine bodyPost_ret (results_cell_row rfl _ _ gb860 24 #[.bool t884, .slice Ao67 t885.length co67, .slice Ao69 t888.length co69] (0, 0) _ rfl (bp3 BK860 _ _ _) Try.underlying24 rfl (by kernel_rfl)) rfl ?_
   exact ⟨_, _, er_, (crN HO887 BK860 fun _ hk => hk.1.1.1.1.1), (crN HO890 BK860 fun _ hk => hk.1.1.1.1.1), blw HB⟩
  ·
   rw [if_neg c39] at H
   have c39b0 : decide (0 ≤ t880) = false := decide_eq_false c39
   clear c39
   replace H := Option.bind_eq_some_iff.mp H
   obtain ⟨t891, A710, H⟩ := H
   replace H : ((spec_l02Make.f k a1_0 t891 t867).bind fun bt894 => (some (bt894.1, bt894.2.1, bt894.2.2))) = some (r1, r2, r3) := H
   have A71 := Aside0.mk A710
   clear A710
   replace H := Option.bind_eq_some_iff.mp H
   obtain ⟨⟨t894, t895, t898⟩, A720, H⟩ := H
   replace H : (some (t894, t895, t898)) = some (r1, r2, r3) := H
   have A72 := Aside0.mk A720
   clear A720
   simp only [Option.some.injEq, Prod.mk.injEq] at H
   obtain ⟨rfl, rfl, rfl⟩ := H
   go_enter Try.func84, Try.ntmps84
   try go_wp2_with (first | ((with_reducible refine gate_dst (N := 2) rfl ?_); refine bx_ (N := 2) (cs := #[.bool a0_0, .slice A0_1 l0_1.length c0_1, .slice A0_2 l0_2.length c0_2]) (t := 24) ?_; intro gb858 hg w73 hbox hb; have BK858 := Aside0.mk (hbox); have GW858 := geh hg HB; have GE858 := geh hg HB; replace HB := bst HB hb; clear hb hbox hg) | ((with_reducible refine gate_dst (N := 3) rfl ?_); refine bx_ (N := 3) (cs := #[.bool a1_0, .slice A1_1 l1_1.length c1_1, .slice A1_2 l1_2.length c1_2]) (t := 24) ?_; intro gb859 hg w74 hbox hb; have BK859 := Aside0.mk (hbox); have GW859 := geh hg HB; have GE859 := geh hg HB; replace HB := bst HB hb; have NB858_859 := nlt hg BK858; have NB859_858 := ngt hg BK858; replace BK858 := bkb BK858 hb; clear hb hbox hg) | ((with_reducible refine gate_dst (N := 4) rfl ?_); refine bx_ (N := 4) (cs := #[.bool false, .slice none 0 0, .slice none 0 0]) (t := 24) ?_; intro gb860 hg w75 hbox hb; have BK860 := Aside0.mk (hbox); have GW860 := geh hg HB; have GE860 := geh hg HB; replace HB := bst HB hb; have NB858_860 := nlt hg BK858; have NB860_858 := ngt hg BK858; replace BK858 := bkb BK858 hb; have NB859_860 := nlt hg BK859; have NB860_859 := ngt hg BK859; replace BK859 := bkb BK859 hb; clear hb hbox hg; have hnb76 := NB858_859.out; have hnc76 := NB859_858.out; have hnb77 := NB858_860.out; have hnc77 := NB860_858.out; obtain ⟨hcz78_0, hcz78_1, hcz78_2, hfz78_0, hfz78_1, hfz78_2⟩ := bc3 BK858; have hnb79 := NB859_860.out; have hnc79 := NB860_859.out; obtain ⟨hcz80_0, hcz80_1, hcz80_2, hfz80_0, hfz80_1, hfz80_2⟩ := bc3 BK859) | ((with_reducible refine gate_callee (f := 106) rfl ?_); refine gL_ (some 12) Try.func106 #[.slice A0_1 l0_1.length c0_1, .slice A1_2 l1_2.length c1_2] ?_; (with_reducible refine (spec_l01Mul.calls k _ _ l0_1 _ _ l1_2 t861 _ ?side1 ?side2 ?side3 ?side4 A3.out).mono ?_); (case side1 => exact crC (Kd.C_below HR0_1.out HB.out)); (case side2 => exact HC0_1.out); (case side3 => exact crC (Kd.C_below HR1_2.out HB.out)); (case side4 => exact HC1_2.out); rintro e w81 ⟨v862, rfl, ho0, hb⟩; refine ⟨_, rfl, ?_⟩; have HO863 := lwR ho0 HB; replace BK858 := bkb BK858 hb; replace BK859 := bkb BK859 hb; replace BK860 := bkb BK860 hb; replace HB := bst HB hb; (try clear hb); (try clear hb2); (try clear hk); (try clear hi); (try clear ho0); obtain ⟨hcz82_0, hcz82_1, hcz82_2, hfz82_0, hfz82_1, hfz82_2⟩ := bc3 BK859; obtain ⟨hcz83_0, hcz83_1, hcz83_2, hfz83_0, hfz83_1, hfz83_2⟩ := bc3 BK858) | ((with_reducible refine gate_callee (f := 106) rfl ?_); refine gL_ (some 17) Try.func106 #[.slice A1_1 l1_1.length c1_1, .slice A0_2 l0_2.length c0_2] ?_; (with_reducible refine (spec_l01Mul.calls k _ _ l1_1 _ _ l0_2 t864 _ ?side1 ?side2 ?side3 ?side4 A4.out).mono ?_); (case side1 => exact crC (Kd.C_below HR1_1.out HB.out)); (case side2 => exact HC1_1.out); (case side3 => exact crC (Kd.C_below HR0_2.out HB.out)); (case side4 => exact HC0_2.out); rintro e w84 ⟨v865, rfl, ho0, hb⟩; refine ⟨_, rfl, ?_⟩; have HO866 := lwR (nwR ho0 HO863) HB; replace HO863 := eldR HO863 (Kd.R_base ho0) hb; replace BK858 := bkb BK858 hb; replace BK859 := bkb BK859 hb; replace BK860 := bkb BK860 hb; replace HB := bst HB hb; (try clear hb); (try clear hb2); (try clear hk); (try clear hi); (try clear ho0); obtain ⟨hcz85_0, hcz85_1, hcz85_2, hfz85_0, hfz85_1, hfz85_2⟩ := bc3 BK858; obtain ⟨hcz86_0, hcz86_1, hcz86_2, hfz86_0, hfz86_1, hfz86_2⟩ := bc3 BK859) | ((with_reducible refine gate_callee (f := 106) rfl ?_); refine gL_ (some 22) Try.func106 #[.slice A0_2 l0_2.length c0_2, .slice A1_2 l1_2.length c1_2] ?_; (with_reducible refine (spec_l01Mul.calls k _ _ l0_2 _ _ l1_2 t867 _ ?side1 ?side2 ?side3 ?side4 A5.out).mono ?_); (case side1 => exact crC (Kd.C_below HR0_2.out HB.out)); (case side2 => exact HC0_2.out); (case side3 => exact crC (Kd.C_below HR1_2.out HB.out)); (case side4 => exact HC1_2.out); rintro e w87 ⟨v868, rfl, ho0, hb⟩; refine ⟨_, rfl, ?_⟩; have HO869 := lwR (nwR (nwR ho0 HO863) HO866) HB; replace HO863 := eldR HO863 (Kd.R_base ho0) hb; replace HO866 := eldR HO866 (Kd.R_base ho0) hb; replace BK858 := bkb BK858 hb; replace BK859 := bkb BK859 hb; replace BK860 := bkb BK860 hb; replace HB := bst HB hb; (try clear hb); (try clear hb2); (try clear hk); (try clear hi); (try clear ho0); obtain ⟨hcz88_0, hcz88_1, hcz88_2, hfz88_0, hfz88_1, hfz88_2⟩ := bc3 BK858; obtain ⟨hcz89_0, hcz89_1, hcz89_2, hfz89_0, hfz89_1, hfz89_2⟩ := bc3 BK859; obtain ⟨Ao90, co90, eo90⟩ := Kd.R_slice HO863.out; subst eo90; obtain ⟨Ao91, co91, eo91⟩ := Kd.R_slice HO866.out; subst eo91) | ((with_reducible refine gate_callee (f := 55) rfl ?_); refine gL_ (some 37) Try.func55 #[.slice Ao90 t861.length co90, .slice Ao91 t864.length co91] ?_; (with_reducible refine (spec_l01Cmp.calls k _ _ t861 _ _ t864 t880 _ ?side1 ?side2 ?side3 ?side4 A38.out).mono ?_); (case side1 => exact crC (Kd.R_reads' HO863.out).2.2); (case side2 => exact (Kd.R_reads' HO863.out).2.1); (case side3 => exact crC (Kd.R_reads' HO866.out).2.2); (case side4 => exact (Kd.R_reads' HO866.out).2.1); rintro e w' ⟨rfl, ⟨nd, rfl⟩⟩; refine ⟨_, rfl, ?_⟩; (try (rw [drewN_self w87]; generalize hq_ : World.drewN w87 _ = w87; replace HO863 : Aside0 (Kd.R (Kd.int .i64) 3 w87 w.heap.size (fun k_ => nO k_ (.slice Ao91 t864.length co91) ∧ nO k_ v868) (.slice Ao90 t861.length co90) t861) := ⟨by rw [← hq_]; exact (crM HO863 fun _ hk => ⟨hk.1.2, hk.2⟩)⟩; replace HO866 : Aside0 (Kd.R (Kd.int .i64) 3 w87 w.heap.size (fun k_ => nO k_ (.slice Ao90 t861.length co90) ∧ nO k_ v868) (.slice Ao91 t864.length co91) t864) := ⟨by rw [← hq_]; exact (crM HO866 fun _ hk => ⟨hk.1.2, hk.2⟩)⟩; replace HO869 : Aside0 (Kd.R (Kd.int .i64) 3 w87 w.heap.size (fun k_ => nO k_ (.slice Ao90 t861.length co90) ∧ nO k_ (.slice Ao91 t864.length co91)) v868 t867) := ⟨by rw [← hq_]; exact (crM HO869 fun _ hk => ⟨hk.1.2, hk.2⟩)⟩; replace BK858 : Aside0 (w87.heap[gb858]? = some (.cells #[.bool a0_0, .slice A0_1 l0_1.length c0_1, .slice A0_2 l0_2.length c0_2] 24 (0, 0))) := ⟨by rw [← hq_]; exact (crb BK858)⟩; replace BK859 : Aside0 (w87.heap[gb859]? = some (.cells #[.bool a1_0, .slice A1_1 l1_1.length c1_1, .slice A1_2 l1_2.length c1_2] 24 (0, 0))) := ⟨by rw [← hq_]; exact (crb BK859)⟩; replace BK860 : Aside0 (w87.heap[gb860]? = some (.cells #[.bool false, .slice none 0 0, .slice none 0 0] 24 (0, 0))) := ⟨by rw [← hq_]; exact (crb BK860)⟩; replace HB : Aside0 (Below w.heap.size w w87) := ⟨by rw [← hq_]; exact (blw HB)⟩; clear hq_))))
   replace HO863 := Aside0.mk (Kd.R_drew HO863.out)
   replace HO866 := Aside0.mk (Kd.R_drew HO866.out)
   replace HO869 := Aside0.mk (Kd.R_drew HO869.out)
   replace BK858 := Aside0.mk (blk_drew BK858.out)
   replace BK859 := Aside0.mk (blk_drew BK859.out)
   replace BK860 := Aside0.mk (blk_drew BK860.out)
   replace HB := Aside0.mk (below_drew1 HB.out)
   refine start_ (n := 8) (S := fun w' => w'.cell? ⟨gb859, 0, none⟩ = some (.bool a1_0) ∧ w'.cell? ⟨gb859, 1, none⟩ = some (.slice A1_1 l1_1.length c1_1) ∧ w'.cell? ⟨gb859, 2, none⟩ = some (.slice A1_2 l1_2.length c1_2)) (ds := []) (bm 8 0) (by kernel_rfl) rfl rfl ⟨bce BK859 0 _, bce BK859 1 _, bce BK859 2 _⟩ (fun hHeld => ?_); refine with_tabW spec_l02Add.tab8 spec_l02Add.bits8 (fun HT_ HW_ => ?_)
   generalize w87.drew = w92 at HO863 HO866 HO869 BK858 BK859 BK860 HB hHeld ⊢
   refine pu_ 0 (some 46) (bm 8 1) HT_.out ?_
   refine pu_ 2 (some 48) (bm 8 5) HT_.out ?_
   refine pu_ 3 (some 49) (bm 8 13) HT_.out ?_
   refine pu_ 5 (some 51) (bm 8 45) HT_.out ?_
   refine tk_ 1 (some 47) (bm 8 47) HT_.out HW_.out hHeld ?_
   refine one_ (i := 4) (N := some 50) (bm 8 63) rfl rfl (one_of HT_.out (by kernel_rfl)) (by decide) (fun K hK => ?_)
   refine g_ Try.func111 #[.slice Ao91 t864.length co91, .slice Ao90 t861.length co90] ?_
   with_reducible refine (spec_l01Sub.calls k _ _ t864 _ _ t861 t891 _ ?side1 ?side2 ?side3 ?side4 A71.out).mono ?_
   (case side1 => exact crC (Kd.R_reads' HO866.out).2.2)
   (case side2 => exact (Kd.R_reads' HO866.out).2.1)
   (case side3 => exact crC (Kd.R_reads' HO863.out).2.2)
   (case side4 => exact (Kd.R_reads' HO863.out).2.1)
   rintro e w93 ⟨v892, rfl, ho0, hb⟩
   refine ⟨_, rfl, ?_⟩
   have HO893 := lwR (nwR (nwR (nwR ho0 HO863) HO866) HO869) HB
   replace HO863 := eldR HO863 (Kd.R_base ho0) hb
   replace HO866 := eldR HO866 (Kd.R_base ho0) hb
   replace HO869 := eldR HO869 (Kd.R_base ho0) hb
   replace BK858 := bkb BK858 hb
   replace BK859 := bkb BK859 hb
   replace BK860 := bkb BK860 hb
   replace HB := bst HB hb
   (try clear hb)
   (try clear hb2)
   (try clear hk)
   (try clear hi)
   (try clear ho0)
   obtain ⟨Ao94, co94, eo94⟩ := Kd.R_slice HO893.out
   (first | subst eo94 | (injection eo94 with f1_ f2_ f3_; have f4_ := f1_.symm; have f5_ := f3_.symm; clear f1_ f2_ f3_; subst f4_; subst f5_))
   obtain ⟨Ao95, co95, eo95⟩ := Kd.R_slice HO869.out
   (first | subst eo95 | (injection eo95 with f1_ f2_ f3_; have f4_ := f1_.symm; have f5_ := f3_.symm; clear f1_ f2_ f3_; subst f4_; subst f5_))
   refine hK.out _ _ ⟨bce BK859 0 _, bce BK859 1 _, bce BK859 2 _⟩ (fun hHeld => ?_)
   clear hK K
   refine nm_ 50 ?_
   refine one_ (i := 6) (N := some 52) (bm 8 127) rfl rfl (one_of HT_.out (by kernel_rfl)) (by decide) (fun K hK => ?_)
   refine g_ Try.func47 #[.bool a1_0, .slice Ao94 t891.length co94, .slice Ao95 t867.length co95] ?_
   with_reducible refine (spec_l02Make.calls k a1_0 _ _ t891 _ _ t867 t894 t895 t898 _ ?side1 ?side2 ?side3 ?side4 A72.out).mono ?_
   (case side1 => exact crC (Kd.R_reads' HO893.out).2.2)
   (case side2 => exact (Kd.R_reads' HO893.out).2.1)
   (case side3 => exact crC (Kd.R_reads' HO869.out).2.2)
   (case side4 => exact (Kd.R_reads' HO869.out).2.1)
   rintro e w96 ⟨v896, v899, rfl, ho0, ho1, hb⟩
   refine ⟨_, rfl, ?_⟩
   have HO897 := lwR (nwR (nwR (nwR (nwR ho0 HO863) HO866) HO869) HO893) HB
   have HO900 := lwR (nwR (nwR (nwR (nwR ho1 HO863) HO866) HO869) HO893) HB
   replace HO863 := tldR HO863 hb (Kd.R_base ho0) (Kd.R_base ho1)
   replace HO866 := tldR HO866 hb (Kd.R_base ho0) (Kd.R_base ho1)
   replace HO869 := tldR HO869 hb (Kd.R_base ho0) (Kd.R_base ho1)
   replace HO893 := tldR HO893 hb (Kd.R_base ho0) (Kd.R_base ho1)
   replace BK858 := bkb BK858 hb
   replace BK859 := bkb BK859 hb
   replace BK860 := bkb BK860 hb
   replace HB := bst HB hb
   (try clear hb)
   (try clear hb2)
   (try clear hk)
   (try clear hi)
   (try clear ho0)
   (try clear ho1)
   obtain ⟨Ao98, co98, eo98⟩ := Kd.R_slice HO897.out
   (first | subst eo98 | (injection eo98 with f1_ f2_ f3_; have f4_ := f1_.symm; have f5_ := f3_.symm; clear f1_ f2_ f3_; subst f4_; subst f5_))
   obtain ⟨Ao100, co100, eo100⟩ := Kd.R_slice HO900.out
   (first | subst eo100 | (injection eo100 with f1_ f2_ f3_; have f4_ := f1_.symm; have f5_ := f3_.symm; clear f1_ f2_ f3_; subst f4_; subst f5_))
   refine hK.out _ _ ⟨bce BK859 0 _, bce BK859 1 _, bce BK859 2 _⟩ (fun hHeld => ?_)
   clear hK K
   refine nm_ 52 ?_
   refine one_ (i := 7) (N := none) (bm 8 255) rfl rfl (one_of HT_.out (by kernel_rfl)) (by decide) (fun K hK => ?_)
   have hs97 : w96.cell? ⟨gb860, 0, none⟩ = some (.bool false) := bce BK860 0 _
   have hfs97 := blk_frozen BK860.out 0
   have hns97_0 := NB858_860.out
   have hns97_1 := NB859_860.out
   have hms97_0 := NB860_858.out
   have hms97_1 := NB860_859.out
   have hs99 : w96.cell? ⟨gb860, 1, none⟩ = some (.slice none 0 0) := bce BK860 1 _
   have hfs99 := blk_frozen BK860.out 1
   have hns99_0 := NB858_860.out
   have hns99_1 := NB859_860.out
   have hms99_0 := NB860_858.out
   have hms99_1 := NB860_859.out
   have hs101 : w96.cell? ⟨gb860, 2, none⟩ = some (.slice none 0 0) := bce BK860 2 _
   have hfs101 := blk_frozen BK860.out 2
   have hns101_0 := NB858_860.out
   have hns101_1 := NB859_860.out
   have hms101_0 := NB860_858.out
   have hms101_1 := NB860_859.out
   refine skip_ (w1 := ?_) (by rfl) rfl ?_ ?_
   rotate_left
   ·
    go_simp
    rfl
   refine hK.out _ _ ⟨((cell_far (p := ⟨gb860, _, none⟩) NB859_860.out _).trans (((cell_far (p := ⟨gb860, _, none⟩) NB859_860.out _).trans (((cell_far (p := ⟨gb860, _, none⟩) NB859_860.out _).trans (hHeld.1)))))), ((cell_far (p := ⟨gb860, _, none⟩) NB859_860.out _).trans (((cell_far (p := ⟨gb860, _, none⟩) NB859_860.out _).trans (((cell_far (p := ⟨gb860, _, none⟩) NB859_860.out _).trans (hHeld.2.1)))))), ((cell_far (p := ⟨gb860, _, none⟩) NB859_860.out _).trans (((cell_far (p := ⟨gb860, _, none⟩) NB859_860.out _).trans (((cell_far (p := ⟨gb860, _, none⟩) NB859_860.out _).trans (hHeld.2.2))))))⟩ (fun hHeld => ?_)
   clear hK K
   refine done_ (done_of HT_.out (by kernel_rfl)) ?_
   try go_wp2
   refine bodyPost_ret (results_cell_row rfl _ _ gb860 24 #[.bool t894, .slice Ao98 t895.length co98, .slice Ao100 t898.length co100] (0, 0) _ rfl (bp3 BK860 _ _ _) Try.underlying24 rfl (by kernel_rfl)) rfl ?_
   exact ⟨_, _, er_, (crN HO897 BK860 fun _ hk => hk.1.1.1.1.1), (crN HO900 BK860 fun _ hk => hk.1.1.1.1.1), blw HB⟩

end Go.Proofs.Ytacdaijalkkogaa.Q
