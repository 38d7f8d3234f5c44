-- written by a program of this claim's session (myprint.py) out of the translation; Lean checks it.
import Derived.Test.YtegbmillbbcmfaaQx0
import Derived.Test.YtegbmillbbcmfaaSq
import Derived.Test.YtegbmillbbcmfaaQxcmp
import Derived.Test.YtegbmillbbcmfaaQxrim
import Derived.Test.YtegbmillbbcmfaaQxmul
namespace Go.Proofs.Ytegbmillbbcmfaa.Q
open Go.RowKit Go.Proofs.YtegbmillbbcmfaaW.PrintWords Go.Proofs.YtegbmillbbcmfaaW.PrintLast Go.Proofs.YtegbmillbbcmfaaW.PrintMore
attribute [local go_sem] max2_int min2_int max_two min_two max_three min_three max_four min_four   -- for this text's walks alone
set_option linter.unusedVariables false
set_option linter.unusedSimpArgs false

def impl_Rat_cmp.f (k : Nat) (a0_0 : Bool) (l0_1 : List Int) (l0_2 : List Int) (a1_0 : Bool) (l1_1 : List Int) (l1_2 : List Int) : Option (Int) := (impl_Rat_sign.f a0_0 l0_1 l0_2).bind fun tA7 => ((impl_Rat_sign.f a1_0 l1_1 l1_2).bind fun tA6 => (if tA7 = tA6 then ((impl_natMul.f k l0_1 l1_2).bind fun tA5 => ((impl_natMul.f k l1_1 l0_2).bind fun tA3 => ((impl_natCmp.f tA5 tA3).bind fun tA2 => (if a0_0 = true then (some (wrap64 (-tA2))) else (some tA2))))) else ((impl_Rat_sign.f a0_0 l0_1 l0_2).bind fun tA9 => ((impl_Rat_sign.f a1_0 l1_1 l1_2).bind fun tA8 => (some (wrap64 (tA9 - tA8)))))))
theorem impl_Rat_cmp.mono : ∀ a0 a1 a2 a3 a4 a5 k, LeO (impl_Rat_cmp.f k a0 a1 a2 a3 a4 a5) (impl_Rat_cmp.f (k + 1) a0 a1 a2 a3 a4 a5) := by
 intro a0 a1 a2 a3 a4 a5 k
 unfold impl_Rat_cmp.f
 repeat' first
   | (with_reducible exact impl_natMul.mono _ _ _)
   | (with_reducible exact LeO.refl _)
   | (with_reducible exact LeO.none _)
   | (with_reducible refine LeO.ite ?_ ?_)
   | (with_reducible refine LeO.bind ?_ (fun _ => ?_))
   | exact impl_natMul.mono _ _ _
   | exact LeO.none _
   | refine LeO.ite ?_ ?_
   | refine LeO.bind ?_ (fun _ => ?_)
def impl_Rat_cmp.T3 : Bool × List (List Nat × List Nat) := (true, [([], []), ([0], [0]), ([], []), ([2], [2]), ([1, 3], [1, 3]), ([], []), ([5], [5]), ([], []), ([7], [7]), ([6, 8, 4], [6, 8]), ([4, 9, 9], [4, 9]), ([10, 10, 0, 1, 2, 3, 4, 5, 6, 7, 8, 9, 10], [10])])
def impl_Rat_cmp.B3 : List Nat := [0, 1, 0, 4, 15, 0, 32, 0, 128, 511, 1023, 2047]
theorem impl_Rat_cmp.tab3 : rtab .any (opsOf Try.f50 3) = impl_Rat_cmp.T3 := by kernel_rfl
theorem impl_Rat_cmp.bits3 : waitsOk impl_Rat_cmp.T3.2 impl_Rat_cmp.B3 = true := by kernel_rfl
set_option maxHeartbeats 8000000 in
set_option maxRecDepth 100000 in
theorem impl_Rat_cmp.calls (k : Nat) (a0_0 : Bool) (A0_1 : Option Addr) (c0_1 : Nat) (l0_1 : List Int) (A0_2 : Option Addr) (c0_2 : Nat) (l0_2 : List Int) (a1_0 : Bool) (A1_1 : Option Addr) (c1_1 : Nat) (l1_1 : List Int) (A1_2 : Option Addr) (c1_2 : Nat) (l1_2 : List Int) (r : Int) (w : World) (hr0_1 : Kd.C (Kd.int .i64) w A0_1 l0_1.length l0_1) (hc0_1 : l0_1.length ≤ c0_1) (hr0_2 : Kd.C (Kd.int .i64) w A0_2 l0_2.length l0_2) (hc0_2 : l0_2.length ≤ c0_2) (hr1_1 : Kd.C (Kd.int .i64) w A1_1 l1_1.length l1_1) (hc1_1 : l1_1.length ≤ c1_1) (hr1_2 : Kd.C (Kd.int .i64) w A1_2 l1_2.length l1_2) (hc1_2 : l1_2.length ≤ c1_2) (h : impl_Rat_cmp.f k a0_0 l0_1 l0_2 a1_0 l1_1 l1_2 = some r) :
  Calls Try.prog 50 #[.agg #[.bool a0_0, .slice A0_1 l0_1.length c0_1, .slice A0_2 l0_2.length c0_2], .agg #[.bool a1_0, .slice A1_1 l1_1.length c1_1, .slice A1_2 l1_2.length c1_2]] w fun e w' => e = .returned (.int .i64 r) ∧ Below w.heap.size w w' := by
 have hu32 := Try.underlying32
 have HR0_1 := Aside0.mk hr0_1
 have HC0_1 := Aside0.mk hc0_1
 clear hr0_1 hc0_1
 have HR0_2 := Aside0.mk hr0_2
 have HC0_2 := Aside0.mk hc0_2
 clear hr0_2 hc0_2
 have HR1_1 := Aside0.mk hr1_1
 have HC1_1 := Aside0.mk hc1_1
 clear hr1_1 hc1_1
 have HR1_2 := Aside0.mk hr1_2
 have HC1_2 := Aside0.mk hc1_2
 clear hr1_2 hc1_2
 have HB := Aside0.mk (Below.refl w.heap.size w)
 have H : ((impl_Rat_sign.f a0_0 l0_1 l0_2).bind fun tA7 => ((impl_Rat_sign.f a1_0 l1_1 l1_2).bind fun tA6 => (if tA7 = tA6 then ((impl_natMul.f k l0_1 l1_2).bind fun tA5 => ((impl_natMul.f k l1_1 l0_2).bind fun tA3 => ((impl_natCmp.f tA5 tA3).bind fun tA2 => (if a0_0 = true then (some (wrap64 (-tA2))) else (some tA2))))) else ((impl_Rat_sign.f a0_0 l0_1 l0_2).bind fun tA9 => ((impl_Rat_sign.f a1_0 l1_1 l1_2).bind fun tA8 => (some (wrap64 (tA9 - tA8)))))))) = some r := h
 clear h
 replace H := Option.bind_eq_some_iff.mp H
 obtain ⟨tA7, A30, H⟩ := H
 replace H : ((impl_Rat_sign.f a1_0 l1_1 l1_2).bind fun tA6 => (if tA7 = tA6 then ((impl_natMul.f k l0_1 l1_2).bind fun tA5 => ((impl_natMul.f k l1_1 l0_2).bind fun tA3 => ((impl_natCmp.f tA5 tA3).bind fun tA2 => (if a0_0 = true then (some (wrap64 (-tA2))) else (some tA2))))) else ((impl_Rat_sign.f a0_0 l0_1 l0_2).bind fun tA9 => ((impl_Rat_sign.f a1_0 l1_1 l1_2).bind fun tA8 => (some (wrap64 (tA9 - tA8))))))) = some r := H
 have A3 := Aside0.mk A30
 clear A30
 replace H := Option.bind_eq_some_iff.mp H
 obtain ⟨tA6, A40, H⟩ := H
 replace H : (if tA7 = tA6 then ((impl_natMul.f k l0_1 l1_2).bind fun tA5 => ((impl_natMul.f k l1_1 l0_2).bind fun tA3 => ((impl_natCmp.f tA5 tA3).bind fun tA2 => (if a0_0 = true then (some (wrap64 (-tA2))) else (some tA2))))) else ((impl_Rat_sign.f a0_0 l0_1 l0_2).bind fun tA9 => ((impl_Rat_sign.f a1_0 l1_1 l1_2).bind fun tA8 => (some (wrap64 (tA9 - tA8)))))) = some r := H
 have A4 := Aside0.mk A40
 clear A40
 by_cases c5 : tA7 = tA6
 ·
  rw [if_pos c5] at H
  have c5b0 : (tA7 == tA6) = true := beq_iff_eq.mpr c5
  have c5b1 : (tA7 != tA6) = false := bne_eq_false_iff_eq.mpr c5
  clear c5
  replace H := Option.bind_eq_some_iff.mp H
  obtain ⟨tA5, A60, H⟩ := H
  replace H : ((impl_natMul.f k l1_1 l0_2).bind fun tA3 => ((impl_natCmp.f tA5 tA3).bind fun tA2 => (if a0_0 = true then (some (wrap64 (-tA2))) else (some tA2)))) = some r := H
  have A6 := Aside0.mk A60
  clear A60
  replace H := Option.bind_eq_some_iff.mp H
  obtain ⟨tA3, A70, H⟩ := H
  replace H : ((impl_natCmp.f tA5 tA3).bind fun tA2 => (if a0_0 = true then (some (wrap64 (-tA2))) else (some tA2))) = some r := H
  have A7 := Aside0.mk A70
  clear A70
  replace H := Option.bind_eq_some_iff.mp H
  obtain ⟨tA2, A80, H⟩ := H
  replace H : (if a0_0 = true then (some (wrap64 (-tA2))) else (some tA2)) = some r := H
  have A8 := Aside0.mk A80
  clear A80
  by_cases c9 : a0_0 = true
  ·
   subst c9
   have H1 : (some (wrap64 (-tA2))) = some r := by rw [if_pos rfl] at H; exact H
   clear H
   have H := H1
   clear H1
   obtain rfl := Option.some.inj H
   go_enter Try.func50, Try.ntmps50
   try go_wp2_with (first | ((with_reducible refine gate_dst (N := 2) rfl ?_); refine bx_ (N := 2) (cs := #[.bool true, .slice A0_1 l0_1.length c0_1, .slice A0_2 l0_2.length c0_2]) (t := 32) ?_; intro gbA0 hg w10 hbox hb; have BKA0 := Aside0.mk (hbox); have GWA0 := geh hg HB; have GEA0 := geh hg HB; replace HB := bst HB hb; clear hb hbox hg) | ((with_reducible refine gate_dst (N := 3) rfl ?_); refine bx_ (N := 3) (cs := #[.bool a1_0, .slice A1_1 l1_1.length c1_1, .slice A1_2 l1_2.length c1_2]) (t := 32) ?_; intro gbA1 hg w11 hbox hb; have BKA1 := Aside0.mk (hbox); have GWA1 := geh hg HB; have GEA1 := geh hg HB; replace HB := bst HB hb; have NBA0_A1 := nlt hg BKA0; have NBA1_A0 := ngt hg BKA0; replace BKA0 := bkb BKA0 hb; clear hb hbox hg))
   replace BKA0 := Aside0.mk (blk_drew BKA0.out)
   replace BKA1 := Aside0.mk (blk_drew BKA1.out)
   replace HB := Aside0.mk (below_drew1 HB.out)
   refine start_ (n := 5) (S := fun w' => w'.cell? ⟨gbA0, 0, none⟩ = some (.bool true) ∧ w'.cell? ⟨gbA0, 1, none⟩ = some (.slice A0_1 l0_1.length c0_1) ∧ w'.cell? ⟨gbA0, 2, none⟩ = some (.slice A0_2 l0_2.length c0_2) ∧ w'.cell? ⟨gbA1, 0, none⟩ = some (.bool a1_0) ∧ w'.cell? ⟨gbA1, 1, none⟩ = some (.slice A1_1 l1_1.length c1_1) ∧ w'.cell? ⟨gbA1, 2, none⟩ = some (.slice A1_2 l1_2.length c1_2)) (ds := []) #[false, false, false, false, false] (by kernel_rfl) rfl rfl ⟨bce BKA0 0 _, bce BKA0 1 _, bce BKA0 2 _, bce BKA1 0 _, bce BKA1 1 _, bce BKA1 2 _⟩ (fun hHeld => ?_)
   generalize w11.drew = w12 at BKA0 BKA1 HB hHeld ⊢
   refine take_ (i := 0) (N := some 6) (v := ?_) (a' := ?_) #[true, false, false, false, false] rfl rfl (by kernel_rfl) (fun _ _ _ h => h) (Or.inl ⟨by rfl, ?_⟩) hHeld ?_ ?_
   rotate_left
   ·
    rintro w' ⟨s0, s1, s2, s3, s4, s5⟩
    go_simp
    with_reducible rfl
   rotate_left
   ·
    simp only [Act.put, List.setIfInBounds_toArray, List.set_cons_zero, List.set_cons_succ, i64_w, i32_w]
    rfl
   refine take_ (i := 2) (N := some 8) (v := ?_) (a' := ?_) #[true, false, true, false, false] rfl rfl (by kernel_rfl) (fun _ _ _ h => h) (Or.inl ⟨by rfl, ?_⟩) hHeld ?_ ?_
   rotate_left
   ·
    rintro w' ⟨s0, s1, s2, s3, s4, s5⟩
    go_simp
    with_reducible rfl
   rotate_left
   ·
    simp only [Act.put, List.setIfInBounds_toArray, List.set_cons_zero, List.set_cons_succ, i64_w, i32_w]
    rfl
   refine one_ (i := 1) (N := some 7) #[true, true, true, false, false] rfl rfl (by kernel_rfl) (by decide) (fun K hK => ?_)
   refine g_ Try.func71 #[.agg #[.bool true, .slice A0_1 l0_1.length c0_1, .slice A0_2 l0_2.length c0_2]] ?_
   with_reducible refine (impl_Rat_sign.calls true _ _ l0_1 _ _ l0_2 tA7 _ ?side1 ?side2 ?side3 ?side4 A3.out).mono ?_
   (case side1 => exact crC (Kd.C_below HR0_1.out HB.out))
   (case side2 => exact HC0_1.out)
   (case side3 => exact crC (Kd.C_below HR0_2.out HB.out))
   (case side4 => exact HC0_2.out)
   rintro e w13 ⟨rfl, hb⟩
   refine ⟨_, rfl, ?_⟩
   replace BKA0 := bkb BKA0 hb
   replace BKA1 := bkb BKA1 hb
   replace HB := bst HB hb
   (try clear hb)
   (try clear hb2)
   (try clear hk)
   (try clear hi)
   refine hK.out _ _ ⟨bce BKA0 0 _, bce BKA0 1 _, bce BKA0 2 _, bce BKA1 0 _, bce BKA1 1 _, bce BKA1 2 _⟩ (fun hHeld => ?_)
   clear hK K
   refine nm_ 7 ?_
   refine one_ (i := 3) (N := some 9) #[true, true, true, true, false] rfl rfl (by kernel_rfl) (by decide) (fun K hK => ?_)
   refine g_ Try.func71 #[.agg #[.bool a1_0, .slice A1_1 l1_1.length c1_1, .slice A1_2 l1_2.length c1_2]] ?_
   with_reducible refine (impl_Rat_sign.calls a1_0 _ _ l1_1 _ _ l1_2 tA6 _ ?side1 ?side2 ?side3 ?side4 A4.out).mono ?_
   (case side1 => exact crC (Kd.C_below HR1_1.out HB.out))
   (case side2 => exact HC1_1.out)
   (case side3 => exact crC (Kd.C_below HR1_2.out HB.out))
   (case side4 => exact HC1_2.out)
   rintro e w14 ⟨rfl, hb⟩
   refine ⟨_, rfl, ?_⟩
   replace BKA0 := bkb BKA0 hb
   replace BKA1 := bkb BKA1 hb
   replace HB := bst HB hb
   (try clear hb)
   (try clear hb2)
   (try clear hk)
   (try clear hi)
   refine hK.out _ _ ⟨bce BKA0 0 _, bce BKA0 1 _, bce BKA0 2 _, bce BKA1 0 _, bce BKA1 1 _, bce BKA1 2 _⟩ (fun hHeld => ?_)
   clear hK K
   refine nm_ 9 ?_
   refine pure_ (i := 4) (N := some 10) (v := ?_) (a' := ?_) #[true, true, true, true, true] rfl rfl (by kernel_rfl) (fun _ _ _ h => h) (Or.inl ⟨by rfl, ?_⟩) ?_ ?_
   rotate_left
   ·
    intro w'
    go_simp
    with_reducible rfl
   rotate_left
   ·
    simp only [Act.put, List.setIfInBounds_toArray, List.set_cons_zero, List.set_cons_succ, i64_w, i32_w]
    rfl
   refine done_ (by kernel_rfl) ?_
   try go_wp2
   replace BKA0 := Aside0.mk (blk_drew BKA0.out)
   replace BKA1 := Aside0.mk (blk_drew BKA1.out)
   replace HB := Aside0.mk (below_drew1 HB.out)
   refine start_ (n := 12) (S := fun w' => w'.cell? ⟨gbA0, 0, none⟩ = some (.bool true) ∧ w'.cell? ⟨gbA0, 1, none⟩ = some (.slice A0_1 l0_1.length c0_1) ∧ w'.cell? ⟨gbA0, 2, none⟩ = some (.slice A0_2 l0_2.length c0_2) ∧ w'.cell? ⟨gbA1, 0, none⟩ = some (.bool a1_0) ∧ w'.cell? ⟨gbA1, 1, none⟩ = some (.slice A1_1 l1_1.length c1_1) ∧ w'.cell? ⟨gbA1, 2, none⟩ = some (.slice A1_2 l1_2.length c1_2)) (ds := []) (bm 12 0) (by kernel_rfl) rfl rfl ⟨bce BKA0 0 _, bce BKA0 1 _, bce BKA0 2 _, bce BKA1 0 _, bce BKA1 1 _, bce BKA1 2 _⟩ (fun hHeld => ?_); refine with_tabW impl_Rat_cmp.tab3 impl_Rat_cmp.bits3 (fun HT_ HW_ => ?_)
   generalize w14.drew = w15 at BKA0 BKA1 HB hHeld ⊢
   refine pu_ 0 (some 16) (bm 12 1) HT_.out ?_
   refine pu_ 2 (some 18) (bm 12 5) HT_.out ?_
   refine pu_ 5 (some 21) (bm 12 37) HT_.out ?_
   refine pu_ 7 (some 23) (bm 12 165) HT_.out ?_
   refine tk_ 1 (some 17) (bm 12 167) HT_.out HW_.out hHeld ?_
   refine tk_ 3 (some 19) (bm 12 175) HT_.out HW_.out hHeld ?_
   refine tk_ 6 (some 22) (bm 12 239) HT_.out HW_.out hHeld ?_
   refine tk_ 8 (some 24) (bm 12 495) HT_.out HW_.out hHeld ?_
   refine one_ (i := 4) (N := some 20) (bm 12 511) rfl rfl (one_of HT_.out (by kernel_rfl)) (by decide) (fun K hK => ?_)
   refine g_ Try.func72 #[.slice A0_1 l0_1.length c0_1, .slice A1_2 l1_2.length c1_2] ?_
   with_reducible refine (impl_natMul.calls k _ _ l0_1 _ _ l1_2 tA5 _ ?side1 ?side2 ?side3 ?side4 A6.out).mono ?_
   (case side1 => exact crC (Kd.C_below HR0_1.out HB.out))
   (case side2 => exact HC0_1.out)
   (case side3 => exact crC (Kd.C_below HR1_2.out HB.out))
   (case side4 => exact HC1_2.out)
   rintro e w16 ⟨vB3, rfl, ho0, hb⟩
   refine ⟨_, rfl, ?_⟩
   have HOA4 := lwR ho0 HB
   replace BKA0 := bkb BKA0 hb
   replace BKA1 := bkb BKA1 hb
   replace HB := bst HB hb
   (try clear hb)
   (try clear hb2)
   (try clear hk)
   (try clear hi)
   (try clear ho0)
   refine hK.out _ _ ⟨bce BKA0 0 _, bce BKA0 1 _, bce BKA0 2 _, bce BKA1 0 _, bce BKA1 1 _, bce BKA1 2 _⟩ (fun hHeld => ?_)
   clear hK K
   refine nm_ 20 ?_
   refine one_ (i := 9) (N := some 25) (bm 12 1023) rfl rfl (one_of HT_.out (by kernel_rfl)) (by decide) (fun K hK => ?_)
   refine g_ Try.func72 #[.slice A1_1 l1_1.length c1_1, .slice A0_2 l0_2.length c0_2] ?_
   with_reducible refine (impl_natMul.calls k _ _ l1_1 _ _ l0_2 tA3 _ ?side1 ?side2 ?side3 ?side4 A7.out).mono ?_
   (case side1 => exact crC (Kd.C_below HR1_1.out HB.out))
   (case side2 => exact HC1_1.out)
   (case side3 => exact crC (Kd.C_below HR0_2.out HB.out))
   (case side4 => exact HC0_2.out)
   rintro e w17 ⟨vB4, rfl, ho0, hb⟩
   refine ⟨_, rfl, ?_⟩
   have HOB0 := lwR (nwR ho0 HOA4) HB
   replace HOA4 := eldR HOA4 (Kd.R_base ho0) hb
   replace BKA0 := bkb BKA0 hb
   replace BKA1 := bkb BKA1 hb
   replace HB := bst HB hb
   (try clear hb)
   (try clear hb2)
   (try clear hk)
   (try clear hi)
   (try clear ho0)
   obtain ⟨Ao18, co18, eo18⟩ := Kd.R_slice HOA4.out
   (first | subst eo18 | (injection eo18 with f1_ f2_ f3_; have f4_ := f1_.symm; have f5_ := f3_.symm; clear f1_ f2_ f3_; subst f4_; subst f5_))
   obtain ⟨Ao19, co19, eo19⟩ := Kd.R_slice HOB0.out
   (first | subst eo19 | (injection eo19 with f1_ f2_ f3_; have f4_ := f1_.symm; have f5_ := f3_.symm; clear f1_ f2_ f3_; subst f4_; subst f5_))
   refine hK.out _ _ ⟨bce BKA0 0 _, bce BKA0 1 _, bce BKA0 2 _, bce BKA1 0 _, bce BKA1 1 _, bce BKA1 2 _⟩ (fun hHeld => ?_)
   clear hK K
   refine nm_ 25 ?_
   refine one_ (i := 10) (N := some 26) (bm 12 2047) rfl rfl (one_of HT_.out (by kernel_rfl)) (by decide) (fun K hK => ?_)
   refine g_ Try.func66 #[.slice Ao18 tA5.length co18, .slice Ao19 tA3.length co19] ?_
   with_reducible refine (impl_natCmp.calls _ _ tA5 _ _ tA3 tA2 _ ?side1 ?side2 ?side3 ?side4 A8.out).mono ?_
   (case side1 => exact crC (Kd.R_reads' HOA4.out).2.2)
   (case side2 => exact (Kd.R_reads' HOA4.out).2.1)
   (case side3 => exact crC (Kd.R_reads' HOB0.out).2.2)
   (case side4 => exact (Kd.R_reads' HOB0.out).2.1)
   rintro e w20 ⟨rfl, hb⟩
   refine ⟨_, rfl, ?_⟩
   replace HOA4 := rblR HOA4 hb
   replace HOB0 := rblR HOB0 hb
   replace BKA0 := bkb BKA0 hb
   replace BKA1 := bkb BKA1 hb
   replace HB := bst HB hb
   (try clear hb)
   (try clear hb2)
   (try clear hk)
   (try clear hi)
   refine hK.out _ _ ⟨bce BKA0 0 _, bce BKA0 1 _, bce BKA0 2 _, bce BKA1 0 _, bce BKA1 1 _, bce BKA1 2 _⟩ (fun hHeld => ?_)
   clear hK K
   refine nm_ 26 ?_
   refine pu_ 11 (some 5) (bm 12 4095) HT_.out ?_
   refine done_ (done_of HT_.out (by kernel_rfl)) ?_
   have hnb21 := NBA0_A1.out
   have hnc21 := NBA1_A0.out
   obtain ⟨hcz22_0, hcz22_1, hcz22_2, hfz22_0, hfz22_1, hfz22_2⟩ := bc3 BKA0
   try go_wp2
   go_ret
   exact ⟨er_, blw HB⟩
  ·
   replace c9 := Bool.eq_false_iff.mpr c9
   subst c9
   have H1 : (some tA2) = some r := by rw [if_neg (show ¬ (false = true) by decide)] at H; exact H
   clear H
   have H := H1
   clear H1
   obtain rfl := Option.some.inj H
   go_enter Try.func50, Try.ntmps50
   try go_wp2_with (first | ((with_reducible refine gate_dst (N := 2) rfl ?_); refine bx_ (N := 2) (cs := #[.bool false, .slice A0_1 l0_1.length c0_1, .slice A0_2 l0_2.length c0_2]) (t := 32) ?_; intro gbA0 hg w23 hbox hb; have BKA0 := Aside0.mk (hbox); have GWA0 := geh hg HB; have GEA0 := geh hg HB; replace HB := bst HB hb; clear hb hbox hg) | ((with_reducible refine gate_dst (N := 3) rfl ?_); refine bx_ (N := 3) (cs := #[.bool a1_0, .slice A1_1 l1_1.length c1_1, .slice A1_2 l1_2.length c1_2]) (t := 32) ?_; intro gbA1 hg w24 hbox hb; have BKA1 := Aside0.mk (hbox); have GWA1 := geh hg HB; have GEA1 := geh hg HB; replace HB := bst HB hb; have NBA0_A1 := nlt hg BKA0; have NBA1_A0 := ngt hg BKA0; replace BKA0 := bkb BKA0 hb; clear hb hbox hg))
   replace BKA0 := Aside0.mk (blk_drew BKA0.out)
   replace BKA1 := Aside0.mk (blk_drew BKA1.out)
   replace HB := Aside0.mk (below_drew1 HB.out)
   refine start_ (n := 5) (S := fun w' => w'.cell? ⟨gbA0, 0, none⟩ = some (.bool false) ∧ w'.cell? ⟨gbA0, 1, none⟩ = some (.slice A0_1 l0_1.length c0_1) ∧ w'.cell? ⟨gbA0, 2, none⟩ = some (.slice A0_2 l0_2.length c0_2) ∧ w'.cell? ⟨gbA1, 0, none⟩ = some (.bool a1_0) ∧ w'.cell? ⟨gbA1, 1, none⟩ = some (.slice A1_1 l1_1.length c1_1) ∧ w'.cell? ⟨gbA1, 2, none⟩ = some (.slice A1_2 l1_2.length c1_2)) (ds := []) #[false, false, false, false, false] (by kernel_rfl) rfl rfl ⟨bce BKA0 0 _, bce BKA0 1 _, bce BKA0 2 _, bce BKA1 0 _, bce BKA1 1 _, bce BKA1 2 _⟩ (fun hHeld => ?_)
   generalize w24.drew = w25 at BKA0 BKA1 HB hHeld ⊢
   refine take_ (i := 0) (N := some 6) (v := ?_) (a' := ?_) #[true, false, false, false, false] rfl rfl (by kernel_rfl) (fun _ _ _ h => h) (Or.inl ⟨by rfl, ?_⟩) hHeld ?_ ?_
   rotate_left
   ·
    rintro w' ⟨s0, s1, s2, s3, s4, s5⟩
    go_simp
    with_reducible rfl
   rotate_left
   ·
    simp only [Act.put, List.setIfInBounds_toArray, List.set_cons_zero, List.set_cons_succ, i64_w, i32_w]
    rfl
   refine take_ (i := 2) (N := some 8) (v := ?_) (a' := ?_) #[true, false, true, false, false] rfl rfl (by kernel_rfl) (fun _ _ _ h => h) (Or.inl ⟨by rfl, ?_⟩) hHeld ?_ ?_
   rotate_left
   ·
    rintro w' ⟨s0, s1, s2, s3, s4, s5⟩
    go_simp
    with_reducible rfl
   rotate_left
   ·
    simp only [Act.put, List.setIfInBounds_toArray, List.set_cons_zero, List.set_cons_succ, i64_w, i32_w]
    rfl
   refine one_ (i := 1) (N := some 7) #[true, true, true, false, false] rfl rfl (by kernel_rfl) (by decide) (fun K hK => ?_)
   refine g_ Try.func71 #[.agg #[.bool false, .slice A0_1 l0_1.length c0_1, .slice A0_2 l0_2.length c0_2]] ?_
   with_reducible refine (impl_Rat_sign.calls false _ _ l0_1 _ _ l0_2 tA7 _ ?side1 ?side2 ?side3 ?side4 A3.out).mono ?_
   (case side1 => exact crC (Kd.C_below HR0_1.out HB.out))
   (case side2 => exact HC0_1.out)
   (case side3 => exact crC (Kd.C_below HR0_2.out HB.out))
   (case side4 => exact HC0_2.out)
   rintro e w26 ⟨rfl, hb⟩
   refine ⟨_, rfl, ?_⟩
   replace BKA0 := bkb BKA0 hb
   replace BKA1 := bkb BKA1 hb
   replace HB := bst HB hb
   (try clear hb)
   (try clear hb2)
   (try clear hk)
   (try clear hi)
   refine hK.out _ _ ⟨bce BKA0 0 _, bce BKA0 1 _, bce BKA0 2 _, bce BKA1 0 _, bce BKA1 1 _, bce BKA1 2 _⟩ (fun hHeld => ?_)
   clear hK K
   refine nm_ 7 ?_
   refine one_ (i := 3) (N := some 9) #[true, true, true, true, false] rfl rfl (by kernel_rfl) (by decide) (fun K hK => ?_)
   refine g_ Try.func71 #[.agg #[.bool a1_0, .slice A1_1 l1_1.length c1_1, .slice A1_2 l1_2.length c1_2]] ?_
   with_reducible refine (impl_Rat_sign.calls a1_0 _ _ l1_1 _ _ l1_2 tA6 _ ?side1 ?side2 ?side3 ?side4 A4.out).mono ?_
   (case side1 => exact crC (Kd.C_below HR1_1.out HB.out))
   (case side2 => exact HC1_1.out)
   (case side3 => exact crC (Kd.C_below HR1_2.out HB.out))
   (case side4 => exact HC1_2.out)
   rintro e w27 ⟨rfl, hb⟩
   refine ⟨_, rfl, ?_⟩
   replace BKA0 := bkb BKA0 hb
   replace BKA1 := bkb BKA1 hb
   replace HB := bst HB hb
   (try clear hb)
   (try clear hb2)
   (try clear hk)
   (try clear hi)
   refine hK.out _ _ ⟨bce BKA0 0 _, bce BKA0 1 _, bce BKA0 2 _, bce BKA1 0 _, bce BKA1 1 _, bce BKA1 2 _⟩ (fun hHeld => ?_)
   clear hK K
   refine nm_ 9 ?_
   refine pure_ (i := 4) (N := some 10) (v := ?_) (a' := ?_) #[true, true, true, true, true] rfl rfl (by kernel_rfl) (fun _ _ _ h => h) (Or.inl ⟨by rfl, ?_⟩) ?_ ?_
   rotate_left
   ·
    intro w'
    go_simp
    with_reducible rfl
   rotate_left
   ·
    simp only [Act.put, List.setIfInBounds_toArray, List.set_cons_zero, List.set_cons_succ, i64_w, i32_w]
    rfl
   refine done_ (by kernel_rfl) ?_
   try go_wp2
   replace BKA0 := Aside0.mk (blk_drew BKA0.out)
   replace BKA1 := Aside0.mk (blk_drew BKA1.out)
   replace HB := Aside0.mk (below_drew1 HB.out)
   refine start_ (n := 12) (S := fun w' => w'.cell? ⟨gbA0, 0, none⟩ = some (.bool false) ∧ w'.cell? ⟨gbA0, 1, none⟩ = some (.slice A0_1 l0_1.length c0_1) ∧ w'.cell? ⟨gbA0, 2, none⟩ = some (.slice A0_2 l0_2.length c0_2) ∧ w'.cell? ⟨gbA1, 0, none⟩ = some (.bool a1_0) ∧ w'.cell? ⟨gbA1, 1, none⟩ = some (.slice A1_1 l1_1.length c1_1) ∧ w'.cell? ⟨gbA1, 2, none⟩ = some (.slice A1_2 l1_2.length c1_2)) (ds := []) (bm 12 0) (by kernel_rfl) rfl rfl ⟨bce BKA0 0 _, bce BKA0 1 _, bce BKA0 2 _, bce BKA1 0 _, bce BKA1 1 _, bce BKA1 2 _⟩ (fun hHeld => ?_); refine with_tabW impl_Rat_cmp.tab3 impl_Rat_cmp.bits3 (fun HT_ HW_ => ?_)
   generalize w27.drew = w28 at BKA0 BKA1 HB hHeld ⊢
   refine pu_ 0 (some 16) (bm 12 1) HT_.out ?_
   refine pu_ 2 (some 18) (bm 12 5) HT_.out ?_
   refine pu_ 5 (some 21) (bm 12 37) HT_.out ?_
   refine pu_ 7 (some 23) (bm 12 165) HT_.out ?_
   refine tk_ 1 (some 17) (bm 12 167) HT_.out HW_.out hHeld ?_
   refine tk_ 3 (some 19) (bm 12 175) HT_.out HW_.out hHeld ?_
   refine tk_ 6 (some 22) (bm 12 239) HT_.out HW_.out hHeld ?_
   refine tk_ 8 (some 24) (bm 12 495) HT_.out HW_.out hHeld ?_
   refine one_ (i := 4) (N := some 20) (bm 12 511) rfl rfl (one_of HT_.out (by kernel_rfl)) (by decide) (fun K hK => ?_)
   refine g_ Try.func72 #[.slice A0_1 l0_1.length c0_1, .slice A1_2 l1_2.length c1_2] ?_
   with_reducible refine (impl_natMul.calls k _ _ l0_1 _ _ l1_2 tA5 _ ?side1 ?side2 ?side3 ?side4 A6.out).mono ?_
   (case side1 => exact crC (Kd.C_below HR0_1.out HB.out))
   (case side2 => exact HC0_1.out)
   (case side3 => exact crC (Kd.C_below HR1_2.out HB.out))
   (case side4 => exact HC1_2.out)
   rintro e w29 ⟨vB3, rfl, ho0, hb⟩
   refine ⟨_, rfl, ?_⟩
   have HOA4 := lwR ho0 HB
   replace BKA0 := bkb BKA0 hb
   replace BKA1 := bkb BKA1 hb
   replace HB := bst HB hb
   (try clear hb)
   (try clear hb2)
   (try clear hk)
   (try clear hi)
   (try clear ho0)
   refine hK.out _ _ ⟨bce BKA0 0 _, bce BKA0 1 _, bce BKA0 2 _, bce BKA1 0 _, bce BKA1 1 _, bce BKA1 2 _⟩ (fun hHeld => ?_)
   clear hK K
   refine nm_ 20 ?_
   refine one_ (i := 9) (N := some 25) (bm 12 1023) rfl rfl (one_of HT_.out (by kernel_rfl)) (by decide) (fun K hK => ?_)
   refine g_ Try.func72 #[.slice A1_1 l1_1.length c1_1, .slice A0_2 l0_2.length c0_2] ?_
   with_reducible refine (impl_natMul.calls k _ _ l1_1 _ _ l0_2 tA3 _ ?side1 ?side2 ?side3 ?side4 A7.out).mono ?_
   (case side1 => exact crC (Kd.C_below HR1_1.out HB.out))
   (case side2 => exact HC1_1.out)
   (case side3 => exact crC (Kd.C_below HR0_2.out HB.out))
   (case side4 => exact HC0_2.out)
   rintro e w30 ⟨vB4, rfl, ho0, hb⟩
   refine ⟨_, rfl, ?_⟩
   have HOB0 := lwR (nwR ho0 HOA4) HB
   replace HOA4 := eldR HOA4 (Kd.R_base ho0) hb
   replace BKA0 := bkb BKA0 hb
   replace BKA1 := bkb BKA1 hb
   replace HB := bst HB hb
   (try clear hb)
   (try clear hb2)
   (try clear hk)
   (try clear hi)
   (try clear ho0)
   obtain ⟨Ao31, co31, eo31⟩ := Kd.R_slice HOA4.out
   (first | subst eo31 | (injection eo31 with f1_ f2_ f3_; have f4_ := f1_.symm; have f5_ := f3_.symm; clear f1_ f2_ f3_; subst f4_; subst f5_))
   obtain ⟨Ao32, co32, eo32⟩ := Kd.R_slice HOB0.out
   (first | subst eo32 | (injection eo32 with f1_ f2_ f3_; have f4_ := f1_.symm; have f5_ := f3_.symm; clear f1_ f2_ f3_; subst f4_; subst f5_))
   refine hK.out _ _ ⟨bce BKA0 0 _, bce BKA0 1 _, bce BKA0 2 _, bce BKA1 0 _, bce BKA1 1 _, bce BKA1 2 _⟩ (fun hHeld => ?_)
   clear hK K
   refine nm_ 25 ?_
   refine one_ (i := 10) (N := some 26) (bm 12 2047) rfl rfl (one_of HT_.out (by kernel_rfl)) (by decide) (fun K hK => ?_)
   refine g_ Try.func66 #[.slice Ao31 tA5.length co31, .slice Ao32 tA3.length co32] ?_
   with_reducible refine (impl_natCmp.calls _ _ tA5 _ _ tA3 tA2 _ ?side1 ?side2 ?side3 ?side4 A8.out).mono ?_
   (case side1 => exact crC (Kd.R_reads' HOA4.out).2.2)
   (case side2 => exact (Kd.R_reads' HOA4.out).2.1)
   (case side3 => exact crC (Kd.R_reads' HOB0.out).2.2)
   (case side4 => exact (Kd.R_reads' HOB0.out).2.1)
   rintro e w33 ⟨rfl, hb⟩
   refine ⟨_, rfl, ?_⟩
   replace HOA4 := rblR HOA4 hb
   replace HOB0 := rblR HOB0 hb
   replace BKA0 := bkb BKA0 hb
   replace BKA1 := bkb BKA1 hb
   replace HB := bst HB hb
   (try clear hb)
   (try clear hb2)
   (try clear hk)
   (try clear hi)
   refine hK.out _ _ ⟨bce BKA0 0 _, bce BKA0 1 _, bce BKA0 2 _, bce BKA1 0 _, bce BKA1 1 _, bce BKA1 2 _⟩ (fun hHeld => ?_)
   clear hK K
   refine nm_ 26 ?_
   refine pu_ 11 (some 5) (bm 12 4095) HT_.out ?_
   refine done_ (done_of HT_.out (by kernel_rfl)) ?_
   have hnb34 := NBA0_A1.out
   have hnc34 := NBA1_A0.out
   obtain ⟨hcz35_0, hcz35_1, hcz35_2, hfz35_0, hfz35_1, hfz35_2⟩ := bc3 BKA0
   try go_wp2
   go_ret
   exact ⟨er_, blw HB⟩
 ·
  rw [if_neg c5] at H
  have c5b0 : (tA7 == tA6) = false := beq_eq_false_iff_ne.mpr c5
  have c5b1 : (tA7 != tA6) = true := bne_iff_ne.mpr c5
  replace H := Option.bind_eq_some_iff.mp H
  obtain ⟨tA9, AB1, H⟩ := H
  replace H : ((impl_Rat_sign.f a1_0 l1_1 l1_2).bind fun tA8 => (some (wrap64 (tA9 - tA8)))) = some r := H
  have A36 := Aside0.mk AB1
  clear AB1
  replace H := Option.bind_eq_some_iff.mp H
  obtain ⟨tA8, AB2, H⟩ := H
  replace H : (some (wrap64 (tA9 - tA8))) = some r := H
  have A37 := Aside0.mk AB2
  clear AB2
  obtain rfl := Option.some.inj H
  go_enter Try.func50, Try.ntmps50
  try go_wp2_with (first | ((with_reducible refine gate_dst (N := 2) rfl ?_); refine bx_ (N := 2) (cs := #[.bool a0_0, .slice A0_1 l0_1.length c0_1, .slice A0_2 l0_2.length c0_2]) (t := 32) ?_; intro gbA0 hg w38 hbox hb; have BKA0 := Aside0.mk (hbox); have GWA0 := geh hg HB; have GEA0 := geh hg HB; replace HB := bst HB hb; clear hb hbox hg) | ((with_reducible refine gate_dst (N := 3) rfl ?_); refine bx_ (N := 3) (cs := #[.bool a1_0, .slice A1_1 l1_1.length c1_1, .slice A1_2 l1_2.length c1_2]) (t := 32) ?_; intro gbA1 hg w39 hbox hb; have BKA1 := Aside0.mk (hbox); have GWA1 := geh hg HB; have GEA1 := geh hg HB; replace HB := bst HB hb; have NBA0_A1 := nlt hg BKA0; have NBA1_A0 := ngt hg BKA0; replace BKA0 := bkb BKA0 hb; clear hb hbox hg))
  replace BKA0 := Aside0.mk (blk_drew BKA0.out)
  replace BKA1 := Aside0.mk (blk_drew BKA1.out)
  replace HB := Aside0.mk (below_drew1 HB.out)
  refine start_ (n := 5) (S := fun w' => w'.cell? ⟨gbA0, 0, none⟩ = some (.bool a0_0) ∧ w'.cell? ⟨gbA0, 1, none⟩ = some (.slice A0_1 l0_1.length c0_1) ∧ w'.cell? ⟨gbA0, 2, none⟩ = some (.slice A0_2 l0_2.length c0_2) ∧ w'.cell? ⟨gbA1, 0, none⟩ = some (.bool a1_0) ∧ w'.cell? ⟨gbA1, 1, none⟩ = some (.slice A1_1 l1_1.length c1_1) ∧ w'.cell? ⟨gbA1, 2, none⟩ = some (.slice A1_2 l1_2.length c1_2)) (ds := []) #[false, false, false, false, false] (by kernel_rfl) rfl rfl ⟨bce BKA0 0 _, bce BKA0 1 _, bce BKA0 2 _, bce BKA1 0 _, bce BKA1 1 _, bce BKA1 2 _⟩ (fun hHeld => ?_)
  generalize w39.drew = w40 at BKA0 BKA1 HB hHeld ⊢
  refine take_ (i := 0) (N := some 6) (v := ?_) (a' := ?_) #[true, false, false, false, false] rfl rfl (by kernel_rfl) (fun _ _ _ h => h) (Or.inl ⟨by rfl, ?_⟩) hHeld ?_ ?_
  rotate_left
  ·
   rintro w' ⟨s0, s1, s2, s3, s4, s5⟩
   go_simp
   with_reducible rfl
  rotate_left
  ·
   simp only [Act.put, List.setIfInBounds_toArray, List.set_cons_zero, List.set_cons_succ, i64_w, i32_w]
   rfl
  refine take_ (i := 2) (N := some 8) (v := ?_) (a' := ?_) #[true, false, true, false, false] rfl rfl (by kernel_rfl) (fun _ _ _ h => h) (Or.inl ⟨by rfl, ?_⟩) hHeld ?_ ?_
  rotate_left
  ·
   rintro w' ⟨s0, s1, s2, s3, s4, s5⟩
   go_simp
   with_reducible rfl
  rotate_left
  ·
   simp only [Act.put, List.setIfInBounds_toArray, List.set_cons_zero, List.set_cons_succ, i64_w, i32_w]
   rfl
  refine one_ (i := 1) (N := some 7) #[true, true, true, false, false] rfl rfl (by kernel_rfl) (by decide) (fun K hK => ?_)
  refine g_ Try.func71 #[.agg #[.bool a0_0, .slice A0_1 l0_1.length c0_1, .slice A0_2 l0_2.length c0_2]] ?_
  with_reducible refine (impl_Rat_sign.calls a0_0 _ _ l0_1 _ _ l0_2 tA7 _ ?side1 ?side2 ?side3 ?side4 A3.out).mono ?_
  (case side1 => exact crC (Kd.C_below HR0_1.out HB.out))
  (case side2 => exact HC0_1.out)
  (case side3 => exact crC (Kd.C_below HR0_2.out HB.out))
  (case side4 => exact HC0_2.out)
  rintro e w41 ⟨rfl, hb⟩
  refine ⟨_, rfl, ?_⟩
  replace BKA0 := bkb BKA0 hb
  replace BKA1 := bkb BKA1 hb
  replace HB := bst HB hb
  (try clear hb)
  (try clear hb2)
  (try clear hk)
  (try clear hi)
  refine hK.out _ _ ⟨bce BKA0 0 _, bce BKA0 1 _, bce BKA0 2 _, bce BKA1 0 _, bce BKA1 1 _, bce BKA1 2 _⟩ (fun hHeld => ?_)
  clear hK K
  refine nm_ 7 ?_
  refine one_ (i := 3) (N := some 9) #[true, true, true, true, false] rfl rfl (by kernel_rfl) (by decide) (fun K hK => ?_)
  refine g_ Try.func71 #[.agg #[.bool a1_0, .slice A1_1 l1_1.length c1_1, .slice A1_2 l1_2.length c1_2]] ?_
  with_reducible refine (impl_Rat_sign.calls a1_0 _ _ l1_1 _ _ l1_2 tA6 _ ?side1 ?side2 ?side3 ?side4 A4.out).mono ?_
  (case side1 => exact crC (Kd.C_below HR1_1.out HB.out))
  (case side2 => exact HC1_1.out)
  (case side3 => exact crC (Kd.C_below HR1_2.out HB.out))
  (case side4 => exact HC1_2.out)
  rintro e w42 ⟨rfl, hb⟩
  refine ⟨_, rfl, ?_⟩
  replace BKA0 := bkb BKA0 hb
  replace BKA1 := bkb BKA1 hb
  replace HB := bst HB hb
  (try clear hb)
  (try clear hb2)
  (try clear hk)
  (try clear hi)
  refine hK.out _ _ ⟨bce BKA0 0 _, bce BKA0 1 _, bce BKA0 2 _, bce BKA1 0 _, bce BKA1 1 _, bce BKA1 2 _⟩ (fun hHeld => ?_)
  clear hK K
  refine nm_ 9 ?_
  refine pure_ (i := 4) (N := some 10) (v := ?_) (a' := ?_) #[true, true, true, true, true] rfl rfl (by kernel_rfl) (fun _ _ _ h => h) (Or.inl ⟨by rfl, ?_⟩) ?_ ?_
  rotate_left
  ·
   intro w'
   go_simp
   with_reducible rfl
  rotate_left
  ·
   simp only [Act.put, List.setIfInBounds_toArray, List.set_cons_zero, List.set_cons_succ, i64_w, i32_w]
   rfl
  refine done_ (by kernel_rfl) ?_
  try go_wp2
  replace BKA0 := Aside0.mk (blk_drew BKA0.out)
  replace BKA1 := Aside0.mk (blk_drew BKA1.out)
  replace HB := Aside0.mk (below_drew1 HB.out)
  refine start_ (n := 6) (S := fun w' => w'.cell? ⟨gbA0, 0, none⟩ = some (.bool a0_0) ∧ w'.cell? ⟨gbA0, 1, none⟩ = some (.slice A0_1 l0_1.length c0_1) ∧ w'.cell? ⟨gbA0, 2, none⟩ = some (.slice A0_2 l0_2.length c0_2) ∧ w'.cell? ⟨gbA1, 0, none⟩ = some (.bool a1_0) ∧ w'.cell? ⟨gbA1, 1, none⟩ = some (.slice A1_1 l1_1.length c1_1) ∧ w'.cell? ⟨gbA1, 2, none⟩ = some (.slice A1_2 l1_2.length c1_2)) (ds := []) #[false, false, false, false, false, false] (by kernel_rfl) rfl rfl ⟨bce BKA0 0 _, bce BKA0 1 _, bce BKA0 2 _, bce BKA1 0 _, bce BKA1 1 _, bce BKA1 2 _⟩ (fun hHeld => ?_)
  generalize w42.drew = w43 at BKA0 BKA1 HB hHeld ⊢
  refine take_ (i := 0) (N := some 11) (v := ?_) (a' := ?_) #[true, false, false, false, false, false] rfl rfl (by kernel_rfl) (fun _ _ _ h => h) (Or.inl ⟨by rfl, ?_⟩) hHeld ?_ ?_
  rotate_left
  ·
   rintro w' ⟨s0, s1, s2, s3, s4, s5⟩
   go_simp
   with_reducible rfl
  rotate_left
  ·
   simp only [Act.put, List.setIfInBounds_toArray, List.set_cons_zero, List.set_cons_succ, i64_w, i32_w]
   rfl
  refine take_ (i := 2) (N := some 13) (v := ?_) (a' := ?_) #[true, false, true, false, false, false] rfl rfl (by kernel_rfl) (fun _ _ _ h => h) (Or.inl ⟨by rfl, ?_⟩) hHeld ?_ ?_
  rotate_left
  ·
   rintro w' ⟨s0, s1, s2, s3, s4, s5⟩
   go_simp
   with_reducible rfl
  rotate_left
  ·
   simp only [Act.put, List.setIfInBounds_toArray, List.set_cons_zero, List.set_cons_succ, i64_w, i32_w]
   rfl
  refine one_ (i := 1) (N := some 12) #[true, true, true, false, false, false] rfl rfl (by kernel_rfl) (by decide) (fun K hK => ?_)
  refine g_ Try.func71 #[.agg #[.bool a0_0, .slice A0_1 l0_1.length c0_1, .slice A0_2 l0_2.length c0_2]] ?_
  with_reducible refine (impl_Rat_sign.calls a0_0 _ _ l0_1 _ _ l0_2 tA9 _ ?side1 ?side2 ?side3 ?side4 A36.out).mono ?_
  (case side1 => exact crC (Kd.C_below HR0_1.out HB.out))
  (case side2 => exact HC0_1.out)
  (case side3 => exact crC (Kd.C_below HR0_2.out HB.out))
  (case side4 => exact HC0_2.out)
  rintro e w44 ⟨rfl, hb⟩
  refine ⟨_, rfl, ?_⟩
  replace BKA0 := bkb BKA0 hb
  replace BKA1 := bkb BKA1 hb
  replace HB := bst HB hb
  (try clear hb)
  (try clear hb2)
  (try clear hk)
  (try clear hi)
  refine hK.out _ _ ⟨bce BKA0 0 _, bce BKA0 1 _, bce BKA0 2 _, bce BKA1 0 _, bce BKA1 1 _, bce BKA1 2 _⟩ (fun hHeld => ?_)
  clear hK K
  refine nm_ 12 ?_
  refine one_ (i := 3) (N := some 14) #[true, true, true, true, false, false] rfl rfl (by kernel_rfl) (by decide) (fun K hK => ?_)
  refine g_ Try.func71 #[.agg #[.bool a1_0, .slice A1_1 l1_1.length c1_1, .slice A1_2 l1_2.length c1_2]] ?_
  with_reducible refine (impl_Rat_sign.calls a1_0 _ _ l1_1 _ _ l1_2 tA8 _ ?side1 ?side2 ?side3 ?side4 A37.out).mono ?_
  (case side1 => exact crC (Kd.C_below HR1_1.out HB.out))
  (case side2 => exact HC1_1.out)
  (case side3 => exact crC (Kd.C_below HR1_2.out HB.out))
  (case side4 => exact HC1_2.out)
  rintro e w45 ⟨rfl, hb⟩
  refine ⟨_, rfl, ?_⟩
  replace BKA0 := bkb BKA0 hb
  replace BKA1 := bkb BKA1 hb
  replace HB := bst HB hb
  (try clear hb)
  (try clear hb2)
  (try clear hk)
  (try clear hi)
  refine hK.out _ _ ⟨bce BKA0 0 _, bce BKA0 1 _, bce BKA0 2 _, bce BKA1 0 _, bce BKA1 1 _, bce BKA1 2 _⟩ (fun hHeld => ?_)
  clear hK K
  refine nm_ 14 ?_
  refine pure_ (i := 4) (N := some 15) (v := ?_) (a' := ?_) #[true, true, true, true, true, false] rfl rfl (by kernel_rfl) (fun _ _ _ h => h) (Or.inl ⟨by rfl, ?_⟩) ?_ ?_
  rotate_left
  ·
   intro w'
   go_simp
   with_reducible rfl
  rotate_left
  ·
   simp only [Act.put, List.setIfInBounds_toArray, List.set_cons_zero, List.set_cons_succ, i64_w, i32_w]
   rfl
  refine pure_ (i := 5) (N := some 4) (v := ?_) (a' := ?_) #[true, true, true, true, true, true] rfl rfl (by kernel_rfl) (fun _ _ _ h => h) (Or.inl ⟨by rfl, ?_⟩) ?_ ?_
  rotate_left
  ·
   intro w'
   go_simp
   with_reducible rfl
  rotate_left
  ·
   simp only [Act.put, List.setIfInBounds_toArray, List.set_cons_zero, List.set_cons_succ, i64_w, i32_w]
   rfl
  refine done_ (by kernel_rfl) ?_
  try go_wp2
  go_ret
  exact ⟨er_, blw HB⟩

end Go.Proofs.Ytegbmillbbcmfaa.Q
