-- written by a program of this claim's session (myprint.py) out of the translation; Lean checks it.
import Derived.Test.YtacdaijalkkogaaQa
import Derived.Test.YtacdaijalkkogaaWords
import Derived.Test.YtacdaijalkkogaaQb
import Derived.Test.YtacdaijalkkogaaQc
namespace Go.Proofs.Ytacdaijalkkogaa.Q
open Go.RowKit Go.Proofs.YtacdaijalkkogaaW.PrintWords Go.Proofs.YtacdaijalkkogaaW.PrintLast Go.Proofs.YtacdaijalkkogaaW.PrintMore
attribute [local go_sem] max2_int min2_int max_two min_two max_three min_three max_four min_four   -- for this text's walks alone
set_option linter.unusedVariables false
set_option linter.unusedSimpArgs false

def impl_Rat_cmp.f (k : Nat) (a0_0 : Bool) (l0_1 : List Int) (l0_2 : List Int) (a1_0 : Bool) (l1_1 : List Int) (l1_2 : List Int) : Option (Int) := (impl_Rat_sign.f a0_0 l0_1 l0_2).bind fun tC9 => ((impl_Rat_sign.f a1_0 l1_1 l1_2).bind fun tC5 => (if tC9 = tC5 then ((impl_natMul.f k l0_1 l1_2).bind fun tC4 => ((impl_natMul.f k l1_1 l0_2).bind fun tC2 => ((impl_natCmp.f tC4 tC2).bind fun tC1 => (if a0_0 = true then (some (wrap64 (-tC1))) else (some tC1))))) else ((impl_Rat_sign.f a0_0 l0_1 l0_2).bind fun tD2 => ((impl_Rat_sign.f a1_0 l1_1 l1_2).bind fun tD1 => (some (wrap64 (tD2 - tD1)))))))
def impl_Rat_cmp.T3 : Bool × List (List Nat × List Nat) := (true, [([], []), ([0], [0]), ([], []), ([2], [2]), ([1, 3], [1, 3]), ([], []), ([5], [5]), ([], []), ([7], [7]), ([6, 8, 4], [6, 8]), ([4, 9, 9], [4, 9]), ([10, 10, 0, 1, 2, 3, 4, 5, 6, 7, 8, 9, 10], [10])])
def impl_Rat_cmp.B3 : List Nat := [0, 1, 0, 4, 15, 0, 32, 0, 128, 511, 1023, 2047]
theorem impl_Rat_cmp.tab3 : rtab .any (opsOf Try.f69 3) = impl_Rat_cmp.T3 := by kernel_rfl
theorem impl_Rat_cmp.bits3 : waitsOk impl_Rat_cmp.T3.2 impl_Rat_cmp.B3 = true := by kernel_rfl
set_option maxHeartbeats 8000000 in
set_option maxRecDepth 100000 in
theorem impl_Rat_cmp.calls (k : Nat) (a0_0 : Bool) (A0_1 : Option Addr) (c0_1 : Nat) (l0_1 : List Int) (A0_2 : Option Addr) (c0_2 : Nat) (l0_2 : List Int) (a1_0 : Bool) (A1_1 : Option Addr) (c1_1 : Nat) (l1_1 : List Int) (A1_2 : Option Addr) (c1_2 : Nat) (l1_2 : List Int) (r : Int) (w : World) (hr0_1 : Kd.C (Kd.int .i64) w A0_1 l0_1.length l0_1) (hc0_1 : l0_1.length ≤ c0_1) (hr0_2 : Kd.C (Kd.int .i64) w A0_2 l0_2.length l0_2) (hc0_2 : l0_2.length ≤ c0_2) (hr1_1 : Kd.C (Kd.int .i64) w A1_1 l1_1.length l1_1) (hc1_1 : l1_1.length ≤ c1_1) (hr1_2 : Kd.C (Kd.int .i64) w A1_2 l1_2.length l1_2) (hc1_2 : l1_2.length ≤ c1_2) (h : impl_Rat_cmp.f k a0_0 l0_1 l0_2 a1_0 l1_1 l1_2 = some r) :
  Calls Try.prog 69 #[.agg #[.bool a0_0, .slice A0_1 l0_1.length c0_1, .slice A0_2 l0_2.length c0_2], .agg #[.bool a1_0, .slice A1_1 l1_1.length c1_1, .slice A1_2 l1_2.length c1_2]] w fun e w' => e = .returned (.int .i64 r) ∧ Below w.heap.size w w' := by
 have hu24 := Try.underlying24
 have HR0_1 := Aside0.mk hr0_1
 have HC0_1 := Aside0.mk hc0_1
 clear hr0_1 hc0_1
 have HR0_2 := Aside0.mk hr0_2
 have HC0_2 := Aside0.mk hc0_2
 clear hr0_2 hc0_2
 have HR1_1 := Aside0.mk hr1_1
 have HC1_1 := Aside0.mk hc1_1
 clear hr1_1 hc1_1
 have HR1_2 := Aside0.mk hr1_2
 have HC1_2 := Aside0.mk hc1_2
 clear hr1_2 hc1_2
 have HB := Aside0.mk (Below.refl w.heap.size w)
 have H : ((impl_Rat_sign.f a0_0 l0_1 l0_2).bind fun tC9 => ((impl_Rat_sign.f a1_0 l1_1 l1_2).bind fun tC5 => (if tC9 = tC5 then ((impl_natMul.f k l0_1 l1_2).bind fun tC4 => ((impl_natMul.f k l1_1 l0_2).bind fun tC2 => ((impl_natCmp.f tC4 tC2).bind fun tC1 => (if a0_0 = true then (some (wrap64 (-tC1))) else (some tC1))))) else ((impl_Rat_sign.f a0_0 l0_1 l0_2).bind fun tD2 => ((impl_Rat_sign.f a1_0 l1_1 l1_2).bind fun tD1 => (some (wrap64 (tD2 - tD1)))))))) = some r := h
 clear h
 replace H := Option.bind_eq_some_iff.mp H
 obtain ⟨tC9, A30, H⟩ := H
 replace H : ((impl_Rat_sign.f a1_0 l1_1 l1_2).bind fun tC5 => (if tC9 = tC5 then ((impl_natMul.f k l0_1 l1_2).bind fun tC4 => ((impl_natMul.f k l1_1 l0_2).bind fun tC2 => ((impl_natCmp.f tC4 tC2).bind fun tC1 => (if a0_0 = true then (some (wrap64 (-tC1))) else (some tC1))))) else ((impl_Rat_sign.f a0_0 l0_1 l0_2).bind fun tD2 => ((impl_Rat_sign.f a1_0 l1_1 l1_2).bind fun tD1 => (some (wrap64 (tD2 - tD1))))))) = some r := H
 have A3 := Aside0.mk A30
 clear A30
 replace H := Option.bind_eq_some_iff.mp H
 obtain ⟨tC5, A40, H⟩ := H
 replace H : (if tC9 = tC5 then ((impl_natMul.f k l0_1 l1_2).bind fun tC4 => ((impl_natMul.f k l1_1 l0_2).bind fun tC2 => ((impl_natCmp.f tC4 tC2).bind fun tC1 => (if a0_0 = true then (some (wrap64 (-tC1))) else (some tC1))))) else ((impl_Rat_sign.f a0_0 l0_1 l0_2).bind fun tD2 => ((impl_Rat_sign.f a1_0 l1_1 l1_2).bind fun tD1 => (some (wrap64 (tD2 - tD1)))))) = some r := H
 have A4 := Aside0.mk A40
 clear A40
 by_cases c5 : tC9 = tC5
 ·
  rw [if_pos c5] at H
  have c5b0 : (tC9 == tC5) = true := beq_iff_eq.mpr c5
  have c5b1 : (tC9 != tC5) = false := bne_eq_false_iff_eq.mpr c5
  clear c5
  replace H := Option.bind_eq_some_iff.mp H
  obtain ⟨tC4, A60, H⟩ := H
  replace H : ((impl_natMul.f k l1_1 l0_2).bind fun tC2 => ((impl_natCmp.f tC4 tC2).bind fun tC1 => (if a0_0 = true then (some (wrap64 (-tC1))) else (some tC1)))) = some r := H
  have A6 := Aside0.mk A60
  clear A60
  replace H := Option.bind_eq_some_iff.mp H
  obtain ⟨tC2, A70, H⟩ := H
  replace H : ((impl_natCmp.f tC4 tC2).bind fun tC1 => (if a0_0 = true then (some (wrap64 (-tC1))) else (some tC1))) = some r := H
  have A7 := Aside0.mk A70
  clear A70
  replace H := Option.bind_eq_some_iff.mp H
  obtain ⟨tC1, A80, H⟩ := H
  replace H : (if a0_0 = true then (some (wrap64 (-tC1))) else (some tC1)) = some r := H
  have A8 := Aside0.mk A80
  clear A80
  by_cases c9 : a0_0 = true
  ·
   subst c9
   rw [if_pos rfl] at H
   obtain rfl := Option.some.inj H
   go_enter Try.func69, Try.ntmps69
   try go_wp2_with (first | ((with_reducible refine gate_dst (N := 2) rfl ?_); refine bx_ (N := 2) (cs := #[.bool true, .slice A0_1 l0_1.length c0_1, .slice A0_2 l0_2.length c0_2]) (t := 24) ?_; intro gbA3 hg w10 hbox hb; have BKA3 := Aside0.mk (hbox); have GWA3 := geh hg HB; have GEA3 := geh hg HB; replace HB := bst HB hb; clear hb hbox hg) | ((with_reducible refine gate_dst (N := 3) rfl ?_); refine bx_ (N := 3) (cs := #[.bool a1_0, .slice A1_1 l1_1.length c1_1, .slice A1_2 l1_2.length c1_2]) (t := 24) ?_; intro gbA4 hg w11 hbox hb; have BKA4 := Aside0.mk (hbox); have GWA4 := geh hg HB; have GEA4 := geh hg HB; replace HB := bst HB hb; have NBA3_A4 := nlt hg BKA3; have NBA4_A3 := ngt hg BKA3; replace BKA3 := bkb BKA3 hb; clear hb hbox hg))
   replace BKA3 := Aside0.mk (blk_drew BKA3.out)
   replace BKA4 := Aside0.mk (blk_drew BKA4.out)
   replace HB := Aside0.mk (below_drew1 HB.out)
   refine start_ (n := 5) (S := fun w' => w'.cell? ⟨gbA3, 0, none⟩ = some (.bool true) ∧ w'.cell? ⟨gbA3, 1, none⟩ = some (.slice A0_1 l0_1.length c0_1) ∧ w'.cell? ⟨gbA3, 2, none⟩ = some (.slice A0_2 l0_2.length c0_2) ∧ w'.cell? ⟨gbA4, 0, none⟩ = some (.bool a1_0) ∧ w'.cell? ⟨gbA4, 1, none⟩ = some (.slice A1_1 l1_1.length c1_1) ∧ w'.cell? ⟨gbA4, 2, none⟩ = some (.slice A1_2 l1_2.length c1_2)) (ds := []) #[false, false, false, false, false] (by kernel_rfl) rfl rfl ⟨bce BKA3 0 _, bce BKA3 1 _, bce BKA3 2 _, bce BKA4 0 _, bce BKA4 1 _, bce BKA4 2 _⟩ (fun hHeld => ?_)
   generalize w11.drew = w12 at BKA3 BKA4 HB hHeld ⊢
   refine take_ (i := 0) (N := some 6) (v := ?_) (a' := ?_) #[true, false, false, false, false] rfl rfl (by kernel_rfl) (fun _ _ _ h => h) (Or.inl ⟨by rfl, ?_⟩) hHeld ?_ ?_
   rotate_left
   ·
    rintro w' ⟨s0, s1, s2, s3, s4, s5⟩
    go_simp
    with_reducible rfl
   rotate_left
   ·
    simp only [Act.put, List.setIfInBounds_toArray, List.set_cons_zero, List.set_cons_succ, i64_w, i32_w]
    rfl
   refine take_ (i := 2) (N := some 8) (v := ?_) (a' := ?_) #[true, false, true, false, false] rfl rfl (by kernel_rfl) (fun _ _ _ h => h) (Or.inl ⟨by rfl, ?_⟩) hHeld ?_ ?_
   rotate_left
   ·
    rintro w' ⟨s0, s1, s2, s3, s4, s5⟩
    go_simp
    with_reducible rfl
   rotate_left
   ·
    simp only [Act.put, List.setIfInBounds_toArray, List.set_cons_zero, List.set_cons_succ, i64_w, i32_w]
    rfl
   refine one_ (i := 1) (N := some 7) #[true, true, true, false, false] rfl rfl (by kernel_rfl) (by decide) (fun K hK => ?_)
   refine g_ Try.func104 #[.agg #[.bool true, .slice A0_1 l0_1.length c0_1, .slice A0_2 l0_2.length c0_2]] ?_
   with_reducible refine (impl_Rat_sign.calls true _ _ l0_1 _ _ l0_2 tC9 _ ?side1 ?side2 ?side3 ?side4 A3.out).mono ?_
   (case side1 => exact crC (Kd.C_below HR0_1.out HB.out))
   (case side2 => exact HC0_1.out)
   (case side3 => exact crC (Kd.C_below HR0_2.out HB.out))
   (case side4 => exact HC0_2.out)
   rintro e w13 ⟨rfl, hb⟩
   refine ⟨_, rfl, ?_⟩
   replace BKA3 := bkb BKA3 hb
   replace BKA4 := bkb BKA4 hb
   replace HB := bst HB hb
   (try clear hb)
   (try clear hb2)
   (try clear hk)
   (try clear hi)
   refine hK.out _ _ ⟨bce BKA3 0 _, bce BKA3 1 _, bce BKA3 2 _, bce BKA4 0 _, bce BKA4 1 _, bce BKA4 2 _⟩ (fun hHeld => ?_)
   clear hK K
   refine nm_ 7 ?_
   refine one_ (i := 3) (N := some 9) #[true, true, true, true, false] rfl rfl (by kernel_rfl) (by decide) (fun K hK => ?_)
   refine g_ Try.func104 #[.agg #[.bool a1_0, .slice A1_1 l1_1.length c1_1, .slice A1_2 l1_2.length c1_2]] ?_
   with_reducible refine (impl_Rat_sign.calls a1_0 _ _ l1_1 _ _ l1_2 tC5 _ ?side1 ?side2 ?side3 ?side4 A4.out).mono ?_
   (case side1 => exact crC (Kd.C_below HR1_1.out HB.out))
   (case side2 => exact HC1_1.out)
   (case side3 => exact crC (Kd.C_below HR1_2.out HB.out))
   (case side4 => exact HC1_2.out)
   rintro e w14 ⟨rfl, hb⟩
   refine ⟨_, rfl, ?_⟩
   replace BKA3 := bkb BKA3 hb
   replace BKA4 := bkb BKA4 hb
   replace HB := bst HB hb
   (try clear hb)
   (try clear hb2)
   (try clear hk)
   (try clear hi)
   refine hK.out _ _ ⟨bce BKA3 0 _, bce BKA3 1 _, bce BKA3 2 _, bce BKA4 0 _, bce BKA4 1 _, bce BKA4 2 _⟩ (fun hHeld => ?_)
   clear hK K
   refine nm_ 9 ?_
   refine pure_ (i := 4) (N := some 10) (v := ?_) (a' := ?_) #[true, true, true, true, true] rfl rfl (by kernel_rfl) (fun _ _ _ h => h) (Or.inl ⟨by rfl, ?_⟩) ?_ ?_
   rotate_left
   ·
    intro w'
    go_simp
    with_reducible rfl
   rotate_left
   ·
    simp only [Act.put, List.setIfInBounds_toArray, List.set_cons_zero, List.set_cons_succ, i64_w, i32_w]
    rfl
   refine done_ (by kernel_rfl) ?_
   try go_wp2
   replace BKA3 := Aside0.mk (blk_drew BKA3.out)
   replace BKA4 := Aside0.mk (blk_drew BKA4.out)
   replace HB := Aside0.mk (below_drew1 HB.out)
   refine start_ (n := 12) (S := fun w' => w'.cell? ⟨gbA3, 0, none⟩ = some (.bool true) ∧ w'.cell? ⟨gbA3, 1, none⟩ = some (.slice A0_1 l0_1.length c0_1) ∧ w'.cell? ⟨gbA3, 2, none⟩ = some (.slice A0_2 l0_2.length c0_2) ∧ w'.cell? ⟨gbA4, 0, none⟩ = some (.bool a1_0) ∧ w'.cell? ⟨gbA4, 1, none⟩ = some (.slice A1_1 l1_1.length c1_1) ∧ w'.cell? ⟨gbA4, 2, none⟩ = some (.slice A1_2 l1_2.length c1_2)) (ds := []) (bm 12 0) (by kernel_rfl) rfl rfl ⟨bce BKA3 0 _, bce BKA3 1 _, bce BKA3 2 _, bce BKA4 0 _, bce BKA4 1 _, bce BKA4 2 _⟩ (fun hHeld => ?_); refine with_tabW impl_Rat_cmp.tab3 impl_Rat_cmp.bits3 (fun HT_ HW_ => ?_)
   generalize w14.drew = w15 at BKA3 BKA4 HB hHeld ⊢
   refine pu_ 0 (some 16) (bm 12 1) HT_.out ?_
   refine pu_ 2 (some 18) (bm 12 5) HT_.out ?_
   refine pu_ 5 (some 21) (bm 12 37) HT_.out ?_
   refine pu_ 7 (some 23) (bm 12 165) HT_.out ?_
   refine tk_ 1 (some 17) (bm 12 167) HT_.out HW_.out hHeld ?_
   refine tk_ 3 (some 19) (bm 12 175) HT_.out HW_.out hHeld ?_
   refine tk_ 6 (some 22) (bm 12 239) HT_.out HW_.out hHeld ?_
   refine tk_ 8 (some 24) (bm 12 495) HT_.out HW_.out hHeld ?_
   refine one_ (i := 4) (N := some 20) (bm 12 511) rfl rfl (one_of HT_.out (by kernel_rfl)) (by decide) (fun K hK => ?_)
   refine g_ Try.func95 #[.slice A0_1 l0_1.length c0_1, .slice A1_2 l1_2.length c1_2] ?_
   with_reducible refine (impl_natMul.calls k _ _ l0_1 _ _ l1_2 tC4 _ ?side1 ?side2 ?side3 ?side4 A6.out).mono ?_
   (case side1 => exact crC (Kd.C_below HR0_1.out HB.out))
   (case side2 => exact HC0_1.out)
   (case side3 => exact crC (Kd.C_below HR1_2.out HB.out))
   (case side4 => exact HC1_2.out)
   rintro e w16 ⟨vH2, rfl, ho0, hb⟩
   refine ⟨_, rfl, ?_⟩
   have HOC3 := lwR ho0 HB
   replace BKA3 := bkb BKA3 hb
   replace BKA4 := bkb BKA4 hb
   replace HB := bst HB hb
   (try clear hb)
   (try clear hb2)
   (try clear hk)
   (try clear hi)
   (try clear ho0)
   refine hK.out _ _ ⟨bce BKA3 0 _, bce BKA3 1 _, bce BKA3 2 _, bce BKA4 0 _, bce BKA4 1 _, bce BKA4 2 _⟩ (fun hHeld => ?_)
   clear hK K
   refine nm_ 20 ?_
   refine one_ (i := 9) (N := some 25) (bm 12 1023) rfl rfl (one_of HT_.out (by kernel_rfl)) (by decide) (fun K hK => ?_)
   refine g_ Try.func95 #[.slice A1_1 l1_1.length c1_1, .slice A0_2 l0_2.length c0_2] ?_
   with_reducible refine (impl_natMul.calls k _ _ l1_1 _ _ l0_2 tC2 _ ?side1 ?side2 ?side3 ?side4 A7.out).mono ?_
   (case side1 => exact crC (Kd.C_below HR1_1.out HB.out))
   (case side2 => exact HC1_1.out)
   (case side3 => exact crC (Kd.C_below HR0_2.out HB.out))
   (case side4 => exact HC0_2.out)
   rintro e w17 ⟨vH3, rfl, ho0, hb⟩
   refine ⟨_, rfl, ?_⟩
   have HOD3 := lwR (nwR ho0 HOC3) HB
   replace HOC3 := eldR HOC3 (Kd.R_base ho0) hb
   replace BKA3 := bkb BKA3 hb
   replace BKA4 := bkb BKA4 hb
   replace HB := bst HB hb
   (try clear hb)
   (try clear hb2)
   (try clear hk)
   (try clear hi)
   (try clear ho0)
   obtain ⟨Ao18, co18, eo18⟩ := Kd.R_slice HOC3.out
   (first | subst eo18 | (injection eo18 with f1_ f2_ f3_; have f4_ := f1_.symm; have f5_ := f3_.symm; clear f1_ f2_ f3_; subst f4_; subst f5_))
   obtain ⟨Ao19, co19, eo19⟩ := Kd.R_slice HOD3.out
   (first | subst eo19 | (injection eo19 with f1_ f2_ f3_; have f4_ := f1_.symm; have f5_ := f3_.symm; clear f1_ f2_ f3_; subst f4_; subst f5_))
   refine hK.out _ _ ⟨bce BKA3 0 _, bce BKA3 1 _, bce BKA3 2 _, bce BKA4 0 _, bce BKA4 1 _, bce BKA4 2 _⟩ (fun hHeld => ?_)
   clear hK K
   refine nm_ 25 ?_
   refine one_ (i := 10) (N := some 26) (bm 12 2047) rfl rfl (one_of HT_.out (by kernel_rfl)) (by decide) (fun K hK => ?_)
   refine g_ Try.func60 #[.slice Ao18 tC4.length co18, .slice Ao19 tC2.length co19] ?_
   with_reducible refine (impl_natCmp.calls _ _ tC4 _ _ tC2 tC1 _ ?side1 ?side2 ?side3 ?side4 A8.out).mono ?_
   (case side1 => exact crC (Kd.R_reads' HOC3.out).2.2)
   (case side2 => exact (Kd.R_reads' HOC3.out).2.1)
   (case side3 => exact crC (Kd.R_reads' HOD3.out).2.2)
   (case side4 => exact (Kd.R_reads' HOD3.out).2.1)
   rintro e w20 ⟨rfl, hb⟩
   refine ⟨_, rfl, ?_⟩
   replace HOC3 := rblR HOC3 hb
   replace HOD3 := rblR HOD3 hb
   replace BKA3 := bkb BKA3 hb
   replace BKA4 := bkb BKA4 hb
   replace HB := bst HB hb
   (try clear hb)
   (try clear hb2)
   (try clear hk)
   (try clear hi)
   refine hK.out _ _ ⟨bce BKA3 0 _, bce BKA3 1 _, bce BKA3 2 _, bce BKA4 0 _, bce BKA4 1 _, bce BKA4 2 _⟩ (fun hHeld => ?_)
   clear hK K
   refine nm_ 26 ?_
   refine pu_ 11 (some 5) (bm 12 4095) HT_.out ?_
   refine done_ (done_of HT_.out (by kernel_rfl)) ?_
   have hnb21 := NBA3_A4.out
   have hnc21 := NBA4_A3.out
   obtain ⟨hcz22_0, hcz22_1, hcz22_2, hfz22_0, hfz22_1, hfz22_2⟩ := bc3 BKA3
   try go_wp2
   go_ret
   exact ⟨er_, blw HB⟩
  ·
   replace c9 := Bool.eq_false_iff.mpr c9
   subst c9
   rw [if_neg (show ¬ (false = true) by decide)] at H
   obtain rfl := Option.some.inj H
   go_enter Try.func69, Try.ntmps69
   try go_wp2_with (first | ((with_reducible refine gate_dst (N := 2) rfl ?_); refine bx_ (N := 2) (cs := #[.bool false, .slice A0_1 l0_1.length c0_1, .slice A0_2 l0_2.length c0_2]) (t := 24) ?_; intro gbA3 hg w23 hbox hb; have BKA3 := Aside0.mk (hbox); have GWA3 := geh hg HB; have GEA3 := geh hg HB; replace HB := bst HB hb; clear hb hbox hg) | ((with_reducible refine gate_dst (N := 3) rfl ?_); refine bx_ (N := 3) (cs := #[.bool a1_0, .slice A1_1 l1_1.length c1_1, .slice A1_2 l1_2.length c1_2]) (t := 24) ?_; intro gbA4 hg w24 hbox hb; have BKA4 := Aside0.mk (hbox); have GWA4 := geh hg HB; have GEA4 := geh hg HB; replace HB := bst HB hb; have NBA3_A4 := nlt hg BKA3; have NBA4_A3 := ngt hg BKA3; replace BKA3 := bkb BKA3 hb; clear hb hbox hg))
   replace BKA3 := Aside0.mk (blk_drew BKA3.out)
   replace BKA4 := Aside0.mk (blk_drew BKA4.out)
   replace HB := Aside0.mk (below_drew1 HB.out)
   refine start_ (n := 5) (S := fun w' => w'.cell? ⟨gbA3, 0, none⟩ = some (.bool false) ∧ w'.cell? ⟨gbA3, 1, none⟩ = some (.slice A0_1 l0_1.length c0_1) ∧ w'.cell? ⟨gbA3, 2, none⟩ = some (.slice A0_2 l0_2.length c0_2) ∧ w'.cell? ⟨gbA4, 0, none⟩ = some (.bool a1_0) ∧ w'.cell? ⟨gbA4, 1, none⟩ = some (.slice A1_1 l1_1.length c1_1) ∧ w'.cell? ⟨gbA4, 2, none⟩ = some (.slice A1_2 l1_2.length c1_2)) (ds := []) #[false, false, false, false, false] (by kernel_rfl) rfl rfl ⟨bce BKA3 0 _, bce BKA3 1 _, bce BKA3 2 _, bce BKA4 0 _, bce BKA4 1 _, bce BKA4 2 _⟩ (fun hHeld => ?_)
   generalize w24.drew = w25 at BKA3 BKA4 HB hHeld ⊢
   refine take_ (i := 0) (N := some 6) (v := ?_) (a' := ?_) #[true, false, false, false, false] rfl rfl (by kernel_rfl) (fun _ _ _ h => h) (Or.inl ⟨by rfl, ?_⟩) hHeld ?_ ?_
   rotate_left
   ·
    rintro w' ⟨s0, s1, s2, s3, s4, s5⟩
    go_simp
    with_reducible rfl
   rotate_left
   ·
    simp only [Act.put, List.setIfInBounds_toArray, List.set_cons_zero, List.set_cons_succ, i64_w, i32_w]
    rfl
   refine take_ (i := 2) (N := some 8) (v := ?_) (a' := ?_) #[true, false, true, false, false] rfl rfl (by kernel_rfl) (fun _ _ _ h => h) (Or.inl ⟨by rfl, ?_⟩) hHeld ?_ ?_
   rotate_left
   ·
    rintro w' ⟨s0, s1, s2, s3, s4, s5⟩
    go_simp
    with_reducible rfl
   rotate_left
   ·
    simp only [Act.put, List.setIfInBounds_toArray, List.set_cons_zero, List.set_cons_succ, i64_w, i32_w]
    rfl
   refine one_ (i := 1) (N := some 7) #[true, true, true, false, false] rfl rfl (by kernel_rfl) (by decide) (fun K hK => ?_)
   refine g_ Try.func104 #[.agg #[.bool false, .slice A0_1 l0_1.length c0_1, .slice A0_2 l0_2.length c0_2]] ?_
   with_reducible refine (impl_Rat_sign.calls false _ _ l0_1 _ _ l0_2 tC9 _ ?side1 ?side2 ?side3 ?side4 A3.out).mono ?_
   (case side1 => exact crC (Kd.C_below HR0_1.out HB.out))
   (case side2 => exact HC0_1.out)
   (case side3 => exact crC (Kd.C_below HR0_2.out HB.out))
   (case side4 => exact HC0_2.out)
   rintro e w26 ⟨rfl, hb⟩
   refine ⟨_, rfl, ?_⟩
   replace BKA3 := bkb BKA3 hb
   replace BKA4 := bkb BKA4 hb
   replace HB := bst HB hb
   (try clear hb)
   (try clear hb2)
   (try clear hk)
   (try clear hi)
   refine hK.out _ _ ⟨bce BKA3 0 _, bce BKA3 1 _, bce BKA3 2 _, bce BKA4 0 _, bce BKA4 1 _, bce BKA4 2 _⟩ (fun hHeld => ?_)
   clear hK K
   refine nm_ 7 ?_
   refine one_ (i := 3) (N := some 9) #[true, true, true, true, false] rfl rfl (by kernel_rfl) (by decide) (fun K hK => ?_)
   refine g_ Try.func104 #[.agg #[.bool a1_0, .slice A1_1 l1_1.length c1_1, .slice A1_2 l1_2.length c1_2]] ?_
   with_reducible refine (impl_Rat_sign.calls a1_0 _ _ l1_1 _ _ l1_2 tC5 _ ?side1 ?side2 ?side3 ?side4 A4.out).mono ?_
   (case side1 => exact crC (Kd.C_below HR1_1.out HB.out))
   (case side2 => exact HC1_1.out)
   (case side3 => exact crC (Kd.C_below HR1_2.out HB.out))
   (case side4 => exact HC1_2.out)
   rintro e w27 ⟨rfl, hb⟩
   refine ⟨_, rfl, ?_⟩
   replace BKA3 := bkb BKA3 hb
   replace BKA4 := bkb BKA4 hb
   replace HB := bst HB hb
   (try clear hb)
   (try clear hb2)
   (try clear hk)
   (try clear hi)
   refine hK.out _ _ ⟨bce BKA3 0 _, bce BKA3 1 _, bce BKA3 2 _, bce BKA4 0 _, bce BKA4 1 _, bce BKA4 2 _⟩ (fun hHeld => ?_)
   clear hK K
   refine nm_ 9 ?_
   refine pure_ (i := 4) (N := some 10) (v := ?_) (a' := ?_) #[true, true, true, true, true] rfl rfl (by kernel_rfl) (fun _ _ _ h => h) (Or.inl ⟨by rfl, ?_⟩) ?_ ?_
   rotate_left
   ·
    intro w'
    go_simp
    with_reducible rfl
   rotate_left
   ·
    simp only [Act.put, List.setIfInBounds_toArray, List.set_cons_zero, List.set_cons_succ, i64_w, i32_w]
    rfl
   refine done_ (by kernel_rfl) ?_
   try go_wp2
   replace BKA3 := Aside0.mk (blk_drew BKA3.out)
   replace BKA4 := Aside0.mk (blk_drew BKA4.out)
   replace HB := Aside0.mk (below_drew1 HB.out)
   refine start_ (n := 12) (S := fun w' => w'.cell? ⟨gbA3, 0, none⟩ = some (.bool false) ∧ w'.cell? ⟨gbA3, 1, none⟩ = some (.slice A0_1 l0_1.length c0_1) ∧ w'.cell? ⟨gbA3, 2, none⟩ = some (.slice A0_2 l0_2.length c0_2) ∧ w'.cell? ⟨gbA4, 0, none⟩ = some (.bool a1_0) ∧ w'.cell? ⟨gbA4, 1, none⟩ = some (.slice A1_1 l1_1.length c1_1) ∧ w'.cell? ⟨gbA4, 2, none⟩ = some (.slice A1_2 l1_2.length c1_2)) (ds := []) (bm 12 0) (by kernel_rfl) rfl rfl ⟨bce BKA3 0 _, bce BKA3 1 _, bce BKA3 2 _, bce BKA4 0 _, bce BKA4 1 _, bce BKA4 2 _⟩ (fun hHeld => ?_); refine with_tabW impl_Rat_cmp.tab3 impl_Rat_cmp.bits3 (fun HT_ HW_ => ?_)
   generalize w27.drew = w28 at BKA3 BKA4 HB hHeld ⊢
   refine pu_ 0 (some 16) (bm 12 1) HT_.out ?_
   refine pu_ 2 (some 18) (bm 12 5) HT_.out ?_
   refine pu_ 5 (some 21) (bm 12 37) HT_.out ?_
   refine pu_ 7 (some 23) (bm 12 165) HT_.out ?_
   refine tk_ 1 (some 17) (bm 12 167) HT_.out HW_.out hHeld ?_
   refine tk_ 3 (some 19) (bm 12 175) HT_.out HW_.out hHeld ?_
   refine tk_ 6 (some 22) (bm 12 239) HT_.out HW_.out hHeld ?_
   refine tk_ 8 (some 24) (bm 12 495) HT_.out HW_.out hHeld ?_
   refine one_ (i := 4) (N := some 20) (bm 12 511) rfl rfl (one_of HT_.out (by kernel_rfl)) (by decide) (fun K hK => ?_)
   refine g_ Try.func95 #[.slice A0_1 l0_1.length c0_1, .slice A1_2 l1_2.length c1_2] ?_
   with_reducible refine (impl_natMul.calls k _ _ l0_1 _ _ l1_2 tC4 _ ?side1 ?side2 ?side3 ?side4 A6.out).mono ?_
   (case side1 => exact crC (Kd.C_below HR0_1.out HB.out))
   (case side2 => exact HC0_1.out)
   (case side3 => exact crC (Kd.C_below HR1_2.out HB.out))
   (case side4 => exact HC1_2.out)
   rintro e w29 ⟨vH2, rfl, ho0, hb⟩
   refine ⟨_, rfl, ?_⟩
   have HOC3 := lwR ho0 HB
   replace BKA3 := bkb BKA3 hb
   replace BKA4 := bkb BKA4 hb
   replace HB := bst HB hb
   (try clear hb)
   (try clear hb2)
   (try clear hk)
   (try clear hi)
   (try clear ho0)
   refine hK.out _ _ ⟨bce BKA3 0 _, bce BKA3 1 _, bce BKA3 2 _, bce BKA4 0 _, bce BKA4 1 _, bce BKA4 2 _⟩ (fun hHeld => ?_)
   clear hK K
   refine nm_ 20 ?_
   refine one_ (i := 9) (N := some 25) (bm 12 1023) rfl rfl (one_of HT_.out (by kernel_rfl)) (by decide) (fun K hK => ?_)
   refine g_ Try.func95 #[.slice A1_1 l1_1.length c1_1, .slice A0_2 l0_2.length c0_2] ?_
   with_reducible refine (impl_natMul.calls k _ _ l1_1 _ _ l0_2 tC2 _ ?side1 ?side2 ?side3 ?side4 A7.out).mono ?_
   (case side1 => exact crC (Kd.C_below HR1_1.out HB.out))
   (case side2 => exact HC1_1.out)
   (case side3 => exact crC (Kd.C_below HR0_2.out HB.out))
   (case side4 => exact HC0_2.out)
   rintro e w30 ⟨vH3, rfl, ho0, hb⟩
   refine ⟨_, rfl, ?_⟩
   have HOD3 := lwR (nwR ho0 HOC3) HB
   replace HOC3 := eldR HOC3 (Kd.R_base ho0) hb
   replace BKA3 := bkb BKA3 hb
   replace BKA4 := bkb BKA4 hb
   replace HB := bst HB hb
   (try clear hb)
   (try clear hb2)
   (try clear hk)
   (try clear hi)
   (try clear ho0)
   obtain ⟨Ao31, co31, eo31⟩ := Kd.R_slice HOC3.out
   (first | subst eo31 | (injection eo31 with f1_ f2_ f3_; have f4_ := f1_.symm; have f5_ := f3_.symm; clear f1_ f2_ f3_; subst f4_; subst f5_))
   obtain ⟨Ao32, co32, eo32⟩ := Kd.R_slice HOD3.out
   (first | subst eo32 | (injection eo32 with f1_ f2_ f3_; have f4_ := f1_.symm; have f5_ := f3_.symm; clear f1_ f2_ f3_; subst f4_; subst f5_))
   refine hK.out _ _ ⟨bce BKA3 0 _, bce BKA3 1 _, bce BKA3 2 _, bce BKA4 0 _, bce BKA4 1 _, bce BKA4 2 _⟩ (fun hHeld => ?_)
   clear hK K
   refine nm_ 25 ?_
   refine one_ (i := 10) (N := some 26) (bm 12 2047) rfl rfl (one_of HT_.out (by kernel_rfl)) (by decide) (fun K hK => ?_)
   refine g_ Try.func60 #[.slice Ao31 tC4.length co31, .slice Ao32 tC2.length co32] ?_
   with_reducible refine (impl_natCmp.calls _ _ tC4 _ _ tC2 tC1 _ ?side1 ?side2 ?side3 ?side4 A8.out).mono ?_
   (case side1 => exact crC (Kd.R_reads' HOC3.out).2.2)
   (case side2 => exact (Kd.R_reads' HOC3.out).2.1)
   (case side3 => exact crC (Kd.R_reads' HOD3.out).2.2)
   (case side4 => exact (Kd.R_reads' HOD3.out).2.1)
   rintro e w33 ⟨rfl, hb⟩
   refine ⟨_, rfl, ?_⟩
   replace HOC3 := rblR HOC3 hb
   replace HOD3 := rblR HOD3 hb
   replace BKA3 := bkb BKA3 hb
   replace BKA4 := bkb BKA4 hb
   replace HB := bst HB hb
   (try clear hb)
   (try clear hb2)
   (try clear hk)
   (try clear hi)
   refine hK.out _ _ ⟨bce BKA3 0 _, bce BKA3 1 _, bce BKA3 2 _, bce BKA4 0 _, bce BKA4 1 _, bce BKA4 2 _⟩ (fun hHeld => ?_)
   clear hK K
   refine nm_ 26 ?_
   refine pu_ 11 (some 5) (bm 12 4095) HT_.out ?_
   refine done_ (done_of HT_.out (by kernel_rfl)) ?_
   have hnb34 := NBA3_A4.out
   have hnc34 := NBA4_A3.out
   obtain ⟨hcz35_0, hcz35_1, hcz35_2, hfz35_0, hfz35_1, hfz35_2⟩ := bc3 BKA3
   try go_wp2
   go_ret
   exact ⟨er_, blw HB⟩
 ·
  rw [if_neg c5] at H
  have c5b0 : (tC9 == tC5) = false := beq_eq_false_iff_ne.mpr c5
  have c5b1 : (tC9 != tC5) = true := bne_iff_ne.mpr c5
  replace H := Option.bind_eq_some_iff.mp H
  obtain ⟨tD2, AG0, H⟩ := H
  replace H : ((impl_Rat_sign.f a1_0 l1_1 l1_2).bind fun tD1 => (some (wrap64 (tD2 - tD1)))) = some r := H
  have A36 := Aside0.mk AG0
  clear AG0
  replace H := Option.bind_eq_some_iff.mp H
  obtain ⟨tD1, AE3, H⟩ := H
  replace H : (some (wrap64 (tD2 - tD1))) = some r := H
  have A37 := Aside0.mk AE3
  clear AE3
  obtain rfl := Option.some.inj H
  go_enter Try.func69, Try.ntmps69
  try go_wp2_with (first | ((with_reducible refine gate_dst (N := 2) rfl ?_); refine bx_ (N := 2) (cs := #[.bool a0_0, .slice A0_1 l0_1.length c0_1, .slice A0_2 l0_2.length c0_2]) (t := 24) ?_; intro gbA3 hg w38 hbox hb; have BKA3 := Aside0.mk (hbox); have GWA3 := geh hg HB; have GEA3 := geh hg HB; replace HB := bst HB hb; clear hb hbox hg) | ((with_reducible refine gate_dst (N := 3) rfl ?_); refine bx_ (N := 3) (cs := #[.bool a1_0, .slice A1_1 l1_1.length c1_1, .slice A1_2 l1_2.length c1_2]) (t := 24) ?_; intro gbA4 hg w39 hbox hb; have BKA4 := Aside0.mk (hbox); have GWA4 := geh hg HB; have GEA4 := geh hg HB; replace HB := bst HB hb; have NBA3_A4 := nlt hg BKA3; have NBA4_A3 := ngt hg BKA3; replace BKA3 := bkb BKA3 hb; clear hb hbox hg))
  replace BKA3 := Aside0.mk (blk_drew BKA3.out)
  replace BKA4 := Aside0.mk (blk_drew BKA4.out)
  replace HB := Aside0.mk (below_drew1 HB.out)
  refine start_ (n := 5) (S := fun w' => w'.cell? ⟨gbA3, 0, none⟩ = some (.bool a0_0) ∧ w'.cell? ⟨gbA3, 1, none⟩ = some (.slice A0_1 l0_1.length c0_1) ∧ w'.cell? ⟨gbA3, 2, none⟩ = some (.slice A0_2 l0_2.length c0_2) ∧ w'.cell? ⟨gbA4, 0, none⟩ = some (.bool a1_0) ∧ w'.cell? ⟨gbA4, 1, none⟩ = some (.slice A1_1 l1_1.length c1_1) ∧ w'.cell? ⟨gbA4, 2, none⟩ = some (.slice A1_2 l1_2.length c1_2)) (ds := []) #[false, false, false, false, false] (by kernel_rfl) rfl rfl ⟨bce BKA3 0 _, bce BKA3 1 _, bce BKA3 2 _, bce BKA4 0 _, bce BKA4 1 _, bce BKA4 2 _⟩ (fun hHeld => ?_)
  generalize w39.drew = w40 at BKA3 BKA4 HB hHeld ⊢
  refine take_ (i := 0) (N := some 6) (v := ?_) (a' := ?_) #[true, false, false, false, false] rfl rfl (by kernel_rfl) (fun _ _ _ h => h) (Or.inl ⟨by rfl, ?_⟩) hHeld ?_ ?_
  rotate_left
  ·
   rintro w' ⟨s0, s1, s2, s3, s4, s5⟩
   go_simp
   with_reducible rfl
  rotate_left
  ·
   simp only [Act.put, List.setIfInBounds_toArray, List.set_cons_zero, List.set_cons_succ, i64_w, i32_w]
   rfl
  refine take_ (i := 2) (N := some 8) (v := ?_) (a' := ?_) #[true, false, true, false, false] rfl rfl (by kernel_rfl) (fun _ _ _ h => h) (Or.inl ⟨by rfl, ?_⟩) hHeld ?_ ?_
  rotate_left
  ·
   rintro w' ⟨s0, s1, s2, s3, s4, s5⟩
   go_simp
   with_reducible rfl
  rotate_left
  ·
   simp only [Act.put, List.setIfInBounds_toArray, List.set_cons_zero, List.set_cons_succ, i64_w, i32_w]
   rfl
  refine one_ (i := 1) (N := some 7) #[true, true, true, false, false] rfl rfl (by kernel_rfl) (by decide) (fun K hK => ?_)
  refine g_ Try.func104 #[.agg #[.bool a0_0, .slice A0_1 l0_1.length c0_1, .slice A0_2 l0_2.length c0_2]] ?_
  with_reducible refine (impl_Rat_sign.calls a0_0 _ _ l0_1 _ _ l0_2 tC9 _ ?side1 ?side2 ?side3 ?side4 A3.out).mono ?_
  (case side1 => exact crC (Kd.C_below HR0_1.out HB.out))
  (case side2 => exact HC0_1.out)
  (case side3 => exact crC (Kd.C_below HR0_2.out HB.out))
  (case side4 => exact HC0_2.out)
  rintro e w41 ⟨rfl, hb⟩
  refine ⟨_, rfl, ?_⟩
  replace BKA3 := bkb BKA3 hb
  replace BKA4 := bkb BKA4 hb
  replace HB := bst HB hb
  (try clear hb)
  (try clear hb2)
  (try clear hk)
  (try clear hi)
  refine hK.out _ _ ⟨bce BKA3 0 _, bce BKA3 1 _, bce BKA3 2 _, bce BKA4 0 _, bce BKA4 1 _, bce BKA4 2 _⟩ (fun hHeld => ?_)
  clear hK K
  refine nm_ 7 ?_
  refine one_ (i := 3) (N := some 9) #[true, true, true, true, false] rfl rfl (by kernel_rfl) (by decide) (fun K hK => ?_)
  refine g_ Try.func104 #[.agg #[.bool a1_0, .slice A1_1 l1_1.length c1_1, .slice A1_2 l1_2.length c1_2]] ?_
  with_reducible refine (impl_Rat_sign.calls a1_0 _ _ l1_1 _ _ l1_2 tC5 _ ?side1 ?side2 ?side3 ?side4 A4.out).mono ?_
  (case side1 => exact crC (Kd.C_below HR1_1.out HB.out))
  (case side2 => exact HC1_1.out)
  (case side3 => exact crC (Kd.C_below HR1_2.out HB.out))
  (case side4 => exact HC1_2.out)
  rintro e w42 ⟨rfl, hb⟩
  refine ⟨_, rfl, ?_⟩
  replace BKA3 := bkb BKA3 hb
  replace BKA4 := bkb BKA4 hb
  replace HB := bst HB hb
  (try clear hb)
  (try clear hb2)
  (try clear hk)
  (try clear hi)
  refine hK.out _ _ ⟨bce BKA3 0 _, bce BKA3 1 _, bce BKA3 2 _, bce BKA4 0 _, bce BKA4 1 _, bce BKA4 2 _⟩ (fun hHeld => ?_)
  clear hK K
  refine nm_ 9 ?_
  refine pure_ (i := 4) (N := some 10) (v := ?_) (a' := ?_) #[true, true, true, true, true] rfl rfl (by kernel_rfl) (fun _ _ _ h => h) (Or.inl ⟨by rfl, ?_⟩) ?_ ?_
  rotate_left
  ·
   intro w'
   go_simp
   with_reducible rfl
  rotate_left
  ·
   simp only [Act.put, List.setIfInBounds_toArray, List.set_cons_zero, List.set_cons_succ, i64_w, i32_w]
   rfl
  refine done_ (by kernel_rfl) ?_
  try go_wp2
  replace BKA3 := Aside0.mk (blk_drew BKA3.out)
  replace BKA4 := Aside0.mk (blk_drew BKA4.out)
  replace HB := Aside0.mk (below_drew1 HB.out)
  refine start_ (n := 6) (S := fun w' => w'.cell? ⟨gbA3, 0, none⟩ = some (.bool a0_0) ∧ w'.cell? ⟨gbA3, 1, none⟩ = some (.slice A0_1 l0_1.length c0_1) ∧ w'.cell? ⟨gbA3, 2, none⟩ = some (.slice A0_2 l0_2.length c0_2) ∧ w'.cell? ⟨gbA4, 0, none⟩ = some (.bool a1_0) ∧ w'.cell? ⟨gbA4, 1, none⟩ = some (.slice A1_1 l1_1.length c1_1) ∧ w'.cell? ⟨gbA4, 2, none⟩ = some (.slice A1_2 l1_2.length c1_2)) (ds := []) #[false, false, false, false, false, false] (by kernel_rfl) rfl rfl ⟨bce BKA3 0 _, bce BKA3 1 _, bce BKA3 2 _, bce BKA4 0 _, bce BKA4 1 _, bce BKA4 2 _⟩ (fun hHeld => ?_)
  generalize w42.drew = w43 at BKA3 BKA4 HB hHeld ⊢
  refine take_ (i := 0) (N := some 11) (v := ?_) (a' := ?_) #[true, false, false, false, false, false] rfl rfl (by kernel_rfl) (fun _ _ _ h => h) (Or.inl ⟨by rfl, ?_⟩) hHeld ?_ ?_
  rotate_left
  ·
   rintro w' ⟨s0, s1, s2, s3, s4, s5⟩
   go_simp
   with_reducible rfl
  rotate_left
  ·
   simp only [Act.put, List.setIfInBounds_toArray, List.set_cons_zero, List.set_cons_succ, i64_w, i32_w]
   rfl
  refine take_ (i := 2) (N := some 13) (v := ?_) (a' := ?_) #[true, false, true, false, false, false] rfl rfl (by kernel_rfl) (fun _ _ _ h => h) (Or.inl ⟨by rfl, ?_⟩) hHeld ?_ ?_
  rotate_left
  ·
   rintro w' ⟨s0, s1, s2, s3, s4, s5⟩
   go_simp
   with_reducible rfl
  rotate_left
  ·
   simp only [Act.put, List.setIfInBounds_toArray, List.set_cons_zero, List.set_cons_succ, i64_w, i32_w]
   rfl
  refine one_ (i := 1) (N := some 12) #[true, true, true, false, false, false] rfl rfl (by kernel_rfl) (by decide) (fun K hK => ?_)
  refine g_ Try.func104 #[.agg #[.bool a0_0, .slice A0_1 l0_1.length c0_1, .slice A0_2 l0_2.length c0_2]] ?_
  with_reducible refine (impl_Rat_sign.calls a0_0 _ _ l0_1 _ _ l0_2 tD2 _ ?side1 ?side2 ?side3 ?side4 A36.out).mono ?_
  (case side1 => exact crC (Kd.C_below HR0_1.out HB.out))
  (case side2 => exact HC0_1.out)
  (case side3 => exact crC (Kd.C_below HR0_2.out HB.out))
  (case side4 => exact HC0_2.out)
  rintro e w44 ⟨rfl, hb⟩
  refine ⟨_, rfl, ?_⟩
  replace BKA3 := bkb BKA3 hb
  replace BKA4 := bkb BKA4 hb
  replace HB := bst HB hb
  (try clear hb)
  (try clear hb2)
  (try clear hk)
  (try clear hi)
  refine hK.out _ _ ⟨bce BKA3 0 _, bce BKA3 1 _, bce BKA3 2 _, bce BKA4 0 _, bce BKA4 1 _, bce BKA4 2 _⟩ (fun hHeld => ?_)
  clear hK K
  refine nm_ 12 ?_
  refine one_ (i := 3) (N := some 14) #[true, true, true, true, false, false] rfl rfl (by kernel_rfl) (by decide) (fun K hK => ?_)
  refine g_ Try.func104 #[.agg #[.bool a1_0, .slice A1_1 l1_1.length c1_1, .slice A1_2 l1_2.length c1_2]] ?_
  with_reducible refine (impl_Rat_sign.calls a1_0 _ _ l1_1 _ _ l1_2 tD1 _ ?side1 ?side2 ?side3 ?side4 A37.out).mono ?_
  (case side1 => exact crC (Kd.C_below HR1_1.out HB.out))
  (case side2 => exact HC1_1.out)
  (case side3 => exact crC (Kd.C_below HR1_2.out HB.out))
  (case side4 => exact HC1_2.out)
  rintro e w45 ⟨rfl, hb⟩
  refine ⟨_, rfl, ?_⟩
  replace BKA3 := bkb BKA3 hb
  replace BKA4 := bkb BKA4 hb
  replace HB := bst HB hb
  (try clear hb)
  (try clear hb2)
  (try clear hk)
  (try clear hi)
  refine hK.out _ _ ⟨bce BKA3 0 _, bce BKA3 1 _, bce BKA3 2 _, bce BKA4 0 _, bce BKA4 1 _, bce BKA4 2 _⟩ (fun hHeld => ?_)
  clear hK K
  refine nm_ 14 ?_
  refine pure_ (i := 4) (N := some 15) (v := ?_) (a' := ?_) #[true, true, true, true, true, false] rfl rfl (by kernel_rfl) (fun _ _ _ h => h) (Or.inl ⟨by rfl, ?_⟩) ?_ ?_
  rotate_left
  ·
   intro w'
   go_simp
   with_reducible rfl
  rotate_left
  ·
   simp only [Act.put, List.setIfInBounds_toArray, List.set_cons_zero, List.set_cons_succ, i64_w, i32_w]
   rfl
  refine pure_ (i := 5) (N := some 4) (v := ?_) (a' := ?_) #[true, true, true, true, true, true] rfl rfl (by kernel_rfl) (fun _ _ _ h => h) (Or.inl ⟨by rfl, ?_⟩) ?_ ?_
  rotate_left
  ·
   intro w'
   go_simp
   with_reducible rfl
  rotate_left
  ·
   simp only [Act.put, List.setIfInBounds_toArray, List.set_cons_zero, List.set_cons_succ, i64_w, i32_w]
   rfl
  refine done_ (by kernel_rfl) ?_
  try go_wp2
  go_ret
  exact ⟨er_, blw HB⟩

mutual
def impl_Rat_pow.l0 : Nat → Int → Int → Bool → List Int → List Int → Bool → List Int → List Int → Option (Bool × List Int × List Int)
 | 0, _, _, _, _, _, _, _, _ => none
 | k + 1, x7, x8, x951000, x951001, x951002, x960000, x960001, x960002 => if x8 < x7 then ((impl_natMul.f k x960001 x951001).bind fun tD5 => ((impl_natMul.f k x960002 x951002).bind fun tD6 => (impl_Rat_pow.l0 k x7 (wrap64 (x8 + 1)) x951000 x951001 x951002 (x960000 != x951000) tD5 tD6))) else (if x960000 = true then ((impl_Rat_isZero.f x960000 x960001 x960002).bind fun tE4 => (impl_Rat_pow.j1 k (!tE4) x960001 x960002)) else (impl_Rat_pow.j1 k false x960001 x960002))
def impl_Rat_pow.j1 : Nat → Bool → List Int → List Int → Option (Bool × List Int × List Int)
 | 0, _, _, _ => none
 | k + 1, x960000, x960001, x960002 => (impl_Rat_isZero.f x960000 x960001 x960002).bind fun tF6 => (if tF6 = true then ((impl_one.f).bind fun tD4 => (some (x960000, x960001, tD4))) else (some (x960000, x960001, x960002)))
end
def impl_Rat_pow.f (k : Nat) (a0_0 : Bool) (l0_1 : List Int) (l0_2 : List Int) (a1 : Int) : Option (Bool × List Int × List Int) := (impl_whole.f k 1).bind fun btD0 => (impl_Rat_pow.l0 k a1 0 a0_0 l0_1 l0_2 btD0.1 btD0.2.1 btD0.2.2)
def impl_Rat_pow.T4 : Bool × List (List Nat × List Nat) := (true, [([], []), ([0], [0]), ([], []), ([2], [2]), ([1, 3], [1, 3]), ([], []), ([5], [5]), ([], []), ([7], [7]), ([6, 8], [6, 8]), ([], []), ([10], [10]), ([], []), ([12], [12]), ([11, 13, 9], [11, 13]), ([4, 9, 14], [4, 9, 14]), ([15, 14, 0, 1, 2, 3, 4, 5, 6, 7, 8, 9, 10, 11, 12, 13, 14, 15], [15])])
def impl_Rat_pow.B4 : List Nat := [0, 1, 0, 4, 15, 0, 32, 0, 128, 480, 0, 1024, 0, 4096, 16352, 32767, 65535]
theorem impl_Rat_pow.tab4 : rtab .any (opsOf Try.f83 4) = impl_Rat_pow.T4 := by kernel_rfl
theorem impl_Rat_pow.bits4 : waitsOk impl_Rat_pow.T4.2 impl_Rat_pow.B4 = true := by kernel_rfl
set_option maxHeartbeats 8000000 in
set_option maxRecDepth 100000 in
theorem impl_Rat_pow.calls (k : Nat) (a0_0 : Bool) (A0_1 : Option Addr) (c0_1 : Nat) (l0_1 : List Int) (A0_2 : Option Addr) (c0_2 : Nat) (l0_2 : List Int) (a1 : Int) (r1 : Bool) (r2 : List Int) (r3 : List Int) (w : World) (hr0_1 : Kd.C (Kd.int .i64) w A0_1 l0_1.length l0_1) (hc0_1 : l0_1.length ≤ c0_1) (hr0_2 : Kd.C (Kd.int .i64) w A0_2 l0_2.length l0_2) (hc0_2 : l0_2.length ≤ c0_2) (h : impl_Rat_pow.f k a0_0 l0_1 l0_2 a1 = some (r1, r2, r3)) :
  Calls Try.prog 83 #[.agg #[.bool a0_0, .slice A0_1 l0_1.length c0_1, .slice A0_2 l0_2.length c0_2], .int .i64 a1] w fun e w' => ∃ v1_ v2_ : Value, e = .returned (.agg #[.bool r1, v1_, v2_]) ∧ Kd.R (Kd.int .i64) 3 w' w.heap.size (fun k_ => nO k_ v2_) v1_ r2 ∧ Kd.R (Kd.int .i64) 3 w' w.heap.size (fun k_ => nO k_ v1_) v2_ r3 ∧ Below w.heap.size w w' := by
 have hu24 := Try.underlying24
 have HR0_1 := Aside0.mk hr0_1
 have HC0_1 := Aside0.mk hc0_1
 clear hr0_1 hc0_1
 have HR0_2 := Aside0.mk hr0_2
 have HC0_2 := Aside0.mk hc0_2
 clear hr0_2 hc0_2
 have HB := Aside0.mk (Below.refl w.heap.size w)
 have H : ((impl_whole.f k 1).bind fun btD0 => (impl_Rat_pow.l0 k a1 0 a0_0 l0_1 l0_2 btD0.1 btD0.2.1 btD0.2.2)) = some (r1, r2, r3) := h
 clear h
 replace H := Option.bind_eq_some_iff.mp H
 obtain ⟨⟨tD0, tE5, tF7⟩, A30, H⟩ := H
 replace H : (impl_Rat_pow.l0 k a1 0 a0_0 l0_1 l0_2 tD0 tE5 tF7) = some (r1, r2, r3) := H
 have A3 := Aside0.mk A30
 clear A30
 have H' := Aside0.mk H
 clear H
 go_enter Try.func83, Try.ntmps83
 go_wp2_with (first | ((with_reducible refine gate_dst (N := 2) rfl ?_); refine bx_ (N := 2) (cs := #[.bool a0_0, .slice A0_1 l0_1.length c0_1, .slice A0_2 l0_2.length c0_2]) (t := 24) ?_; intro gbB0 hg w4 hbox hb; have BKB0 := Aside0.mk (hbox); have GWB0 := geh hg HB; have GEB0 := geh hg HB; replace HB := bst HB hb; clear hb hbox hg) | ((with_reducible refine gate_dst (N := 4) rfl ?_); refine bx_ (N := 4) (cs := #[.bool false, .slice none 0 0, .slice none 0 0]) (t := 24) ?_; intro gbA9 hg w5 hbox hb; have BKA9 := Aside0.mk (hbox); have GWA9 := geh hg HB; have GEA9 := geh hg HB; replace HB := bst HB hb; have NBB0_A9 := nlt hg BKB0; have NBA9_B0 := ngt hg BKB0; replace BKB0 := bkb BKB0 hb; clear hb hbox hg) | ((with_reducible refine gate_callee (f := 48) rfl ?_); refine gL_ (some 6) Try.func48 #[.int .i64 1] ?_; (with_reducible refine (impl_whole.calls k 1 tD0 tE5 tF7 _ A3.out).mono ?_); rintro e w6 ⟨vI3, vI4, rfl, ho0, ho1, hb⟩; refine ⟨_, rfl, ?_⟩; have HOF8 := lwR ho0 HB; have HOF9 := lwR ho1 HB; replace BKB0 := bkb BKB0 hb; replace BKA9 := bkb BKA9 hb; replace HB := bst HB hb; (try clear hb); (try clear hb2); (try clear hk); (try clear hi); (try clear ho0); (try clear ho1)) | ((with_reducible refine gate_dst (N := 5) rfl ?_); refine bx_ (N := 5) (cs := #[.bool false, .slice none 0 0, .slice none 0 0]) (t := 24) ?_; intro gbA6 hg w7 hbox hb; replace HOF8 := rblR HOF8 hb; replace HOF9 := rblR HOF9 hb; have BKA6 := Aside0.mk (hbox); have GWA6 := geh hg HB; have GEA6 := geh hg HB; replace HB := bst HB hb; have NBB0_A6 := nlt hg BKB0; have NBA6_B0 := ngt hg BKB0; replace BKB0 := bkb BKB0 hb; have NBA9_A6 := nlt hg BKA9; have NBA6_A9 := ngt hg BKA9; replace BKA9 := bkb BKA9 hb; clear hb hbox hg; have hnb8 := NBA6_B0.out; have hnc8 := NBB0_A6.out; have hnb9 := NBA6_A9.out; have hnc9 := NBA9_A6.out; obtain ⟨hcz10_0, hcz10_1, hcz10_2, hfz10_0, hfz10_1, hfz10_2⟩ := bc3 BKA6; obtain ⟨Ao11, co11, eo11⟩ := Kd.R_slice HOF8.out; subst eo11; obtain ⟨Ao12, co12, eo12⟩ := Kd.R_slice HOF9.out; subst eo12))
 go_loopg [8] k (fun kq v8 w' => ∃ (x8_1 : Int) (x960000_1 : Bool) (x960001_1 : List Int) (x960002_1 : List Int) (u960001 : Value) (u960002 : Value), v8 = .int .i64 x8_1 ∧ Aside0 (impl_Rat_pow.l0 kq a1 x8_1 a0_0 l0_1 l0_2 x960000_1 x960001_1 x960002_1 = some (r1, r2, r3)) ∧ Aside0 (kq ≤ k) ∧ Aside0 (Kd.R (Kd.int .i64) 3 w' w.heap.size (fun k_ => nO k_ u960002) u960001 x960001_1) ∧ Aside0 (Kd.R (Kd.int .i64) 3 w' w.heap.size (fun k_ => nO k_ u960001) u960002 x960002_1) ∧ Aside0 (w'.heap[gbB0]? = some (.cells #[.bool a0_0, (.slice A0_1 l0_1.length c0_1), (.slice A0_2 l0_2.length c0_2)] 24 (0, 0))) ∧ Aside0 (w'.heap[gbA9]? = some (.cells #[.bool false, (.slice none 0 0), (.slice none 0 0)] 24 (0, 0))) ∧ Aside0 (w'.heap[gbA6]? = some (.cells #[.bool x960000_1, u960001, u960002] 24 (0, 0))) ∧ Aside0 (Below w.heap.size w w'))
 case atStart => exact ⟨(0), (tD0), (tE5), (tF7), (.slice Ao11 tE5.length co11), (.slice Ao12 tF7.length co12), rs_, H', ⟨Nat.le_refl _⟩, ⟨(crN HOF8 BKA6 fun _ hk => hk.1)⟩, ⟨(crN HOF9 BKA6 fun _ hk => hk.1)⟩, ⟨by (with_reducible repeat (first | refine blk_drewN ?_ _ | refine blk_drew ?_ | refine blk_alloc ?_ _)); refine blk_far ?_ NBB0_A6.out _; (with_reducible repeat (first | refine blk_drewN ?_ _ | refine blk_drew ?_ | refine blk_alloc ?_ _)); refine blk_far ?_ NBB0_A6.out _; (with_reducible repeat (first | refine blk_drewN ?_ _ | refine blk_drew ?_ | refine blk_alloc ?_ _)); refine blk_far ?_ NBB0_A6.out _; (with_reducible repeat (first | refine blk_drewN ?_ _ | refine blk_drew ?_ | refine blk_alloc ?_ _)); exact BKB0.out⟩, ⟨by (with_reducible repeat (first | refine blk_drewN ?_ _ | refine blk_drew ?_ | refine blk_alloc ?_ _)); refine blk_far ?_ NBA9_A6.out _; (with_reducible repeat (first | refine blk_drewN ?_ _ | refine blk_drew ?_ | refine blk_alloc ?_ _)); refine blk_far ?_ NBA9_A6.out _; (with_reducible repeat (first | refine blk_drewN ?_ _ | refine blk_drew ?_ | refine blk_alloc ?_ _)); refine blk_far ?_ NBA9_A6.out _; (with_reducible repeat (first | refine blk_drewN ?_ _ | refine blk_drew ?_ | refine blk_alloc ?_ _)); exact BKA9.out⟩, ⟨by (with_reducible repeat (first | refine blk_drewN ?_ _ | refine blk_drew ?_ | refine blk_alloc ?_ _)); refine blk_put (cs := #[.bool tD0, .slice Ao11 tE5.length co11, .slice none 0 0]) ?_ 2 _ rfl; (with_reducible repeat (first | refine blk_drewN ?_ _ | refine blk_drew ?_ | refine blk_alloc ?_ _)); refine blk_put (cs := #[.bool tD0, .slice none 0 0, .slice none 0 0]) ?_ 1 _ rfl; (with_reducible repeat (first | refine blk_drewN ?_ _ | refine blk_drew ?_ | refine blk_alloc ?_ _)); refine blk_put (cs := #[.bool false, .slice none 0 0, .slice none 0 0]) ?_ 0 _ rfl; (with_reducible repeat (first | refine blk_drewN ?_ _ | refine blk_drew ?_ | refine blk_alloc ?_ _)); exact BKA6.out⟩, ⟨blw HB⟩⟩
 case round =>
  clear H'
  try clear p2
  try clear c4
  try clear c8
  try clear c9
  try clear hcz10_0
  try clear hcz10_1
  try clear hcz10_2
  try clear hfz10_0
  try clear hfz10_1
  try clear hfz10_2
  obtain ⟨x8_1, x960000_1, x960001_1, x960002_1, u960001, u960002, rfl, HA, HK1, HO_960001, HO_960002, BKB0, BKA9, BKA6, HB⟩ := hrel
  cases gk with
  | zero => exact absurd HA.out (by simp [impl_Rat_pow.l0])
  | succ k1 =>
   have H := HA.out
   clear HA
   simp only [impl_Rat_pow.l0] at H
   by_cases c13 : x8_1 < a1
   ·
    rw [if_pos c13] at H
    have c13b0 : decide (x8_1 < a1) = true := decide_eq_true c13
    clear c13
    replace H := Option.bind_eq_some_iff.mp H
    obtain ⟨tD5, AG1, H⟩ := H
    replace H : ((impl_natMul.f k1 x960002_1 l0_2).bind fun tD6 => (impl_Rat_pow.l0 k1 a1 (wrap64 (x8_1 + 1)) a0_0 l0_1 l0_2 (x960000_1 != a0_0) tD5 tD6)) = some (r1, r2, r3) := H
    have A14 := Aside0.mk AG1
    clear AG1
    replace H := Option.bind_eq_some_iff.mp H
    obtain ⟨tD6, AG2, H⟩ := H
    replace H : (impl_Rat_pow.l0 k1 a1 (wrap64 (x8_1 + 1)) a0_0 l0_1 l0_2 (x960000_1 != a0_0) tD5 tD6) = some (r1, r2, r3) := H
    have A15 := Aside0.mk AG2
    clear AG2
    have H' := Aside0.mk H
    clear H
    try go_wp2
    replace HO_960001 := Aside0.mk (Kd.R_drew HO_960001.out)
    replace HO_960002 := Aside0.mk (Kd.R_drew HO_960002.out)
    replace BKB0 := Aside0.mk (blk_drew BKB0.out)
    replace BKA9 := Aside0.mk (blk_drew BKA9.out)
    replace BKA6 := Aside0.mk (blk_drew BKA6.out)
    replace HB := Aside0.mk (below_drew1 HB.out)
    obtain ⟨Ao17, co17, eo17⟩ := Kd.R_slice HO_960001.out
    (first | subst eo17 | (injection eo17 with f1_ f2_ f3_; have f4_ := f1_.symm; have f5_ := f3_.symm; clear f1_ f2_ f3_; subst f4_; subst f5_))
    refine start_ (n := 17) (S := fun w' => w'.cell? ⟨gbA6, 0, none⟩ = some (.bool x960000_1) ∧ w'.cell? ⟨gbA6, 1, none⟩ = some (.slice Ao17 x960001_1.length co17) ∧ w'.cell? ⟨gbA6, 2, none⟩ = some (u960002) ∧ w'.cell? ⟨gbB0, 0, none⟩ = some (.bool a0_0) ∧ w'.cell? ⟨gbB0, 1, none⟩ = some (.slice A0_1 l0_1.length c0_1) ∧ w'.cell? ⟨gbB0, 2, none⟩ = some (.slice A0_2 l0_2.length c0_2)) (ds := [16]) (bm 17 0) (by kernel_rfl) rfl rfl ⟨bce BKA6 0 _, bce BKA6 1 _, bce BKA6 2 _, bce BKB0 0 _, bce BKB0 1 _, bce BKB0 2 _⟩ (fun hHeld => ?_); refine with_tabW impl_Rat_pow.tab4 impl_Rat_pow.bits4 (fun HT_ HW_ => ?_)
    generalize wr.drew = w16 at HO_960001 HO_960002 BKB0 BKA9 BKA6 HB hHeld ⊢
    refine pu_ 0 (some 10) (bm 17 1) HT_.out ?_
    refine pu_ 2 (some 12) (bm 17 5) HT_.out ?_
    refine pu_ 5 (some 15) (bm 17 37) HT_.out ?_
    refine pu_ 7 (some 17) (bm 17 165) HT_.out ?_
    refine pu_ 10 (some 20) (bm 17 1189) HT_.out ?_
    refine pu_ 12 (some 22) (bm 17 5285) HT_.out ?_
    refine tk_ 1 (some 11) (bm 17 5287) HT_.out HW_.out hHeld ?_
    refine tk_ 3 (some 13) (bm 17 5295) HT_.out HW_.out hHeld ?_
    refine pu_ 4 (some 14) (bm 17 5311) HT_.out ?_
    refine tk_ 6 (some 16) (bm 17 5375) HT_.out HW_.out hHeld ?_
    refine tk_ 8 (some 18) (bm 17 5631) HT_.out HW_.out hHeld ?_
    refine tk_ 11 (some 21) (bm 17 7679) HT_.out HW_.out hHeld ?_
    refine tk_ 13 (some 23) (bm 17 15871) HT_.out HW_.out hHeld ?_
    refine one_ (i := 9) (N := some 19) (bm 17 16383) rfl rfl (one_of HT_.out (by kernel_rfl)) (by decide) (fun K hK => ?_)
    refine g_ Try.func95 #[.slice Ao17 x960001_1.length co17, .slice A0_1 l0_1.length c0_1] ?_
    with_reducible refine (impl_natMul.calls k1 _ _ x960001_1 _ _ l0_1 tD5 _ ?side1 ?side2 ?side3 ?side4 A14.out).mono ?_
    (case side1 => exact crC (Kd.R_reads' HO_960001.out).2.2)
    (case side2 => exact (Kd.R_reads' HO_960001.out).2.1)
    (case side3 => exact crC (Kd.C_below HR0_1.out HB.out))
    (case side4 => exact HC0_1.out)
    rintro e w18 ⟨vI5, rfl, ho0, hb⟩
    refine ⟨_, rfl, ?_⟩
    have HOE6 := lwR (nwR (nwR ho0 HO_960001) HO_960002) HB
    replace HO_960001 := eldR HO_960001 (Kd.R_base ho0) hb
    replace HO_960002 := eldR HO_960002 (Kd.R_base ho0) hb
    replace BKB0 := bkb BKB0 hb
    replace BKA9 := bkb BKA9 hb
    replace BKA6 := bkb BKA6 hb
    replace HB := bst HB hb
    (try clear hb)
    (try clear hb2)
    (try clear hk)
    (try clear hi)
    (try clear ho0)
    obtain ⟨Ao19, co19, eo19⟩ := Kd.R_slice HO_960002.out
    (first | subst eo19 | (injection eo19 with f1_ f2_ f3_; have f4_ := f1_.symm; have f5_ := f3_.symm; clear f1_ f2_ f3_; subst f4_; subst f5_))
    refine hK.out _ _ ⟨bce BKA6 0 _, bce BKA6 1 _, bce BKA6 2 _, bce BKB0 0 _, bce BKB0 1 _, bce BKB0 2 _⟩ (fun hHeld => ?_)
    clear hK K
    refine nm_ 19 ?_
    refine one_ (i := 14) (N := some 24) (bm 17 32767) rfl rfl (one_of HT_.out (by kernel_rfl)) (by decide) (fun K hK => ?_)
    refine g_ Try.func95 #[.slice Ao19 x960002_1.length co19, .slice A0_2 l0_2.length c0_2] ?_
    with_reducible refine (impl_natMul.calls k1 _ _ x960002_1 _ _ l0_2 tD6 _ ?side1 ?side2 ?side3 ?side4 A15.out).mono ?_
    (case side1 => exact crC (Kd.R_reads' HO_960002.out).2.2)
    (case side2 => exact (Kd.R_reads' HO_960002.out).2.1)
    (case side3 => exact crC (Kd.C_below HR0_2.out HB.out))
    (case side4 => exact HC0_2.out)
    rintro e w20 ⟨vI6, rfl, ho0, hb⟩
    refine ⟨_, rfl, ?_⟩
    have HOG3 := lwR (nwR (nwR (nwR ho0 HO_960001) HO_960002) HOE6) HB
    replace HO_960001 := eldR HO_960001 (Kd.R_base ho0) hb
    replace HO_960002 := eldR HO_960002 (Kd.R_base ho0) hb
    replace HOE6 := eldR HOE6 (Kd.R_base ho0) hb
    replace BKB0 := bkb BKB0 hb
    replace BKA9 := bkb BKA9 hb
    replace BKA6 := bkb BKA6 hb
    replace HB := bst HB hb
    (try clear hb)
    (try clear hb2)
    (try clear hk)
    (try clear hi)
    (try clear ho0)
    obtain ⟨Ao21, co21, eo21⟩ := Kd.R_slice HOG3.out
    (first | subst eo21 | (injection eo21 with f1_ f2_ f3_; have f4_ := f1_.symm; have f5_ := f3_.symm; clear f1_ f2_ f3_; subst f4_; subst f5_))
    obtain ⟨Ao22, co22, eo22⟩ := Kd.R_slice HOE6.out
    (first | subst eo22 | (injection eo22 with f1_ f2_ f3_; have f4_ := f1_.symm; have f5_ := f3_.symm; clear f1_ f2_ f3_; subst f4_; subst f5_))
    refine hK.out _ _ ⟨bce BKA6 0 _, bce BKA6 1 _, bce BKA6 2 _, bce BKB0 0 _, bce BKB0 1 _, bce BKB0 2 _⟩ (fun hHeld => ?_)
    clear hK K
    refine nm_ 24 ?_
    refine pu_ 15 (some 25) (bm 17 65535) HT_.out ?_
    refine last_ (i := 16) (N := none) (bm 17 131071) rfl rfl (one_of HT_.out (by kernel_rfl)) (by decide) (fun K hK => ?_)
    have hs23 : w20.cell? ⟨gbA6, 0, none⟩ = some (.bool x960000_1) := bce BKA6 0 _
    have hfs23 := blk_frozen BKA6.out 0
    have hns23_0 := NBB0_A6.out
    have hns23_1 := NBA9_A6.out
    have hms23_0 := NBA6_B0.out
    have hms23_1 := NBA6_A9.out
    have hs24 : w20.cell? ⟨gbA6, 1, none⟩ = some (.slice Ao17 x960001_1.length co17) := bce BKA6 1 _
    have hfs24 := blk_frozen BKA6.out 1
    have hns24_0 := NBB0_A6.out
    have hns24_1 := NBA9_A6.out
    have hms24_0 := NBA6_B0.out
    have hms24_1 := NBA6_A9.out
    have hs25 : w20.cell? ⟨gbA6, 2, none⟩ = some (.slice Ao19 x960002_1.length co19) := bce BKA6 2 _
    have hfs25 := blk_frozen BKA6.out 2
    have hns25_0 := NBB0_A6.out
    have hns25_1 := NBA9_A6.out
    have hms25_0 := NBA6_B0.out
    have hms25_1 := NBA6_A9.out
    refine skip_ (w1 := ?_) (by rfl) rfl ?_ ?_
    rotate_left
    ·
     go_simp
     rfl
    refine hK.out _ _ ?_
    clear hK K
    refine done_ (done_of HT_.out (by kernel_rfl)) ?_
    try go_wp2
    go_roundg k1
    case measure => have := HK1.out; omega
    case rel => exact ⟨(wrap64 (x8_1 + 1)), ((x960000_1 != a0_0)), (tD5), (tD6), (.slice Ao22 tD5.length co22), (.slice Ao21 tD6.length co21), rs_, H', ⟨by have := HK1.out; omega⟩, ⟨(crN HOE6 BKA6 fun _ hk => hk.1.2)⟩, ⟨(crN HOG3 BKA6 fun _ hk => hk.1.2)⟩, ⟨by (with_reducible repeat (first | refine blk_drewN ?_ _ | refine blk_drew ?_ | refine blk_alloc ?_ _)); refine blk_far ?_ NBB0_A6.out _; (with_reducible repeat (first | refine blk_drewN ?_ _ | refine blk_drew ?_ | refine blk_alloc ?_ _)); refine blk_far ?_ NBB0_A6.out _; (with_reducible repeat (first | refine blk_drewN ?_ _ | refine blk_drew ?_ | refine blk_alloc ?_ _)); refine blk_far ?_ NBB0_A6.out _; (with_reducible repeat (first | refine blk_drewN ?_ _ | refine blk_drew ?_ | refine blk_alloc ?_ _)); exact BKB0.out⟩, ⟨by (with_reducible repeat (first | refine blk_drewN ?_ _ | refine blk_drew ?_ | refine blk_alloc ?_ _)); refine blk_far ?_ NBA9_A6.out _; (with_reducible repeat (first | refine blk_drewN ?_ _ | refine blk_drew ?_ | refine blk_alloc ?_ _)); refine blk_far ?_ NBA9_A6.out _; (with_reducible repeat (first | refine blk_drewN ?_ _ | refine blk_drew ?_ | refine blk_alloc ?_ _)); refine blk_far ?_ NBA9_A6.out _; (with_reducible repeat (first | refine blk_drewN ?_ _ | refine blk_drew ?_ | refine blk_alloc ?_ _)); exact BKA9.out⟩, ⟨by (with_reducible repeat (first | refine blk_drewN ?_ _ | refine blk_drew ?_ | refine blk_alloc ?_ _)); refine blk_put (cs := #[.bool (x960000_1 != a0_0), .slice Ao22 tD5.length co22, .slice Ao19 x960002_1.length co19]) ?_ 2 _ rfl; (with_reducible repeat (first | refine blk_drewN ?_ _ | refine blk_drew ?_ | refine blk_alloc ?_ _)); refine blk_put (cs := #[.bool (x960000_1 != a0_0), .slice Ao17 x960001_1.length co17, .slice Ao19 x960002_1.length co19]) ?_ 1 _ rfl; (with_reducible repeat (first | refine blk_drewN ?_ _ | refine blk_drew ?_ | refine blk_alloc ?_ _)); refine blk_put (cs := #[.bool x960000_1, .slice Ao17 x960001_1.length co17, .slice Ao19 x960002_1.length co19]) ?_ 0 _ rfl; (with_reducible repeat (first | refine blk_drewN ?_ _ | refine blk_drew ?_ | refine blk_alloc ?_ _)); exact BKA6.out⟩, ⟨blw HB⟩⟩
   ·
    rw [if_neg c13] at H
    have c13b0 : decide (x8_1 < a1) = false := decide_eq_false c13
    clear c13
    have HC26 := Aside0.mk H
    clear H
    go_upto_region 6 with (fail)
    go_cut [] (fun wc => ∃ (kq : Nat) (x960000_25 : Bool), Aside0 (impl_Rat_pow.j1 kq x960000_25 x960001_1 x960002_1 = some (r1, r2, r3)) ∧ Aside0 (kq ≤ k1) ∧ Aside0 (Kd.R (Kd.int .i64) 3 wc w.heap.size (fun k_ => nO k_ u960002) u960001 x960001_1) ∧ Aside0 (Kd.R (Kd.int .i64) 3 wc w.heap.size (fun k_ => nO k_ u960001) u960002 x960002_1) ∧ Aside0 (wc.heap[gbB0]? = some (.cells #[.bool a0_0, (.slice A0_1 l0_1.length c0_1), (.slice A0_2 l0_2.length c0_2)] 24 (0, 0))) ∧ Aside0 (wc.heap[gbA9]? = some (.cells #[.bool false, (.slice none 0 0), (.slice none 0 0)] 24 (0, 0))) ∧ Aside0 (wc.heap[gbA6]? = some (.cells #[.bool x960000_25, u960001, u960002] 24 (0, 0))) ∧ Aside0 (Below w.heap.size w wc))
    case first =>
     have H := HC26.out
     clear HC26
     by_cases c27 : x960000_1 = true
     ·
      subst c27
      rw [if_pos rfl] at H
      replace H := Option.bind_eq_some_iff.mp H
      obtain ⟨tE4, AG4, H⟩ := H
      replace H : (impl_Rat_pow.j1 k1 (!tE4) x960001_1 x960002_1) = some (r1, r2, r3) := H
      have A28 := Aside0.mk AG4
      clear AG4
      have H' := Aside0.mk H
      clear H
      have hnb29 := NBA6_B0.out
      have hnc29 := NBB0_A6.out
      have hnb30 := NBA6_A9.out
      have hnc30 := NBA9_A6.out
      obtain ⟨hcz31_0, hcz31_1, hcz31_2, hfz31_0, hfz31_1, hfz31_2⟩ := bc3 BKA6
      obtain ⟨Ao32, co32, eo32⟩ := Kd.R_slice HO_960001.out
      subst eo32
      obtain ⟨Ao33, co33, eo33⟩ := Kd.R_slice HO_960002.out
      subst eo33
      go_wp2_with (first | (go_at_call 59; (with_reducible refine (impl_Rat_isZero.calls true _ _ x960001_1 _ _ x960002_1 tE4 _ ?side1 ?side2 ?side3 ?side4 A28.out).mono ?_); (case side1 => exact crC (Kd.R_reads' HO_960001.out).2.2); (case side2 => exact (Kd.R_reads' HO_960001.out).2.1); (case side3 => exact crC (Kd.R_reads' HO_960002.out).2.2); (case side4 => exact (Kd.R_reads' HO_960002.out).2.1); rintro e w34 ⟨rfl, hb⟩; replace HO_960001 := rblR HO_960001 hb; replace HO_960002 := rblR HO_960002 hb; replace BKB0 := bkb BKB0 hb; replace BKA9 := bkb BKA9 hb; replace BKA6 := bkb BKA6 hb; replace HB := bst HB hb; (try clear hb); (try clear hb2); (try clear hk); (try clear hi); obtain ⟨hcz35_0, hcz35_1, hcz35_2, hfz35_0, hfz35_1, hfz35_2⟩ := bc3 BKA6))
      go_meet
      case rel => exact ⟨_, (!tE4), H', ⟨by have := HK1.out; first | omega | exact Nat.le_refl _⟩, ⟨(crN HO_960001 BKA6 fun _ hk => hk.1)⟩, ⟨(crN HO_960002 BKA6 fun _ hk => hk.1)⟩, ⟨by (with_reducible repeat (first | refine blk_drewN ?_ _ | refine blk_drew ?_ | refine blk_alloc ?_ _)); refine blk_far ?_ NBB0_A6.out _; (with_reducible repeat (first | refine blk_drewN ?_ _ | refine blk_drew ?_ | refine blk_alloc ?_ _)); exact BKB0.out⟩, ⟨by (with_reducible repeat (first | refine blk_drewN ?_ _ | refine blk_drew ?_ | refine blk_alloc ?_ _)); refine blk_far ?_ NBA9_A6.out _; (with_reducible repeat (first | refine blk_drewN ?_ _ | refine blk_drew ?_ | refine blk_alloc ?_ _)); exact BKA9.out⟩, ⟨by (with_reducible repeat (first | refine blk_drewN ?_ _ | refine blk_drew ?_ | refine blk_alloc ?_ _)); refine blk_put (cs := #[.bool true, .slice Ao32 x960001_1.length co32, .slice Ao33 x960002_1.length co33]) ?_ 0 _ rfl; (with_reducible repeat (first | refine blk_drewN ?_ _ | refine blk_drew ?_ | refine blk_alloc ?_ _)); exact BKA6.out⟩, ⟨blw HB⟩⟩
     ·
      replace c27 := Bool.eq_false_iff.mpr c27
      subst c27
      rw [if_neg (show ¬ (false = true) by decide)] at H
      have H' := Aside0.mk H
      clear H
      have hnb36 := NBA6_B0.out
      have hnc36 := NBB0_A6.out
      have hnb37 := NBA6_A9.out
      have hnc37 := NBA9_A6.out
      obtain ⟨hcz38_0, hcz38_1, hcz38_2, hfz38_0, hfz38_1, hfz38_2⟩ := bc3 BKA6
      go_wp2
      go_meet
      case rel => exact ⟨_, (false), H', ⟨by have := HK1.out; first | omega | exact Nat.le_refl _⟩, ⟨(crN HO_960001 BKA6 fun _ hk => hk.1)⟩, ⟨(crN HO_960002 BKA6 fun _ hk => hk.1)⟩, ⟨by (with_reducible repeat (first | refine blk_drewN ?_ _ | refine blk_drew ?_ | refine blk_alloc ?_ _)); refine blk_far ?_ NBB0_A6.out _; (with_reducible repeat (first | refine blk_drewN ?_ _ | refine blk_drew ?_ | refine blk_alloc ?_ _)); exact BKB0.out⟩, ⟨by (with_reducible repeat (first | refine blk_drewN ?_ _ | refine blk_drew ?_ | refine blk_alloc ?_ _)); refine blk_far ?_ NBA9_A6.out _; (with_reducible repeat (first | refine blk_drewN ?_ _ | refine blk_drew ?_ | refine blk_alloc ?_ _)); exact BKA9.out⟩, ⟨by (with_reducible repeat (first | refine blk_drewN ?_ _ | refine blk_drew ?_ | refine blk_alloc ?_ _)); refine blk_put (cs := #[.bool false, u960001, u960002]) ?_ 0 _ rfl; (with_reducible repeat (first | refine blk_drewN ?_ _ | refine blk_drew ?_ | refine blk_alloc ?_ _)); exact BKA6.out⟩, ⟨blw HB⟩⟩
    case rest =>
     clear HC26
     try clear c1
     try clear c2
     try clear p2
     try clear c3
     try clear c4
     try clear p6
     try clear c8
     try clear c9
     try clear c13
     try clear c13b0
     try clear c27
     try clear c29
     try clear c30
     try clear c36
     try clear c37
     try clear hcz10_0
     try clear hcz10_1
     try clear hcz10_2
     try clear hcz31_0
     try clear hcz31_1
     try clear hcz31_2
     try clear hcz35_0
     try clear hcz35_1
     try clear hcz35_2
     try clear hcz38_0
     try clear hcz38_1
     try clear hcz38_2
     try clear hfz10_0
     try clear hfz10_1
     try clear hfz10_2
     try clear hfz31_0
     try clear hfz31_1
     try clear hfz31_2
     try clear hfz35_0
     try clear hfz35_1
     try clear hfz35_2
     try clear hfz38_0
     try clear hfz38_1
     try clear hfz38_2
     try clear p2
     obtain ⟨kq, x960000_25, HA, HJ25, HO_960001, HO_960002, BKB0, BKA9, BKA6, HB⟩ := hcut
     cases kq with
     | zero => exact absurd HA.out (by simp [impl_Rat_pow.j1])
     | succ kj25 =>
      have H := HA.out
      clear HA
      simp only [impl_Rat_pow.j1] at H
      replace H := Option.bind_eq_some_iff.mp H
      obtain ⟨tF6, AG5, H⟩ := H
      replace H : (if tF6 = true then ((impl_one.f).bind fun tD4 => (some (x960000_25, x960001_1, tD4))) else (some (x960000_25, x960001_1, x960002_1))) = some (r1, r2, r3) := H
      have A39 := Aside0.mk AG5
      clear AG5
      by_cases c40 : tF6 = true
      ·
       subst c40
       rw [if_pos rfl] at H
       replace H := Option.bind_eq_some_iff.mp H
       obtain ⟨tD4, AG6, H⟩ := H
       replace H : (some (x960000_25, x960001_1, tD4)) = some (r1, r2, r3) := H
       have A41 := Aside0.mk AG6
       clear AG6
       simp only [Option.some.injEq, Prod.mk.injEq] at H
       obtain ⟨rfl, rfl, rfl⟩ := H
       have hnb42 := NBA6_B0.out
       have hnc42 := NBB0_A6.out
       have hnb43 := NBA6_A9.out
       have hnc43 := NBA9_A6.out
       obtain ⟨hcz44_0, hcz44_1, hcz44_2, hfz44_0, hfz44_1, hfz44_2⟩ := bc3 BKA6
       obtain ⟨Ao45, co45, eo45⟩ := Kd.R_slice HO_960001.out
       subst eo45
       obtain ⟨Ao46, co46, eo46⟩ := Kd.R_slice HO_960002.out
       subst eo46
       go_wp2_with (first | ((with_reducible refine gate_callee (f := 59) rfl ?_); refine gL_ (some 36) Try.func59 #[.agg #[.bool x960000_25, .slice Ao45 x960001_1.length co45, .slice Ao46 x960002_1.length co46]] ?_; (with_reducible refine (impl_Rat_isZero.calls x960000_25 _ _ x960001_1 _ _ x960002_1 true _ ?side1 ?side2 ?side3 ?side4 A39.out).mono ?_); (case side1 => exact crC (Kd.R_reads' HO_960001.out).2.2); (case side2 => exact (Kd.R_reads' HO_960001.out).2.1); (case side3 => exact crC (Kd.R_reads' HO_960002.out).2.2); (case side4 => exact (Kd.R_reads' HO_960002.out).2.1); rintro e w47 ⟨rfl, hb⟩; refine ⟨_, rfl, ?_⟩; replace HO_960001 := rblR HO_960001 hb; replace HO_960002 := rblR HO_960002 hb; replace BKB0 := bkb BKB0 hb; replace BKA9 := bkb BKA9 hb; replace BKA6 := bkb BKA6 hb; replace HB := bst HB hb; (try clear hb); (try clear hb2); (try clear hk); (try clear hi)) | ((with_reducible refine gate_callee (f := 62) rfl ?_); refine gL_ (some 37) Try.func62 #[] ?_; (with_reducible refine (impl_one.calls  tD4 _ A41.out).mono ?_); rintro e w48 ⟨vI7, rfl, ho0, hb⟩; refine ⟨_, rfl, ?_⟩; have HOG7 := lwR (nwR (nwR ho0 HO_960001) HO_960002) HB; replace HO_960001 := eldR HO_960001 (Kd.R_base ho0) hb; replace HO_960002 := eldR HO_960002 (Kd.R_base ho0) hb; replace BKB0 := bkb BKB0 hb; replace BKA9 := bkb BKA9 hb; replace BKA6 := bkb BKA6 hb; replace HB := bst HB hb; (try clear hb); (try clear hb2); (try clear hk); (try clear hi); (try clear ho0); obtain ⟨Ao49, co49, eo49⟩ := Kd.R_slice HOG7.out; subst eo49; obtain ⟨hcz50_0, hcz50_1, hcz50_2, hfz50_0, hfz50_1, hfz50_2⟩ := bc3 BKA6; have hnb51 := NBA9_B0.out; have hnc51 := NBB0_A9.out; obtain ⟨hcz52_0, hcz52_1, hcz52_2, hfz52_0, hfz52_1, hfz52_2⟩ := bc3 BKA9))
       refine bodyPost_ret (results_cell_row rfl _ _ gbA9 24 #[.bool x960000_25, .slice Ao45 x960001_1.length co45, .slice Ao49 tD4.length co49] (0, 0) _ rfl (by (with_reducible repeat (first | refine blk_drewN ?_ _ | refine blk_drew ?_ | refine blk_alloc ?_ _)); refine blk_put (cs := #[.bool x960000_25, .slice Ao45 x960001_1.length co45, .slice none 0 0]) ?_ 2 _ rfl; (with_reducible repeat (first | refine blk_drewN ?_ _ | refine blk_drew ?_ | refine blk_alloc ?_ _)); refine blk_put (cs := #[.bool x960000_25, .slice none 0 0, .slice none 0 0]) ?_ 1 _ rfl; (with_reducible repeat (first | refine blk_drewN ?_ _ | refine blk_drew ?_ | refine blk_alloc ?_ _)); refine blk_put (cs := #[.bool false, .slice none 0 0, .slice none 0 0]) ?_ 0 _ rfl; (with_reducible repeat (first | refine blk_drewN ?_ _ | refine blk_drew ?_ | refine blk_alloc ?_ _)); refine blk_far ?_ NBA9_A6.out _; (with_reducible repeat (first | refine blk_drewN ?_ _ | refine blk_drew ?_ | refine blk_alloc ?_ _)); exact BKA9.out) Try.underlying24 rfl (by kernel_rfl)) rfl ?_
       exact ⟨_, _, er_, by (with_reducible repeat (first | apply Kd.R_alloc | apply Kd.R_drewN | apply Kd.R_drew)); exact Kd.R_mono (Kd.R_far (p := ⟨gbA9, 2, none⟩) (Kd.R_far (p := ⟨gbA9, 1, none⟩) (Kd.R_far (p := ⟨gbA9, 0, none⟩) (Kd.R_far (p := ⟨gbA6, 2, none⟩) (Kd.R_types (Kd.R_types HO_960001.out BKA6.out (by decide)) BKA9.out (by decide)) (fun _ hk => hk.1.2) (.slice Ao49 tD4.length co49)) (fun _ hk => hk.2) (.bool x960000_25)) (fun _ hk => hk.2) (.slice Ao45 x960001_1.length co45)) (fun _ hk => hk.2) (.slice Ao49 tD4.length co49)) (fun _ hk => hk.1.1.2), by (with_reducible repeat (first | apply Kd.R_alloc | apply Kd.R_drewN | apply Kd.R_drew)); exact Kd.R_mono (Kd.R_far (p := ⟨gbA9, 2, none⟩) (Kd.R_far (p := ⟨gbA9, 1, none⟩) (Kd.R_far (p := ⟨gbA9, 0, none⟩) (Kd.R_far (p := ⟨gbA6, 2, none⟩) (Kd.R_types (Kd.R_types HOG7.out BKA6.out (by decide)) BKA9.out (by decide)) (fun _ hk => hk.1.2) (.slice Ao49 tD4.length co49)) (fun _ hk => hk.2) (.bool x960000_25)) (fun _ hk => hk.2) (.slice Ao45 x960001_1.length co45)) (fun _ hk => hk.2) (.slice Ao49 tD4.length co49)) (fun _ hk => hk.1.1.1.2), blw HB⟩
      ·
       replace c40 := Bool.eq_false_iff.mpr c40
       subst c40
       rw [if_neg (show ¬ (false = true) by decide)] at H
       simp only [Option.some.injEq, Prod.mk.injEq] at H
       obtain ⟨rfl, rfl, rfl⟩ := H
       have hnb53 := NBA6_B0.out
       have hnc53 := NBB0_A6.out
       have hnb54 := NBA6_A9.out
       have hnc54 := NBA9_A6.out
       obtain ⟨hcz55_0, hcz55_1, hcz55_2, hfz55_0, hfz55_1, hfz55_2⟩ := bc3 BKA6
       obtain ⟨Ao56, co56, eo56⟩ := Kd.R_slice HO_960001.out
       subst eo56
       obtain ⟨Ao57, co57, eo57⟩ := Kd.R_slice HO_960002.out
       subst eo57
       go_wp2_with (first | ((with_reducible refine gate_callee (f := 59) rfl ?_); refine gL_ (some 36) Try.func59 #[.agg #[.bool x960000_25, .slice Ao56 x960001_1.length co56, .slice Ao57 x960002_1.length co57]] ?_; (with_reducible refine (impl_Rat_isZero.calls x960000_25 _ _ x960001_1 _ _ x960002_1 false _ ?side1 ?side2 ?side3 ?side4 A39.out).mono ?_); (case side1 => exact crC (Kd.R_reads' HO_960001.out).2.2); (case side2 => exact (Kd.R_reads' HO_960001.out).2.1); (case side3 => exact crC (Kd.R_reads' HO_960002.out).2.2); (case side4 => exact (Kd.R_reads' HO_960002.out).2.1); rintro e w58 ⟨rfl, hb⟩; refine ⟨_, rfl, ?_⟩; replace HO_960001 := rblR HO_960001 hb; replace HO_960002 := rblR HO_960002 hb; replace BKB0 := bkb BKB0 hb; replace BKA9 := bkb BKA9 hb; replace BKA6 := bkb BKA6 hb; replace HB := bst HB hb; (try clear hb); (try clear hb2); (try clear hk); (try clear hi); obtain ⟨hcz59_0, hcz59_1, hcz59_2, hfz59_0, hfz59_1, hfz59_2⟩ := bc3 BKA6; have hnb60 := NBA9_B0.out; have hnc60 := NBB0_A9.out; obtain ⟨hcz61_0, hcz61_1, hcz61_2, hfz61_0, hfz61_1, hfz61_2⟩ := bc3 BKA9))
       refine bodyPost_ret (results_cell_row rfl _ _ gbA9 24 #[.bool x960000_25, .slice Ao56 x960001_1.length co56, .slice Ao57 x960002_1.length co57] (0, 0) _ rfl (bp3 BKA9 _ _ _) Try.underlying24 rfl (by kernel_rfl)) rfl ?_
       exact ⟨_, _, er_, (crN HO_960001 BKA9 fun _ hk => hk.1), (crN HO_960002 BKA9 fun _ hk => hk.1), blw HB⟩

def impl_Rat_plus.f (k : Nat) (a0_0 : Bool) (l0_1 : List Int) (l0_2 : List Int) (a1_0 : Bool) (l1_1 : List Int) (l1_2 : List Int) : Option (Bool × List Int × List Int) := (impl_natMul.f k l0_1 l1_2).bind fun tB2 => ((impl_natMul.f k l1_1 l0_2).bind fun tB1 => ((impl_natMul.f k l0_2 l1_2).bind fun tB3 => (if (a0_0 == a1_0) = true then ((impl_natAdd.f k tB2 tB1).bind fun tC0 => ((impl_lowest.f k a0_0 tC0 tB3).bind fun btB6 => (some (btB6.1, btB6.2.1, btB6.2.2)))) else ((impl_natCmp.f tB2 tB1).bind fun tB7 => (if tB7 ≥ 0 then ((impl_natSub.f k tB2 tB1).bind fun tB8 => ((impl_lowest.f k a0_0 tB8 tB3).bind fun btB4 => (some (btB4.1, btB4.2.1, btB4.2.2)))) else ((impl_natSub.f k tB1 tB2).bind fun tB9 => ((impl_lowest.f k a1_0 tB9 tB3).bind fun btB5 => (some (btB5.1, btB5.2.1, btB5.2.2)))))))))
def impl_Rat_plus.T1 : Bool × List (List Nat × List Nat) := (true, [([], []), ([0], [0]), ([], []), ([2], [2]), ([1, 3], [1, 3]), ([], []), ([5], [5]), ([], []), ([7], [7]), ([6, 8, 4], [6, 8]), ([4, 9, 0, 1, 2, 3, 4], [4]), ([9, 10, 0, 1, 2, 3, 4, 5, 6, 7, 8, 9, 10], [9])])
def impl_Rat_plus.B1 : List Nat := [0, 1, 0, 4, 15, 0, 32, 0, 128, 511, 1023, 2047]
theorem impl_Rat_plus.tab1 : rtab .any (opsOf Try.f85 1) = impl_Rat_plus.T1 := by kernel_rfl
theorem impl_Rat_plus.bits1 : waitsOk impl_Rat_plus.T1.2 impl_Rat_plus.B1 = true := by kernel_rfl
def impl_Rat_plus.T4 : Bool × List (List Nat × List Nat) := (true, [([], []), ([0], [0]), ([], []), ([], []), ([2, 3], [2, 3]), ([], []), ([1, 4, 5, 4], [1, 4, 5]), ([6, 6, 0, 1, 2, 3, 4, 5, 6], [6])])
def impl_Rat_plus.B4 : List Nat := [0, 1, 0, 0, 12, 0, 63, 127]
theorem impl_Rat_plus.tab4 : rtab .any (opsOf Try.f85 4) = impl_Rat_plus.T4 := by kernel_rfl
theorem impl_Rat_plus.bits4 : waitsOk impl_Rat_plus.T4.2 impl_Rat_plus.B4 = true := by kernel_rfl
def impl_Rat_plus.T6 : Bool × List (List Nat × List Nat) := (true, [([], []), ([0], [0]), ([], []), ([], []), ([2, 3], [2, 3]), ([], []), ([1, 4, 5, 4], [1, 4, 5]), ([6, 6, 0, 1, 2, 3, 4, 5, 6], [6])])
def impl_Rat_plus.B6 : List Nat := [0, 1, 0, 0, 12, 0, 63, 127]
theorem impl_Rat_plus.tab6 : rtab .any (opsOf Try.f85 6) = impl_Rat_plus.T6 := by kernel_rfl
theorem impl_Rat_plus.bits6 : waitsOk impl_Rat_plus.T6.2 impl_Rat_plus.B6 = true := by kernel_rfl
def impl_Rat_plus.T7 : Bool × List (List Nat × List Nat) := (true, [([], []), ([0], [0]), ([], []), ([], []), ([2, 3], [2, 3]), ([], []), ([1, 4, 5, 4], [1, 4, 5]), ([6, 6, 0, 1, 2, 3, 4, 5, 6], [6])])
def impl_Rat_plus.B7 : List Nat := [0, 1, 0, 0, 12, 0, 63, 127]
theorem impl_Rat_plus.tab7 : rtab .any (opsOf Try.f85 7) = impl_Rat_plus.T7 := by kernel_rfl
theorem impl_Rat_plus.bits7 : waitsOk impl_Rat_plus.T7.2 impl_Rat_plus.B7 = true := by kernel_rfl
set_option maxHeartbeats 8000000 in
set_option maxRecDepth 100000 in
theorem impl_Rat_plus.calls (k : Nat) (a0_0 : Bool) (A0_1 : Option Addr) (c0_1 : Nat) (l0_1 : List Int) (A0_2 : Option Addr) (c0_2 : Nat) (l0_2 : List Int) (a1_0 : Bool) (A1_1 : Option Addr) (c1_1 : Nat) (l1_1 : List Int) (A1_2 : Option Addr) (c1_2 : Nat) (l1_2 : List Int) (r1 : Bool) (r2 : List Int) (r3 : List Int) (w : World) (hr0_1 : Kd.C (Kd.int .i64) w A0_1 l0_1.length l0_1) (hc0_1 : l0_1.length ≤ c0_1) (hr0_2 : Kd.C (Kd.int .i64) w A0_2 l0_2.length l0_2) (hc0_2 : l0_2.length ≤ c0_2) (hr1_1 : Kd.C (Kd.int .i64) w A1_1 l1_1.length l1_1) (hc1_1 : l1_1.length ≤ c1_1) (hr1_2 : Kd.C (Kd.int .i64) w A1_2 l1_2.length l1_2) (hc1_2 : l1_2.length ≤ c1_2) (h : impl_Rat_plus.f k a0_0 l0_1 l0_2 a1_0 l1_1 l1_2 = some (r1, r2, r3)) :
  Calls Try.prog 85 #[.agg #[.bool a0_0, .slice A0_1 l0_1.length c0_1, .slice A0_2 l0_2.length c0_2], .agg #[.bool a1_0, .slice A1_1 l1_1.length c1_1, .slice A1_2 l1_2.length c1_2]] w fun e w' => ∃ v1_ v2_ : Value, e = .returned (.agg #[.bool r1, v1_, v2_]) ∧ Kd.R (Kd.int .i64) 3 w' w.heap.size (fun k_ => nO k_ v2_) v1_ r2 ∧ Kd.R (Kd.int .i64) 3 w' w.heap.size (fun k_ => nO k_ v1_) v2_ r3 ∧ Below w.heap.size w w' := by
 have hu24 := Try.underlying24
 have HR0_1 := Aside0.mk hr0_1
 have HC0_1 := Aside0.mk hc0_1
 clear hr0_1 hc0_1
 have HR0_2 := Aside0.mk hr0_2
 have HC0_2 := Aside0.mk hc0_2
 clear hr0_2 hc0_2
 have HR1_1 := Aside0.mk hr1_1
 have HC1_1 := Aside0.mk hc1_1
 clear hr1_1 hc1_1
 have HR1_2 := Aside0.mk hr1_2
 have HC1_2 := Aside0.mk hc1_2
 clear hr1_2 hc1_2
 have HB := Aside0.mk (Below.refl w.heap.size w)
 have H : ((impl_natMul.f k l0_1 l1_2).bind fun tB2 => ((impl_natMul.f k l1_1 l0_2).bind fun tB1 => ((impl_natMul.f k l0_2 l1_2).bind fun tB3 => (if (a0_0 == a1_0) = true then ((impl_natAdd.f k tB2 tB1).bind fun tC0 => ((impl_lowest.f k a0_0 tC0 tB3).bind fun btB6 => (some (btB6.1, btB6.2.1, btB6.2.2)))) else ((impl_natCmp.f tB2 tB1).bind fun tB7 => (if tB7 ≥ 0 then ((impl_natSub.f k tB2 tB1).bind fun tB8 => ((impl_lowest.f k a0_0 tB8 tB3).bind fun btB4 => (some (btB4.1, btB4.2.1, btB4.2.2)))) else ((impl_natSub.f k tB1 tB2).bind fun tB9 => ((impl_lowest.f k a1_0 tB9 tB3).bind fun btB5 => (some (btB5.1, btB5.2.1, btB5.2.2)))))))))) = some (r1, r2, r3) := h
 clear h
 replace H := Option.bind_eq_some_iff.mp H
 obtain ⟨tB2, A30, H⟩ := H
 replace H : ((impl_natMul.f k l1_1 l0_2).bind fun tB1 => ((impl_natMul.f k l0_2 l1_2).bind fun tB3 => (if (a0_0 == a1_0) = true then ((impl_natAdd.f k tB2 tB1).bind fun tC0 => ((impl_lowest.f k a0_0 tC0 tB3).bind fun btB6 => (some (btB6.1, btB6.2.1, btB6.2.2)))) else ((impl_natCmp.f tB2 tB1).bind fun tB7 => (if tB7 ≥ 0 then ((impl_natSub.f k tB2 tB1).bind fun tB8 => ((impl_lowest.f k a0_0 tB8 tB3).bind fun btB4 => (some (btB4.1, btB4.2.1, btB4.2.2)))) else ((impl_natSub.f k tB1 tB2).bind fun tB9 => ((impl_lowest.f k a1_0 tB9 tB3).bind fun btB5 => (some (btB5.1, btB5.2.1, btB5.2.2))))))))) = some (r1, r2, r3) := H
 have A3 := Aside0.mk A30
 clear A30
 replace H := Option.bind_eq_some_iff.mp H
 obtain ⟨tB1, A40, H⟩ := H
 replace H : ((impl_natMul.f k l0_2 l1_2).bind fun tB3 => (if (a0_0 == a1_0) = true then ((impl_natAdd.f k tB2 tB1).bind fun tC0 => ((impl_lowest.f k a0_0 tC0 tB3).bind fun btB6 => (some (btB6.1, btB6.2.1, btB6.2.2)))) else ((impl_natCmp.f tB2 tB1).bind fun tB7 => (if tB7 ≥ 0 then ((impl_natSub.f k tB2 tB1).bind fun tB8 => ((impl_lowest.f k a0_0 tB8 tB3).bind fun btB4 => (some (btB4.1, btB4.2.1, btB4.2.2)))) else ((impl_natSub.f k tB1 tB2).bind fun tB9 => ((impl_lowest.f k a1_0 tB9 tB3).bind fun btB5 => (some (btB5.1, btB5.2.1, btB5.2.2)))))))) = some (r1, r2, r3) := H
 have A4 := Aside0.mk A40
 clear A40
 replace H := Option.bind_eq_some_iff.mp H
 obtain ⟨tB3, A50, H⟩ := H
 replace H : (if (a0_0 == a1_0) = true then ((impl_natAdd.f k tB2 tB1).bind fun tC0 => ((impl_lowest.f k a0_0 tC0 tB3).bind fun btB6 => (some (btB6.1, btB6.2.1, btB6.2.2)))) else ((impl_natCmp.f tB2 tB1).bind fun tB7 => (if tB7 ≥ 0 then ((impl_natSub.f k tB2 tB1).bind fun tB8 => ((impl_lowest.f k a0_0 tB8 tB3).bind fun btB4 => (some (btB4.1, btB4.2.1, btB4.2.2)))) else ((impl_natSub.f k tB1 tB2).bind fun tB9 => ((impl_lowest.f k a1_0 tB9 tB3).bind fun btB5 => (some (btB5.1, btB5.2.1, btB5.2.2))))))) = some (r1, r2, r3) := H
 have A5 := Aside0.mk A50
 clear A50
 by_cases c6 : (a0_0 == a1_0) = true
 ·
  rw [if_pos c6] at H
  have c6b0 : (a0_0 == a1_0) = true := c6
  (try (have c6b1 : decide (a0_0 = a1_0) = true := by simpa using c6))
  (try (have c6b2 : (a0_0 == a1_0) = true := by simpa using c6))
  clear c6
  replace H := Option.bind_eq_some_iff.mp H
  obtain ⟨tC0, A70, H⟩ := H
  replace H : ((impl_lowest.f k a0_0 tC0 tB3).bind fun btB6 => (some (btB6.1, btB6.2.1, btB6.2.2))) = some (r1, r2, r3) := H
  have A7 := Aside0.mk A70
  clear A70
  replace H := Option.bind_eq_some_iff.mp H
  obtain ⟨⟨tB6, tD7, tD8⟩, A80, H⟩ := H
  replace H : (some (tB6, tD7, tD8)) = some (r1, r2, r3) := H
  have A8 := Aside0.mk A80
  clear A80
  simp only [Option.some.injEq, Prod.mk.injEq] at H
  obtain ⟨rfl, rfl, rfl⟩ := H
  go_enter Try.func85, Try.ntmps85
  try go_wp2_with (first | ((with_reducible refine gate_dst (N := 2) rfl ?_); refine bx_ (N := 2) (cs := #[.bool a0_0, .slice A0_1 l0_1.length c0_1, .slice A0_2 l0_2.length c0_2]) (t := 24) ?_; intro gbA1 hg w9 hbox hb; have BKA1 := Aside0.mk (hbox); have GWA1 := geh hg HB; have GEA1 := geh hg HB; replace HB := bst HB hb; clear hb hbox hg) | ((with_reducible refine gate_dst (N := 3) rfl ?_); refine bx_ (N := 3) (cs := #[.bool a1_0, .slice A1_1 l1_1.length c1_1, .slice A1_2 l1_2.length c1_2]) (t := 24) ?_; intro gbA2 hg w10 hbox hb; have BKA2 := Aside0.mk (hbox); have GWA2 := geh hg HB; have GEA2 := geh hg HB; replace HB := bst HB hb; have NBA1_A2 := nlt hg BKA1; have NBA2_A1 := ngt hg BKA1; replace BKA1 := bkb BKA1 hb; clear hb hbox hg) | ((with_reducible refine gate_dst (N := 4) rfl ?_); refine bx_ (N := 4) (cs := #[.bool false, .slice none 0 0, .slice none 0 0]) (t := 24) ?_; intro gbA0 hg w11 hbox hb; have BKA0 := Aside0.mk (hbox); have GWA0 := geh hg HB; have GEA0 := geh hg HB; replace HB := bst HB hb; have NBA1_A0 := nlt hg BKA1; have NBA0_A1 := ngt hg BKA1; replace BKA1 := bkb BKA1 hb; have NBA2_A0 := nlt hg BKA2; have NBA0_A2 := ngt hg BKA2; replace BKA2 := bkb BKA2 hb; clear hb hbox hg))
  replace BKA1 := Aside0.mk (blk_drew BKA1.out)
  replace BKA2 := Aside0.mk (blk_drew BKA2.out)
  replace BKA0 := Aside0.mk (blk_drew BKA0.out)
  replace HB := Aside0.mk (below_drew1 HB.out)
  refine start_ (n := 12) (S := fun w' => w'.cell? ⟨gbA1, 0, none⟩ = some (.bool a0_0) ∧ w'.cell? ⟨gbA1, 1, none⟩ = some (.slice A0_1 l0_1.length c0_1) ∧ w'.cell? ⟨gbA1, 2, none⟩ = some (.slice A0_2 l0_2.length c0_2) ∧ w'.cell? ⟨gbA2, 0, none⟩ = some (.bool a1_0) ∧ w'.cell? ⟨gbA2, 1, none⟩ = some (.slice A1_1 l1_1.length c1_1) ∧ w'.cell? ⟨gbA2, 2, none⟩ = some (.slice A1_2 l1_2.length c1_2)) (ds := []) (bm 12 0) (by kernel_rfl) rfl rfl ⟨bce BKA1 0 _, bce BKA1 1 _, bce BKA1 2 _, bce BKA2 0 _, bce BKA2 1 _, bce BKA2 2 _⟩ (fun hHeld => ?_); refine with_tabW impl_Rat_plus.tab1 impl_Rat_plus.bits1 (fun HT_ HW_ => ?_)
  generalize w11.drew = w12 at BKA1 BKA2 BKA0 HB hHeld ⊢
  refine pu_ 0 (some 8) (bm 12 1) HT_.out ?_
  refine pu_ 2 (some 10) (bm 12 5) HT_.out ?_
  refine pu_ 5 (some 13) (bm 12 37) HT_.out ?_
  refine pu_ 7 (some 15) (bm 12 165) HT_.out ?_
  refine tk_ 1 (some 9) (bm 12 167) HT_.out HW_.out hHeld ?_
  refine tk_ 3 (some 11) (bm 12 175) HT_.out HW_.out hHeld ?_
  refine tk_ 6 (some 14) (bm 12 239) HT_.out HW_.out hHeld ?_
  refine tk_ 8 (some 16) (bm 12 495) HT_.out HW_.out hHeld ?_
  refine one_ (i := 4) (N := some 12) (bm 12 511) rfl rfl (one_of HT_.out (by kernel_rfl)) (by decide) (fun K hK => ?_)
  refine g_ Try.func95 #[.slice A0_1 l0_1.length c0_1, .slice A1_2 l1_2.length c1_2] ?_
  with_reducible refine (impl_natMul.calls k _ _ l0_1 _ _ l1_2 tB2 _ ?side1 ?side2 ?side3 ?side4 A3.out).mono ?_
  (case side1 => exact crC (Kd.C_below HR0_1.out HB.out))
  (case side2 => exact HC0_1.out)
  (case side3 => exact crC (Kd.C_below HR1_2.out HB.out))
  (case side4 => exact HC1_2.out)
  rintro e w13 ⟨vE7, rfl, ho0, hb⟩
  refine ⟨_, rfl, ?_⟩
  have HOA5 := lwR ho0 HB
  replace BKA1 := bkb BKA1 hb
  replace BKA2 := bkb BKA2 hb
  replace BKA0 := bkb BKA0 hb
  replace HB := bst HB hb
  (try clear hb)
  (try clear hb2)
  (try clear hk)
  (try clear hi)
  (try clear ho0)
  refine hK.out _ _ ⟨bce BKA1 0 _, bce BKA1 1 _, bce BKA1 2 _, bce BKA2 0 _, bce BKA2 1 _, bce BKA2 2 _⟩ (fun hHeld => ?_)
  clear hK K
  refine nm_ 12 ?_
  refine one_ (i := 9) (N := some 17) (bm 12 1023) rfl rfl (one_of HT_.out (by kernel_rfl)) (by decide) (fun K hK => ?_)
  refine g_ Try.func95 #[.slice A1_1 l1_1.length c1_1, .slice A0_2 l0_2.length c0_2] ?_
  with_reducible refine (impl_natMul.calls k _ _ l1_1 _ _ l0_2 tB1 _ ?side1 ?side2 ?side3 ?side4 A4.out).mono ?_
  (case side1 => exact crC (Kd.C_below HR1_1.out HB.out))
  (case side2 => exact HC1_1.out)
  (case side3 => exact crC (Kd.C_below HR0_2.out HB.out))
  (case side4 => exact HC0_2.out)
  rintro e w14 ⟨vE8, rfl, ho0, hb⟩
  refine ⟨_, rfl, ?_⟩
  have HOA7 := lwR (nwR ho0 HOA5) HB
  replace HOA5 := eldR HOA5 (Kd.R_base ho0) hb
  replace BKA1 := bkb BKA1 hb
  replace BKA2 := bkb BKA2 hb
  replace BKA0 := bkb BKA0 hb
  replace HB := bst HB hb
  (try clear hb)
  (try clear hb2)
  (try clear hk)
  (try clear hi)
  (try clear ho0)
  refine hK.out _ _ ⟨bce BKA1 0 _, bce BKA1 1 _, bce BKA1 2 _, bce BKA2 0 _, bce BKA2 1 _, bce BKA2 2 _⟩ (fun hHeld => ?_)
  clear hK K
  refine nm_ 17 ?_
  refine pu_ 10 (some 5) (bm 12 2047) HT_.out ?_
  refine pu_ 11 (some 6) (bm 12 4095) HT_.out ?_
  refine done_ (done_of HT_.out (by kernel_rfl)) ?_
  have hnb15 := NBA1_A2.out
  have hnc15 := NBA2_A1.out
  have hnb16 := NBA1_A0.out
  have hnc16 := NBA0_A1.out
  obtain ⟨hcz17_0, hcz17_1, hcz17_2, hfz17_0, hfz17_1, hfz17_2⟩ := bc3 BKA1
  have hnb18 := NBA2_A0.out
  have hnc18 := NBA0_A2.out
  obtain ⟨hcz19_0, hcz19_1, hcz19_2, hfz19_0, hfz19_1, hfz19_2⟩ := bc3 BKA2
  try go_wp2_with (first | ((with_reducible refine gate_callee (f := 95) rfl ?_); refine gL_ (some 22) Try.func95 #[.slice A0_2 l0_2.length c0_2, .slice A1_2 l1_2.length c1_2] ?_; (with_reducible refine (impl_natMul.calls k _ _ l0_2 _ _ l1_2 tB3 _ ?side1 ?side2 ?side3 ?side4 A5.out).mono ?_); (case side1 => exact crC (Kd.C_below HR0_2.out HB.out)); (case side2 => exact HC0_2.out); (case side3 => exact crC (Kd.C_below HR1_2.out HB.out)); (case side4 => exact HC1_2.out); rintro e w20 ⟨vE9, rfl, ho0, hb⟩; refine ⟨_, rfl, ?_⟩; have HOA8 := lwR (nwR (nwR ho0 HOA5) HOA7) HB; replace HOA5 := eldR HOA5 (Kd.R_base ho0) hb; replace HOA7 := eldR HOA7 (Kd.R_base ho0) hb; replace BKA1 := bkb BKA1 hb; replace BKA2 := bkb BKA2 hb; replace BKA0 := bkb BKA0 hb; replace HB := bst HB hb; (try clear hb); (try clear hb2); (try clear hk); (try clear hi); (try clear ho0); obtain ⟨hcz21_0, hcz21_1, hcz21_2, hfz21_0, hfz21_1, hfz21_2⟩ := bc3 BKA1; obtain ⟨hcz22_0, hcz22_1, hcz22_2, hfz22_0, hfz22_1, hfz22_2⟩ := bc3 BKA2))
  replace HOA5 := Aside0.mk (Kd.R_drew HOA5.out)
  replace HOA7 := Aside0.mk (Kd.R_drew HOA7.out)
  replace HOA8 := Aside0.mk (Kd.R_drew HOA8.out)
  replace BKA1 := Aside0.mk (blk_drew BKA1.out)
  replace BKA2 := Aside0.mk (blk_drew BKA2.out)
  replace BKA0 := Aside0.mk (blk_drew BKA0.out)
  replace HB := Aside0.mk (below_drew1 HB.out)
  obtain ⟨Ao24, co24, eo24⟩ := Kd.R_slice HOA5.out
  (first | subst eo24 | (injection eo24 with f1_ f2_ f3_; have f4_ := f1_.symm; have f5_ := f3_.symm; clear f1_ f2_ f3_; subst f4_; subst f5_))
  obtain ⟨Ao25, co25, eo25⟩ := Kd.R_slice HOA7.out
  (first | subst eo25 | (injection eo25 with f1_ f2_ f3_; have f4_ := f1_.symm; have f5_ := f3_.symm; clear f1_ f2_ f3_; subst f4_; subst f5_))
  refine start_ (n := 8) (S := fun w' => w'.cell? ⟨gbA1, 0, none⟩ = some (.bool a0_0) ∧ w'.cell? ⟨gbA1, 1, none⟩ = some (.slice A0_1 l0_1.length c0_1) ∧ w'.cell? ⟨gbA1, 2, none⟩ = some (.slice A0_2 l0_2.length c0_2)) (ds := []) (bm 8 0) (by kernel_rfl) rfl rfl ⟨bce BKA1 0 _, bce BKA1 1 _, bce BKA1 2 _⟩ (fun hHeld => ?_); refine with_tabW impl_Rat_plus.tab4 impl_Rat_plus.bits4 (fun HT_ HW_ => ?_)
  generalize w20.drew = w23 at HOA5 HOA7 HOA8 BKA1 BKA2 BKA0 HB hHeld ⊢
  refine pu_ 0 (some 29) (bm 8 1) HT_.out ?_
  refine pu_ 2 (some 31) (bm 8 5) HT_.out ?_
  refine pu_ 3 (some 32) (bm 8 13) HT_.out ?_
  refine pu_ 5 (some 34) (bm 8 45) HT_.out ?_
  refine tk_ 1 (some 30) (bm 8 47) HT_.out HW_.out hHeld ?_
  refine one_ (i := 4) (N := some 33) (bm 8 63) rfl rfl (one_of HT_.out (by kernel_rfl)) (by decide) (fun K hK => ?_)
  refine g_ Try.func76 #[.slice Ao24 tB2.length co24, .slice Ao25 tB1.length co25] ?_
  with_reducible refine (impl_natAdd.calls k _ _ tB2 _ _ tB1 tC0 _ ?side1 ?side2 ?side3 ?side4 A7.out).mono ?_
  (case side1 => exact crC (Kd.R_reads' HOA5.out).2.2)
  (case side2 => exact (Kd.R_reads' HOA5.out).2.1)
  (case side3 => exact crC (Kd.R_reads' HOA7.out).2.2)
  (case side4 => exact (Kd.R_reads' HOA7.out).2.1)
  rintro e w26 ⟨vH4, rfl, ho0, hb⟩
  refine ⟨_, rfl, ?_⟩
  have HOC6 := lwR (nwR (nwR (nwR ho0 HOA5) HOA7) HOA8) HB
  replace HOA5 := eldR HOA5 (Kd.R_base ho0) hb
  replace HOA7 := eldR HOA7 (Kd.R_base ho0) hb
  replace HOA8 := eldR HOA8 (Kd.R_base ho0) hb
  replace BKA1 := bkb BKA1 hb
  replace BKA2 := bkb BKA2 hb
  replace BKA0 := bkb BKA0 hb
  replace HB := bst HB hb
  (try clear hb)
  (try clear hb2)
  (try clear hk)
  (try clear hi)
  (try clear ho0)
  obtain ⟨Ao27, co27, eo27⟩ := Kd.R_slice HOC6.out
  (first | subst eo27 | (injection eo27 with f1_ f2_ f3_; have f4_ := f1_.symm; have f5_ := f3_.symm; clear f1_ f2_ f3_; subst f4_; subst f5_))
  obtain ⟨Ao28, co28, eo28⟩ := Kd.R_slice HOA8.out
  (first | subst eo28 | (injection eo28 with f1_ f2_ f3_; have f4_ := f1_.symm; have f5_ := f3_.symm; clear f1_ f2_ f3_; subst f4_; subst f5_))
  refine hK.out _ _ ⟨bce BKA1 0 _, bce BKA1 1 _, bce BKA1 2 _⟩ (fun hHeld => ?_)
  clear hK K
  refine nm_ 33 ?_
  refine one_ (i := 6) (N := some 35) (bm 8 127) rfl rfl (one_of HT_.out (by kernel_rfl)) (by decide) (fun K hK => ?_)
  refine g_ Try.func94 #[.bool a0_0, .slice Ao27 tC0.length co27, .slice Ao28 tB3.length co28] ?_
  with_reducible refine (impl_lowest.calls k a0_0 _ _ tC0 _ _ tB3 tB6 tD7 tD8 _ ?side1 ?side2 ?side3 ?side4 A8.out).mono ?_
  (case side1 => exact crC (Kd.R_reads' HOC6.out).2.2)
  (case side2 => exact (Kd.R_reads' HOC6.out).2.1)
  (case side3 => exact crC (Kd.R_reads' HOA8.out).2.2)
  (case side4 => exact (Kd.R_reads' HOA8.out).2.1)
  rintro e w29 ⟨vH5, vH6, rfl, ho0, ho1, hb⟩
  refine ⟨_, rfl, ?_⟩
  have HOF0 := lwR (nwR (nwR (nwR (nwR ho0 HOA5) HOA7) HOA8) HOC6) HB
  have HOF1 := lwR (nwR (nwR (nwR (nwR ho1 HOA5) HOA7) HOA8) HOC6) HB
  replace HOA5 := tldR HOA5 hb (Kd.R_base ho0) (Kd.R_base ho1)
  replace HOA7 := tldR HOA7 hb (Kd.R_base ho0) (Kd.R_base ho1)
  replace HOA8 := tldR HOA8 hb (Kd.R_base ho0) (Kd.R_base ho1)
  replace HOC6 := tldR HOC6 hb (Kd.R_base ho0) (Kd.R_base ho1)
  replace BKA1 := bkb BKA1 hb
  replace BKA2 := bkb BKA2 hb
  replace BKA0 := bkb BKA0 hb
  replace HB := bst HB hb
  (try clear hb)
  (try clear hb2)
  (try clear hk)
  (try clear hi)
  (try clear ho0)
  (try clear ho1)
  obtain ⟨Ao31, co31, eo31⟩ := Kd.R_slice HOF0.out
  (first | subst eo31 | (injection eo31 with f1_ f2_ f3_; have f4_ := f1_.symm; have f5_ := f3_.symm; clear f1_ f2_ f3_; subst f4_; subst f5_))
  obtain ⟨Ao33, co33, eo33⟩ := Kd.R_slice HOF1.out
  (first | subst eo33 | (injection eo33 with f1_ f2_ f3_; have f4_ := f1_.symm; have f5_ := f3_.symm; clear f1_ f2_ f3_; subst f4_; subst f5_))
  refine hK.out _ _ ⟨bce BKA1 0 _, bce BKA1 1 _, bce BKA1 2 _⟩ (fun hHeld => ?_)
  clear hK K
  refine nm_ 35 ?_
  refine one_ (i := 7) (N := none) (bm 8 255) rfl rfl (one_of HT_.out (by kernel_rfl)) (by decide) (fun K hK => ?_)
  have hs30 : w29.cell? ⟨gbA0, 0, none⟩ = some (.bool false) := bce BKA0 0 _
  have hfs30 := blk_frozen BKA0.out 0
  have hns30_0 := NBA1_A0.out
  have hns30_1 := NBA2_A0.out
  have hms30_0 := NBA0_A1.out
  have hms30_1 := NBA0_A2.out
  have hs32 : w29.cell? ⟨gbA0, 1, none⟩ = some (.slice none 0 0) := bce BKA0 1 _
  have hfs32 := blk_frozen BKA0.out 1
  have hns32_0 := NBA1_A0.out
  have hns32_1 := NBA2_A0.out
  have hms32_0 := NBA0_A1.out
  have hms32_1 := NBA0_A2.out
  have hs34 : w29.cell? ⟨gbA0, 2, none⟩ = some (.slice none 0 0) := bce BKA0 2 _
  have hfs34 := blk_frozen BKA0.out 2
  have hns34_0 := NBA1_A0.out
  have hns34_1 := NBA2_A0.out
  have hms34_0 := NBA0_A1.out
  have hms34_1 := NBA0_A2.out
  refine skip_ (w1 := ?_) (by rfl) rfl ?_ ?_
  rotate_left
  ·
   go_simp
   rfl
  refine hK.out _ _ ⟨((cell_far (p := ⟨gbA0, _, none⟩) NBA1_A0.out _).trans (((cell_far (p := ⟨gbA0, _, none⟩) NBA1_A0.out _).trans (((cell_far (p := ⟨gbA0, _, none⟩) NBA1_A0.out _).trans (hHeld.1)))))), ((cell_far (p := ⟨gbA0, _, none⟩) NBA1_A0.out _).trans (((cell_far (p := ⟨gbA0, _, none⟩) NBA1_A0.out _).trans (((cell_far (p := ⟨gbA0, _, none⟩) NBA1_A0.out _).trans (hHeld.2.1)))))), ((cell_far (p := ⟨gbA0, _, none⟩) NBA1_A0.out _).trans (((cell_far (p := ⟨gbA0, _, none⟩) NBA1_A0.out _).trans (((cell_far (p := ⟨gbA0, _, none⟩) NBA1_A0.out _).trans (hHeld.2.2))))))⟩ (fun hHeld => ?_)
  clear hK K
  refine done_ (done_of HT_.out (by kernel_rfl)) ?_
  try go_wp2
  refine bodyPost_ret (results_cell_row rfl _ _ gbA0 24 #[.bool tB6, .slice Ao31 tD7.length co31, .slice Ao33 tD8.length co33] (0, 0) _ rfl (bp3 BKA0 _ _ _) Try.underlying24 rfl (by kernel_rfl)) rfl ?_
  exact ⟨_, _, er_, (crN HOF0 BKA0 fun _ hk => hk.1.1.1.1.1), (crN HOF1 BKA0 fun _ hk => hk.1.1.1.1.1), blw HB⟩
 ·
  rw [if_neg c6] at H
  have c6b0 : (a0_0 == a1_0) = false := by simpa using c6
  (try (have c6b1 : decide (a0_0 = a1_0) = false := by simpa using c6))
  (try (have c6b2 : (a0_0 == a1_0) = false := by simpa using c6))
  (try (have c6b3 : ¬ (a0_0 = a1_0) := by simpa using c6))
  clear c6
  replace H := Option.bind_eq_some_iff.mp H
  obtain ⟨tB7, AG8, H⟩ := H
  replace H : (if tB7 ≥ 0 then ((impl_natSub.f k tB2 tB1).bind fun tB8 => ((impl_lowest.f k a0_0 tB8 tB3).bind fun btB4 => (some (btB4.1, btB4.2.1, btB4.2.2)))) else ((impl_natSub.f k tB1 tB2).bind fun tB9 => ((impl_lowest.f k a1_0 tB9 tB3).bind fun btB5 => (some (btB5.1, btB5.2.1, btB5.2.2))))) = some (r1, r2, r3) := H
  have A35 := Aside0.mk AG8
  clear AG8
  by_cases c36 : tB7 ≥ 0
  ·
   rw [if_pos c36] at H
   have c36b0 : decide (0 ≤ tB7) = true := decide_eq_true c36
   clear c36
   replace H := Option.bind_eq_some_iff.mp H
   obtain ⟨tB8, AE3, H⟩ := H
   replace H : ((impl_lowest.f k a0_0 tB8 tB3).bind fun btB4 => (some (btB4.1, btB4.2.1, btB4.2.2))) = some (r1, r2, r3) := H
   have A37 := Aside0.mk AE3
   clear AE3
   replace H := Option.bind_eq_some_iff.mp H
   obtain ⟨⟨tB4, tD9, tE0⟩, AG9, H⟩ := H
   replace H : (some (tB4, tD9, tE0)) = some (r1, r2, r3) := H
   have A38 := Aside0.mk AG9
   clear AG9
   simp only [Option.some.injEq, Prod.mk.injEq] at H
   obtain ⟨rfl, rfl, rfl⟩ := H
   go_enter Try.func85, Try.ntmps85
   try go_wp2_with (first | ((with_reducible refine gate_dst (N := 2) rfl ?_); refine bx_ (N := 2) (cs := #[.bool a0_0, .slice A0_1 l0_1.length c0_1, .slice A0_2 l0_2.length c0_2]) (t := 24) ?_; intro gbA1 hg w39 hbox hb; have BKA1 := Aside0.mk (hbox); have GWA1 := geh hg HB; have GEA1 := geh hg HB; replace HB := bst HB hb; clear hb hbox hg) | ((with_reducible refine gate_dst (N := 3) rfl ?_); refine bx_ (N := 3) (cs := #[.bool a1_0, .slice A1_1 l1_1.length c1_1, .slice A1_2 l1_2.length c1_2]) (t := 24) ?_; intro gbA2 hg w40 hbox hb; have BKA2 := Aside0.mk (hbox); have GWA2 := geh hg HB; have GEA2 := geh hg HB; replace HB := bst HB hb; have NBA1_A2 := nlt hg BKA1; have NBA2_A1 := ngt hg BKA1; replace BKA1 := bkb BKA1 hb; clear hb hbox hg) | ((with_reducible refine gate_dst (N := 4) rfl ?_); refine bx_ (N := 4) (cs := #[.bool false, .slice none 0 0, .slice none 0 0]) (t := 24) ?_; intro gbA0 hg w41 hbox hb; have BKA0 := Aside0.mk (hbox); have GWA0 := geh hg HB; have GEA0 := geh hg HB; replace HB := bst HB hb; have NBA1_A0 := nlt hg BKA1; have NBA0_A1 := ngt hg BKA1; replace BKA1 := bkb BKA1 hb; have NBA2_A0 := nlt hg BKA2; have NBA0_A2 := ngt hg BKA2; replace BKA2 := bkb BKA2 hb; clear hb hbox hg))
   replace BKA1 := Aside0.mk (blk_drew BKA1.out)
   replace BKA2 := Aside0.mk (blk_drew BKA2.out)
   replace BKA0 := Aside0.mk (blk_drew BKA0.out)
   replace HB := Aside0.mk (below_drew1 HB.out)
   refine start_ (n := 12) (S := fun w' => w'.cell? ⟨gbA1, 0, none⟩ = some (.bool a0_0) ∧ w'.cell? ⟨gbA1, 1, none⟩ = some (.slice A0_1 l0_1.length c0_1) ∧ w'.cell? ⟨gbA1, 2, none⟩ = some (.slice A0_2 l0_2.length c0_2) ∧ w'.cell? ⟨gbA2, 0, none⟩ = some (.bool a1_0) ∧ w'.cell? ⟨gbA2, 1, none⟩ = some (.slice A1_1 l1_1.length c1_1) ∧ w'.cell? ⟨gbA2, 2, none⟩ = some (.slice A1_2 l1_2.length c1_2)) (ds := []) (bm 12 0) (by kernel_rfl) rfl rfl ⟨bce BKA1 0 _, bce BKA1 1 _, bce BKA1 2 _, bce BKA2 0 _, bce BKA2 1 _, bce BKA2 2 _⟩ (fun hHeld => ?_); refine with_tabW impl_Rat_plus.tab1 impl_Rat_plus.bits1 (fun HT_ HW_ => ?_)
   generalize w41.drew = w42 at BKA1 BKA2 BKA0 HB hHeld ⊢
   refine pu_ 0 (some 8) (bm 12 1) HT_.out ?_
   refine pu_ 2 (some 10) (bm 12 5) HT_.out ?_
   refine pu_ 5 (some 13) (bm 12 37) HT_.out ?_
   refine pu_ 7 (some 15) (bm 12 165) HT_.out ?_
   refine tk_ 1 (some 9) (bm 12 167) HT_.out HW_.out hHeld ?_
   refine tk_ 3 (some 11) (bm 12 175) HT_.out HW_.out hHeld ?_
   refine tk_ 6 (some 14) (bm 12 239) HT_.out HW_.out hHeld ?_
   refine tk_ 8 (some 16) (bm 12 495) HT_.out HW_.out hHeld ?_
   refine one_ (i := 4) (N := some 12) (bm 12 511) rfl rfl (one_of HT_.out (by kernel_rfl)) (by decide) (fun K hK => ?_)
   refine g_ Try.func95 #[.slice A0_1 l0_1.length c0_1, .slice A1_2 l1_2.length c1_2] ?_
   with_reducible refine (impl_natMul.calls k _ _ l0_1 _ _ l1_2 tB2 _ ?side1 ?side2 ?side3 ?side4 A3.out).mono ?_
   (case side1 => exact crC (Kd.C_below HR0_1.out HB.out))
   (case side2 => exact HC0_1.out)
   (case side3 => exact crC (Kd.C_below HR1_2.out HB.out))
   (case side4 => exact HC1_2.out)
   rintro e w43 ⟨vE7, rfl, ho0, hb⟩
   refine ⟨_, rfl, ?_⟩
   have HOA5 := lwR ho0 HB
   replace BKA1 := bkb BKA1 hb
   replace BKA2 := bkb BKA2 hb
   replace BKA0 := bkb BKA0 hb
   replace HB := bst HB hb
   (try clear hb)
   (try clear hb2)
   (try clear hk)
   (try clear hi)
   (try clear ho0)
   refine hK.out _ _ ⟨bce BKA1 0 _, bce BKA1 1 _, bce BKA1 2 _, bce BKA2 0 _, bce BKA2 1 _, bce BKA2 2 _⟩ (fun hHeld => ?_)
   clear hK K
   refine nm_ 12 ?_
   refine one_ (i := 9) (N := some 17) (bm 12 1023) rfl rfl (one_of HT_.out (by kernel_rfl)) (by decide) (fun K hK => ?_)
   refine g_ Try.func95 #[.slice A1_1 l1_1.length c1_1, .slice A0_2 l0_2.length c0_2] ?_
   with_reducible refine (impl_natMul.calls k _ _ l1_1 _ _ l0_2 tB1 _ ?side1 ?side2 ?side3 ?side4 A4.out).mono ?_
   (case side1 => exact crC (Kd.C_below HR1_1.out HB.out))
   (case side2 => exact HC1_1.out)
   (case side3 => exact crC (Kd.C_below HR0_2.out HB.out))
   (case side4 => exact HC0_2.out)
   rintro e w44 ⟨vE8, rfl, ho0, hb⟩
   refine ⟨_, rfl, ?_⟩
   have HOA7 := lwR (nwR ho0 HOA5) HB
   replace HOA5 := eldR HOA5 (Kd.R_base ho0) hb
   replace BKA1 := bkb BKA1 hb
   replace BKA2 := bkb BKA2 hb
   replace BKA0 := bkb BKA0 hb
   replace HB := bst HB hb
   (try clear hb)
   (try clear hb2)
   (try clear hk)
   (try clear hi)
   (try clear ho0)
   refine hK.out _ _ ⟨bce BKA1 0 _, bce BKA1 1 _, bce BKA1 2 _, bce BKA2 0 _, bce BKA2 1 _, bce BKA2 2 _⟩ (fun hHeld => ?_)
   clear hK K
   refine nm_ 17 ?_
   refine pu_ 10 (some 5) (bm 12 2047) HT_.out ?_
   refine pu_ 11 (some 6) (bm 12 4095) HT_.out ?_
   refine done_ (done_of HT_.out (by kernel_rfl)) ?_
   have hnb45 := NBA1_A2.out
   have hnc45 := NBA2_A1.out
   have hnb46 := NBA1_A0.out
   have hnc46 := NBA0_A1.out
   obtain ⟨hcz47_0, hcz47_1, hcz47_2, hfz47_0, hfz47_1, hfz47_2⟩ := bc3 BKA1
   have hnb48 := NBA2_A0.out
   have hnc48 := NBA0_A2.out
   obtain ⟨hcz49_0, hcz49_1, hcz49_2, hfz49_0, hfz49_1, hfz49_2⟩ := bc3 BKA2
   try go_wp2_with (first | ((with_reducible refine gate_callee (f := 95) rfl ?_); refine gL_ (some 22) Try.func95 #[.slice A0_2 l0_2.length c0_2, .slice A1_2 l1_2.length c1_2] ?_; (with_reducible refine (impl_natMul.calls k _ _ l0_2 _ _ l1_2 tB3 _ ?side1 ?side2 ?side3 ?side4 A5.out).mono ?_); (case side1 => exact crC (Kd.C_below HR0_2.out HB.out)); (case side2 => exact HC0_2.out); (case side3 => exact crC (Kd.C_below HR1_2.out HB.out)); (case side4 => exact HC1_2.out); rintro e w50 ⟨vE9, rfl, ho0, hb⟩; refine ⟨_, rfl, ?_⟩; have HOA8 := lwR (nwR (nwR ho0 HOA5) HOA7) HB; replace HOA5 := eldR HOA5 (Kd.R_base ho0) hb; replace HOA7 := eldR HOA7 (Kd.R_base ho0) hb; replace BKA1 := bkb BKA1 hb; replace BKA2 := bkb BKA2 hb; replace BKA0 := bkb BKA0 hb; replace HB := bst HB hb; (try clear hb); (try clear hb2); (try clear hk); (try clear hi); (try clear ho0); obtain ⟨hcz51_0, hcz51_1, hcz51_2, hfz51_0, hfz51_1, hfz51_2⟩ := bc3 BKA1; obtain ⟨hcz52_0, hcz52_1, hcz52_2, hfz52_0, hfz52_1, hfz52_2⟩ := bc3 BKA2; obtain ⟨Ao53, co53, eo53⟩ := Kd.R_slice HOA5.out; subst eo53; obtain ⟨Ao54, co54, eo54⟩ := Kd.R_slice HOA7.out; subst eo54) | ((with_reducible refine gate_callee (f := 60) rfl ?_); refine gL_ (some 39) Try.func60 #[.slice Ao53 tB2.length co53, .slice Ao54 tB1.length co54] ?_; (with_reducible refine (impl_natCmp.calls _ _ tB2 _ _ tB1 tB7 _ ?side1 ?side2 ?side3 ?side4 A35.out).mono ?_); (case side1 => exact crC (Kd.R_reads' HOA5.out).2.2); (case side2 => exact (Kd.R_reads' HOA5.out).2.1); (case side3 => exact crC (Kd.R_reads' HOA7.out).2.2); (case side4 => exact (Kd.R_reads' HOA7.out).2.1); rintro e w55 ⟨rfl, hb⟩; refine ⟨_, rfl, ?_⟩; replace HOA5 := rblR HOA5 hb; replace HOA7 := rblR HOA7 hb; replace HOA8 := rblR HOA8 hb; replace BKA1 := bkb BKA1 hb; replace BKA2 := bkb BKA2 hb; replace BKA0 := bkb BKA0 hb; replace HB := bst HB hb; (try clear hb); (try clear hb2); (try clear hk); (try clear hi)))
   replace HOA5 := Aside0.mk (Kd.R_drew HOA5.out)
   replace HOA7 := Aside0.mk (Kd.R_drew HOA7.out)
   replace HOA8 := Aside0.mk (Kd.R_drew HOA8.out)
   replace BKA1 := Aside0.mk (blk_drew BKA1.out)
   replace BKA2 := Aside0.mk (blk_drew BKA2.out)
   replace BKA0 := Aside0.mk (blk_drew BKA0.out)
   replace HB := Aside0.mk (below_drew1 HB.out)
   refine start_ (n := 8) (S := fun w' => w'.cell? ⟨gbA1, 0, none⟩ = some (.bool a0_0) ∧ w'.cell? ⟨gbA1, 1, none⟩ = some (.slice A0_1 l0_1.length c0_1) ∧ w'.cell? ⟨gbA1, 2, none⟩ = some (.slice A0_2 l0_2.length c0_2)) (ds := []) (bm 8 0) (by kernel_rfl) rfl rfl ⟨bce BKA1 0 _, bce BKA1 1 _, bce BKA1 2 _⟩ (fun hHeld => ?_); refine with_tabW impl_Rat_plus.tab6 impl_Rat_plus.bits6 (fun HT_ HW_ => ?_)
   generalize w55.drew = w56 at HOA5 HOA7 HOA8 BKA1 BKA2 BKA0 HB hHeld ⊢
   refine pu_ 0 (some 41) (bm 8 1) HT_.out ?_
   refine pu_ 2 (some 43) (bm 8 5) HT_.out ?_
   refine pu_ 3 (some 44) (bm 8 13) HT_.out ?_
   refine pu_ 5 (some 46) (bm 8 45) HT_.out ?_
   refine tk_ 1 (some 42) (bm 8 47) HT_.out HW_.out hHeld ?_
   refine one_ (i := 4) (N := some 45) (bm 8 63) rfl rfl (one_of HT_.out (by kernel_rfl)) (by decide) (fun K hK => ?_)
   refine g_ Try.func112 #[.slice Ao53 tB2.length co53, .slice Ao54 tB1.length co54] ?_
   with_reducible refine (impl_natSub.calls k _ _ tB2 _ _ tB1 tB8 _ ?side1 ?side2 ?side3 ?side4 A37.out).mono ?_
   (case side1 => exact crC (Kd.R_reads' HOA5.out).2.2)
   (case side2 => exact (Kd.R_reads' HOA5.out).2.1)
   (case side3 => exact crC (Kd.R_reads' HOA7.out).2.2)
   (case side4 => exact (Kd.R_reads' HOA7.out).2.1)
   rintro e w57 ⟨vH7, rfl, ho0, hb⟩
   refine ⟨_, rfl, ?_⟩
   have HOC7 := lwR (nwR (nwR (nwR ho0 HOA5) HOA7) HOA8) HB
   replace HOA5 := eldR HOA5 (Kd.R_base ho0) hb
   replace HOA7 := eldR HOA7 (Kd.R_base ho0) hb
   replace HOA8 := eldR HOA8 (Kd.R_base ho0) hb
   replace BKA1 := bkb BKA1 hb
   replace BKA2 := bkb BKA2 hb
   replace BKA0 := bkb BKA0 hb
   replace HB := bst HB hb
   (try clear hb)
   (try clear hb2)
   (try clear hk)
   (try clear hi)
   (try clear ho0)
   obtain ⟨Ao58, co58, eo58⟩ := Kd.R_slice HOC7.out
   (first | subst eo58 | (injection eo58 with f1_ f2_ f3_; have f4_ := f1_.symm; have f5_ := f3_.symm; clear f1_ f2_ f3_; subst f4_; subst f5_))
   obtain ⟨Ao59, co59, eo59⟩ := Kd.R_slice HOA8.out
   (first | subst eo59 | (injection eo59 with f1_ f2_ f3_; have f4_ := f1_.symm; have f5_ := f3_.symm; clear f1_ f2_ f3_; subst f4_; subst f5_))
   refine hK.out _ _ ⟨bce BKA1 0 _, bce BKA1 1 _, bce BKA1 2 _⟩ (fun hHeld => ?_)
   clear hK K
   refine nm_ 45 ?_
   refine one_ (i := 6) (N := some 47) (bm 8 127) rfl rfl (one_of HT_.out (by kernel_rfl)) (by decide) (fun K hK => ?_)
   refine g_ Try.func94 #[.bool a0_0, .slice Ao58 tB8.length co58, .slice Ao59 tB3.length co59] ?_
   with_reducible refine (impl_lowest.calls k a0_0 _ _ tB8 _ _ tB3 tB4 tD9 tE0 _ ?side1 ?side2 ?side3 ?side4 A38.out).mono ?_
   (case side1 => exact crC (Kd.R_reads' HOC7.out).2.2)
   (case side2 => exact (Kd.R_reads' HOC7.out).2.1)
   (case side3 => exact crC (Kd.R_reads' HOA8.out).2.2)
   (case side4 => exact (Kd.R_reads' HOA8.out).2.1)
   rintro e w60 ⟨vH8, vH9, rfl, ho0, ho1, hb⟩
   refine ⟨_, rfl, ?_⟩
   have HOF2 := lwR (nwR (nwR (nwR (nwR ho0 HOA5) HOA7) HOA8) HOC7) HB
   have HOF3 := lwR (nwR (nwR (nwR (nwR ho1 HOA5) HOA7) HOA8) HOC7) HB
   replace HOA5 := tldR HOA5 hb (Kd.R_base ho0) (Kd.R_base ho1)
   replace HOA7 := tldR HOA7 hb (Kd.R_base ho0) (Kd.R_base ho1)
   replace HOA8 := tldR HOA8 hb (Kd.R_base ho0) (Kd.R_base ho1)
   replace HOC7 := tldR HOC7 hb (Kd.R_base ho0) (Kd.R_base ho1)
   replace BKA1 := bkb BKA1 hb
   replace BKA2 := bkb BKA2 hb
   replace BKA0 := bkb BKA0 hb
   replace HB := bst HB hb
   (try clear hb)
   (try clear hb2)
   (try clear hk)
   (try clear hi)
   (try clear ho0)
   (try clear ho1)
   obtain ⟨Ao62, co62, eo62⟩ := Kd.R_slice HOF2.out
   (first | subst eo62 | (injection eo62 with f1_ f2_ f3_; have f4_ := f1_.symm; have f5_ := f3_.symm; clear f1_ f2_ f3_; subst f4_; subst f5_))
   obtain ⟨Ao64, co64, eo64⟩ := Kd.R_slice HOF3.out
   (first | subst eo64 | (injection eo64 with f1_ f2_ f3_; have f4_ := f1_.symm; have f5_ := f3_.symm; clear f1_ f2_ f3_; subst f4_; subst f5_))
   refine hK.out _ _ ⟨bce BKA1 0 _, bce BKA1 1 _, bce BKA1 2 _⟩ (fun hHeld => ?_)
   clear hK K
   refine nm_ 47 ?_
   refine one_ (i := 7) (N := none) (bm 8 255) rfl rfl (one_of HT_.out (by kernel_rfl)) (by decide) (fun K hK => ?_)
   have hs61 : w60.cell? ⟨gbA0, 0, none⟩ = some (.bool false) := bce BKA0 0 _
   have hfs61 := blk_frozen BKA0.out 0
   have hns61_0 := NBA1_A0.out
   have hns61_1 := NBA2_A0.out
   have hms61_0 := NBA0_A1.out
   have hms61_1 := NBA0_A2.out
   have hs63 : w60.cell? ⟨gbA0, 1, none⟩ = some (.slice none 0 0) := bce BKA0 1 _
   have hfs63 := blk_frozen BKA0.out 1
   have hns63_0 := NBA1_A0.out
   have hns63_1 := NBA2_A0.out
   have hms63_0 := NBA0_A1.out
   have hms63_1 := NBA0_A2.out
   have hs65 : w60.cell? ⟨gbA0, 2, none⟩ = some (.slice none 0 0) := bce BKA0 2 _
   have hfs65 := blk_frozen BKA0.out 2
   have hns65_0 := NBA1_A0.out
   have hns65_1 := NBA2_A0.out
   have hms65_0 := NBA0_A1.out
   have hms65_1 := NBA0_A2.out
   refine skip_ (w1 := ?_) (by rfl) rfl ?_ ?_
   rotate_left
   ·
    go_simp
    rfl
   refine hK.out _ _ ⟨((cell_far (p := ⟨gbA0, _, none⟩) NBA1_A0.out _).trans (((cell_far (p := ⟨gbA0, _, none⟩) NBA1_A0.out _).trans (((cell_far (p := ⟨gbA0, _, none⟩) NBA1_A0.out _).trans (hHeld.1)))))), ((cell_far (p := ⟨gbA0, _, none⟩) NBA1_A0.out _).trans (((cell_far (p := ⟨gbA0, _, none⟩) NBA1_A0.out _).trans (((cell_far (p := ⟨gbA0, _, none⟩) NBA1_A0.out _).trans (hHeld.2.1)))))), ((cell_far (p := ⟨gbA0, _, none⟩) NBA1_A0.out _).trans (((cell_far (p := ⟨gbA0, _, none⟩) NBA1_A0.out _).trans (((cell_far (p := ⟨gbA0, _, none⟩) NBA1_A0.out _).trans (hHeld.2.2))))))⟩ (fun hHeld => ?_)
   clear hK K
   refine done_ (done_of HT_.out (by kernel_rfl)) ?_
   try go_wp2
   refine bodyPost_ret (results_cell_row rfl _ _ gbA0 24 #[.bool tB4, .slice Ao62 tD9.length co62, .slice Ao64 tE0.length co64] (0, 0) _ rfl (bp3 BKA0 _ _ _) Try.underlying24 rfl (by kernel_rfl)) rfl ?_
   exact ⟨_, _, er_, (crN HOF2 BKA0 fun _ hk => hk.1.1.1.1.1), (crN HOF3 BKA0 fun _ hk => hk.1.1.1.1.1), blw HB⟩
  ·
   rw [if_neg c36] at H
   have c36b0 : decide (0 ≤ tB7) = false := decide_eq_false c36
   clear c36
   replace H := Option.bind_eq_some_iff.mp H
   obtain ⟨tB9, AH0, H⟩ := H
   replace H : ((impl_lowest.f k a1_0 tB9 tB3).bind fun btB5 => (some (btB5.1, btB5.2.1, btB5.2.2))) = some (r1, r2, r3) := H
   have A66 := Aside0.mk AH0
   clear AH0
   replace H := Option.bind_eq_some_iff.mp H
   obtain ⟨⟨tB5, tE1, tE2⟩, AH1, H⟩ := H
   replace H : (some (tB5, tE1, tE2)) = some (r1, r2, r3) := H
   have A67 := Aside0.mk AH1
   clear AH1
   simp only [Option.some.injEq, Prod.mk.injEq] at H
   obtain ⟨rfl, rfl, rfl⟩ := H
   go_enter Try.func85, Try.ntmps85
   try go_wp2_with (first | ((with_reducible refine gate_dst (N := 2) rfl ?_); refine bx_ (N := 2) (cs := #[.bool a0_0, .slice A0_1 l0_1.length c0_1, .slice A0_2 l0_2.length c0_2]) (t := 24) ?_; intro gbA1 hg w68 hbox hb; have BKA1 := Aside0.mk (hbox); have GWA1 := geh hg HB; have GEA1 := geh hg HB; replace HB := bst HB hb; clear hb hbox hg) | ((with_reducible refine gate_dst (N := 3) rfl ?_); refine bx_ (N := 3) (cs := #[.bool a1_0, .slice A1_1 l1_1.length c1_1, .slice A1_2 l1_2.length c1_2]) (t := 24) ?_; intro gbA2 hg w69 hbox hb; have BKA2 := Aside0.mk (hbox); have GWA2 := geh hg HB; have GEA2 := geh hg HB; replace HB := bst HB hb; have NBA1_A2 := nlt hg BKA1; have NBA2_A1 := ngt hg BKA1; replace BKA1 := bkb BKA1 hb; clear hb hbox hg) | ((with_reducible refine gate_dst (N := 4) rfl ?_); refine bx_ (N := 4) (cs := #[.bool false, .slice none 0 0, .slice none 0 0]) (t := 24) ?_; intro gbA0 hg w70 hbox hb; have BKA0 := Aside0.mk (hbox); have GWA0 := geh hg HB; have GEA0 := geh hg HB; replace HB := bst HB hb; have NBA1_A0 := nlt hg BKA1; have NBA0_A1 := ngt hg BKA1; replace BKA1 := bkb BKA1 hb; have NBA2_A0 := nlt hg BKA2; have NBA0_A2 := ngt hg BKA2; replace BKA2 := bkb BKA2 hb; clear hb hbox hg))
   replace BKA1 := Aside0.mk (blk_drew BKA1.out)
   replace BKA2 := Aside0.mk (blk_drew BKA2.out)
   replace BKA0 := Aside0.mk (blk_drew BKA0.out)
   replace HB := Aside0.mk (below_drew1 HB.out)
   refine start_ (n := 12) (S := fun w' => w'.cell? ⟨gbA1, 0, none⟩ = some (.bool a0_0) ∧ w'.cell? ⟨gbA1, 1, none⟩ = some (.slice A0_1 l0_1.length c0_1) ∧ w'.cell? ⟨gbA1, 2, none⟩ = some (.slice A0_2 l0_2.length c0_2) ∧ w'.cell? ⟨gbA2, 0, none⟩ = some (.bool a1_0) ∧ w'.cell? ⟨gbA2, 1, none⟩ = some (.slice A1_1 l1_1.length c1_1) ∧ w'.cell? ⟨gbA2, 2, none⟩ = some (.slice A1_2 l1_2.length c1_2)) (ds := []) (bm 12 0) (by kernel_rfl) rfl rfl ⟨bce BKA1 0 _, bce BKA1 1 _, bce BKA1 2 _, bce BKA2 0 _, bce BKA2 1 _, bce BKA2 2 _⟩ (fun hHeld => ?_); refine with_tabW impl_Rat_plus.tab1 impl_Rat_plus.bits1 (fun HT_ HW_ => ?_)
   generalize w70.drew = w71 at BKA1 BKA2 BKA0 HB hHeld ⊢
   refine pu_ 0 (some 8) (bm 12 1) HT_.out ?_
   refine pu_ 2 (some 10) (bm 12 5) HT_.out ?_
   refine pu_ 5 (some 13) (bm 12 37) HT_.out ?_
   refine pu_ 7 (some 15) (bm 12 165) HT_.out ?_
   refine tk_ 1 (some 9) (bm 12 167) HT_.out HW_.out hHeld ?_
   refine tk_ 3 (some 11) (bm 12 175) HT_.out HW_.out hHeld ?_
   refine tk_ 6 (some 14) (bm 12 239) HT_.out HW_.out hHeld ?_
   refine tk_ 8 (some 16) (bm 12 495) HT_.out HW_.out hHeld ?_
   refine one_ (i := 4) (N := some 12) (bm 12 511) rfl rfl (one_of HT_.out (by kernel_rfl)) (by decide) (fun K hK => ?_)
   refine g_ Try.func95 #[.slice A0_1 l0_1.length c0_1, .slice A1_2 l1_2.length c1_2] ?_
   with_reducible refine (impl_natMul.calls k _ _ l0_1 _ _ l1_2 tB2 _ ?side1 ?side2 ?side3 ?side4 A3.out).mono ?_
   (case side1 => exact crC (Kd.C_below HR0_1.out HB.out))
   (case side2 => exact HC0_1.out)
   (case side3 => exact crC (Kd.C_below HR1_2.out HB.out))
   (case side4 => exact HC1_2.out)
   rintro e w72 ⟨vE7, rfl, ho0, hb⟩
   refine ⟨_, rfl, ?_⟩
   have HOA5 := lwR ho0 HB
   replace BKA1 := bkb BKA1 hb
   replace BKA2 := bkb BKA2 hb
   replace BKA0 := bkb BKA0 hb
   replace HB := bst HB hb
   (try clear hb)
   (try clear hb2)
   (try clear hk)
   (try clear hi)
   (try clear ho0)
   refine hK.out _ _ ⟨bce BKA1 0 _, bce BKA1 1 _, bce BKA1 2 _, bce BKA2 0 _, bce BKA2 1 _, bce BKA2 2 _⟩ (fun hHeld => ?_)
   clear hK K
   refine nm_ 12 ?_
   refine one_ (i := 9) (N := some 17) (bm 12 1023) rfl rfl (one_of HT_.out (by kernel_rfl)) (by decide) (fun K hK => ?_)
   refine g_ Try.func95 #[.slice A1_1 l1_1.length c1_1, .slice A0_2 l0_2.length c0_2] ?_
   with_reducible refine (impl_natMul.calls k _ _ l1_1 _ _ l0_2 tB1 _ ?side1 ?side2 ?side3 ?side4 A4.out).mono ?_
   (case side1 => exact crC (Kd.C_below HR1_1.out HB.out))
   (case side2 => exact HC1_1.out)
   (case side3 => exact crC (Kd.C_below HR0_2.out HB.out))
   (case side4 => exact HC0_2.out)
   rintro e w73 ⟨vE8, rfl, ho0, hb⟩
   refine ⟨_, rfl, ?_⟩
   have HOA7 := lwR (nwR ho0 HOA5) HB
   replace HOA5 := eldR HOA5 (Kd.R_base ho0) hb
   replace BKA1 := bkb BKA1 hb
   replace BKA2 := bkb BKA2 hb
   replace BKA0 := bkb BKA0 hb
   replace HB := bst HB hb
   (try clear hb)
   (try clear hb2)
   (try clear hk)
   (try clear hi)
   (try clear ho0)
   refine hK.out _ _ ⟨bce BKA1 0 _, bce BKA1 1 _, bce BKA1 2 _, bce BKA2 0 _, bce BKA2 1 _, bce BKA2 2 _⟩ (fun hHeld => ?_)
   clear hK K
   refine nm_ 17 ?_
   refine pu_ 10 (some 5) (bm 12 2047) HT_.out ?_
   refine pu_ 11 (some 6) (bm 12 4095) HT_.out ?_
   refine done_ (done_of HT_.out (by kernel_rfl)) ?_
   have hnb74 := NBA1_A2.out
   have hnc74 := NBA2_A1.out
   have hnb75 := NBA1_A0.out
   have hnc75 := NBA0_A1.out
   obtain ⟨hcz76_0, hcz76_1, hcz76_2, hfz76_0, hfz76_1, hfz76_2⟩ := bc3 BKA1
   have hnb77 := NBA2_A0.out
   have hnc77 := NBA0_A2.out
   obtain ⟨hcz78_0, hcz78_1, hcz78_2, hfz78_0, hfz78_1, hfz78_2⟩ := bc3 BKA2
   try go_wp2_with (first | ((with_reducible refine gate_callee (f := 95) rfl ?_); refine gL_ (some 22) Try.func95 #[.slice A0_2 l0_2.length c0_2, .slice A1_2 l1_2.length c1_2] ?_; (with_reducible refine (impl_natMul.calls k _ _ l0_2 _ _ l1_2 tB3 _ ?side1 ?side2 ?side3 ?side4 A5.out).mono ?_); (case side1 => exact crC (Kd.C_below HR0_2.out HB.out)); (case side2 => exact HC0_2.out); (case side3 => exact crC (Kd.C_below HR1_2.out HB.out)); (case side4 => exact HC1_2.out); rintro e w79 ⟨vE9, rfl, ho0, hb⟩; refine ⟨_, rfl, ?_⟩; have HOA8 := lwR (nwR (nwR ho0 HOA5) HOA7) HB; replace HOA5 := eldR HOA5 (Kd.R_base ho0) hb; replace HOA7 := eldR HOA7 (Kd.R_base ho0) hb; replace BKA1 := bkb BKA1 hb; replace BKA2 := bkb BKA2 hb; replace BKA0 := bkb BKA0 hb; replace HB := bst HB hb; (try clear hb); (try clear hb2); (try clear hk); (try clear hi); (try clear ho0); obtain ⟨hcz80_0, hcz80_1, hcz80_2, hfz80_0, hfz80_1, hfz80_2⟩ := bc3 BKA1; obtain ⟨hcz81_0, hcz81_1, hcz81_2, hfz81_0, hfz81_1, hfz81_2⟩ := bc3 BKA2; obtain ⟨Ao82, co82, eo82⟩ := Kd.R_slice HOA5.out; subst eo82; obtain ⟨Ao83, co83, eo83⟩ := Kd.R_slice HOA7.out; subst eo83) | ((with_reducible refine gate_callee (f := 60) rfl ?_); refine gL_ (some 39) Try.func60 #[.slice Ao82 tB2.length co82, .slice Ao83 tB1.length co83] ?_; (with_reducible refine (impl_natCmp.calls _ _ tB2 _ _ tB1 tB7 _ ?side1 ?side2 ?side3 ?side4 A35.out).mono ?_); (case side1 => exact crC (Kd.R_reads' HOA5.out).2.2); (case side2 => exact (Kd.R_reads' HOA5.out).2.1); (case side3 => exact crC (Kd.R_reads' HOA7.out).2.2); (case side4 => exact (Kd.R_reads' HOA7.out).2.1); rintro e w84 ⟨rfl, hb⟩; refine ⟨_, rfl, ?_⟩; replace HOA5 := rblR HOA5 hb; replace HOA7 := rblR HOA7 hb; replace HOA8 := rblR HOA8 hb; replace BKA1 := bkb BKA1 hb; replace BKA2 := bkb BKA2 hb; replace BKA0 := bkb BKA0 hb; replace HB := bst HB hb; (try clear hb); (try clear hb2); (try clear hk); (try clear hi)))
   replace HOA5 := Aside0.mk (Kd.R_drew HOA5.out)
   replace HOA7 := Aside0.mk (Kd.R_drew HOA7.out)
   replace HOA8 := Aside0.mk (Kd.R_drew HOA8.out)
   replace BKA1 := Aside0.mk (blk_drew BKA1.out)
   replace BKA2 := Aside0.mk (blk_drew BKA2.out)
   replace BKA0 := Aside0.mk (blk_drew BKA0.out)
   replace HB := Aside0.mk (below_drew1 HB.out)
   refine start_ (n := 8) (S := fun w' => w'.cell? ⟨gbA2, 0, none⟩ = some (.bool a1_0) ∧ w'.cell? ⟨gbA2, 1, none⟩ = some (.slice A1_1 l1_1.length c1_1) ∧ w'.cell? ⟨gbA2, 2, none⟩ = some (.slice A1_2 l1_2.length c1_2)) (ds := []) (bm 8 0) (by kernel_rfl) rfl rfl ⟨bce BKA2 0 _, bce BKA2 1 _, bce BKA2 2 _⟩ (fun hHeld => ?_); refine with_tabW impl_Rat_plus.tab7 impl_Rat_plus.bits7 (fun HT_ HW_ => ?_)
   generalize w84.drew = w85 at HOA5 HOA7 HOA8 BKA1 BKA2 BKA0 HB hHeld ⊢
   refine pu_ 0 (some 48) (bm 8 1) HT_.out ?_
   refine pu_ 2 (some 50) (bm 8 5) HT_.out ?_
   refine pu_ 3 (some 51) (bm 8 13) HT_.out ?_
   refine pu_ 5 (some 53) (bm 8 45) HT_.out ?_
   refine tk_ 1 (some 49) (bm 8 47) HT_.out HW_.out hHeld ?_
   refine one_ (i := 4) (N := some 52) (bm 8 63) rfl rfl (one_of HT_.out (by kernel_rfl)) (by decide) (fun K hK => ?_)
   refine g_ Try.func112 #[.slice Ao83 tB1.length co83, .slice Ao82 tB2.length co82] ?_
   with_reducible refine (impl_natSub.calls k _ _ tB1 _ _ tB2 tB9 _ ?side1 ?side2 ?side3 ?side4 A66.out).mono ?_
   (case side1 => exact crC (Kd.R_reads' HOA7.out).2.2)
   (case side2 => exact (Kd.R_reads' HOA7.out).2.1)
   (case side3 => exact crC (Kd.R_reads' HOA5.out).2.2)
   (case side4 => exact (Kd.R_reads' HOA5.out).2.1)
   rintro e w86 ⟨vI0, rfl, ho0, hb⟩
   refine ⟨_, rfl, ?_⟩
   have HOC8 := lwR (nwR (nwR (nwR ho0 HOA5) HOA7) HOA8) HB
   replace HOA5 := eldR HOA5 (Kd.R_base ho0) hb
   replace HOA7 := eldR HOA7 (Kd.R_base ho0) hb
   replace HOA8 := eldR HOA8 (Kd.R_base ho0) hb
   replace BKA1 := bkb BKA1 hb
   replace BKA2 := bkb BKA2 hb
   replace BKA0 := bkb BKA0 hb
   replace HB := bst HB hb
   (try clear hb)
   (try clear hb2)
   (try clear hk)
   (try clear hi)
   (try clear ho0)
   obtain ⟨Ao87, co87, eo87⟩ := Kd.R_slice HOC8.out
   (first | subst eo87 | (injection eo87 with f1_ f2_ f3_; have f4_ := f1_.symm; have f5_ := f3_.symm; clear f1_ f2_ f3_; subst f4_; subst f5_))
   obtain ⟨Ao88, co88, eo88⟩ := Kd.R_slice HOA8.out
   (first | subst eo88 | (injection eo88 with f1_ f2_ f3_; have f4_ := f1_.symm; have f5_ := f3_.symm; clear f1_ f2_ f3_; subst f4_; subst f5_))
   refine hK.out _ _ ⟨bce BKA2 0 _, bce BKA2 1 _, bce BKA2 2 _⟩ (fun hHeld => ?_)
   clear hK K
   refine nm_ 52 ?_
   refine one_ (i := 6) (N := some 54) (bm 8 127) rfl rfl (one_of HT_.out (by kernel_rfl)) (by decide) (fun K hK => ?_)
   refine g_ Try.func94 #[.bool a1_0, .slice Ao87 tB9.length co87, .slice Ao88 tB3.length co88] ?_
   with_reducible refine (impl_lowest.calls k a1_0 _ _ tB9 _ _ tB3 tB5 tE1 tE2 _ ?side1 ?side2 ?side3 ?side4 A67.out).mono ?_
   (case side1 => exact crC (Kd.R_reads' HOC8.out).2.2)
   (case side2 => exact (Kd.R_reads' HOC8.out).2.1)
   (case side3 => exact crC (Kd.R_reads' HOA8.out).2.2)
   (case side4 => exact (Kd.R_reads' HOA8.out).2.1)
   rintro e w89 ⟨vI1, vI2, rfl, ho0, ho1, hb⟩
   refine ⟨_, rfl, ?_⟩
   have HOF4 := lwR (nwR (nwR (nwR (nwR ho0 HOA5) HOA7) HOA8) HOC8) HB
   have HOF5 := lwR (nwR (nwR (nwR (nwR ho1 HOA5) HOA7) HOA8) HOC8) HB
   replace HOA5 := tldR HOA5 hb (Kd.R_base ho0) (Kd.R_base ho1)
   replace HOA7 := tldR HOA7 hb (Kd.R_base ho0) (Kd.R_base ho1)
   replace HOA8 := tldR HOA8 hb (Kd.R_base ho0) (Kd.R_base ho1)
   replace HOC8 := tldR HOC8 hb (Kd.R_base ho0) (Kd.R_base ho1)
   replace BKA1 := bkb BKA1 hb
   replace BKA2 := bkb BKA2 hb
   replace BKA0 := bkb BKA0 hb
   replace HB := bst HB hb
   (try clear hb)
   (try clear hb2)
   (try clear hk)
   (try clear hi)
   (try clear ho0)
   (try clear ho1)
   obtain ⟨Ao91, co91, eo91⟩ := Kd.R_slice HOF4.out
   (first | subst eo91 | (injection eo91 with f1_ f2_ f3_; have f4_ := f1_.symm; have f5_ := f3_.symm; clear f1_ f2_ f3_; subst f4_; subst f5_))
   obtain ⟨Ao93, co93, eo93⟩ := Kd.R_slice HOF5.out
   (first | subst eo93 | (injection eo93 with f1_ f2_ f3_; have f4_ := f1_.symm; have f5_ := f3_.symm; clear f1_ f2_ f3_; subst f4_; subst f5_))
   refine hK.out _ _ ⟨bce BKA2 0 _, bce BKA2 1 _, bce BKA2 2 _⟩ (fun hHeld => ?_)
   clear hK K
   refine nm_ 54 ?_
   refine one_ (i := 7) (N := none) (bm 8 255) rfl rfl (one_of HT_.out (by kernel_rfl)) (by decide) (fun K hK => ?_)
   have hs90 : w89.cell? ⟨gbA0, 0, none⟩ = some (.bool false) := bce BKA0 0 _
   have hfs90 := blk_frozen BKA0.out 0
   have hns90_0 := NBA1_A0.out
   have hns90_1 := NBA2_A0.out
   have hms90_0 := NBA0_A1.out
   have hms90_1 := NBA0_A2.out
   have hs92 : w89.cell? ⟨gbA0, 1, none⟩ = some (.slice none 0 0) := bce BKA0 1 _
   have hfs92 := blk_frozen BKA0.out 1
   have hns92_0 := NBA1_A0.out
   have hns92_1 := NBA2_A0.out
   have hms92_0 := NBA0_A1.out
   have hms92_1 := NBA0_A2.out
   have hs94 : w89.cell? ⟨gbA0, 2, none⟩ = some (.slice none 0 0) := bce BKA0 2 _
   have hfs94 := blk_frozen BKA0.out 2
   have hns94_0 := NBA1_A0.out
   have hns94_1 := NBA2_A0.out
   have hms94_0 := NBA0_A1.out
   have hms94_1 := NBA0_A2.out
   refine skip_ (w1 := ?_) (by rfl) rfl ?_ ?_
   rotate_left
   ·
    go_simp
    rfl
   refine hK.out _ _ ⟨((cell_far (p := ⟨gbA0, _, none⟩) NBA2_A0.out _).trans (((cell_far (p := ⟨gbA0, _, none⟩) NBA2_A0.out _).trans (((cell_far (p := ⟨gbA0, _, none⟩) NBA2_A0.out _).trans (hHeld.1)))))), ((cell_far (p := ⟨gbA0, _, none⟩) NBA2_A0.out _).trans (((cell_far (p := ⟨gbA0, _, none⟩) NBA2_A0.out _).trans (((cell_far (p := ⟨gbA0, _, none⟩) NBA2_A0.out _).trans (hHeld.2.1)))))), ((cell_far (p := ⟨gbA0, _, none⟩) NBA2_A0.out _).trans (((cell_far (p := ⟨gbA0, _, none⟩) NBA2_A0.out _).trans (((cell_far (p := ⟨gbA0, _, none⟩) NBA2_A0.out _).trans (hHeld.2.2))))))⟩ (fun hHeld => ?_)
   clear hK K
   refine done_ (done_of HT_.out (by kernel_rfl)) ?_
   try go_wp2
   refine bodyPost_ret (results_cell_row rfl _ _ gbA0 24 #[.bool tB5, .slice Ao91 tE1.length co91, .slice Ao93 tE2.length co93] (0, 0) _ rfl (bp3 BKA0 _ _ _) Try.underlying24 rfl (by kernel_rfl)) rfl ?_
   exact ⟨_, _, er_, (crN HOF4 BKA0 fun _ hk => hk.1.1.1.1.1), (crN HOF5 BKA0 fun _ hk => hk.1.1.1.1.1), blw HB⟩

end Go.Proofs.Ytacdaijalkkogaa.Q
