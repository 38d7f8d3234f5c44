-- written by a program of this claim's session (myprint.py) out of the translation; Lean checks it.
import Derived.Test.YtacdaijalkkogaaQx0
import Derived.Test.YtacdaijalkkogaaSq
import Derived.Test.YtacdaijalkkogaaQxmul
import Derived.Test.YtacdaijalkkogaaQxrk
import Derived.Test.YtacdaijalkkogaaQxrmk
namespace Go.Proofs.Ytacdaijalkkogaa.Q
open Go.RowKit Go.Proofs.YtacdaijalkkogaaW.PrintWords Go.Proofs.YtacdaijalkkogaaW.PrintLast Go.Proofs.YtacdaijalkkogaaW.PrintMore
attribute [local go_sem] max2_int min2_int max_two min_two max_three min_three max_four min_four   -- for this text's walks alone
set_option linter.unusedVariables false
set_option linter.unusedSimpArgs false

def spec_l02Own.f (a0_0 : Bool) (l0_1 : List Int) (l0_2 : List Int) : Option (Bool × List Int × List Int) := (some (([] : List Int) : List Int)).bind fun y237 => (if y237.length + l0_1.length < 17592186044416 then ((some (([] : List Int) : List Int)).bind fun y243 => (if y243.length + l0_2.length < 17592186044416 then (some (a0_0, (y237 ++ l0_1), (y243 ++ l0_2))) else (none))) else (none))
def spec_l02Own.T1 : Bool × List (List Nat × List Nat) := (true, [([], []), ([0], [0]), ([], []), ([], []), ([3], [3]), ([2, 4], [2, 4]), ([], []), ([], []), ([7], [7]), ([6, 8, 5], [6, 8]), ([1, 5, 9], [1, 5, 9]), ([10, 9, 0, 1, 2, 3, 4, 5, 6, 7, 8, 9, 10], [10])])
def spec_l02Own.B1 : List Nat := [0, 1, 0, 0, 8, 28, 0, 0, 128, 508, 1023, 2047]
theorem spec_l02Own.tab1 : rtab .any (opsOf Try.f63 1) = spec_l02Own.T1 := by kernel_rfl
theorem spec_l02Own.bits1 : waitsOk spec_l02Own.T1.2 spec_l02Own.B1 = true := by kernel_rfl
set_option maxHeartbeats 8000000 in
set_option maxRecDepth 100000 in
theorem spec_l02Own.calls (a0_0 : Bool) (A0_1 : Option Addr) (c0_1 : Nat) (l0_1 : List Int) (A0_2 : Option Addr) (c0_2 : Nat) (l0_2 : List Int) (r1 : Bool) (r2 : List Int) (r3 : List Int) (w : World) (hr0_1 : Kd.C (Kd.int .i64) w A0_1 l0_1.length l0_1) (hc0_1 : l0_1.length ≤ c0_1) (hr0_2 : Kd.C (Kd.int .i64) w A0_2 l0_2.length l0_2) (hc0_2 : l0_2.length ≤ c0_2) (h : spec_l02Own.f a0_0 l0_1 l0_2 = some (r1, r2, r3)) :
  Calls Try.prog 63 #[.agg #[.bool a0_0, .slice A0_1 l0_1.length c0_1, .slice A0_2 l0_2.length c0_2]] w fun e w' => ∃ v1_ v2_ : Value, e = .returned (.agg #[.bool r1, v1_, v2_]) ∧ Kd.R (Kd.int .i64) 3 w' w.heap.size (fun k_ => nO k_ v2_) v1_ r2 ∧ Kd.R (Kd.int .i64) 3 w' w.heap.size (fun k_ => nO k_ v1_) v2_ r3 ∧ Below w.heap.size w w' := by
 have hu24 := Try.underlying24
 have HR0_1 := Aside0.mk hr0_1
 have HC0_1 := Aside0.mk hc0_1
 clear hr0_1 hc0_1
 have HR0_2 := Aside0.mk hr0_2
 have HC0_2 := Aside0.mk hc0_2
 clear hr0_2 hc0_2
 have HB := Aside0.mk (Below.refl w.heap.size w)
 have H : ((some (([] : List Int) : List Int)).bind fun y237 => (if y237.length + l0_1.length < 17592186044416 then ((some (([] : List Int) : List Int)).bind fun y243 => (if y243.length + l0_2.length < 17592186044416 then (some (a0_0, (y237 ++ l0_1), (y243 ++ l0_2))) else (none))) else (none))) = some (r1, r2, r3) := h
 clear h
 obtain ⟨y237, hy237⟩ : ∃ y_ : List Int, y_ = (([] : List Int)) := ⟨_, rfl⟩
 replace H : (if y237.length + l0_1.length < 17592186044416 then ((some (([] : List Int) : List Int)).bind fun y243 => (if y243.length + l0_2.length < 17592186044416 then (some (a0_0, (y237 ++ l0_1), (y243 ++ l0_2))) else (none))) else (none)) = some (r1, r2, r3) := by first | (rw [hy237]; with_reducible exact H) | (have H2_ := (Option.bind_some _ _).symm.trans H; rw [hy237]; with_reducible exact H2_) | (have H2_ := (Option.bind_some _ _).symm.trans H; with_reducible exact H2_) | with_reducible exact H | (rw [hy237]; exact H) | exact H
 have Ny237 := Aside0.mk hy237
 clear hy237
 by_cases c2 : y237.length + l0_1.length < 17592186044416
 ·
  rw [if_pos c2] at H
  have LMc2 := Aside0.mk c2
  clear c2
  obtain ⟨y240, hy240⟩ : ∃ y_ : List Int, y_ = (y237 ++ l0_1) := ⟨_, rfl⟩
  replace H : ((some (([] : List Int) : List Int)).bind fun y243 => (if y243.length + l0_2.length < 17592186044416 then (some (a0_0, y240, (y243 ++ l0_2))) else (none))) = some (r1, r2, r3) := by first | (rw [hy240]; with_reducible exact H) | (have H2_ := (Option.bind_some _ _).symm.trans H; rw [hy240]; with_reducible exact H2_) | (have H2_ := (Option.bind_some _ _).symm.trans H; with_reducible exact H2_) | with_reducible exact H | (rw [hy240]; exact H) | exact H
  have Ny240 := Aside0.mk hy240
  clear hy240
  obtain ⟨y243, hy243⟩ : ∃ y_ : List Int, y_ = (([] : List Int)) := ⟨_, rfl⟩
  replace H : (if y243.length + l0_2.length < 17592186044416 then (some (a0_0, y240, (y243 ++ l0_2))) else (none)) = some (r1, r2, r3) := by first | (rw [hy243]; with_reducible exact H) | (have H2_ := (Option.bind_some _ _).symm.trans H; rw [hy243]; with_reducible exact H2_) | (have H2_ := (Option.bind_some _ _).symm.trans H; with_reducible exact H2_) | with_reducible exact H | (rw [hy243]; exact H) | exact H
  have Ny243 := Aside0.mk hy243
  clear hy243
  by_cases c3 : y243.length + l0_2.length < 17592186044416
  ·
   rw [if_pos c3] at H
   have LMc3 := Aside0.mk c3
   clear c3
   obtain ⟨y246, hy246⟩ : ∃ y_ : List Int, y_ = (y243 ++ l0_2) := ⟨_, rfl⟩
   replace H : (some (a0_0, y240, y246)) = some (r1, r2, r3) := by first | (rw [hy246]; with_reducible exact H) | (have H2_ := (Option.bind_some _ _).symm.trans H; rw [hy246]; with_reducible exact H2_) | (have H2_ := (Option.bind_some _ _).symm.trans H; with_reducible exact H2_) | with_reducible exact H | (rw [hy246]; exact H) | exact H
   have Ny246 := Aside0.mk hy246
   clear hy246
   simp only [Option.some.injEq, Prod.mk.injEq] at H
   obtain ⟨rfl, rfl, rfl⟩ := H
   go_enter Try.func63, Try.ntmps63
   try go_wp2_with (first | ((with_reducible refine gate_dst (N := 1) rfl ?_); refine bx_ (N := 1) (cs := #[.bool a0_0, .slice A0_1 l0_1.length c0_1, .slice A0_2 l0_2.length c0_2]) (t := 24) ?_; intro gb235 hg w4 hbox hb; have BK235 := Aside0.mk (hbox); have GW235 := geh hg HB; have GE235 := geh hg HB; replace HB := bst HB hb; clear hb hbox hg) | ((with_reducible refine gate_dst (N := 2) rfl ?_); refine bx_ (N := 2) (cs := #[.bool false, .slice none 0 0, .slice none 0 0]) (t := 24) ?_; intro gb236 hg w5 hbox hb; have BK236 := Aside0.mk (hbox); have GW236 := geh hg HB; have GE236 := geh hg HB; replace HB := bst HB hb; have NB235_236 := nlt hg BK235; have NB236_235 := ngt hg BK235; replace BK235 := bkb BK235 hb; clear hb hbox hg))
   replace BK235 := Aside0.mk (blk_drew BK235.out)
   replace BK236 := Aside0.mk (blk_drew BK236.out)
   replace HB := Aside0.mk (below_drew1 HB.out)
   refine start_ (n := 12) (S := fun w' => w'.cell? ⟨gb235, 0, none⟩ = some (.bool a0_0) ∧ w'.cell? ⟨gb235, 1, none⟩ = some (.slice A0_1 l0_1.length c0_1) ∧ w'.cell? ⟨gb235, 2, none⟩ = some (.slice A0_2 l0_2.length c0_2)) (ds := []) (bm 12 0) (by kernel_rfl) rfl rfl ⟨bce BK235 0 _, bce BK235 1 _, bce BK235 2 _⟩ (fun hHeld => ?_); refine with_tabW spec_l02Own.tab1 spec_l02Own.bits1 (fun HT_ HW_ => ?_)
   generalize w5.drew = w6 at BK235 BK236 HB hHeld ⊢
   refine pu_ 0 (some 3) (bm 12 1) HT_.out ?_
   refine pu_ 3 (some 6) (bm 12 9) HT_.out ?_
   refine pu_ 7 (some 10) (bm 12 137) HT_.out ?_
   refine tk_ 1 (some 4) (bm 12 139) HT_.out HW_.out hHeld ?_
   refine tk_ 4 (some 7) (bm 12 155) HT_.out HW_.out hHeld ?_
   refine tk_ 8 (some 11) (bm 12 411) HT_.out HW_.out hHeld ?_
   refine join_ (σ := Value × Value × Value) 3 (bm 12 511) (fun s_ => [(5, s_.1), (8, s_.2.1), (9, s_.2.2)]) (fun s_ w' => (w'.cell? ⟨gb235, 0, none⟩ = some (.bool a0_0) ∧ w'.cell? ⟨gb235, 1, none⟩ = some (.slice A0_1 l0_1.length c0_1) ∧ w'.cell? ⟨gb235, 2, none⟩ = some (.slice A0_2 l0_2.length c0_2)) ∧ (Kd.R (Kd.int .i64) 3 w' w.heap.size (fun k_ => nO k_ s_.2.2) s_.2.1 y240) ∧ (Kd.R (Kd.int .i64) 3 w' w.heap.size (fun k_ => nO k_ s_.2.1) s_.2.2 y243) ∧ (w'.heap[gb235]? = some (.cells #[.bool a0_0, .slice A0_1 l0_1.length c0_1, .slice A0_2 l0_2.length c0_2] 24 (0, 0))) ∧ (w'.heap[gb236]? = some (.cells #[.bool false, .slice none 0 0, .slice none 0 0] 24 (0, 0))) ∧ (Below w.heap.size w w')) ?_ ?_
   rotate_left
   ·
    intro hCont
    refine two_ (i := 2) (j := 6) (Ni := some 5) (Nj := some 9) (bm 12 415) (bm 12 475) rfl rfl rfl rfl (two_of HT_.out (by kernel_rfl)) (by decide) (by decide) (fun K hK => ?_) (fun K hK => ?_)
    ·
     skip
     refine Kd.R_lit_step (Kd.int .i64) _ 3 ?hg (N := 5) ?hd (xs := ([] : List Int)) (inner := []) (ok := fun _ => True) (okp := fun _ => True) ?hr ?hp (fun _ hk => hk) trivial (Below.refl _ _) (Nat.le_refl _) (by simp) ?_; (case hd => rfl); (case hg => rfl); (case hr => first | (go_simp; done) | (go_simp; rfl)); (case hp => exact (Reps.none _ _))
     intro v238 w7 ho8 hb hg_ hnew_
     clear hg_ hnew_
     (first | rw [← Ny237.out] at ho8 | (simp only [Int.reduceToNat] at ho8; rw [← Ny237.out] at ho8))
     have HO239 := lwR ho8 HB
     replace BK235 := bkb BK235 hb
     replace BK236 := bkb BK236 hb
     replace HB := bst HB hb
     clear hb ho8
     refine hK.out _ _ ⟨bce BK235 0 _, bce BK235 1 _, bce BK235 2 _⟩ (fun hHeld => ?_)
     clear hK K
     refine nm_ 5 ?_
     refine two_ (i := 5) (j := 6) (Ni := some 8) (Nj := some 9) (bm 12 447) (bm 12 479) rfl rfl rfl rfl (two_of HT_.out (by kernel_rfl)) (by decide) (by decide) (fun K hK => ?_) (fun K hK => ?_)
     ·
      skip
      refine Kd.R_append_rows_step (Kd.int .i64) (w0 := w) w.heap.size (by rfl) (.tmp 5) (.tmp 7) 22 3 (.int .i64 0) 8 rfl Try.underlying22 info3 rfl (by decide) (by omega) v238 y237 l0_1 _ _ _ (fun _ => True) (fun _ => False) rfl rfl ?aO ?aR (fun _ _ h => h) (fun _ h => h.elim) ?aF ?aB ?aS ?aL ?_
      (case aR => exact crC (Kd.C_below HR0_1.out HB.out))
      (case aB => exact (blw HB))
      (case aF => exact (fun _ _ => trivial))
      (case aO => exact (crR HO239))
      (case aS => exact (bsz HB))
      (case aL => have := LMc2.out; omega)
      intro v241 w9 ho hb hg hat
      rw [← Ny240.out] at ho
      replace BK235 := Aside0.mk (blk_grown (g := gb235) (o := .cells #[.bool a0_0, .slice A0_1 l0_1.length c0_1, .slice A0_2 l0_2.length c0_2] 24 (0, 0)) (crb BK235) hg (Kd.R_ne HO239.out BK235.out (by decide)))
      replace BK236 := Aside0.mk (blk_grown (g := gb236) (o := .cells #[.bool false, .slice none 0 0, .slice none 0 0] 24 (0, 0)) (crb BK236) hg (Kd.R_ne HO239.out BK236.out (by decide)))
      replace HB := Aside0.mk (hb)
      have HO242 := Aside0.mk (ho)
      clear HO239
      clear ho hb hg hat
      refine hK.out _ _ ⟨bce BK235 0 _, bce BK235 1 _, bce BK235 2 _⟩ (fun hHeld => ?_)
      clear hK K
      refine nm_ 8 ?_
      refine one_ (i := 6) (N := some 9) (bm 12 511) rfl rfl (one_of HT_.out (by kernel_rfl)) (by decide) (fun K hK => ?_)
      refine Kd.R_lit_step (Kd.int .i64) _ 3 ?hg (N := 9) ?hd (xs := ([] : List Int)) (inner := []) (ok := fun _ => True) (okp := fun _ => True) ?hr ?hp (fun _ hk => hk) trivial (Below.refl _ _) (Nat.le_refl _) (by simp) ?_; (case hd => rfl); (case hg => rfl); (case hr => first | (go_simp; done) | (go_simp; rfl)); (case hp => exact (Reps.none _ _))
      intro v244 w10 ho11 hb hg_ hnew_
      clear hg_ hnew_
      (first | rw [← Ny243.out] at ho11 | (simp only [Int.reduceToNat] at ho11; rw [← Ny243.out] at ho11))
      have HO245 := lwR (nwR ho11 HO242) HB
      replace HO242 := eldR HO242 (Kd.R_base ho11) hb
      replace BK235 := bkb BK235 hb
      replace BK236 := bkb BK236 hb
      replace HB := bst HB hb
      clear hb ho11
      refine hK.out _ _ ⟨bce BK235 0 _, bce BK235 1 _, bce BK235 2 _⟩ (fun hHeld => ?_)
      clear hK K
      refine nm_ 9 ?_
      exact nq_ (hCont (v238, v241, v244) _ ⟨hHeld, (crM HO242 fun _ hk => hk.2), (crM HO245 fun _ hk => hk.2), (crb BK235), (crb BK236), (blw HB)⟩)
     ·
      skip
      refine Kd.R_lit_step (Kd.int .i64) _ 3 ?hg (N := 9) ?hd (xs := ([] : List Int)) (inner := []) (ok := fun _ => True) (okp := fun _ => True) ?hr ?hp (fun _ hk => hk) trivial (Below.refl _ _) (Nat.le_refl _) (by simp) ?_; (case hd => rfl); (case hg => rfl); (case hr => first | (go_simp; done) | (go_simp; rfl)); (case hp => exact (Reps.none _ _))
      intro v244 w9 ho10 hb hg_ hnew_
      clear hg_ hnew_
      (first | rw [← Ny243.out] at ho10 | (simp only [Int.reduceToNat] at ho10; rw [← Ny243.out] at ho10))
      have HO245 := lwR (nwR ho10 HO239) HB
      replace HO239 := eldR HO239 (Kd.R_base ho10) hb
      replace BK235 := bkb BK235 hb
      replace BK236 := bkb BK236 hb
      replace HB := bst HB hb
      clear hb ho10
      refine hK.out _ _ ⟨bce BK235 0 _, bce BK235 1 _, bce BK235 2 _⟩ (fun hHeld => ?_)
      clear hK K
      refine nm_ 9 ?_
      refine one_ (i := 5) (N := some 8) (bm 12 511) rfl rfl (one_of HT_.out (by kernel_rfl)) (by decide) (fun K hK => ?_)
      refine Kd.R_append_rows_step (Kd.int .i64) (w0 := w) w.heap.size (by rfl) (.tmp 5) (.tmp 7) 22 3 (.int .i64 0) 8 rfl Try.underlying22 info3 rfl (by decide) (by omega) v238 y237 l0_1 _ _ _ (fun k_ => nO k_ v244) (fun _ => False) rfl rfl ?aO ?aR (fun _ _ h => h) (fun _ h => h.elim) ?aF ?aB ?aS ?aL ?_
      (case aR => exact crC (Kd.C_below HR0_1.out HB.out))
      (case aB => exact (blw HB))
      (case aF => exact (fun k_ hk => Kd.fresh' (Kd.R_lt (crR HO245)) k_ hk))
      (case aO => exact (crM HO239 fun _ hk => hk.2))
      (case aS => exact (bsz HB))
      (case aL => have := LMc2.out; omega)
      intro v241 w11 ho hb hg hat
      rw [← Ny240.out] at ho
      replace BK235 := Aside0.mk (blk_grown (g := gb235) (o := .cells #[.bool a0_0, .slice A0_1 l0_1.length c0_1, .slice A0_2 l0_2.length c0_2] 24 (0, 0)) (crb BK235) hg (Kd.R_ne HO239.out BK235.out (by decide)))
      replace BK236 := Aside0.mk (blk_grown (g := gb236) (o := .cells #[.bool false, .slice none 0 0, .slice none 0 0] 24 (0, 0)) (crb BK236) hg (Kd.R_ne HO239.out BK236.out (by decide)))
      replace HO245 := Aside0.mk (Kd.R_after (ok := (fun _ => True)) (crR HO245) hg hat)
      replace HB := Aside0.mk (hb)
      have HO242 := Aside0.mk (ho)
      clear HO239
      clear ho hb hg hat
      refine hK.out _ _ ⟨bce BK235 0 _, bce BK235 1 _, bce BK235 2 _⟩ (fun hHeld => ?_)
      clear hK K
      refine nm_ 8 ?_
      exact nq_ (hCont (v238, v241, v244) _ ⟨hHeld, (crR HO242), (crM HO245 fun _ hk => hk.2), (crb BK235), (crb BK236), (blw HB)⟩)
    ·
     skip
     refine Kd.R_lit_step (Kd.int .i64) _ 3 ?hg (N := 9) ?hd (xs := ([] : List Int)) (inner := []) (ok := fun _ => True) (okp := fun _ => True) ?hr ?hp (fun _ hk => hk) trivial (Below.refl _ _) (Nat.le_refl _) (by simp) ?_; (case hd => rfl); (case hg => rfl); (case hr => first | (go_simp; done) | (go_simp; rfl)); (case hp => exact (Reps.none _ _))
     intro v244 w7 ho8 hb hg_ hnew_
     clear hg_ hnew_
     (first | rw [← Ny243.out] at ho8 | (simp only [Int.reduceToNat] at ho8; rw [← Ny243.out] at ho8))
     have HO245 := lwR ho8 HB
     replace BK235 := bkb BK235 hb
     replace BK236 := bkb BK236 hb
     replace HB := bst HB hb
     clear hb ho8
     refine hK.out _ _ ⟨bce BK235 0 _, bce BK235 1 _, bce BK235 2 _⟩ (fun hHeld => ?_)
     clear hK K
     refine nm_ 9 ?_
     refine one_ (i := 2) (N := some 5) (bm 12 479) rfl rfl (one_of HT_.out (by kernel_rfl)) (by decide) (fun K hK => ?_)
     refine Kd.R_lit_step (Kd.int .i64) _ 3 ?hg (N := 5) ?hd (xs := ([] : List Int)) (inner := []) (ok := fun _ => True) (okp := fun _ => True) ?hr ?hp (fun _ hk => hk) trivial (Below.refl _ _) (Nat.le_refl _) (by simp) ?_; (case hd => rfl); (case hg => rfl); (case hr => first | (go_simp; done) | (go_simp; rfl)); (case hp => exact (Reps.none _ _))
     intro v238 w9 ho10 hb hg_ hnew_
     clear hg_ hnew_
     (first | rw [← Ny237.out] at ho10 | (simp only [Int.reduceToNat] at ho10; rw [← Ny237.out] at ho10))
     have HO239 := lwR (nwR ho10 HO245) HB
     replace HO245 := eldR HO245 (Kd.R_base ho10) hb
     replace BK235 := bkb BK235 hb
     replace BK236 := bkb BK236 hb
     replace HB := bst HB hb
     clear hb ho10
     refine hK.out _ _ ⟨bce BK235 0 _, bce BK235 1 _, bce BK235 2 _⟩ (fun hHeld => ?_)
     clear hK K
     refine nm_ 5 ?_
     refine one_ (i := 5) (N := some 8) (bm 12 511) rfl rfl (one_of HT_.out (by kernel_rfl)) (by decide) (fun K hK => ?_)
     refine Kd.R_append_rows_step (Kd.int .i64) (w0 := w) w.heap.size (by rfl) (.tmp 5) (.tmp 7) 22 3 (.int .i64 0) 8 rfl Try.underlying22 info3 rfl (by decide) (by omega) v238 y237 l0_1 _ _ _ (fun k_ => nO k_ v244) (fun _ => False) rfl rfl ?aO ?aR (fun _ _ h => h) (fun _ h => h.elim) ?aF ?aB ?aS ?aL ?_
     (case aR => exact crC (Kd.C_below HR0_1.out HB.out))
     (case aB => exact (blw HB))
     (case aF => exact (fun k_ hk => Kd.fresh' (Kd.R_lt (crR HO245)) k_ hk))
     (case aO => exact (crM HO239 fun _ hk => hk.2))
     (case aS => exact (bsz HB))
     (case aL => have := LMc2.out; omega)
     intro v241 w11 ho hb hg hat
     rw [← Ny240.out] at ho
     replace BK235 := Aside0.mk (blk_grown (g := gb235) (o := .cells #[.bool a0_0, .slice A0_1 l0_1.length c0_1, .slice A0_2 l0_2.length c0_2] 24 (0, 0)) (crb BK235) hg (Kd.R_ne HO239.out BK235.out (by decide)))
     replace BK236 := Aside0.mk (blk_grown (g := gb236) (o := .cells #[.bool false, .slice none 0 0, .slice none 0 0] 24 (0, 0)) (crb BK236) hg (Kd.R_ne HO239.out BK236.out (by decide)))
     replace HO245 := Aside0.mk (Kd.R_after (ok := (fun _ => True)) (crR HO245) hg hat)
     replace HB := Aside0.mk (hb)
     have HO242 := Aside0.mk (ho)
     clear HO239
     clear ho hb hg hat
     refine hK.out _ _ ⟨bce BK235 0 _, bce BK235 1 _, bce BK235 2 _⟩ (fun hHeld => ?_)
     clear hK K
     refine nm_ 8 ?_
     exact nq_ (hCont (v238, v241, v244) _ ⟨hHeld, (crR HO242), (crM HO245 fun _ hk => hk.2), (crb BK235), (crb BK236), (blw HB)⟩)
   rintro ⟨v238, v241, v244⟩ w12 ⟨hS_, h0_, h1_, h2_, h3_, h4_⟩
   have HO242 : Aside0 (Kd.R (Kd.int .i64) 3 w12 w.heap.size (fun k_ => nO k_ v244) v241 y240) := ⟨h0_⟩
   have HO245 : Aside0 (Kd.R (Kd.int .i64) 3 w12 w.heap.size (fun k_ => nO k_ v241) v244 y243) := ⟨h1_⟩
   replace BK235 : Aside0 (w12.heap[gb235]? = some (.cells #[.bool a0_0, .slice A0_1 l0_1.length c0_1, .slice A0_2 l0_2.length c0_2] 24 (0, 0))) := ⟨h2_⟩
   replace BK236 : Aside0 (w12.heap[gb236]? = some (.cells #[.bool false, .slice none 0 0, .slice none 0 0] 24 (0, 0))) := ⟨h3_⟩
   replace HB : Aside0 (Below w.heap.size w w12) := ⟨h4_⟩
   clear h0_ h1_ h2_ h3_ h4_
   have hHeld : w12.cell? ⟨gb235, 0, none⟩ = some (.bool a0_0) ∧ w12.cell? ⟨gb235, 1, none⟩ = some (.slice A0_1 l0_1.length c0_1) ∧ w12.cell? ⟨gb235, 2, none⟩ = some (.slice A0_2 l0_2.length c0_2) := hS_
   refine np_ ?_
   refine one_ (i := 9) (N := some 12) (bm 12 1023) rfl rfl (one_of HT_.out (by kernel_rfl)) (by decide) (fun K hK => ?_)
   refine Kd.R_append_rows_step (Kd.int .i64) (w0 := w) w.heap.size (by rfl) (.tmp 9) (.tmp 11) 22 3 (.int .i64 0) 8 rfl Try.underlying22 info3 rfl (by decide) (by omega) v244 y243 l0_2 _ _ _ (fun k_ => nO k_ v241) (fun _ => False) rfl rfl ?aO ?aR (fun _ _ h => h) (fun _ h => h.elim) ?aF ?aB ?aS ?aL ?_
   (case aR => exact crC (Kd.C_below HR0_2.out HB.out))
   (case aB => exact (blw HB))
   (case aF => exact (fun k_ hk => Kd.fresh' (Kd.R_lt (crR HO242)) k_ hk))
   (case aO => exact (crR HO245))
   (case aS => exact (bsz HB))
   (case aL => have := LMc3.out; omega)
   intro v247 w13 ho hb hg hat
   rw [← Ny246.out] at ho
   replace BK235 := Aside0.mk (blk_grown (g := gb235) (o := .cells #[.bool a0_0, .slice A0_1 l0_1.length c0_1, .slice A0_2 l0_2.length c0_2] 24 (0, 0)) (crb BK235) hg (Kd.R_ne HO245.out BK235.out (by decide)))
   replace BK236 := Aside0.mk (blk_grown (g := gb236) (o := .cells #[.bool false, .slice none 0 0, .slice none 0 0] 24 (0, 0)) (crb BK236) hg (Kd.R_ne HO245.out BK236.out (by decide)))
   replace HO242 := Aside0.mk (Kd.R_after (ok := (fun _ => True)) (crM HO242 fun _ hk => ⟨trivial, hk⟩) hg hat)
   replace HB := Aside0.mk (hb)
   have HO248 := Aside0.mk (ho)
   clear HO245
   clear ho hb hg hat
   obtain ⟨Ao14, co14, eo14⟩ := Kd.R_slice HO248.out
   (first | subst eo14 | (injection eo14 with f1_ f2_ f3_; have f4_ := f1_.symm; have f5_ := f3_.symm; clear f1_ f2_ f3_; subst f4_; subst f5_))
   obtain ⟨Ao15, co15, eo15⟩ := Kd.R_slice HO242.out
   (first | subst eo15 | (injection eo15 with f1_ f2_ f3_; have f4_ := f1_.symm; have f5_ := f3_.symm; clear f1_ f2_ f3_; subst f4_; subst f5_))
   refine hK.out _ _ ⟨bce BK235 0 _, bce BK235 1 _, bce BK235 2 _⟩ (fun hHeld => ?_)
   clear hK K
   refine nm_ 12 ?_
   refine pu_ 10 (some 13) (bm 12 2047) HT_.out ?_
   refine one_ (i := 11) (N := none) (bm 12 4095) rfl rfl (one_of HT_.out (by kernel_rfl)) (by decide) (fun K hK => ?_)
   have hs16 : w13.cell? ⟨gb236, 0, none⟩ = some (.bool false) := bce BK236 0 _
   have hfs16 := blk_frozen BK236.out 0
   have hns16_0 := NB235_236.out
   have hms16_0 := NB236_235.out
   have hs17 : w13.cell? ⟨gb236, 1, none⟩ = some (.slice none 0 0) := bce BK236 1 _
   have hfs17 := blk_frozen BK236.out 1
   have hns17_0 := NB235_236.out
   have hms17_0 := NB236_235.out
   have hs18 : w13.cell? ⟨gb236, 2, none⟩ = some (.slice none 0 0) := bce BK236 2 _
   have hfs18 := blk_frozen BK236.out 2
   have hns18_0 := NB235_236.out
   have hms18_0 := NB236_235.out
   refine skip_ (w1 := ?_) (by rfl) rfl ?_ ?_
   rotate_left
   ·
    go_simp
    rfl
   refine hK.out _ _ ⟨((cell_far (p := ⟨gb236, _, none⟩) NB235_236.out _).trans (((cell_far (p := ⟨gb236, _, none⟩) NB235_236.out _).trans (((cell_far (p := ⟨gb236, _, none⟩) NB235_236.out _).trans (hHeld.1)))))), ((cell_far (p := ⟨gb236, _, none⟩) NB235_236.out _).trans (((cell_far (p := ⟨gb236, _, none⟩) NB235_236.out _).trans (((cell_far (p := ⟨gb236, _, none⟩) NB235_236.out _).trans (hHeld.2.1)))))), ((cell_far (p := ⟨gb236, _, none⟩) NB235_236.out _).trans (((cell_far (p := ⟨gb236, _, none⟩) NB235_236.out _).trans (((cell_far (p := ⟨gb236, _, none⟩) NB235_236.out _).trans (hHeld.2.2))))))⟩ (fun hHeld => ?_)
   clear hK K
   refine done_ (done_of HT_.out (by kernel_rfl)) ?_
   try go_wp2
   refine bodyPost_ret (results_cell_row rfl _ _ gb236 24 #[.bool a0_0, .slice Ao15 y240.length co15, .slice Ao14 y246.length co14] (0, 0) _ rfl (bp3 BK236 _ _ _) Try.underlying24 rfl (by kernel_rfl)) rfl ?_
   exact ⟨_, _, er_, (crN HO242 BK236 fun _ hk => hk.1.2), (crN HO248 BK236 fun _ hk => hk.1), blw HB⟩
  ·
   rw [if_neg c3] at H
   exact absurd H (by simp)
 ·
  rw [if_neg c2] at H
  exact absurd H (by simp)

def spec_l02Fits.f (a0_0 : Bool) (l0_1 : List Int) (l0_2 : List Int) : Option (Bool) := if (l0_1.length : Int) ≤ 40 then (some (decide ((l0_2.length : Int) ≤ 40))) else (some false)
set_option maxHeartbeats 8000000 in
set_option maxRecDepth 100000 in
theorem spec_l02Fits.calls (a0_0 : Bool) (A0_1 : Option Addr) (c0_1 : Nat) (l0_1 : List Int) (A0_2 : Option Addr) (c0_2 : Nat) (l0_2 : List Int) (r : Bool) (w : World) (hr0_1 : Kd.C (Kd.int .i64) w A0_1 l0_1.length l0_1) (hc0_1 : l0_1.length ≤ c0_1) (hr0_2 : Kd.C (Kd.int .i64) w A0_2 l0_2.length l0_2) (hc0_2 : l0_2.length ≤ c0_2) (h : spec_l02Fits.f a0_0 l0_1 l0_2 = some r) :
  Calls Try.prog 105 #[.agg #[.bool a0_0, .slice A0_1 l0_1.length c0_1, .slice A0_2 l0_2.length c0_2]] w fun e w' => e = .returned (.bool r) ∧ Below w.heap.size w w' := by
 have hu24 := Try.underlying24
 have HR0_1 := Aside0.mk hr0_1
 have HC0_1 := Aside0.mk hc0_1
 clear hr0_1 hc0_1
 have HR0_2 := Aside0.mk hr0_2
 have HC0_2 := Aside0.mk hc0_2
 clear hr0_2 hc0_2
 have HB := Aside0.mk (Below.refl w.heap.size w)
 have H : (if (l0_1.length : Int) ≤ 40 then (some (decide ((l0_2.length : Int) ≤ 40))) else (some false)) = some r := h
 clear h
 by_cases c2 : (l0_1.length : Int) ≤ 40
 ·
  rw [if_pos c2] at H
  have c2b0 : decide ((l0_1.length : Int) ≤ 40) = true := decide_eq_true c2
  have c2b1 : decide (l0_1.length ≤ 40) = true := decide_eq_true (by omega)
  clear c2
  obtain rfl := Option.some.inj H
  go_enter Try.func105, Try.ntmps105
  go_wp2_with (first | ((with_reducible refine gate_dst (N := 1) rfl ?_); (try (refine gate_guard (by rfl) ?_; dsimp only)); refine bx_ (N := 1) (cs := #[.bool a0_0, .slice A0_1 l0_1.length c0_1, .slice A0_2 l0_2.length c0_2]) (t := 24) ?_; intro gb249 hg w3 hbox hb; have BK249 := Aside0.mk (hbox); have GW249 := geh hg HB; have GE249 := geh hg HB; replace HB := bst HB hb; clear hb hbox hg; obtain ⟨hcz4_0, hcz4_1, hcz4_2, hfz4_0, hfz4_1, hfz4_2⟩ := bc3 BK249))
  go_ret
  exact ⟨er_, blw HB⟩
 ·
  rw [if_neg c2] at H
  have c2b0 : decide ((l0_1.length : Int) ≤ 40) = false := decide_eq_false c2
  have c2b1 : decide (l0_1.length ≤ 40) = false := decide_eq_false (by omega)
  clear c2
  obtain rfl := Option.some.inj H
  go_enter Try.func105, Try.ntmps105
  go_wp2_with (first | ((with_reducible refine gate_dst (N := 1) rfl ?_); (try (refine gate_guard (by rfl) ?_; dsimp only)); refine bx_ (N := 1) (cs := #[.bool a0_0, .slice A0_1 l0_1.length c0_1, .slice A0_2 l0_2.length c0_2]) (t := 24) ?_; intro gb249 hg w5 hbox hb; have BK249 := Aside0.mk (hbox); have GW249 := geh hg HB; have GE249 := geh hg HB; replace HB := bst HB hb; clear hb hbox hg; obtain ⟨hcz6_0, hcz6_1, hcz6_2, hfz6_0, hfz6_1, hfz6_2⟩ := bc3 BK249))
  go_ret
  exact ⟨er_, blw HB⟩

def spec_l02Fit.f (a0_0 : Bool) (l0_1 : List Int) (l0_2 : List Int) : Option (Bool × List Int × List Int × Int) := (spec_l02Fits.f a0_0 l0_1 l0_2).bind fun t252 => (if t252 = true then ((spec_l02Own.f a0_0 l0_1 l0_2).bind fun bt253 => (some (bt253.1, bt253.2.1, bt253.2.2, 0))) else (some (false, ([] : List Int), ([] : List Int), 7)))
set_option maxHeartbeats 8000000 in
set_option maxRecDepth 100000 in
theorem spec_l02Fit.calls (a0_0 : Bool) (A0_1 : Option Addr) (c0_1 : Nat) (l0_1 : List Int) (A0_2 : Option Addr) (c0_2 : Nat) (l0_2 : List Int) (r1 : Bool) (r2 : List Int) (r3 : List Int) (r4 : Int) (w : World) (hr0_1 : Kd.C (Kd.int .i64) w A0_1 l0_1.length l0_1) (hc0_1 : l0_1.length ≤ c0_1) (hr0_2 : Kd.C (Kd.int .i64) w A0_2 l0_2.length l0_2) (hc0_2 : l0_2.length ≤ c0_2) (h : spec_l02Fit.f a0_0 l0_1 l0_2 = some (r1, r2, r3, r4)) :
  Calls Try.prog 70 #[.agg #[.bool a0_0, .slice A0_1 l0_1.length c0_1, .slice A0_2 l0_2.length c0_2]] w fun e w' => ∃ v1_ v2_ : Value, e = .returned (.tuple #[.agg #[.bool r1, v1_, v2_], .int .i64 r4]) ∧ Kd.R (Kd.int .i64) 3 w' w.heap.size (fun k_ => nO k_ v2_) v1_ r2 ∧ Kd.R (Kd.int .i64) 3 w' w.heap.size (fun k_ => nO k_ v1_) v2_ r3 ∧ Below w.heap.size w w' := by
 have hu24 := Try.underlying24
 have HR0_1 := Aside0.mk hr0_1
 have HC0_1 := Aside0.mk hc0_1
 clear hr0_1 hc0_1
 have HR0_2 := Aside0.mk hr0_2
 have HC0_2 := Aside0.mk hc0_2
 clear hr0_2 hc0_2
 have HB := Aside0.mk (Below.refl w.heap.size w)
 have H : ((spec_l02Fits.f a0_0 l0_1 l0_2).bind fun t252 => (if t252 = true then ((spec_l02Own.f a0_0 l0_1 l0_2).bind fun bt253 => (some (bt253.1, bt253.2.1, bt253.2.2, 0))) else (some (false, ([] : List Int), ([] : List Int), 7)))) = some (r1, r2, r3, r4) := h
 clear h
 replace H := Option.bind_eq_some_iff.mp H
 obtain ⟨t252, A20, H⟩ := H
 replace H : (if t252 = true then ((spec_l02Own.f a0_0 l0_1 l0_2).bind fun bt253 => (some (bt253.1, bt253.2.1, bt253.2.2, 0))) else (some (false, ([] : List Int), ([] : List Int), 7))) = some (r1, r2, r3, r4) := H
 have A2 := Aside0.mk A20
 clear A20
 by_cases c3 : t252 = true
 ·
  subst c3
  have H1 : ((spec_l02Own.f a0_0 l0_1 l0_2).bind fun bt253 => (some (bt253.1, bt253.2.1, bt253.2.2, 0))) = some (r1, r2, r3, r4) := by rw [if_pos rfl] at H; exact H
  clear H
  have H := H1
  clear H1
  replace H := Option.bind_eq_some_iff.mp H
  obtain ⟨⟨t253, t254, t257⟩, A40, H⟩ := H
  replace H : (some (t253, t254, t257, 0)) = some (r1, r2, r3, r4) := H
  have A4 := Aside0.mk A40
  clear A40
  simp only [Option.some.injEq, Prod.mk.injEq] at H
  obtain ⟨rfl, rfl, rfl, rfl⟩ := H
  go_enter Try.func70, Try.ntmps70
  go_wp2_with (first | ((with_reducible refine gate_dst (N := 1) rfl ?_); refine bx_ (N := 1) (cs := #[.bool a0_0, .slice A0_1 l0_1.length c0_1, .slice A0_2 l0_2.length c0_2]) (t := 24) ?_; intro gb250 hg w5 hbox hb; have BK250 := Aside0.mk (hbox); have GW250 := geh hg HB; have GE250 := geh hg HB; replace HB := bst HB hb; clear hb hbox hg) | ((with_reducible refine gate_dst (N := 2) rfl ?_); refine bx_ (N := 2) (cs := #[.bool false, .slice none 0 0, .slice none 0 0]) (t := 24) ?_; intro gb251 hg w6 hbox hb; have BK251 := Aside0.mk (hbox); have GW251 := geh hg HB; have GE251 := geh hg HB; replace HB := bst HB hb; have NB250_251 := nlt hg BK250; have NB251_250 := ngt hg BK250; replace BK250 := bkb BK250 hb; clear hb hbox hg; have hnb7 := NB250_251.out; have hnc7 := NB251_250.out; obtain ⟨hcz8_0, hcz8_1, hcz8_2, hfz8_0, hfz8_1, hfz8_2⟩ := bc3 BK250) | ((with_reducible refine gate_callee (f := 105) rfl ?_); refine gL_ (some 5) Try.func105 #[.agg #[.bool a0_0, .slice A0_1 l0_1.length c0_1, .slice A0_2 l0_2.length c0_2]] ?_; (with_reducible refine (spec_l02Fits.calls a0_0 _ _ l0_1 _ _ l0_2 true _ ?side1 ?side2 ?side3 ?side4 A2.out).mono ?_); (case side1 => exact crC (Kd.C_below HR0_1.out HB.out)); (case side2 => exact HC0_1.out); (case side3 => exact crC (Kd.C_below HR0_2.out HB.out)); (case side4 => exact HC0_2.out); rintro e w9 ⟨rfl, hb⟩; refine ⟨_, rfl, ?_⟩; replace BK250 := bkb BK250 hb; replace BK251 := bkb BK251 hb; replace HB := bst HB hb; (try clear hb); (try clear hb2); (try clear hk); (try clear hi); obtain ⟨hcz10_0, hcz10_1, hcz10_2, hfz10_0, hfz10_1, hfz10_2⟩ := bc3 BK250) | ((with_reducible refine gate_callee (f := 63) rfl ?_); refine gL_ (some 9) Try.func63 #[.agg #[.bool a0_0, .slice A0_1 l0_1.length c0_1, .slice A0_2 l0_2.length c0_2]] ?_; (with_reducible refine (spec_l02Own.calls a0_0 _ _ l0_1 _ _ l0_2 t253 t254 t257 _ ?side1 ?side2 ?side3 ?side4 A4.out).mono ?_); (case side1 => exact crC (Kd.C_below HR0_1.out HB.out)); (case side2 => exact HC0_1.out); (case side3 => exact crC (Kd.C_below HR0_2.out HB.out)); (case side4 => exact HC0_2.out); rintro e w11 ⟨v255, v258, rfl, ho0, ho1, hb⟩; refine ⟨_, rfl, ?_⟩; have HO256 := lwR ho0 HB; have HO259 := lwR ho1 HB; replace BK250 := bkb BK250 hb; replace BK251 := bkb BK251 hb; replace HB := bst HB hb; (try clear hb); (try clear hb2); (try clear hk); (try clear hi); (try clear ho0); (try clear ho1); obtain ⟨hcz12_0, hcz12_1, hcz12_2, hfz12_0, hfz12_1, hfz12_2⟩ := bc3 BK251; obtain ⟨Ao13, co13, eo13⟩ := Kd.R_slice HO256.out; subst eo13; obtain ⟨Ao14, co14, eo14⟩ := Kd.R_slice HO259.out; subst eo14))
  refine bodyPost_ret (results_ct rfl _ _ gb251 24 #[.bool t253, .slice Ao13 t254.length co13, .slice Ao14 t257.length co14] (0, 0) _ rfl (bp3 BK251 _ _ _) Try.underlying24 rfl (by kernel_rfl)) rfl ?_
  exact ⟨_, _, er_, (crN HO256 BK251 fun _ hk => hk.1), (crN HO259 BK251 fun _ hk => hk.1), blw HB⟩
 ·
  replace c3 := Bool.eq_false_iff.mpr c3
  subst c3
  have H1 : (some (false, ([] : List Int), ([] : List Int), 7)) = some (r1, r2, r3, r4) := by rw [if_neg (show ¬ (false = true) by decide)] at H; exact H
  clear H
  have H := H1
  clear H1
  simp only [Option.some.injEq, Prod.mk.injEq] at H
  obtain ⟨rfl, rfl, rfl, rfl⟩ := H
  go_enter Try.func70, Try.ntmps70
  go_wp2_with (first | ((with_reducible refine gate_dst (N := 1) rfl ?_); refine bx_ (N := 1) (cs := #[.bool a0_0, .slice A0_1 l0_1.length c0_1, .slice A0_2 l0_2.length c0_2]) (t := 24) ?_; intro gb250 hg w15 hbox hb; have BK250 := Aside0.mk (hbox); have GW250 := geh hg HB; have GE250 := geh hg HB; replace HB := bst HB hb; clear hb hbox hg) | ((with_reducible refine gate_dst (N := 2) rfl ?_); refine bx_ (N := 2) (cs := #[.bool false, .slice none 0 0, .slice none 0 0]) (t := 24) ?_; intro gb251 hg w16 hbox hb; have BK251 := Aside0.mk (hbox); have GW251 := geh hg HB; have GE251 := geh hg HB; replace HB := bst HB hb; have NB250_251 := nlt hg BK250; have NB251_250 := ngt hg BK250; replace BK250 := bkb BK250 hb; clear hb hbox hg; have hnb17 := NB250_251.out; have hnc17 := NB251_250.out; obtain ⟨hcz18_0, hcz18_1, hcz18_2, hfz18_0, hfz18_1, hfz18_2⟩ := bc3 BK250) | ((with_reducible refine gate_callee (f := 105) rfl ?_); refine gL_ (some 5) Try.func105 #[.agg #[.bool a0_0, .slice A0_1 l0_1.length c0_1, .slice A0_2 l0_2.length c0_2]] ?_; (with_reducible refine (spec_l02Fits.calls a0_0 _ _ l0_1 _ _ l0_2 false _ ?side1 ?side2 ?side3 ?side4 A2.out).mono ?_); (case side1 => exact crC (Kd.C_below HR0_1.out HB.out)); (case side2 => exact HC0_1.out); (case side3 => exact crC (Kd.C_below HR0_2.out HB.out)); (case side4 => exact HC0_2.out); rintro e w19 ⟨rfl, hb⟩; refine ⟨_, rfl, ?_⟩; replace BK250 := bkb BK250 hb; replace BK251 := bkb BK251 hb; replace HB := bst HB hb; (try clear hb); (try clear hb2); (try clear hk); (try clear hi); obtain ⟨hcz20_0, hcz20_1, hcz20_2, hfz20_0, hfz20_1, hfz20_2⟩ := bc3 BK251))
  refine bodyPost_ret (results_ct rfl _ _ gb251 24 #[.bool false, .slice none 0 0, .slice none 0 0] (0, 0) _ rfl (bp3 BK251 _ _ _) Try.underlying24 rfl (by kernel_rfl)) rfl ?_
  exact ⟨_, _, er_, by first | exact Kd.R_nil _ _ _ _ _ | exact Kd.N_nil _ _ _ _ _ | exact Kd.V_nil _ _ _ _ _ | exact Kd.Q_nil _ _ _ _ _ | exact Kd.S_nil _ _ _ _ _, by first | exact Kd.R_nil _ _ _ _ _ | exact Kd.N_nil _ _ _ _ _ | exact Kd.V_nil _ _ _ _ _ | exact Kd.Q_nil _ _ _ _ _ | exact Kd.S_nil _ _ _ _ _, blw HB⟩

def spec_l02Ask.f (k : Nat) (a0_0 : Bool) (l0_1 : List Int) (l0_2 : List Int) (a1_0 : Bool) (l1_1 : List Int) (l1_2 : List Int) : Option (Bool) := (spec_RatOK.f k a0_0 l0_1 l0_2).bind fun t732 => (if t732 = true then ((spec_RatOK.f k a1_0 l1_1 l1_2).bind fun t733 => (some t733)) else (some false))
theorem spec_l02Ask.mono : ∀ a0 a1 a2 a3 a4 a5 k, LeO (spec_l02Ask.f k a0 a1 a2 a3 a4 a5) (spec_l02Ask.f (k + 1) a0 a1 a2 a3 a4 a5) := by
 intro a0 a1 a2 a3 a4 a5 k
 unfold spec_l02Ask.f
 repeat' first
   | (with_reducible exact spec_RatOK.mono _ _ _ _)
   | (with_reducible exact LeO.refl _)
   | (with_reducible exact LeO.none _)
   | (with_reducible refine LeO.ite ?_ ?_)
   | (with_reducible refine LeO.bind ?_ (fun _ => ?_))
   | exact spec_RatOK.mono _ _ _ _
   | exact LeO.none _
   | refine LeO.ite ?_ ?_
   | refine LeO.bind ?_ (fun _ => ?_)
set_option maxHeartbeats 8000000 in
set_option maxRecDepth 100000 in
theorem spec_l02Ask.calls (k : Nat) (a0_0 : Bool) (A0_1 : Option Addr) (c0_1 : Nat) (l0_1 : List Int) (A0_2 : Option Addr) (c0_2 : Nat) (l0_2 : List Int) (a1_0 : Bool) (A1_1 : Option Addr) (c1_1 : Nat) (l1_1 : List Int) (A1_2 : Option Addr) (c1_2 : Nat) (l1_2 : List Int) (r : Bool) (w : World) (hr0_1 : Kd.C (Kd.int .i64) w A0_1 l0_1.length l0_1) (hc0_1 : l0_1.length ≤ c0_1) (hr0_2 : Kd.C (Kd.int .i64) w A0_2 l0_2.length l0_2) (hc0_2 : l0_2.length ≤ c0_2) (hr1_1 : Kd.C (Kd.int .i64) w A1_1 l1_1.length l1_1) (hc1_1 : l1_1.length ≤ c1_1) (hr1_2 : Kd.C (Kd.int .i64) w A1_2 l1_2.length l1_2) (hc1_2 : l1_2.length ≤ c1_2) (h : spec_l02Ask.f k a0_0 l0_1 l0_2 a1_0 l1_1 l1_2 = some r) :
  Calls Try.prog 67 #[.agg #[.bool a0_0, .slice A0_1 l0_1.length c0_1, .slice A0_2 l0_2.length c0_2], .agg #[.bool a1_0, .slice A1_1 l1_1.length c1_1, .slice A1_2 l1_2.length c1_2]] w fun e w' => e = .returned (.bool r) ∧ Below w.heap.size w w' := by
 have hu24 := Try.underlying24
 have HR0_1 := Aside0.mk hr0_1
 have HC0_1 := Aside0.mk hc0_1
 clear hr0_1 hc0_1
 have HR0_2 := Aside0.mk hr0_2
 have HC0_2 := Aside0.mk hc0_2
 clear hr0_2 hc0_2
 have HR1_1 := Aside0.mk hr1_1
 have HC1_1 := Aside0.mk hc1_1
 clear hr1_1 hc1_1
 have HR1_2 := Aside0.mk hr1_2
 have HC1_2 := Aside0.mk hc1_2
 clear hr1_2 hc1_2
 have HB := Aside0.mk (Below.refl w.heap.size w)
 have H : ((spec_RatOK.f k a0_0 l0_1 l0_2).bind fun t732 => (if t732 = true then ((spec_RatOK.f k a1_0 l1_1 l1_2).bind fun t733 => (some t733)) else (some false))) = some r := h
 clear h
 replace H := Option.bind_eq_some_iff.mp H
 obtain ⟨t732, A30, H⟩ := H
 replace H : (if t732 = true then ((spec_RatOK.f k a1_0 l1_1 l1_2).bind fun t733 => (some t733)) else (some false)) = some r := H
 have A3 := Aside0.mk A30
 clear A30
 by_cases c4 : t732 = true
 ·
  subst c4
  have H1 : ((spec_RatOK.f k a1_0 l1_1 l1_2).bind fun t733 => (some t733)) = some r := by rw [if_pos rfl] at H; exact H
  clear H
  have H := H1
  clear H1
  replace H := Option.bind_eq_some_iff.mp H
  obtain ⟨t733, A50, H⟩ := H
  replace H : (some t733) = some r := H
  have A5 := Aside0.mk A50
  clear A50
  obtain rfl := Option.some.inj H
  go_enter Try.func67, Try.ntmps67
  go_wp2_with (first | ((with_reducible refine gate_dst (N := 2) rfl ?_); refine bx_ (N := 2) (cs := #[.bool a0_0, .slice A0_1 l0_1.length c0_1, .slice A0_2 l0_2.length c0_2]) (t := 24) ?_; intro gb730 hg w6 hbox hb; have BK730 := Aside0.mk (hbox); have GW730 := geh hg HB; have GE730 := geh hg HB; replace HB := bst HB hb; clear hb hbox hg) | ((with_reducible refine gate_dst (N := 3) rfl ?_); refine bx_ (N := 3) (cs := #[.bool a1_0, .slice A1_1 l1_1.length c1_1, .slice A1_2 l1_2.length c1_2]) (t := 24) ?_; intro gb731 hg w7 hbox hb; have BK731 := Aside0.mk (hbox); have GW731 := geh hg HB; have GE731 := geh hg HB; replace HB := bst HB hb; have NB730_731 := nlt hg BK730; have NB731_730 := ngt hg BK730; replace BK730 := bkb BK730 hb; clear hb hbox hg; have hnb8 := NB730_731.out; have hnc8 := NB731_730.out; obtain ⟨hcz9_0, hcz9_1, hcz9_2, hfz9_0, hfz9_1, hfz9_2⟩ := bc3 BK730) | ((with_reducible refine gate_callee (f := 21) rfl ?_); refine gL_ (some 6) Try.func21 #[.agg #[.bool a0_0, .slice A0_1 l0_1.length c0_1, .slice A0_2 l0_2.length c0_2]] ?_; (with_reducible refine (spec_RatOK.calls k a0_0 _ _ l0_1 _ _ l0_2 true _ ?side1 ?side2 ?side3 ?side4 A3.out).mono ?_); (case side1 => exact crC (Kd.C_below HR0_1.out HB.out)); (case side2 => exact HC0_1.out); (case side3 => exact crC (Kd.C_below HR0_2.out HB.out)); (case side4 => exact HC0_2.out); rintro e w10 ⟨rfl, hb⟩; refine ⟨_, rfl, ?_⟩; replace BK730 := bkb BK730 hb; replace BK731 := bkb BK731 hb; replace HB := bst HB hb; (try clear hb); (try clear hb2); (try clear hk); (try clear hi); obtain ⟨hcz11_0, hcz11_1, hcz11_2, hfz11_0, hfz11_1, hfz11_2⟩ := bc3 BK731) | (go_at_call 21; (with_reducible refine (spec_RatOK.calls k a1_0 _ _ l1_1 _ _ l1_2 t733 _ ?side1 ?side2 ?side3 ?side4 A5.out).mono ?_); (case side1 => exact crC (Kd.C_below HR1_1.out HB.out)); (case side2 => exact HC1_1.out); (case side3 => exact crC (Kd.C_below HR1_2.out HB.out)); (case side4 => exact HC1_2.out); rintro e w12 ⟨rfl, hb⟩; replace BK730 := bkb BK730 hb; replace BK731 := bkb BK731 hb; replace HB := bst HB hb; (try clear hb); (try clear hb2); (try clear hk); (try clear hi)))
  go_ret
  exact ⟨er_, blw HB⟩
 ·
  replace c4 := Bool.eq_false_iff.mpr c4
  subst c4
  have H1 : (some false) = some r := by rw [if_neg (show ¬ (false = true) by decide)] at H; exact H
  clear H
  have H := H1
  clear H1
  obtain rfl := Option.some.inj H
  go_enter Try.func67, Try.ntmps67
  go_wp2_with (first | ((with_reducible refine gate_dst (N := 2) rfl ?_); refine bx_ (N := 2) (cs := #[.bool a0_0, .slice A0_1 l0_1.length c0_1, .slice A0_2 l0_2.length c0_2]) (t := 24) ?_; intro gb730 hg w13 hbox hb; have BK730 := Aside0.mk (hbox); have GW730 := geh hg HB; have GE730 := geh hg HB; replace HB := bst HB hb; clear hb hbox hg) | ((with_reducible refine gate_dst (N := 3) rfl ?_); refine bx_ (N := 3) (cs := #[.bool a1_0, .slice A1_1 l1_1.length c1_1, .slice A1_2 l1_2.length c1_2]) (t := 24) ?_; intro gb731 hg w14 hbox hb; have BK731 := Aside0.mk (hbox); have GW731 := geh hg HB; have GE731 := geh hg HB; replace HB := bst HB hb; have NB730_731 := nlt hg BK730; have NB731_730 := ngt hg BK730; replace BK730 := bkb BK730 hb; clear hb hbox hg; have hnb15 := NB730_731.out; have hnc15 := NB731_730.out; obtain ⟨hcz16_0, hcz16_1, hcz16_2, hfz16_0, hfz16_1, hfz16_2⟩ := bc3 BK730) | ((with_reducible refine gate_callee (f := 21) rfl ?_); refine gL_ (some 6) Try.func21 #[.agg #[.bool a0_0, .slice A0_1 l0_1.length c0_1, .slice A0_2 l0_2.length c0_2]] ?_; (with_reducible refine (spec_RatOK.calls k a0_0 _ _ l0_1 _ _ l0_2 false _ ?side1 ?side2 ?side3 ?side4 A3.out).mono ?_); (case side1 => exact crC (Kd.C_below HR0_1.out HB.out)); (case side2 => exact HC0_1.out); (case side3 => exact crC (Kd.C_below HR0_2.out HB.out)); (case side4 => exact HC0_2.out); rintro e w17 ⟨rfl, hb⟩; refine ⟨_, rfl, ?_⟩; replace BK730 := bkb BK730 hb; replace BK731 := bkb BK731 hb; replace HB := bst HB hb; (try clear hb); (try clear hb2); (try clear hk); (try clear hi)))
  go_ret
  exact ⟨er_, blw HB⟩

end Go.Proofs.Ytacdaijalkkogaa.Q
