-- written by a program of this claim's session (myprint.py) out of the translation; Lean checks it.
import Derived.Test.YtacdaijalkkogaaQx0
import Derived.Test.YtacdaijalkkogaaWords
import Derived.Test.YtacdaijalkkogaaQxrk
import Derived.Test.YtacdaijalkkogaaQxrim
import Derived.Test.YtacdaijalkkogaaQxrsp
namespace Go.Proofs.Ytacdaijalkkogaa.Q
open Go.RowKit Go.Proofs.YtacdaijalkkogaaW.PrintWords Go.Proofs.YtacdaijalkkogaaW.PrintLast Go.Proofs.YtacdaijalkkogaaW.PrintMore
attribute [local go_sem] max2_int min2_int max_two min_two max_three min_three max_four min_four   -- for this text's walks alone
set_option linter.unusedVariables false
set_option linter.unusedSimpArgs false

def impl_DivRat.f (k : Nat) (a0_0 : Bool) (l0_1 : List Int) (l0_2 : List Int) (a1_0 : Bool) (l1_1 : List Int) (l1_2 : List Int) : Option (Bool × List Int × List Int × Int) := (impl_ratsCode.f k (([(⟨a0_0, l0_1, l0_2⟩ : S24), (⟨a1_0, l1_1, l1_2⟩ : S24)] : List (S24)))).bind fun tA8 => ((impl_Rat_isZero.f a1_0 l1_1 l1_2).bind fun tB1 => ((impl_unless.f (!tB1) 9).bind fun tA7 => ((impl_first.f k (([tA8, tA7] : List Int))).bind fun tA5 => (if tA5 = 0 then ((impl_Rat_over.f k a0_0 l0_1 l0_2 a1_0 l1_1 l1_2).bind fun btA4 => ((impl_fullRat.f btA4.1 btA4.2.1 btA4.2.2).bind fun btA3 => (some (btA3.1, btA3.2.1, btA3.2.2.1, btA3.2.2.2)))) else (some (false, ([] : List Int), ([] : List Int), tA5))))))
theorem impl_DivRat.mono : ∀ a0 a1 a2 a3 a4 a5 k, LeO (impl_DivRat.f k a0 a1 a2 a3 a4 a5) (impl_DivRat.f (k + 1) a0 a1 a2 a3 a4 a5) := by
 intro a0 a1 a2 a3 a4 a5 k
 unfold impl_DivRat.f
 repeat' first
   | (with_reducible exact impl_Rat_over.mono _ _ _ _ _ _ _)
   | (with_reducible exact impl_first.mono _ _)
   | (with_reducible exact impl_ratsCode.mono _ _)
   | (with_reducible exact LeO.refl _)
   | (with_reducible exact LeO.none _)
   | (with_reducible refine LeO.ite ?_ ?_)
   | (with_reducible refine LeO.bind ?_ (fun _ => ?_))
   | exact impl_Rat_over.mono _ _ _ _ _ _ _
   | exact impl_first.mono _ _
   | exact impl_ratsCode.mono _ _
   | exact LeO.none _
   | refine LeO.ite ?_ ?_
   | refine LeO.bind ?_ (fun _ => ?_)
def impl_DivRat.T1 : Bool × List (List Nat × List Nat) := (true, [([], []), ([], []), ([0, 1], [0, 1]), ([2], [2]), ([], []), ([4, 3], [4]), ([5], [5]), ([6, 5], [6]), ([3, 7], [3, 7]), ([8, 7], [8]), ([9, 9, 0, 1, 2, 3, 4, 5, 6, 7, 8, 9], [9])])
def impl_DivRat.B1 : List Nat := [0, 0, 3, 7, 0, 31, 63, 127, 255, 511, 1023]
theorem impl_DivRat.tab1 : rtab .any (opsOf Try.f33 1) = impl_DivRat.T1 := by kernel_rfl
theorem impl_DivRat.bits1 : waitsOk impl_DivRat.T1.2 impl_DivRat.B1 = true := by kernel_rfl
set_option maxHeartbeats 8000000 in
set_option maxRecDepth 100000 in
theorem impl_DivRat.calls (k : Nat) (a0_0 : Bool) (P0_1_ : Nat → Prop) (A0_1 : Option Addr) (c0_1 : Nat) (l0_1 : List Int) (P0_2_ : Nat → Prop) (A0_2 : Option Addr) (c0_2 : Nat) (l0_2 : List Int) (a1_0 : Bool) (P1_1_ : Nat → Prop) (A1_1 : Option Addr) (c1_1 : Nat) (l1_1 : List Int) (P1_2_ : Nat → Prop) (A1_2 : Option Addr) (c1_2 : Nat) (l1_2 : List Int) (r1 : Bool) (r2 : List Int) (r3 : List Int) (r4 : Int) (w : World) (hs0_1 : Kd.V (Kd.int .i64) 3 w w.heap.size (fun k_ => P0_1_ k_) (.slice A0_1 l0_1.length c0_1) l0_1) (hs0_2 : Kd.V (Kd.int .i64) 3 w w.heap.size (fun k_ => P0_2_ k_) (.slice A0_2 l0_2.length c0_2) l0_2) (hs1_1 : Kd.V (Kd.int .i64) 3 w w.heap.size (fun k_ => P1_1_ k_) (.slice A1_1 l1_1.length c1_1) l1_1) (hs1_2 : Kd.V (Kd.int .i64) 3 w w.heap.size (fun k_ => P1_2_ k_) (.slice A1_2 l1_2.length c1_2) l1_2) (h : impl_DivRat.f k a0_0 l0_1 l0_2 a1_0 l1_1 l1_2 = some (r1, r2, r3, r4)) :
  Calls Try.prog 33 #[.agg #[.bool a0_0, .slice A0_1 l0_1.length c0_1, .slice A0_2 l0_2.length c0_2], .agg #[.bool a1_0, .slice A1_1 l1_1.length c1_1, .slice A1_2 l1_2.length c1_2]] w fun e w' => ∃ v1_ v2_ : Value, e = .returned (.tuple #[.agg #[.bool r1, v1_, v2_], .int .i64 r4]) ∧ Kd.R (Kd.int .i64) 3 w' w.heap.size (fun k_ => (w.heap.size ≤ k_) ∧ nO k_ v2_) v1_ r2 ∧ Kd.R (Kd.int .i64) 3 w' w.heap.size (fun k_ => (w.heap.size ≤ k_) ∧ nO k_ v1_) v2_ r3 ∧ Below w.heap.size w w' := by
 have hu24 := Try.underlying24
 have HO0_1 := Aside0.mk (show Kd.V (Kd.int .i64) 3 w w.heap.size (fun k_ => ((P0_1_ k_ ∨ P0_2_ k_ ∨ P1_1_ k_ ∨ P1_2_ k_) ∨ w.heap.size ≤ k_)) (.slice A0_1 l0_1.length c0_1) l0_1 from Kd.V_mono hs0_1 (fun k_ hk => .inl (.inl hk)))
 have HO0_2 := Aside0.mk (show Kd.V (Kd.int .i64) 3 w w.heap.size (fun k_ => ((P0_1_ k_ ∨ P0_2_ k_ ∨ P1_1_ k_ ∨ P1_2_ k_) ∨ w.heap.size ≤ k_)) (.slice A0_2 l0_2.length c0_2) l0_2 from Kd.V_mono hs0_2 (fun k_ hk => .inl (.inr (.inl hk))))
 have HO1_1 := Aside0.mk (show Kd.V (Kd.int .i64) 3 w w.heap.size (fun k_ => ((P0_1_ k_ ∨ P0_2_ k_ ∨ P1_1_ k_ ∨ P1_2_ k_) ∨ w.heap.size ≤ k_)) (.slice A1_1 l1_1.length c1_1) l1_1 from Kd.V_mono hs1_1 (fun k_ hk => .inl (.inr (.inr (.inl hk)))))
 have HO1_2 := Aside0.mk (show Kd.V (Kd.int .i64) 3 w w.heap.size (fun k_ => ((P0_1_ k_ ∨ P0_2_ k_ ∨ P1_1_ k_ ∨ P1_2_ k_) ∨ w.heap.size ≤ k_)) (.slice A1_2 l1_2.length c1_2) l1_2 from Kd.V_mono hs1_2 (fun k_ hk => .inl (.inr (.inr (.inr hk)))))
 have HB := Aside0.mk (Below.refl w.heap.size w)
 have H : ((impl_ratsCode.f k (([(⟨a0_0, l0_1, l0_2⟩ : S24), (⟨a1_0, l1_1, l1_2⟩ : S24)] : List (S24)))).bind fun tA8 => ((impl_Rat_isZero.f a1_0 l1_1 l1_2).bind fun tB1 => ((impl_unless.f (!tB1) 9).bind fun tA7 => ((impl_first.f k (([tA8, tA7] : List Int))).bind fun tA5 => (if tA5 = 0 then ((impl_Rat_over.f k a0_0 l0_1 l0_2 a1_0 l1_1 l1_2).bind fun btA4 => ((impl_fullRat.f btA4.1 btA4.2.1 btA4.2.2).bind fun btA3 => (some (btA3.1, btA3.2.1, btA3.2.2.1, btA3.2.2.2)))) else (some (false, ([] : List Int), ([] : List Int), tA5))))))) = some (r1, r2, r3, r4) := h
 clear h
 obtain ⟨yB2, hy424⟩ : ∃ y_ : List (S24), y_ = (([(⟨a0_0, l0_1, l0_2⟩ : S24), (⟨a1_0, l1_1, l1_2⟩ : S24)] : List (S24))) := ⟨_, rfl⟩
 replace H : ((impl_ratsCode.f k yB2).bind fun tA8 => ((impl_Rat_isZero.f a1_0 l1_1 l1_2).bind fun tB1 => ((impl_unless.f (!tB1) 9).bind fun tA7 => ((impl_first.f k (([tA8, tA7] : List Int))).bind fun tA5 => (if tA5 = 0 then ((impl_Rat_over.f k a0_0 l0_1 l0_2 a1_0 l1_1 l1_2).bind fun btA4 => ((impl_fullRat.f btA4.1 btA4.2.1 btA4.2.2).bind fun btA3 => (some (btA3.1, btA3.2.1, btA3.2.2.1, btA3.2.2.2)))) else (some (false, ([] : List Int), ([] : List Int), tA5))))))) = some (r1, r2, r3, r4) := by first | (rw [hy424]; with_reducible exact H) | (have H2_ := (Option.bind_some _ _).symm.trans H; rw [hy424]; with_reducible exact H2_) | (have H2_ := (Option.bind_some _ _).symm.trans H; with_reducible exact H2_) | with_reducible exact H | (rw [hy424]; exact H) | exact H
 have NyB2 := Aside0.mk hy424
 clear hy424
 replace H := Option.bind_eq_some_iff.mp H
 obtain ⟨tA8, A30, H⟩ := H
 replace H : ((impl_Rat_isZero.f a1_0 l1_1 l1_2).bind fun tB1 => ((impl_unless.f (!tB1) 9).bind fun tA7 => ((impl_first.f k (([tA8, tA7] : List Int))).bind fun tA5 => (if tA5 = 0 then ((impl_Rat_over.f k a0_0 l0_1 l0_2 a1_0 l1_1 l1_2).bind fun btA4 => ((impl_fullRat.f btA4.1 btA4.2.1 btA4.2.2).bind fun btA3 => (some (btA3.1, btA3.2.1, btA3.2.2.1, btA3.2.2.2)))) else (some (false, ([] : List Int), ([] : List Int), tA5)))))) = some (r1, r2, r3, r4) := H
 have A3 := Aside0.mk A30
 clear A30
 replace H := Option.bind_eq_some_iff.mp H
 obtain ⟨tB1, A40, H⟩ := H
 replace H : ((impl_unless.f (!tB1) 9).bind fun tA7 => ((impl_first.f k (([tA8, tA7] : List Int))).bind fun tA5 => (if tA5 = 0 then ((impl_Rat_over.f k a0_0 l0_1 l0_2 a1_0 l1_1 l1_2).bind fun btA4 => ((impl_fullRat.f btA4.1 btA4.2.1 btA4.2.2).bind fun btA3 => (some (btA3.1, btA3.2.1, btA3.2.2.1, btA3.2.2.2)))) else (some (false, ([] : List Int), ([] : List Int), tA5))))) = some (r1, r2, r3, r4) := H
 have A4 := Aside0.mk A40
 clear A40
 replace H := Option.bind_eq_some_iff.mp H
 obtain ⟨tA7, A50, H⟩ := H
 replace H : ((impl_first.f k (([tA8, tA7] : List Int))).bind fun tA5 => (if tA5 = 0 then ((impl_Rat_over.f k a0_0 l0_1 l0_2 a1_0 l1_1 l1_2).bind fun btA4 => ((impl_fullRat.f btA4.1 btA4.2.1 btA4.2.2).bind fun btA3 => (some (btA3.1, btA3.2.1, btA3.2.2.1, btA3.2.2.2)))) else (some (false, ([] : List Int), ([] : List Int), tA5)))) = some (r1, r2, r3, r4) := H
 have A5 := Aside0.mk A50
 clear A50
 obtain ⟨yB0, hy430⟩ : ∃ y_ : List Int, y_ = (([tA8, tA7] : List Int)) := ⟨_, rfl⟩
 replace H : ((impl_first.f k yB0).bind fun tA5 => (if tA5 = 0 then ((impl_Rat_over.f k a0_0 l0_1 l0_2 a1_0 l1_1 l1_2).bind fun btA4 => ((impl_fullRat.f btA4.1 btA4.2.1 btA4.2.2).bind fun btA3 => (some (btA3.1, btA3.2.1, btA3.2.2.1, btA3.2.2.2)))) else (some (false, ([] : List Int), ([] : List Int), tA5)))) = some (r1, r2, r3, r4) := by first | (rw [hy430]; with_reducible exact H) | (have H2_ := (Option.bind_some _ _).symm.trans H; rw [hy430]; with_reducible exact H2_) | (have H2_ := (Option.bind_some _ _).symm.trans H; with_reducible exact H2_) | with_reducible exact H | (rw [hy430]; exact H) | exact H
 have NyB0 := Aside0.mk hy430
 clear hy430
 replace H := Option.bind_eq_some_iff.mp H
 obtain ⟨tA5, A60, H⟩ := H
 replace H : (if tA5 = 0 then ((impl_Rat_over.f k a0_0 l0_1 l0_2 a1_0 l1_1 l1_2).bind fun btA4 => ((impl_fullRat.f btA4.1 btA4.2.1 btA4.2.2).bind fun btA3 => (some (btA3.1, btA3.2.1, btA3.2.2.1, btA3.2.2.2)))) else (some (false, ([] : List Int), ([] : List Int), tA5))) = some (r1, r2, r3, r4) := H
 have A6 := Aside0.mk A60
 clear A60
 by_cases c7 : tA5 = 0
 ·
  rw [if_pos c7] at H
  have c7b0 : (tA5 == 0) = true := beq_iff_eq.mpr c7
  have c7b1 : (tA5 != 0) = false := bne_eq_false_iff_eq.mpr c7
  clear c7
  replace H := Option.bind_eq_some_iff.mp H
  obtain ⟨⟨tA4, tB7, tB8⟩, A80, H⟩ := H
  replace H : ((impl_fullRat.f tA4 tB7 tB8).bind fun btA3 => (some (btA3.1, btA3.2.1, btA3.2.2.1, btA3.2.2.2))) = some (r1, r2, r3, r4) := H
  have A8 := Aside0.mk A80
  clear A80
  replace H := Option.bind_eq_some_iff.mp H
  obtain ⟨⟨tA3, tB9, tC0, tC1⟩, A90, H⟩ := H
  replace H : (some (tA3, tB9, tC0, tC1)) = some (r1, r2, r3, r4) := H
  have A9 := Aside0.mk A90
  clear A90
  simp only [Option.some.injEq, Prod.mk.injEq] at H
  obtain ⟨rfl, rfl, rfl, rfl⟩ := H
  go_enter Try.func33, Try.ntmps33
  try go_wp2_with (first | ((with_reducible refine gate_dst (N := 2) rfl ?_); refine bx_ (N := 2) (cs := #[.bool a0_0, .slice A0_1 l0_1.length c0_1, .slice A0_2 l0_2.length c0_2]) (t := 24) ?_; intro gbA0 hg w10 hbox hb; replace HO0_1 := elbV HO0_1 hg hb; replace HO0_2 := elbV HO0_2 hg hb; replace HO1_1 := elbV HO1_1 hg hb; replace HO1_2 := elbV HO1_2 hg hb; have BKA0 := Aside0.mk (hbox); have GWA0 := geh hg HB; have GEA0 := geh hg HB; replace HB := bst HB hb; clear hb hbox hg) | ((with_reducible refine gate_dst (N := 3) rfl ?_); refine bx_ (N := 3) (cs := #[.bool a1_0, .slice A1_1 l1_1.length c1_1, .slice A1_2 l1_2.length c1_2]) (t := 24) ?_; intro gbA1 hg w11 hbox hb; replace HO0_1 := elbV HO0_1 hg hb; replace HO0_2 := elbV HO0_2 hg hb; replace HO1_1 := elbV HO1_1 hg hb; replace HO1_2 := elbV HO1_2 hg hb; have BKA1 := Aside0.mk (hbox); have GWA1 := geh hg HB; have GEA1 := geh hg HB; replace HB := bst HB hb; have NBA0_A1 := nlt hg BKA0; have NBA1_A0 := ngt hg BKA0; replace BKA0 := bkb BKA0 hb; clear hb hbox hg) | ((with_reducible refine gate_dst (N := 4) rfl ?_); refine bx_ (N := 4) (cs := #[.bool false, .slice none 0 0, .slice none 0 0]) (t := 24) ?_; intro gbA2 hg w12 hbox hb; replace HO0_1 := elbV HO0_1 hg hb; replace HO0_2 := elbV HO0_2 hg hb; replace HO1_1 := elbV HO1_1 hg hb; replace HO1_2 := elbV HO1_2 hg hb; have BKA2 := Aside0.mk (hbox); have GWA2 := geh hg HB; have GEA2 := geh hg HB; replace HB := bst HB hb; have NBA0_A2 := nlt hg BKA0; have NBA2_A0 := ngt hg BKA0; replace BKA0 := bkb BKA0 hb; have NBA1_A2 := nlt hg BKA1; have NBA2_A1 := ngt hg BKA1; replace BKA1 := bkb BKA1 hb; clear hb hbox hg))
  replace HO0_1 := Aside0.mk (Kd.V_drew HO0_1.out)
  replace HO0_2 := Aside0.mk (Kd.V_drew HO0_2.out)
  replace HO1_1 := Aside0.mk (Kd.V_drew HO1_1.out)
  replace HO1_2 := Aside0.mk (Kd.V_drew HO1_2.out)
  replace BKA0 := Aside0.mk (blk_drew BKA0.out)
  replace BKA1 := Aside0.mk (blk_drew BKA1.out)
  replace BKA2 := Aside0.mk (blk_drew BKA2.out)
  replace HB := Aside0.mk (below_drew1 HB.out)
  refine start_ (n := 11) (S := fun w' => w'.cell? ⟨gbA0, 0, none⟩ = some (.bool a0_0) ∧ w'.cell? ⟨gbA0, 1, none⟩ = some (.slice A0_1 l0_1.length c0_1) ∧ w'.cell? ⟨gbA0, 2, none⟩ = some (.slice A0_2 l0_2.length c0_2) ∧ w'.cell? ⟨gbA1, 0, none⟩ = some (.bool a1_0) ∧ w'.cell? ⟨gbA1, 1, none⟩ = some (.slice A1_1 l1_1.length c1_1) ∧ w'.cell? ⟨gbA1, 2, none⟩ = some (.slice A1_2 l1_2.length c1_2)) (ds := []) (bm 11 0) (by kernel_rfl) rfl rfl ⟨bce BKA0 0 _, bce BKA0 1 _, bce BKA0 2 _, bce BKA1 0 _, bce BKA1 1 _, bce BKA1 2 _⟩ (fun hHeld => ?_); refine with_tabW impl_DivRat.tab1 impl_DivRat.bits1 (fun HT_ HW_ => ?_)
  generalize w12.drew = w13 at HO0_1 HO0_2 HO1_1 HO1_2 BKA0 BKA1 BKA2 HB hHeld ⊢
  refine tk_ 0 (some 7) (bm 11 1) HT_.out HW_.out hHeld ?_
  refine tk_ 1 (some 8) (bm 11 3) HT_.out HW_.out hHeld ?_
  refine tk_ 4 (some 11) (bm 11 19) HT_.out HW_.out hHeld ?_
  refine one_ (i := 2) (N := some 9) (bm 11 23) rfl rfl (one_of HT_.out (by kernel_rfl)) (by decide) (fun K hK => ?_)
  refine Kd.N_lit_step k24 _ 24 ?hg (N' := 9) ?hd (xs := ([(⟨a0_0, l0_1, l0_2⟩ : S24), (⟨a1_0, l1_1, l1_2⟩ : S24)] : List (S24))) (inner := [.bool a0_0, .slice A0_1 l0_1.length c0_1, .slice A0_2 l0_2.length c0_2, .bool a1_0, .slice A1_1 l1_1.length c1_1, .slice A1_2 l1_2.length c1_2]) (ok := (fun k_ => ((P0_1_ k_ ∨ P0_2_ k_ ∨ P1_1_ k_ ∨ P1_2_ k_) ∨ w.heap.size ≤ k_) ∧ k_ ≠ gbA0 ∧ k_ ≠ gbA1 ∧ k_ ≠ gbA2)) (okp := (fun k_ => ((P0_1_ k_ ∨ P0_2_ k_ ∨ P1_1_ k_ ∨ P1_2_ k_) ∨ w.heap.size ≤ k_) ∧ k_ ≠ gbA0 ∧ k_ ≠ gbA1 ∧ k_ ≠ gbA2)) ?hr ?hp (fun _ hk => hk) ((show ∀ k_, w13.heap.size ≤ k_ → (fun k_ => ((P0_1_ k_ ∨ P0_2_ k_ ∨ P1_1_ k_ ∨ P1_2_ k_) ∨ w.heap.size ≤ k_) ∧ k_ ≠ gbA0 ∧ k_ ≠ gbA1 ∧ k_ ≠ gbA2) k_ from fun k_ hk => ⟨(.inr (Nat.le_trans (bsz HB) hk)), Kd.freshB (g := gbA0) (o := .cells #[.bool a0_0, .slice A0_1 l0_1.length c0_1, .slice A0_2 l0_2.length c0_2] 24 (0, 0)) (crb BKA0) k_ hk, Kd.freshB (g := gbA1) (o := .cells #[.bool a1_0, .slice A1_1 l1_1.length c1_1, .slice A1_2 l1_2.length c1_2] 24 (0, 0)) (crb BKA1) k_ hk, Kd.freshB (g := gbA2) (o := .cells #[.bool false, .slice none 0 0, .slice none 0 0] 24 (0, 0)) (crb BKA2) k_ hk⟩) _ (Nat.le_refl _)) (Below.refl _ _) (Nat.le_refl _) (by simp) ?_; (case hd => rfl); (case hg => rfl); (case hr => first | (go_simp; done) | (go_simp; rfl)); (case hp => exact (Reps.c3 (show Kd.FK k24 _ _ (⟨a0_0, l0_1, l0_2⟩ : S24) [.bool a0_0, .slice A0_1 l0_1.length c0_1, .slice A0_2 l0_2.length c0_2] from (k24_mkF _ _ (⟨a0_0, l0_1, l0_2⟩ : S24) (Kd.V_reads' (Kd.V_mono (ok' := (fun k_ => ((P0_1_ k_ ∨ P0_2_ k_ ∨ P1_1_ k_ ∨ P1_2_ k_) ∨ w.heap.size ≤ k_) ∧ k_ ≠ gbA0 ∧ k_ ≠ gbA1 ∧ k_ ≠ gbA2)) (HO0_1.out) (fun k_ hk => ⟨hk.1.1.1, ⟨hk.1.1.2, ⟨hk.1.2, hk.2⟩⟩⟩))).2.1 (Kd.V_F (Kd.V_mono (ok' := (fun k_ => ((P0_1_ k_ ∨ P0_2_ k_ ∨ P1_1_ k_ ∨ P1_2_ k_) ∨ w.heap.size ≤ k_) ∧ k_ ≠ gbA0 ∧ k_ ≠ gbA1 ∧ k_ ≠ gbA2)) (HO0_1.out) (fun k_ hk => ⟨hk.1.1.1, ⟨hk.1.1.2, ⟨hk.1.2, hk.2⟩⟩⟩))) (Kd.V_reads' (Kd.V_mono (ok' := (fun k_ => ((P0_1_ k_ ∨ P0_2_ k_ ∨ P1_1_ k_ ∨ P1_2_ k_) ∨ w.heap.size ≤ k_) ∧ k_ ≠ gbA0 ∧ k_ ≠ gbA1 ∧ k_ ≠ gbA2)) (HO0_2.out) (fun k_ hk => ⟨hk.1.1.1, ⟨hk.1.1.2, ⟨hk.1.2, hk.2⟩⟩⟩))).2.1 (Kd.V_F (Kd.V_mono (ok' := (fun k_ => ((P0_1_ k_ ∨ P0_2_ k_ ∨ P1_1_ k_ ∨ P1_2_ k_) ∨ w.heap.size ≤ k_) ∧ k_ ≠ gbA0 ∧ k_ ≠ gbA1 ∧ k_ ≠ gbA2)) (HO0_2.out) (fun k_ hk => ⟨hk.1.1.1, ⟨hk.1.1.2, ⟨hk.1.2, hk.2⟩⟩⟩))))) (Reps.c3 (show Kd.FK k24 _ _ (⟨a1_0, l1_1, l1_2⟩ : S24) [.bool a1_0, .slice A1_1 l1_1.length c1_1, .slice A1_2 l1_2.length c1_2] from (k24_mkF _ _ (⟨a1_0, l1_1, l1_2⟩ : S24) (Kd.V_reads' (Kd.V_mono (ok' := (fun k_ => ((P0_1_ k_ ∨ P0_2_ k_ ∨ P1_1_ k_ ∨ P1_2_ k_) ∨ w.heap.size ≤ k_) ∧ k_ ≠ gbA0 ∧ k_ ≠ gbA1 ∧ k_ ≠ gbA2)) (HO1_1.out) (fun k_ hk => ⟨hk.1.1.1, ⟨hk.1.1.2, ⟨hk.1.2, hk.2⟩⟩⟩))).2.1 (Kd.V_F (Kd.V_mono (ok' := (fun k_ => ((P0_1_ k_ ∨ P0_2_ k_ ∨ P1_1_ k_ ∨ P1_2_ k_) ∨ w.heap.size ≤ k_) ∧ k_ ≠ gbA0 ∧ k_ ≠ gbA1 ∧ k_ ≠ gbA2)) (HO1_1.out) (fun k_ hk => ⟨hk.1.1.1, ⟨hk.1.1.2, ⟨hk.1.2, hk.2⟩⟩⟩))) (Kd.V_reads' (Kd.V_mono (ok' := (fun k_ => ((P0_1_ k_ ∨ P0_2_ k_ ∨ P1_1_ k_ ∨ P1_2_ k_) ∨ w.heap.size ≤ k_) ∧ k_ ≠ gbA0 ∧ k_ ≠ gbA1 ∧ k_ ≠ gbA2)) (HO1_2.out) (fun k_ hk => ⟨hk.1.1.1, ⟨hk.1.1.2, ⟨hk.1.2, hk.2⟩⟩⟩))).2.1 (Kd.V_F (Kd.V_mono (ok' := (fun k_ => ((P0_1_ k_ ∨ P0_2_ k_ ∨ P1_1_ k_ ∨ P1_2_ k_) ∨ w.heap.size ≤ k_) ∧ k_ ≠ gbA0 ∧ k_ ≠ gbA1 ∧ k_ ≠ gbA2)) (HO1_2.out) (fun k_ hk => ⟨hk.1.1.1, ⟨hk.1.1.2, ⟨hk.1.2, hk.2⟩⟩⟩))))) (Reps.none _ _))))
  intro vC4 w14 ho15 hb hg_ hnew_
  clear hg_ hnew_
  (first | rw [← NyB2.out] at ho15 | (simp only [Int.reduceToNat] at ho15; rw [← NyB2.out] at ho15))
  replace HO0_1 := eldV HO0_1 (Kd.N_base ho15) hb
  replace HO0_2 := eldV HO0_2 (Kd.N_base ho15) hb
  replace HO1_1 := eldV HO1_1 (Kd.N_base ho15) hb
  replace HO1_2 := eldV HO1_2 (Kd.N_base ho15) hb
  have HOA6 := Aside0.mk (Kd.N_lower ho15 (bsz HB))
  replace BKA0 := bkb BKA0 hb
  replace BKA1 := bkb BKA1 hb
  replace BKA2 := bkb BKA2 hb
  replace HB := bst HB hb
  clear hb ho15
  obtain ⟨Ao16, co16, eo16⟩ := Kd.N_slice HOA6.out
  (first | subst eo16 | (injection eo16 with f1_ f2_ f3_; have f4_ := f1_.symm; have f5_ := f3_.symm; clear f1_ f2_ f3_; subst f4_; subst f5_))
  refine hK.out _ _ ⟨bce BKA0 0 _, bce BKA0 1 _, bce BKA0 2 _, bce BKA1 0 _, bce BKA1 1 _, bce BKA1 2 _⟩ (fun hHeld => ?_)
  clear hK K
  refine nm_ 9 ?_
  refine one_ (i := 3) (N := some 10) (bm 11 31) rfl rfl (one_of HT_.out (by kernel_rfl)) (by decide) (fun K hK => ?_)
  refine g_ Try.func65 #[.slice Ao16 yB2.length co16] ?_
  with_reducible refine (impl_ratsCode.calls k _ _ yB2 tA8 _ ?side1 ?side2 A3.out).mono ?_
  (case side1 => exact crC (Kd.N_reads' HOA6.out).2.2)
  (case side2 => exact (Kd.N_reads' HOA6.out).2.1)
  rintro e w17 ⟨rfl, hb⟩
  refine ⟨_, rfl, ?_⟩
  replace HO0_1 := rblV HO0_1 hb
  replace HO0_2 := rblV HO0_2 hb
  replace HO1_1 := rblV HO1_1 hb
  replace HO1_2 := rblV HO1_2 hb
  replace HOA6 := Aside0.mk (Kd.N_below (by (with_reducible repeat (first | apply Kd.N_alloc | apply Kd.N_drewN | apply Kd.N_drew)); exact HOA6.out) hb)
  replace BKA0 := bkb BKA0 hb
  replace BKA1 := bkb BKA1 hb
  replace BKA2 := bkb BKA2 hb
  replace HB := bst HB hb
  (try clear hb)
  (try clear hb2)
  (try clear hk)
  (try clear hi)
  refine hK.out _ _ ⟨bce BKA0 0 _, bce BKA0 1 _, bce BKA0 2 _, bce BKA1 0 _, bce BKA1 1 _, bce BKA1 2 _⟩ (fun hHeld => ?_)
  clear hK K
  refine nm_ 10 ?_
  refine one_ (i := 5) (N := some 12) (bm 11 63) rfl rfl (one_of HT_.out (by kernel_rfl)) (by decide) (fun K hK => ?_)
  refine g_ Try.func59 #[.agg #[.bool a1_0, .slice A1_1 l1_1.length c1_1, .slice A1_2 l1_2.length c1_2]] ?_
  with_reducible refine (impl_Rat_isZero.calls a1_0 _ _ l1_1 _ _ l1_2 tB1 _ ?side1 ?side2 ?side3 ?side4 A4.out).mono ?_
  (case side1 => exact crC (Kd.V_reads' HO1_1.out).2.2)
  (case side2 => exact (Kd.V_reads' HO1_1.out).2.1)
  (case side3 => exact crC (Kd.V_reads' HO1_2.out).2.2)
  (case side4 => exact (Kd.V_reads' HO1_2.out).2.1)
  rintro e w18 ⟨rfl, hb⟩
  refine ⟨_, rfl, ?_⟩
  replace HO0_1 := rblV HO0_1 hb
  replace HO0_2 := rblV HO0_2 hb
  replace HO1_1 := rblV HO1_1 hb
  replace HO1_2 := rblV HO1_2 hb
  replace HOA6 := Aside0.mk (Kd.N_below (by (with_reducible repeat (first | apply Kd.N_alloc | apply Kd.N_drewN | apply Kd.N_drew)); exact HOA6.out) hb)
  replace BKA0 := bkb BKA0 hb
  replace BKA1 := bkb BKA1 hb
  replace BKA2 := bkb BKA2 hb
  replace HB := bst HB hb
  (try clear hb)
  (try clear hb2)
  (try clear hk)
  (try clear hi)
  refine hK.out _ _ ⟨bce BKA0 0 _, bce BKA0 1 _, bce BKA0 2 _, bce BKA1 0 _, bce BKA1 1 _, bce BKA1 2 _⟩ (fun hHeld => ?_)
  clear hK K
  refine nm_ 12 ?_
  refine pu_ 6 (some 13) (bm 11 127) HT_.out ?_
  refine one_ (i := 7) (N := some 14) (bm 11 255) rfl rfl (one_of HT_.out (by kernel_rfl)) (by decide) (fun K hK => ?_)
  refine g_ Try.func81 #[.bool (!tB1), .int .i64 9] ?_
  with_reducible refine (impl_unless.calls (!tB1) 9 tA7 _ A5.out).mono ?_
  rintro e w' ⟨rfl, ⟨nd, rfl⟩⟩
  refine ⟨_, rfl, ?_⟩
  refine hK.out _ _ ⟨bce BKA0 0 _, bce BKA0 1 _, bce BKA0 2 _, bce BKA1 0 _, bce BKA1 1 _, bce BKA1 2 _⟩ (fun hHeld => ?_)
  clear hK K
  refine nm_ 14 ?_
  refine one_ (i := 8) (N := some 15) (bm 11 511) rfl rfl (one_of HT_.out (by kernel_rfl)) (by decide) (fun K hK => ?_)
  refine Kd.R_lit_step (Kd.int .i64) _ 3 ?hg (N := 15) ?hd (xs := ([tA8, tA7] : List Int)) (inner := [.int .i64 tA8, .int .i64 tA7]) (ok := fun _ => True) (okp := fun _ => True) ?hr ?hp (fun _ hk => hk) trivial (Below.refl _ _) (Nat.le_refl _) (by simp) ?_; (case hd => rfl); (case hg => rfl); (case hr => first | (go_simp; done) | (go_simp; rfl)); (case hp => exact (Reps.one (show Kd.M (Kd.int .i64) _ _ _ tA8 [.int .i64 tA8] from rfl) (Reps.one (show Kd.M (Kd.int .i64) _ _ _ tA7 [.int .i64 tA7] from rfl) (Reps.none _ _))))
  intro vC5 w19 ho20 hb hg_ hnew_
  clear hg_ hnew_
  (first | rw [← NyB0.out] at ho20 | (simp only [Int.reduceToNat] at ho20; rw [← NyB0.out] at ho20))
  replace HO0_1 := eldV HO0_1 (Kd.R_base ho20) hb
  replace HO0_2 := eldV HO0_2 (Kd.R_base ho20) hb
  replace HO1_1 := eldV HO1_1 (Kd.R_base ho20) hb
  replace HO1_2 := eldV HO1_2 (Kd.R_base ho20) hb
  replace HOA6 := Aside0.mk (Kd.N_elder' (by (with_reducible repeat (first | apply Kd.N_alloc | apply Kd.N_drewN | apply Kd.N_drew)); exact HOA6.out) (Kd.R_base ho20) hb)
  have HOA9 := lwR (Kd.R_newM (M := fun k_ => (w.heap.size ≤ k_)) ho20 (bsz HB) (fun k_ h_ => h_)) HB
  replace BKA0 := bkb BKA0 hb
  replace BKA1 := bkb BKA1 hb
  replace BKA2 := bkb BKA2 hb
  replace HB := bst HB hb
  clear hb ho20
  obtain ⟨Ao21, co21, eo21⟩ := Kd.R_slice HOA9.out
  (first | subst eo21 | (injection eo21 with f1_ f2_ f3_; have f4_ := f1_.symm; have f5_ := f3_.symm; clear f1_ f2_ f3_; subst f4_; subst f5_))
  refine hK.out _ _ ⟨bce BKA0 0 _, bce BKA0 1 _, bce BKA0 2 _, bce BKA1 0 _, bce BKA1 1 _, bce BKA1 2 _⟩ (fun hHeld => ?_)
  clear hK K
  refine nm_ 15 ?_
  refine one_ (i := 9) (N := some 16) (bm 11 1023) rfl rfl (one_of HT_.out (by kernel_rfl)) (by decide) (fun K hK => ?_)
  refine g_ Try.func80 #[.slice Ao21 yB0.length co21] ?_
  with_reducible refine (impl_first.calls k _ _ yB0 tA5 _ ?side1 ?side2 A6.out).mono ?_
  (case side1 => exact crC (Kd.R_reads' HOA9.out).2.2)
  (case side2 => exact (Kd.R_reads' HOA9.out).2.1)
  rintro e w' ⟨rfl, ⟨nd, rfl⟩⟩
  refine ⟨_, rfl, ?_⟩
  refine hK.out _ _ ⟨bce BKA0 0 _, bce BKA0 1 _, bce BKA0 2 _, bce BKA1 0 _, bce BKA1 1 _, bce BKA1 2 _⟩ (fun hHeld => ?_)
  clear hK K
  refine nm_ 16 ?_
  refine pu_ 10 (some 6) (bm 11 2047) HT_.out ?_
  refine done_ (done_of HT_.out (by kernel_rfl)) ?_
  have hnb22 := NBA0_A1.out
  have hnc22 := NBA1_A0.out
  have hnb23 := NBA0_A2.out
  have hnc23 := NBA2_A0.out
  obtain ⟨hcz24_0, hcz24_1, hcz24_2, hfz24_0, hfz24_1, hfz24_2⟩ := bc3 BKA0
  have hnb25 := NBA1_A2.out
  have hnc25 := NBA2_A1.out
  obtain ⟨hcz26_0, hcz26_1, hcz26_2, hfz26_0, hfz26_1, hfz26_2⟩ := bc3 BKA1
  try go_wp2_with (first | ((with_reducible refine gate_callee (f := 49) rfl ?_); refine gL_ (some 23) Try.func49 #[.agg #[.bool a0_0, .slice A0_1 l0_1.length c0_1, .slice A0_2 l0_2.length c0_2], .agg #[.bool a1_0, .slice A1_1 l1_1.length c1_1, .slice A1_2 l1_2.length c1_2]] ?_; (with_reducible refine (impl_Rat_over.calls k a0_0 _ _ l0_1 _ _ l0_2 a1_0 _ _ l1_1 _ _ l1_2 tA4 tB7 tB8 _ ?side1 ?side2 ?side3 ?side4 ?side5 ?side6 ?side7 ?side8 A8.out).mono ?_); (case side1 => exact crC (Kd.V_reads' HO0_1.out).2.2); (case side2 => exact (Kd.V_reads' HO0_1.out).2.1); (case side3 => exact crC (Kd.V_reads' HO0_2.out).2.2); (case side4 => exact (Kd.V_reads' HO0_2.out).2.1); (case side5 => exact crC (Kd.V_reads' HO1_1.out).2.2); (case side6 => exact (Kd.V_reads' HO1_1.out).2.1); (case side7 => exact crC (Kd.V_reads' HO1_2.out).2.2); (case side8 => exact (Kd.V_reads' HO1_2.out).2.1); rintro e w27 ⟨vC6, vC7, rfl, ho0, ho1, hb⟩; refine ⟨_, rfl, ?_⟩; replace HO0_1 := tldV HO0_1 hb (Kd.R_base ho0) (Kd.R_base ho1); replace HO0_2 := tldV HO0_2 hb (Kd.R_base ho0) (Kd.R_base ho1); replace HO1_1 := tldV HO1_1 hb (Kd.R_base ho0) (Kd.R_base ho1); replace HO1_2 := tldV HO1_2 hb (Kd.R_base ho0) (Kd.R_base ho1); replace HOA6 := Aside0.mk (Kd.N_mono (Kd.N_told (Kd.N_told (Kd.N_old (by (with_reducible repeat (first | apply Kd.N_alloc | apply Kd.N_drewN | apply Kd.N_drew)); exact HOA6.out) hb) (Kd.R_base ho0)) (Kd.R_base ho1)) (fun _ h_ => h_.1)); have HOB3 := lwR (nwR (Kd.R_newM (M := fun k_ => (w.heap.size ≤ k_)) ho0 (bsz HB) (fun k_ h_ => h_)) HOA9) HB; have HOB4 := lwR (nwR (Kd.R_newM (M := fun k_ => (w.heap.size ≤ k_)) ho1 (bsz HB) (fun k_ h_ => h_)) HOA9) HB; replace HOA9 := tldR HOA9 hb (Kd.R_base ho0) (Kd.R_base ho1); replace BKA0 := bkb BKA0 hb; replace BKA1 := bkb BKA1 hb; replace BKA2 := bkb BKA2 hb; replace HB := bst HB hb; (try clear hb); (try clear hb2); (try clear hk); (try clear hi); (try clear ho0); (try clear ho1); obtain ⟨Ao28, co28, eo28⟩ := Kd.R_slice HOB3.out; subst eo28; obtain ⟨Ao29, co29, eo29⟩ := Kd.R_slice HOB4.out; subst eo29) | ((with_reducible refine gate_callee (f := 77) rfl ?_); refine gL_ (some 24) Try.func77 #[.agg #[.bool tA4, .slice Ao28 tB7.length co28, .slice Ao29 tB8.length co29]] ?_; (with_reducible refine (impl_fullRat.calls tA4 (fun k_ => some k_ = (.slice Ao28 tB7.length co28 : Value).ownBlock) (.slice Ao28 tB7.length co28) tB7 (fun k_ => some k_ = (.slice Ao29 tB8.length co29 : Value).ownBlock) (.slice Ao29 tB8.length co29) tB8 tA3 tB9 tC0 tC1 w _ ?side1 ?side2 ?side3 ?side4 ?side5 A9.out).mono ?_); (case side1 => repeat (first | (with_reducible first | exact HB.out | apply below_alloc | apply pw_below_drewN | apply below_drew1 | refine below_set ?_ GEA0.out | refine below_set ?_ GEA1.out | refine below_set ?_ GEA2.out) | exact HB.out)); (case side2 => exact Kd.R_tight rfl HOB3.out); (case side3 => exact fun k_ e_ => (HOB3.out.1 k_ e_.symm).1.2); (case side4 => exact Kd.R_tight rfl HOB4.out); (case side5 => exact fun k_ e_ => (HOB4.out.1 k_ e_.symm).1.2); rintro e w30 ⟨vB5, vB6, rfl, ho0, ho1, hb, hkp⟩; refine ⟨_, rfl, ?_⟩; replace HO0_1 := Aside0.mk (Kd.V_mono (ok' := fun k_ => ((P0_1_ k_ ∨ P0_2_ k_ ∨ P1_1_ k_ ∨ P1_2_ k_) ∨ w.heap.size ≤ k_) ∧ nO k_ (.slice Ao16 yB2.length co16) ∧ nO k_ (.slice Ao21 yB0.length co21) ∧ k_ ≠ gbA0 ∧ k_ ≠ gbA1 ∧ k_ ≠ gbA2 ∧ nO k_ vB5 ∧ nO k_ vB6) (Kd.V_keptB (HO0_1.out) hkp (fun k_ hk_ hs_ => Or.elim hs_ (fun e_ => (hk_.1.2) e_) (fun e_ => (hk_.2) e_))) (fun k_ hk_ => ⟨hk_.1.1.1.1.1.1.1.1, hk_.1.1.1.1.2, hk_.1.1.1.2, hk_.1.1.1.1.1.1.1.2, hk_.1.1.1.1.1.1.2, hk_.1.1.1.1.1.2, fun e_ => Or.elim (ho0.1 k_ e_.symm).1 (fun hs_ => hk_.2.1 hs_) (fun hn_ => Nat.not_le.2 hk_.2.2 hn_), fun e_ => Or.elim (ho1.1 k_ e_.symm).1 (fun hs_ => hk_.2.1 hs_) (fun hn_ => Nat.not_le.2 hk_.2.2 hn_)⟩)); replace HO0_2 := Aside0.mk (Kd.V_mono (ok' := fun k_ => ((P0_1_ k_ ∨ P0_2_ k_ ∨ P1_1_ k_ ∨ P1_2_ k_) ∨ w.heap.size ≤ k_) ∧ nO k_ (.slice Ao16 yB2.length co16) ∧ nO k_ (.slice Ao21 yB0.length co21) ∧ k_ ≠ gbA0 ∧ k_ ≠ gbA1 ∧ k_ ≠ gbA2 ∧ nO k_ vB5 ∧ nO k_ vB6) (Kd.V_keptB (HO0_2.out) hkp (fun k_ hk_ hs_ => Or.elim hs_ (fun e_ => (hk_.1.2) e_) (fun e_ => (hk_.2) e_))) (fun k_ hk_ => ⟨hk_.1.1.1.1.1.1.1.1, hk_.1.1.1.1.2, hk_.1.1.1.2, hk_.1.1.1.1.1.1.1.2, hk_.1.1.1.1.1.1.2, hk_.1.1.1.1.1.2, fun e_ => Or.elim (ho0.1 k_ e_.symm).1 (fun hs_ => hk_.2.1 hs_) (fun hn_ => Nat.not_le.2 hk_.2.2 hn_), fun e_ => Or.elim (ho1.1 k_ e_.symm).1 (fun hs_ => hk_.2.1 hs_) (fun hn_ => Nat.not_le.2 hk_.2.2 hn_)⟩)); replace HO1_1 := Aside0.mk (Kd.V_mono (ok' := fun k_ => ((P0_1_ k_ ∨ P0_2_ k_ ∨ P1_1_ k_ ∨ P1_2_ k_) ∨ w.heap.size ≤ k_) ∧ nO k_ (.slice Ao16 yB2.length co16) ∧ nO k_ (.slice Ao21 yB0.length co21) ∧ k_ ≠ gbA0 ∧ k_ ≠ gbA1 ∧ k_ ≠ gbA2 ∧ nO k_ vB5 ∧ nO k_ vB6) (Kd.V_keptB (HO1_1.out) hkp (fun k_ hk_ hs_ => Or.elim hs_ (fun e_ => (hk_.1.2) e_) (fun e_ => (hk_.2) e_))) (fun k_ hk_ => ⟨hk_.1.1.1.1.1.1.1.1, hk_.1.1.1.1.2, hk_.1.1.1.2, hk_.1.1.1.1.1.1.1.2, hk_.1.1.1.1.1.1.2, hk_.1.1.1.1.1.2, fun e_ => Or.elim (ho0.1 k_ e_.symm).1 (fun hs_ => hk_.2.1 hs_) (fun hn_ => Nat.not_le.2 hk_.2.2 hn_), fun e_ => Or.elim (ho1.1 k_ e_.symm).1 (fun hs_ => hk_.2.1 hs_) (fun hn_ => Nat.not_le.2 hk_.2.2 hn_)⟩)); replace HO1_2 := Aside0.mk (Kd.V_mono (ok' := fun k_ => ((P0_1_ k_ ∨ P0_2_ k_ ∨ P1_1_ k_ ∨ P1_2_ k_) ∨ w.heap.size ≤ k_) ∧ nO k_ (.slice Ao16 yB2.length co16) ∧ nO k_ (.slice Ao21 yB0.length co21) ∧ k_ ≠ gbA0 ∧ k_ ≠ gbA1 ∧ k_ ≠ gbA2 ∧ nO k_ vB5 ∧ nO k_ vB6) (Kd.V_keptB (HO1_2.out) hkp (fun k_ hk_ hs_ => Or.elim hs_ (fun e_ => (hk_.1.2) e_) (fun e_ => (hk_.2) e_))) (fun k_ hk_ => ⟨hk_.1.1.1.1.1.1.1.1, hk_.1.1.1.1.2, hk_.1.1.1.2, hk_.1.1.1.1.1.1.1.2, hk_.1.1.1.1.1.1.2, hk_.1.1.1.1.1.2, fun e_ => Or.elim (ho0.1 k_ e_.symm).1 (fun hs_ => hk_.2.1 hs_) (fun hn_ => Nat.not_le.2 hk_.2.2 hn_), fun e_ => Or.elim (ho1.1 k_ e_.symm).1 (fun hs_ => hk_.2.1 hs_) (fun hn_ => Nat.not_le.2 hk_.2.2 hn_)⟩)); replace BKA0 := Aside0.mk (blk_kept (crb BKA0) hkp (fun hs_ => Or.elim hs_ (fun e_ => (fun e_ => (Kd.R_ne HOB3.out BKA0.out (by decide)) e_) e_) (fun e_ => (fun e_ => (Kd.R_ne HOB4.out BKA0.out (by decide)) e_) e_))); replace BKA1 := Aside0.mk (blk_kept (crb BKA1) hkp (fun hs_ => Or.elim hs_ (fun e_ => (fun e_ => (Kd.R_ne HOB3.out BKA1.out (by decide)) e_) e_) (fun e_ => (fun e_ => (Kd.R_ne HOB4.out BKA1.out (by decide)) e_) e_))); replace BKA2 := Aside0.mk (blk_kept (crb BKA2) hkp (fun hs_ => Or.elim hs_ (fun e_ => (fun e_ => (Kd.R_ne HOB3.out BKA2.out (by decide)) e_) e_) (fun e_ => (fun e_ => (Kd.R_ne HOB4.out BKA2.out (by decide)) e_) e_))); replace HOA6 := Aside0.mk (Kd.N_mono (ok' := fun k_ => ((P0_1_ k_ ∨ P0_2_ k_ ∨ P1_1_ k_ ∨ P1_2_ k_) ∨ w.heap.size ≤ k_) ∧ nO k_ (.slice Ao21 yB0.length co21) ∧ k_ ≠ gbA0 ∧ k_ ≠ gbA1 ∧ k_ ≠ gbA2 ∧ nO k_ vB5 ∧ nO k_ vB6) (Kd.N_keptB (HOA6.out) hkp (fun k_ hk_ hs_ => Or.elim hs_ (fun e_ => (hk_.1.2) e_) (fun e_ => (hk_.2) e_))) (fun k_ hk_ => ⟨hk_.1.1.1.1.1, hk_.1.1.1.2, hk_.1.1.1.1.2.1, hk_.1.1.1.1.2.2.1, hk_.1.1.1.1.2.2.2, fun e_ => Or.elim (ho0.1 k_ e_.symm).1 (fun hs_ => hk_.2.1 hs_) (fun hn_ => Nat.not_le.2 hk_.2.2 hn_), fun e_ => Or.elim (ho1.1 k_ e_.symm).1 (fun hs_ => hk_.2.1 hs_) (fun hn_ => Nat.not_le.2 hk_.2.2 hn_)⟩)); have HOC2 := Aside0.mk (Kd.R_mono (ok' := fun k_ => (w.heap.size ≤ k_) ∧ nO k_ vB6 ∧ nO k_ (.slice Ao21 yB0.length co21)) ho0 (fun k_ hk_ => ⟨Or.elim hk_.1 (fun hs_ => Or.elim hs_ (fun hs_ => (HOB3.out.1 k_ (hs_).symm).1.1) (fun hs_ => (HOB4.out.1 k_ (hs_).symm).1.1)) (fun hn_ => (Nat.le_trans (bsz HB) hn_)), hk_.2, Or.elim hk_.1 (fun hs_ => Or.elim hs_ (fun hs_ => fun e_ => (((HOA9.out).1 k_ e_.symm).1.2) hs_) (fun hs_ => fun e_ => (((HOA9.out).1 k_ e_.symm).2) hs_)) (fun hn_ => (Kd.fresh' (Kd.R_lt (crR HOA9)) k_ hn_))⟩)); have HOC3 := Aside0.mk (Kd.R_mono (ok' := fun k_ => (w.heap.size ≤ k_) ∧ nO k_ vB5 ∧ nO k_ (.slice Ao21 yB0.length co21)) ho1 (fun k_ hk_ => ⟨Or.elim hk_.1 (fun hs_ => Or.elim hs_ (fun hs_ => (HOB3.out.1 k_ (hs_).symm).1.1) (fun hs_ => (HOB4.out.1 k_ (hs_).symm).1.1)) (fun hn_ => (Nat.le_trans (bsz HB) hn_)), hk_.2, Or.elim hk_.1 (fun hs_ => Or.elim hs_ (fun hs_ => fun e_ => (((HOA9.out).1 k_ e_.symm).1.2) hs_) (fun hs_ => fun e_ => (((HOA9.out).1 k_ e_.symm).2) hs_)) (fun hn_ => (Kd.fresh' (Kd.R_lt (crR HOA9)) k_ hn_))⟩)); replace HOA9 := Aside0.mk (Kd.R_mono (ok' := fun k_ => (w.heap.size ≤ k_) ∧ nO k_ vB5 ∧ nO k_ vB6) (Kd.R_keptB (HOA9.out) hkp (fun k_ hk_ hs_ => Or.elim hs_ (fun e_ => (hk_.1.2) e_) (fun e_ => (hk_.2) e_))) (fun k_ hk_ => ⟨hk_.1.1.1.1, fun e_ => Or.elim (ho0.1 k_ e_.symm).1 (fun hs_ => hk_.2.1 hs_) (fun hn_ => Nat.not_le.2 hk_.2.2 hn_), fun e_ => Or.elim (ho1.1 k_ e_.symm).1 (fun hs_ => hk_.2.1 hs_) (fun hn_ => Nat.not_le.2 hk_.2.2 hn_)⟩)); replace HB := Aside0.mk (hb); clear HOB3 HOB4; (try clear hb); (try clear hkp); (try clear ho0); (try clear ho1); obtain ⟨hcz31_0, hcz31_1, hcz31_2, hfz31_0, hfz31_1, hfz31_2⟩ := bc3 BKA2; obtain ⟨Ao32, co32, eo32⟩ := Kd.R_slice HOC2.out; subst eo32; obtain ⟨Ao33, co33, eo33⟩ := Kd.R_slice HOC3.out; subst eo33))
  refine bodyPost_ret (results_ct rfl _ _ gbA2 24 #[.bool tA3, .slice Ao32 tB9.length co32, .slice Ao33 tC0.length co33] (0, 0) _ rfl (bp3 BKA2 _ _ _) Try.underlying24 rfl (by kernel_rfl)) rfl ?_
  exact ⟨_, _, er_, (crN HOC2 BKA2 fun _ hk => ⟨hk.1.1, hk.1.2.1⟩), (crN HOC3 BKA2 fun _ hk => ⟨hk.1.1, hk.1.2.1⟩), blw HB⟩
 ·
  rw [if_neg c7] at H
  have c7b0 : (tA5 == 0) = false := beq_eq_false_iff_ne.mpr c7
  have c7b1 : (tA5 != 0) = true := bne_iff_ne.mpr c7
  simp only [Option.some.injEq, Prod.mk.injEq] at H
  obtain ⟨rfl, rfl, rfl, rfl⟩ := H
  go_enter Try.func33, Try.ntmps33
  try go_wp2_with (first | ((with_reducible refine gate_dst (N := 2) rfl ?_); refine bx_ (N := 2) (cs := #[.bool a0_0, .slice A0_1 l0_1.length c0_1, .slice A0_2 l0_2.length c0_2]) (t := 24) ?_; intro gbA0 hg w34 hbox hb; replace HO0_1 := elbV HO0_1 hg hb; replace HO0_2 := elbV HO0_2 hg hb; replace HO1_1 := elbV HO1_1 hg hb; replace HO1_2 := elbV HO1_2 hg hb; have BKA0 := Aside0.mk (hbox); have GWA0 := geh hg HB; have GEA0 := geh hg HB; replace HB := bst HB hb; clear hb hbox hg) | ((with_reducible refine gate_dst (N := 3) rfl ?_); refine bx_ (N := 3) (cs := #[.bool a1_0, .slice A1_1 l1_1.length c1_1, .slice A1_2 l1_2.length c1_2]) (t := 24) ?_; intro gbA1 hg w35 hbox hb; replace HO0_1 := elbV HO0_1 hg hb; replace HO0_2 := elbV HO0_2 hg hb; replace HO1_1 := elbV HO1_1 hg hb; replace HO1_2 := elbV HO1_2 hg hb; have BKA1 := Aside0.mk (hbox); have GWA1 := geh hg HB; have GEA1 := geh hg HB; replace HB := bst HB hb; have NBA0_A1 := nlt hg BKA0; have NBA1_A0 := ngt hg BKA0; replace BKA0 := bkb BKA0 hb; clear hb hbox hg) | ((with_reducible refine gate_dst (N := 4) rfl ?_); refine bx_ (N := 4) (cs := #[.bool false, .slice none 0 0, .slice none 0 0]) (t := 24) ?_; intro gbA2 hg w36 hbox hb; replace HO0_1 := elbV HO0_1 hg hb; replace HO0_2 := elbV HO0_2 hg hb; replace HO1_1 := elbV HO1_1 hg hb; replace HO1_2 := elbV HO1_2 hg hb; have BKA2 := Aside0.mk (hbox); have GWA2 := geh hg HB; have GEA2 := geh hg HB; replace HB := bst HB hb; have NBA0_A2 := nlt hg BKA0; have NBA2_A0 := ngt hg BKA0; replace BKA0 := bkb BKA0 hb; have NBA1_A2 := nlt hg BKA1; have NBA2_A1 := ngt hg BKA1; replace BKA1 := bkb BKA1 hb; clear hb hbox hg))
  replace HO0_1 := Aside0.mk (Kd.V_drew HO0_1.out)
  replace HO0_2 := Aside0.mk (Kd.V_drew HO0_2.out)
  replace HO1_1 := Aside0.mk (Kd.V_drew HO1_1.out)
  replace HO1_2 := Aside0.mk (Kd.V_drew HO1_2.out)
  replace BKA0 := Aside0.mk (blk_drew BKA0.out)
  replace BKA1 := Aside0.mk (blk_drew BKA1.out)
  replace BKA2 := Aside0.mk (blk_drew BKA2.out)
  replace HB := Aside0.mk (below_drew1 HB.out)
  refine start_ (n := 11) (S := fun w' => w'.cell? ⟨gbA0, 0, none⟩ = some (.bool a0_0) ∧ w'.cell? ⟨gbA0, 1, none⟩ = some (.slice A0_1 l0_1.length c0_1) ∧ w'.cell? ⟨gbA0, 2, none⟩ = some (.slice A0_2 l0_2.length c0_2) ∧ w'.cell? ⟨gbA1, 0, none⟩ = some (.bool a1_0) ∧ w'.cell? ⟨gbA1, 1, none⟩ = some (.slice A1_1 l1_1.length c1_1) ∧ w'.cell? ⟨gbA1, 2, none⟩ = some (.slice A1_2 l1_2.length c1_2)) (ds := []) (bm 11 0) (by kernel_rfl) rfl rfl ⟨bce BKA0 0 _, bce BKA0 1 _, bce BKA0 2 _, bce BKA1 0 _, bce BKA1 1 _, bce BKA1 2 _⟩ (fun hHeld => ?_); refine with_tabW impl_DivRat.tab1 impl_DivRat.bits1 (fun HT_ HW_ => ?_)
  generalize w36.drew = w37 at HO0_1 HO0_2 HO1_1 HO1_2 BKA0 BKA1 BKA2 HB hHeld ⊢
  refine tk_ 0 (some 7) (bm 11 1) HT_.out HW_.out hHeld ?_
  refine tk_ 1 (some 8) (bm 11 3) HT_.out HW_.out hHeld ?_
  refine tk_ 4 (some 11) (bm 11 19) HT_.out HW_.out hHeld ?_
  refine one_ (i := 2) (N := some 9) (bm 11 23) rfl rfl (one_of HT_.out (by kernel_rfl)) (by decide) (fun K hK => ?_)
  refine Kd.N_lit_step k24 _ 24 ?hg (N' := 9) ?hd (xs := ([(⟨a0_0, l0_1, l0_2⟩ : S24), (⟨a1_0, l1_1, l1_2⟩ : S24)] : List (S24))) (inner := [.bool a0_0, .slice A0_1 l0_1.length c0_1, .slice A0_2 l0_2.length c0_2, .bool a1_0, .slice A1_1 l1_1.length c1_1, .slice A1_2 l1_2.length c1_2]) (ok := (fun k_ => ((P0_1_ k_ ∨ P0_2_ k_ ∨ P1_1_ k_ ∨ P1_2_ k_) ∨ w.heap.size ≤ k_) ∧ k_ ≠ gbA0 ∧ k_ ≠ gbA1 ∧ k_ ≠ gbA2)) (okp := (fun k_ => ((P0_1_ k_ ∨ P0_2_ k_ ∨ P1_1_ k_ ∨ P1_2_ k_) ∨ w.heap.size ≤ k_) ∧ k_ ≠ gbA0 ∧ k_ ≠ gbA1 ∧ k_ ≠ gbA2)) ?hr ?hp (fun _ hk => hk) ((show ∀ k_, w37.heap.size ≤ k_ → (fun k_ => ((P0_1_ k_ ∨ P0_2_ k_ ∨ P1_1_ k_ ∨ P1_2_ k_) ∨ w.heap.size ≤ k_) ∧ k_ ≠ gbA0 ∧ k_ ≠ gbA1 ∧ k_ ≠ gbA2) k_ from fun k_ hk => ⟨(.inr (Nat.le_trans (bsz HB) hk)), Kd.freshB (g := gbA0) (o := .cells #[.bool a0_0, .slice A0_1 l0_1.length c0_1, .slice A0_2 l0_2.length c0_2] 24 (0, 0)) (crb BKA0) k_ hk, Kd.freshB (g := gbA1) (o := .cells #[.bool a1_0, .slice A1_1 l1_1.length c1_1, .slice A1_2 l1_2.length c1_2] 24 (0, 0)) (crb BKA1) k_ hk, Kd.freshB (g := gbA2) (o := .cells #[.bool false, .slice none 0 0, .slice none 0 0] 24 (0, 0)) (crb BKA2) k_ hk⟩) _ (Nat.le_refl _)) (Below.refl _ _) (Nat.le_refl _) (by simp) ?_; (case hd => rfl); (case hg => rfl); (case hr => first | (go_simp; done) | (go_simp; rfl)); (case hp => exact (Reps.c3 (show Kd.FK k24 _ _ (⟨a0_0, l0_1, l0_2⟩ : S24) [.bool a0_0, .slice A0_1 l0_1.length c0_1, .slice A0_2 l0_2.length c0_2] from (k24_mkF _ _ (⟨a0_0, l0_1, l0_2⟩ : S24) (Kd.V_reads' (Kd.V_mono (ok' := (fun k_ => ((P0_1_ k_ ∨ P0_2_ k_ ∨ P1_1_ k_ ∨ P1_2_ k_) ∨ w.heap.size ≤ k_) ∧ k_ ≠ gbA0 ∧ k_ ≠ gbA1 ∧ k_ ≠ gbA2)) (HO0_1.out) (fun k_ hk => ⟨hk.1.1.1, ⟨hk.1.1.2, ⟨hk.1.2, hk.2⟩⟩⟩))).2.1 (Kd.V_F (Kd.V_mono (ok' := (fun k_ => ((P0_1_ k_ ∨ P0_2_ k_ ∨ P1_1_ k_ ∨ P1_2_ k_) ∨ w.heap.size ≤ k_) ∧ k_ ≠ gbA0 ∧ k_ ≠ gbA1 ∧ k_ ≠ gbA2)) (HO0_1.out) (fun k_ hk => ⟨hk.1.1.1, ⟨hk.1.1.2, ⟨hk.1.2, hk.2⟩⟩⟩))) (Kd.V_reads' (Kd.V_mono (ok' := (fun k_ => ((P0_1_ k_ ∨ P0_2_ k_ ∨ P1_1_ k_ ∨ P1_2_ k_) ∨ w.heap.size ≤ k_) ∧ k_ ≠ gbA0 ∧ k_ ≠ gbA1 ∧ k_ ≠ gbA2)) (HO0_2.out) (fun k_ hk => ⟨hk.1.1.1, ⟨hk.1.1.2, ⟨hk.1.2, hk.2⟩⟩⟩))).2.1 (Kd.V_F (Kd.V_mono (ok' := (fun k_ => ((P0_1_ k_ ∨ P0_2_ k_ ∨ P1_1_ k_ ∨ P1_2_ k_) ∨ w.heap.size ≤ k_) ∧ k_ ≠ gbA0 ∧ k_ ≠ gbA1 ∧ k_ ≠ gbA2)) (HO0_2.out) (fun k_ hk => ⟨hk.1.1.1, ⟨hk.1.1.2, ⟨hk.1.2, hk.2⟩⟩⟩))))) (Reps.c3 (show Kd.FK k24 _ _ (⟨a1_0, l1_1, l1_2⟩ : S24) [.bool a1_0, .slice A1_1 l1_1.length c1_1, .slice A1_2 l1_2.length c1_2] from (k24_mkF _ _ (⟨a1_0, l1_1, l1_2⟩ : S24) (Kd.V_reads' (Kd.V_mono (ok' := (fun k_ => ((P0_1_ k_ ∨ P0_2_ k_ ∨ P1_1_ k_ ∨ P1_2_ k_) ∨ w.heap.size ≤ k_) ∧ k_ ≠ gbA0 ∧ k_ ≠ gbA1 ∧ k_ ≠ gbA2)) (HO1_1.out) (fun k_ hk => ⟨hk.1.1.1, ⟨hk.1.1.2, ⟨hk.1.2, hk.2⟩⟩⟩))).2.1 (Kd.V_F (Kd.V_mono (ok' := (fun k_ => ((P0_1_ k_ ∨ P0_2_ k_ ∨ P1_1_ k_ ∨ P1_2_ k_) ∨ w.heap.size ≤ k_) ∧ k_ ≠ gbA0 ∧ k_ ≠ gbA1 ∧ k_ ≠ gbA2)) (HO1_1.out) (fun k_ hk => ⟨hk.1.1.1, ⟨hk.1.1.2, ⟨hk.1.2, hk.2⟩⟩⟩))) (Kd.V_reads' (Kd.V_mono (ok' := (fun k_ => ((P0_1_ k_ ∨ P0_2_ k_ ∨ P1_1_ k_ ∨ P1_2_ k_) ∨ w.heap.size ≤ k_) ∧ k_ ≠ gbA0 ∧ k_ ≠ gbA1 ∧ k_ ≠ gbA2)) (HO1_2.out) (fun k_ hk => ⟨hk.1.1.1, ⟨hk.1.1.2, ⟨hk.1.2, hk.2⟩⟩⟩))).2.1 (Kd.V_F (Kd.V_mono (ok' := (fun k_ => ((P0_1_ k_ ∨ P0_2_ k_ ∨ P1_1_ k_ ∨ P1_2_ k_) ∨ w.heap.size ≤ k_) ∧ k_ ≠ gbA0 ∧ k_ ≠ gbA1 ∧ k_ ≠ gbA2)) (HO1_2.out) (fun k_ hk => ⟨hk.1.1.1, ⟨hk.1.1.2, ⟨hk.1.2, hk.2⟩⟩⟩))))) (Reps.none _ _))))
  intro vC4 w38 ho39 hb hg_ hnew_
  clear hg_ hnew_
  (first | rw [← NyB2.out] at ho39 | (simp only [Int.reduceToNat] at ho39; rw [← NyB2.out] at ho39))
  replace HO0_1 := eldV HO0_1 (Kd.N_base ho39) hb
  replace HO0_2 := eldV HO0_2 (Kd.N_base ho39) hb
  replace HO1_1 := eldV HO1_1 (Kd.N_base ho39) hb
  replace HO1_2 := eldV HO1_2 (Kd.N_base ho39) hb
  have HOA6 := Aside0.mk (Kd.N_lower ho39 (bsz HB))
  replace BKA0 := bkb BKA0 hb
  replace BKA1 := bkb BKA1 hb
  replace BKA2 := bkb BKA2 hb
  replace HB := bst HB hb
  clear hb ho39
  obtain ⟨Ao40, co40, eo40⟩ := Kd.N_slice HOA6.out
  (first | subst eo40 | (injection eo40 with f1_ f2_ f3_; have f4_ := f1_.symm; have f5_ := f3_.symm; clear f1_ f2_ f3_; subst f4_; subst f5_))
  refine hK.out _ _ ⟨bce BKA0 0 _, bce BKA0 1 _, bce BKA0 2 _, bce BKA1 0 _, bce BKA1 1 _, bce BKA1 2 _⟩ (fun hHeld => ?_)
  clear hK K
  refine nm_ 9 ?_
  refine one_ (i := 3) (N := some 10) (bm 11 31) rfl rfl (one_of HT_.out (by kernel_rfl)) (by decide) (fun K hK => ?_)
  refine g_ Try.func65 #[.slice Ao40 yB2.length co40] ?_
  with_reducible refine (impl_ratsCode.calls k _ _ yB2 tA8 _ ?side1 ?side2 A3.out).mono ?_
  (case side1 => exact crC (Kd.N_reads' HOA6.out).2.2)
  (case side2 => exact (Kd.N_reads' HOA6.out).2.1)
  rintro e w41 ⟨rfl, hb⟩
  refine ⟨_, rfl, ?_⟩
  replace HO0_1 := rblV HO0_1 hb
  replace HO0_2 := rblV HO0_2 hb
  replace HO1_1 := rblV HO1_1 hb
  replace HO1_2 := rblV HO1_2 hb
  replace HOA6 := Aside0.mk (Kd.N_below (by (with_reducible repeat (first | apply Kd.N_alloc | apply Kd.N_drewN | apply Kd.N_drew)); exact HOA6.out) hb)
  replace BKA0 := bkb BKA0 hb
  replace BKA1 := bkb BKA1 hb
  replace BKA2 := bkb BKA2 hb
  replace HB := bst HB hb
  (try clear hb)
  (try clear hb2)
  (try clear hk)
  (try clear hi)
  refine hK.out _ _ ⟨bce BKA0 0 _, bce BKA0 1 _, bce BKA0 2 _, bce BKA1 0 _, bce BKA1 1 _, bce BKA1 2 _⟩ (fun hHeld => ?_)
  clear hK K
  refine nm_ 10 ?_
  refine one_ (i := 5) (N := some 12) (bm 11 63) rfl rfl (one_of HT_.out (by kernel_rfl)) (by decide) (fun K hK => ?_)
  refine g_ Try.func59 #[.agg #[.bool a1_0, .slice A1_1 l1_1.length c1_1, .slice A1_2 l1_2.length c1_2]] ?_
  with_reducible refine (impl_Rat_isZero.calls a1_0 _ _ l1_1 _ _ l1_2 tB1 _ ?side1 ?side2 ?side3 ?side4 A4.out).mono ?_
  (case side1 => exact crC (Kd.V_reads' HO1_1.out).2.2)
  (case side2 => exact (Kd.V_reads' HO1_1.out).2.1)
  (case side3 => exact crC (Kd.V_reads' HO1_2.out).2.2)
  (case side4 => exact (Kd.V_reads' HO1_2.out).2.1)
  rintro e w42 ⟨rfl, hb⟩
  refine ⟨_, rfl, ?_⟩
  replace HO0_1 := rblV HO0_1 hb
  replace HO0_2 := rblV HO0_2 hb
  replace HO1_1 := rblV HO1_1 hb
  replace HO1_2 := rblV HO1_2 hb
  replace HOA6 := Aside0.mk (Kd.N_below (by (with_reducible repeat (first | apply Kd.N_alloc | apply Kd.N_drewN | apply Kd.N_drew)); exact HOA6.out) hb)
  replace BKA0 := bkb BKA0 hb
  replace BKA1 := bkb BKA1 hb
  replace BKA2 := bkb BKA2 hb
  replace HB := bst HB hb
  (try clear hb)
  (try clear hb2)
  (try clear hk)
  (try clear hi)
  refine hK.out _ _ ⟨bce BKA0 0 _, bce BKA0 1 _, bce BKA0 2 _, bce BKA1 0 _, bce BKA1 1 _, bce BKA1 2 _⟩ (fun hHeld => ?_)
  clear hK K
  refine nm_ 12 ?_
  refine pu_ 6 (some 13) (bm 11 127) HT_.out ?_
  refine one_ (i := 7) (N := some 14) (bm 11 255) rfl rfl (one_of HT_.out (by kernel_rfl)) (by decide) (fun K hK => ?_)
  refine g_ Try.func81 #[.bool (!tB1), .int .i64 9] ?_
  with_reducible refine (impl_unless.calls (!tB1) 9 tA7 _ A5.out).mono ?_
  rintro e w' ⟨rfl, ⟨nd, rfl⟩⟩
  refine ⟨_, rfl, ?_⟩
  refine hK.out _ _ ⟨bce BKA0 0 _, bce BKA0 1 _, bce BKA0 2 _, bce BKA1 0 _, bce BKA1 1 _, bce BKA1 2 _⟩ (fun hHeld => ?_)
  clear hK K
  refine nm_ 14 ?_
  refine one_ (i := 8) (N := some 15) (bm 11 511) rfl rfl (one_of HT_.out (by kernel_rfl)) (by decide) (fun K hK => ?_)
  refine Kd.R_lit_step (Kd.int .i64) _ 3 ?hg (N := 15) ?hd (xs := ([tA8, tA7] : List Int)) (inner := [.int .i64 tA8, .int .i64 tA7]) (ok := fun _ => True) (okp := fun _ => True) ?hr ?hp (fun _ hk => hk) trivial (Below.refl _ _) (Nat.le_refl _) (by simp) ?_; (case hd => rfl); (case hg => rfl); (case hr => first | (go_simp; done) | (go_simp; rfl)); (case hp => exact (Reps.one (show Kd.M (Kd.int .i64) _ _ _ tA8 [.int .i64 tA8] from rfl) (Reps.one (show Kd.M (Kd.int .i64) _ _ _ tA7 [.int .i64 tA7] from rfl) (Reps.none _ _))))
  intro vC5 w43 ho44 hb hg_ hnew_
  clear hg_ hnew_
  (first | rw [← NyB0.out] at ho44 | (simp only [Int.reduceToNat] at ho44; rw [← NyB0.out] at ho44))
  replace HO0_1 := eldV HO0_1 (Kd.R_base ho44) hb
  replace HO0_2 := eldV HO0_2 (Kd.R_base ho44) hb
  replace HO1_1 := eldV HO1_1 (Kd.R_base ho44) hb
  replace HO1_2 := eldV HO1_2 (Kd.R_base ho44) hb
  replace HOA6 := Aside0.mk (Kd.N_elder' (by (with_reducible repeat (first | apply Kd.N_alloc | apply Kd.N_drewN | apply Kd.N_drew)); exact HOA6.out) (Kd.R_base ho44) hb)
  have HOA9 := lwR (Kd.R_newM (M := fun k_ => (w.heap.size ≤ k_)) ho44 (bsz HB) (fun k_ h_ => h_)) HB
  replace BKA0 := bkb BKA0 hb
  replace BKA1 := bkb BKA1 hb
  replace BKA2 := bkb BKA2 hb
  replace HB := bst HB hb
  clear hb ho44
  obtain ⟨Ao45, co45, eo45⟩ := Kd.R_slice HOA9.out
  (first | subst eo45 | (injection eo45 with f1_ f2_ f3_; have f4_ := f1_.symm; have f5_ := f3_.symm; clear f1_ f2_ f3_; subst f4_; subst f5_))
  refine hK.out _ _ ⟨bce BKA0 0 _, bce BKA0 1 _, bce BKA0 2 _, bce BKA1 0 _, bce BKA1 1 _, bce BKA1 2 _⟩ (fun hHeld => ?_)
  clear hK K
  refine nm_ 15 ?_
  refine one_ (i := 9) (N := some 16) (bm 11 1023) rfl rfl (one_of HT_.out (by kernel_rfl)) (by decide) (fun K hK => ?_)
  refine g_ Try.func80 #[.slice Ao45 yB0.length co45] ?_
  with_reducible refine (impl_first.calls k _ _ yB0 tA5 _ ?side1 ?side2 A6.out).mono ?_
  (case side1 => exact crC (Kd.R_reads' HOA9.out).2.2)
  (case side2 => exact (Kd.R_reads' HOA9.out).2.1)
  rintro e w' ⟨rfl, ⟨nd, rfl⟩⟩
  refine ⟨_, rfl, ?_⟩
  refine hK.out _ _ ⟨bce BKA0 0 _, bce BKA0 1 _, bce BKA0 2 _, bce BKA1 0 _, bce BKA1 1 _, bce BKA1 2 _⟩ (fun hHeld => ?_)
  clear hK K
  refine nm_ 16 ?_
  refine pu_ 10 (some 6) (bm 11 2047) HT_.out ?_
  refine done_ (done_of HT_.out (by kernel_rfl)) ?_
  have hnb46 := NBA2_A0.out
  have hnc46 := NBA0_A2.out
  have hnb47 := NBA2_A1.out
  have hnc47 := NBA1_A2.out
  obtain ⟨hcz48_0, hcz48_1, hcz48_2, hfz48_0, hfz48_1, hfz48_2⟩ := bc3 BKA2
  try go_wp2
  refine bodyPost_ret (results_ct rfl _ _ gbA2 24 #[.bool false, .slice none 0 0, .slice none 0 0] (0, 0) _ rfl (bp3 ⟨blk_drewN BKA2.out nd⟩ _ _ _) Try.underlying24 rfl (by kernel_rfl)) rfl ?_
  exact ⟨_, _, er_, by first | exact Kd.R_nil _ _ _ _ _ | exact Kd.N_nil _ _ _ _ _ | exact Kd.V_nil _ _ _ _ _ | exact Kd.Q_nil _ _ _ _ _ | exact Kd.S_nil _ _ _ _ _, by first | exact Kd.R_nil _ _ _ _ _ | exact Kd.N_nil _ _ _ _ _ | exact Kd.V_nil _ _ _ _ _ | exact Kd.Q_nil _ _ _ _ _ | exact Kd.S_nil _ _ _ _ _, blw HB⟩

end Go.Proofs.Ytacdaijalkkogaa.Q
