-- written by a program of this claim's session (myprint.py) out of the translation; Lean checks it.
import Derived.Test.YtacdaijalkkogaaQx0
import Derived.Test.YtacdaijalkkogaaWords
import Derived.Test.YtacdaijalkkogaaQxbase
import Derived.Test.YtacdaijalkkogaaQxrim
import Derived.Test.YtacdaijalkkogaaQxrmk
namespace Go.Proofs.Ytacdaijalkkogaa.Q
open Go.RowKit Go.Proofs.YtacdaijalkkogaaW.PrintWords Go.Proofs.YtacdaijalkkogaaW.PrintLast Go.Proofs.YtacdaijalkkogaaW.PrintMore
attribute [local go_sem] max2_int min2_int max_two min_two max_three min_three max_four min_four   -- for this text's walks alone
set_option linter.unusedVariables false
set_option linter.unusedSimpArgs false

def spec_MakeRat.j0 : Nat → Int → Int → Bool → Option (Bool × List Int × List Int × Int)
 | 0, _, _, _ => none
 | k + 1, x0, x1, x15 => if x15 = true then (some (false, ([] : List Int), ([] : List Int), 4)) else (if x1 = 0 then (some (false, ([] : List Int), ([] : List Int), 9)) else ((spec_l02Int.f k x0).bind fun btA7 => ((spec_l02Int.f k x1).bind fun btA5 => ((spec_l02Make.f k (btA7.1 != btA5.1) btA7.2.1 btA5.2.1).bind fun btA3 => (some (btA3.1, btA3.2.1, btA3.2.2, 0))))))
def spec_MakeRat.f (k : Nat) (a0 : Int) (a1 : Int) : Option (Bool × List Int × List Int × Int) := (spec_l01In.f a0 (-1000000000) 1000000000).bind fun tB3 => (if tB3 = true then ((spec_l01In.f a1 (-1000000000) 1000000000).bind fun tA8 => (spec_MakeRat.j0 k a0 a1 (!tA8))) else (spec_MakeRat.j0 k a0 a1 true))
theorem spec_MakeRat.mono_l : ∀ k, (∀ y0 y1 y2, LeO (spec_MakeRat.j0 k y0 y1 y2) (spec_MakeRat.j0 (k + 1) y0 y1 y2))
 | 0 => fun _ _ _ r h => by simp [spec_MakeRat.j0] at h
 | k + 1 => by
  have ih0 := spec_MakeRat.mono_l k
  ·
   intro y0 y1 y2
   unfold spec_MakeRat.j0
   repeat' first
   | (with_reducible exact ih0 _ _ _)
   | (with_reducible exact spec_l02Int.mono _ _)
   | (with_reducible exact spec_l02Make.mono _ _ _ _)
   | (with_reducible exact LeO.refl _)
   | (with_reducible exact LeO.none _)
   | (with_reducible refine LeO.ite ?_ ?_)
   | (with_reducible refine LeO.bind ?_ (fun _ => ?_))
   | exact ih0 _ _ _
   | exact spec_l02Int.mono _ _
   | exact spec_l02Make.mono _ _ _ _
   | exact LeO.none _
   | refine LeO.ite ?_ ?_
   | refine LeO.bind ?_ (fun _ => ?_)
theorem spec_MakeRat.mono : ∀ a0 a1 k, LeO (spec_MakeRat.f k a0 a1) (spec_MakeRat.f (k + 1) a0 a1) := by
 intro a0 a1 k
 have ih0 := spec_MakeRat.mono_l k
 unfold spec_MakeRat.f
 repeat' first
   | (with_reducible exact ih0 _ _ _)
   | (with_reducible exact spec_l02Int.mono _ _)
   | (with_reducible exact spec_l02Make.mono _ _ _ _)
   | (with_reducible exact LeO.refl _)
   | (with_reducible exact LeO.none _)
   | (with_reducible refine LeO.ite ?_ ?_)
   | (with_reducible refine LeO.bind ?_ (fun _ => ?_))
   | exact ih0 _ _ _
   | exact spec_l02Int.mono _ _
   | exact spec_l02Make.mono _ _ _ _
   | exact LeO.none _
   | refine LeO.ite ?_ ?_
   | refine LeO.bind ?_ (fun _ => ?_)
set_option maxHeartbeats 8000000 in
set_option maxRecDepth 100000 in
theorem spec_MakeRat.calls (k : Nat) (a0 : Int) (a1 : Int) (r1 : Bool) (r2 : List Int) (r3 : List Int) (r4 : Int) (w : World) (h : spec_MakeRat.f k a0 a1 = some (r1, r2, r3, r4)) :
  Calls Try.prog 15 #[.int .i64 a0, .int .i64 a1] w fun e w' => ∃ v1_ v2_ : Value, e = .returned (.tuple #[.agg #[.bool r1, v1_, v2_], .int .i64 r4]) ∧ Kd.R (Kd.int .i64) 3 w' w.heap.size (fun k_ => nO k_ v2_) v1_ r2 ∧ Kd.R (Kd.int .i64) 3 w' w.heap.size (fun k_ => nO k_ v1_) v2_ r3 ∧ Below w.heap.size w w' := by
 have hu24 := Try.underlying24
 have HB := Aside0.mk (Below.refl w.heap.size w)
 have H : ((spec_l01In.f a0 (-1000000000) 1000000000).bind fun tB3 => (if tB3 = true then ((spec_l01In.f a1 (-1000000000) 1000000000).bind fun tA8 => (spec_MakeRat.j0 k a0 a1 (!tA8))) else (spec_MakeRat.j0 k a0 a1 true))) = some (r1, r2, r3, r4) := h
 clear h
 have HC3 := Aside0.mk H
 clear H
 go_enter Try.func15, Try.ntmps15
 go_upto_region 1 with (first | ((with_reducible refine gate_dst (N := 4) rfl ?_); refine bx_ (N := 4) (cs := #[.bool false, .slice none 0 0, .slice none 0 0]) (t := 24) ?_; intro gbA0 hg w4 hbox hb; have BKA0 := Aside0.mk (hbox); have GWA0 := geh hg HB; have GEA0 := geh hg HB; replace HB := bst HB hb; clear hb hbox hg))
 (try simp only [Act.put, List.setIfInBounds_toArray, List.set_cons_zero, List.set_cons_succ])
 go_cut [15] (fun v15 wc => ∃ (kq : Nat) (x15_2 : Bool), v15 = .bool x15_2 ∧ Aside0 (spec_MakeRat.j0 kq a0 a1 x15_2 = some (r1, r2, r3, r4)) ∧ Aside0 (kq ≤ k) ∧ Aside0 (wc.heap[gbA0]? = some (.cells #[.bool false, (.slice none 0 0), (.slice none 0 0)] 24 (0, 0))) ∧ Aside0 (Below w.heap.size w wc))
 case first =>
  have H := HC3.out
  clear HC3
  replace H := Option.bind_eq_some_iff.mp H
  obtain ⟨tB3, A50, H⟩ := H
  replace H : (if tB3 = true then ((spec_l01In.f a1 (-1000000000) 1000000000).bind fun tA8 => (spec_MakeRat.j0 k a0 a1 (!tA8))) else (spec_MakeRat.j0 k a0 a1 true)) = some (r1, r2, r3, r4) := H
  have A5 := Aside0.mk A50
  clear A50
  by_cases c6 : tB3 = true
  ·
   subst c6
   have H1 : ((spec_l01In.f a1 (-1000000000) 1000000000).bind fun tA8 => (spec_MakeRat.j0 k a0 a1 (!tA8))) = some (r1, r2, r3, r4) := by rw [if_pos rfl] at H; exact H
   clear H
   have H := H1
   clear H1
   replace H := Option.bind_eq_some_iff.mp H
   obtain ⟨tA8, A70, H⟩ := H
   replace H : (spec_MakeRat.j0 k a0 a1 (!tA8)) = some (r1, r2, r3, r4) := H
   have A7 := Aside0.mk A70
   clear A70
   have H' := Aside0.mk H
   clear H
   go_wp2_with (first | ((with_reducible refine gate_callee (f := 45) rfl ?_); refine gL_ (some 9) Try.func45 #[.int .i64 a0, .int .i64 (-1000000000), .int .i64 1000000000] ?_; (with_reducible refine (spec_l01In.calls a0 (-1000000000) 1000000000 true _ A5.out).mono ?_); rintro e w' ⟨rfl, ⟨nd, rfl⟩⟩; refine ⟨_, rfl, ?_⟩) | (go_at_call 45; (with_reducible refine (spec_l01In.calls a1 (-1000000000) 1000000000 tA8 _ A7.out).mono ?_); rintro e w' ⟨rfl, ⟨nd, rfl⟩⟩))
   go_meet
   case rel => exact ⟨_, (!tA8), rs_, H', ⟨by first | omega | exact Nat.le_refl _⟩, ⟨crb BKA0⟩, ⟨blw HB⟩⟩
  ·
   replace c6 := Bool.eq_false_iff.mpr c6
   subst c6
   have H1 : (spec_MakeRat.j0 k a0 a1 true) = some (r1, r2, r3, r4) := by rw [if_neg (show ¬ (false = true) by decide)] at H; exact H
   clear H
   have H := H1
   clear H1
   have H' := Aside0.mk H
   clear H
   go_wp2_with (first | ((with_reducible refine gate_callee (f := 45) rfl ?_); refine gL_ (some 9) Try.func45 #[.int .i64 a0, .int .i64 (-1000000000), .int .i64 1000000000] ?_; (with_reducible refine (spec_l01In.calls a0 (-1000000000) 1000000000 false _ A5.out).mono ?_); rintro e w' ⟨rfl, ⟨nd, rfl⟩⟩; refine ⟨_, rfl, ?_⟩))
   go_meet
   case rel => exact ⟨_, (true), rs_, H', ⟨by first | omega | exact Nat.le_refl _⟩, ⟨crb BKA0⟩, ⟨blw HB⟩⟩
 case rest =>
  clear HC3
  try clear c1
  try clear p2
  try clear c4
  try clear c6
  obtain ⟨kq, x15_2, rfl, HA, HJ2, BKA0, HB⟩ := hcut
  cases kq with
  | zero => exact absurd HA.out (by simp [spec_MakeRat.j0])
  | succ kj2 =>
   have H := HA.out
   clear HA
   simp only [spec_MakeRat.j0] at H
   by_cases c8 : x15_2 = true
   ·
    subst c8
    have H1 : (some (false, ([] : List Int), ([] : List Int), 4)) = some (r1, r2, r3, r4) := by rw [if_pos rfl] at H; exact H
    clear H
    have H := H1
    clear H1
    simp only [Option.some.injEq, Prod.mk.injEq] at H
    obtain ⟨rfl, rfl, rfl, rfl⟩ := H
    obtain ⟨hcz9_0, hcz9_1, hcz9_2, hfz9_0, hfz9_1, hfz9_2⟩ := bc3 BKA0
    go_wp2
    refine bodyPost_ret (results_ct rfl _ _ gbA0 24 #[.bool false, .slice none 0 0, .slice none 0 0] (0, 0) _ rfl (bp3 BKA0 _ _ _) Try.underlying24 rfl (by kernel_rfl)) rfl ?_
    exact ⟨_, _, er_, by first | exact Kd.R_nil _ _ _ _ _ | exact Kd.N_nil _ _ _ _ _ | exact Kd.V_nil _ _ _ _ _ | exact Kd.Q_nil _ _ _ _ _ | exact Kd.S_nil _ _ _ _ _, by first | exact Kd.R_nil _ _ _ _ _ | exact Kd.N_nil _ _ _ _ _ | exact Kd.V_nil _ _ _ _ _ | exact Kd.Q_nil _ _ _ _ _ | exact Kd.S_nil _ _ _ _ _, blw HB⟩
   ·
    replace c8 := Bool.eq_false_iff.mpr c8
    subst c8
    have H1 : (if a1 = 0 then (some (false, ([] : List Int), ([] : List Int), 9)) else ((spec_l02Int.f kj2 a0).bind fun btA7 => ((spec_l02Int.f kj2 a1).bind fun btA5 => ((spec_l02Make.f kj2 (btA7.1 != btA5.1) btA7.2.1 btA5.2.1).bind fun btA3 => (some (btA3.1, btA3.2.1, btA3.2.2, 0)))))) = some (r1, r2, r3, r4) := by rw [if_neg (show ¬ (false = true) by decide)] at H; exact H
    clear H
    have H := H1
    clear H1
    by_cases c10 : a1 = 0
    ·
     rw [if_pos c10] at H
     have c10b0 : (a1 == 0) = true := beq_iff_eq.mpr c10
     have c10b1 : (a1 != 0) = false := bne_eq_false_iff_eq.mpr c10
     clear c10
     simp only [Option.some.injEq, Prod.mk.injEq] at H
     obtain ⟨rfl, rfl, rfl, rfl⟩ := H
     obtain ⟨hcz11_0, hcz11_1, hcz11_2, hfz11_0, hfz11_1, hfz11_2⟩ := bc3 BKA0
     go_wp2
     refine bodyPost_ret (results_ct rfl _ _ gbA0 24 #[.bool false, .slice none 0 0, .slice none 0 0] (0, 0) _ rfl (bp3 BKA0 _ _ _) Try.underlying24 rfl (by kernel_rfl)) rfl ?_
     exact ⟨_, _, er_, by first | exact Kd.R_nil _ _ _ _ _ | exact Kd.N_nil _ _ _ _ _ | exact Kd.V_nil _ _ _ _ _ | exact Kd.Q_nil _ _ _ _ _ | exact Kd.S_nil _ _ _ _ _, by first | exact Kd.R_nil _ _ _ _ _ | exact Kd.N_nil _ _ _ _ _ | exact Kd.V_nil _ _ _ _ _ | exact Kd.Q_nil _ _ _ _ _ | exact Kd.S_nil _ _ _ _ _, blw HB⟩
    ·
     rw [if_neg c10] at H
     have c10b0 : (a1 == 0) = false := beq_eq_false_iff_ne.mpr c10
     have c10b1 : (a1 != 0) = true := bne_iff_ne.mpr c10
     replace H := Option.bind_eq_some_iff.mp H
     obtain ⟨⟨tA7, tB0, tB4⟩, AB8, H⟩ := H
     replace H : ((spec_l02Int.f kj2 a1).bind fun btA5 => ((spec_l02Make.f kj2 (tA7 != btA5.1) tB0 btA5.2.1).bind fun btA3 => (some (btA3.1, btA3.2.1, btA3.2.2, 0)))) = some (r1, r2, r3, r4) := H
     have A12 := Aside0.mk AB8
     clear AB8
     replace H := Option.bind_eq_some_iff.mp H
     obtain ⟨⟨tA5, tB1, tB5⟩, AB9, H⟩ := H
     replace H : ((spec_l02Make.f kj2 (tA7 != tA5) tB0 tB1).bind fun btA3 => (some (btA3.1, btA3.2.1, btA3.2.2, 0))) = some (r1, r2, r3, r4) := H
     have A13 := Aside0.mk AB9
     clear AB9
     replace H := Option.bind_eq_some_iff.mp H
     obtain ⟨⟨tA3, tB6, tB7⟩, AC0, H⟩ := H
     replace H : (some (tA3, tB6, tB7, 0)) = some (r1, r2, r3, r4) := H
     have A14 := Aside0.mk AC0
     clear AC0
     simp only [Option.some.injEq, Prod.mk.injEq] at H
     obtain ⟨rfl, rfl, rfl, rfl⟩ := H
     go_wp2_with (first | ((with_reducible refine gate_callee (f := 46) rfl ?_); refine gL_ (some 21) Try.func46 #[.int .i64 a0] ?_; (with_reducible refine (spec_l02Int.calls kj2 a0 tA7 tB0 tB4 _ A12.out).mono ?_); rintro e w15 ⟨vC3, vC4, rfl, ho0, ho1, hb⟩; refine ⟨_, rfl, ?_⟩; have HOA4 := lwR ho0 HB; have HOA6 := lwR ho1 HB; replace BKA0 := bkb BKA0 hb; replace HB := bst HB hb; (try clear hb); (try clear hb2); (try clear hk); (try clear hi); (try clear ho0); (try clear ho1)) | ((with_reducible refine gate_dst (N := 6) rfl ?_); refine bx_ (N := 6) (cs := #[.bool false, .slice none 0 0, .slice none 0 0]) (t := 24) ?_; intro gbA2 hg w16 hbox hb; replace HOA4 := rblR HOA4 hb; replace HOA6 := rblR HOA6 hb; have BKA2 := Aside0.mk (hbox); have GWA2 := geh hg HB; have GEA2 := geh hg HB; replace HB := bst HB hb; have NBA0_A2 := nlt hg BKA0; have NBA2_A0 := ngt hg BKA0; replace BKA0 := bkb BKA0 hb; clear hb hbox hg; have hnb17 := NBA2_A0.out; have hnc17 := NBA0_A2.out; obtain ⟨hcz18_0, hcz18_1, hcz18_2, hfz18_0, hfz18_1, hfz18_2⟩ := bc3 BKA2; obtain ⟨Ao19, co19, eo19⟩ := Kd.R_slice HOA4.out; subst eo19; obtain ⟨Ao20, co20, eo20⟩ := Kd.R_slice HOA6.out; subst eo20) | ((with_reducible refine gate_callee (f := 46) rfl ?_); refine gL_ (some 23) Try.func46 #[.int .i64 a1] ?_; (with_reducible refine (spec_l02Int.calls kj2 a1 tA5 tB1 tB5 _ A13.out).mono ?_); rintro e w21 ⟨vC5, vC6, rfl, ho0, ho1, hb⟩; refine ⟨_, rfl, ?_⟩; have HOA9 := lwR (nwF (nwF ho0 HOA4 BKA2) HOA6 BKA2) HB; have HOB2 := lwR (nwF (nwF ho1 HOA4 BKA2) HOA6 BKA2) HB; replace HOA4 := tldF HOA4 BKA2 hb (Kd.R_base ho0) (Kd.R_base ho1); replace HOA6 := tldF HOA6 BKA2 hb (Kd.R_base ho0) (Kd.R_base ho1); replace BKA0 := bkf BKA0 hb; replace BKA2 := bkp BKA2 (.bool tA7) (.slice Ao19 tB0.length co19) (.slice Ao20 tB4.length co20) hb; replace HB := bst HB hb; (try clear hb); (try clear hb2); (try clear hk); (try clear hi); (try clear ho0); (try clear ho1)) | ((with_reducible refine gate_dst (N := 7) rfl ?_); refine bx_ (N := 7) (cs := #[.bool false, .slice none 0 0, .slice none 0 0]) (t := 24) ?_; intro gbA1 hg w22 hbox hb; replace HOA4 := rblR HOA4 hb; replace HOA6 := rblR HOA6 hb; replace HOA9 := rblR HOA9 hb; replace HOB2 := rblR HOB2 hb; have BKA1 := Aside0.mk (hbox); have GWA1 := geh hg HB; have GEA1 := geh hg HB; replace HB := bst HB hb; have NBA0_A1 := nlt hg BKA0; have NBA1_A0 := ngt hg BKA0; replace BKA0 := bkb BKA0 hb; have NBA2_A1 := nlt hg BKA2; have NBA1_A2 := ngt hg BKA2; replace BKA2 := bkb BKA2 hb; clear hb hbox hg; have hnb23 := NBA1_A0.out; have hnc23 := NBA0_A1.out; have hnb24 := NBA1_A2.out; have hnc24 := NBA2_A1.out; obtain ⟨hcz25_0, hcz25_1, hcz25_2, hfz25_0, hfz25_1, hfz25_2⟩ := bc3 BKA1; obtain ⟨Ao26, co26, eo26⟩ := Kd.R_slice HOA9.out; subst eo26; obtain ⟨Ao27, co27, eo27⟩ := Kd.R_slice HOB2.out; subst eo27; obtain ⟨hcz28_0, hcz28_1, hcz28_2, hfz28_0, hfz28_1, hfz28_2⟩ := bc3 BKA2) | ((with_reducible refine gate_callee (f := 47) rfl ?_); refine gL_ (some 33) Try.func47 #[.bool (tA7 != tA5), .slice Ao19 tB0.length co19, .slice Ao26 tB1.length co26] ?_; (with_reducible refine (spec_l02Make.calls kj2 (tA7 != tA5) _ _ tB0 _ _ tB1 tA3 tB6 tB7 _ ?side1 ?side2 ?side3 ?side4 A14.out).mono ?_); (case side1 => refine (Kd.R_reads' (e := 3) (base := w.heap.size) (ok := fun k_ => ((nO k_ (.slice Ao20 tB4.length co20) ∧ nO k_ (.slice Ao26 tB1.length co26)) ∧ nO k_ (.slice Ao27 tB5.length co27))) (n := tB0.length) (c := co19) ?_).2.2; exact (crF HOA4 BKA1)); (case side2 => exact (Kd.R_reads' HOA4.out).2.1); (case side3 => refine (Kd.R_reads' (e := 3) (base := w.heap.size) (ok := fun k_ => ((nO k_ (.slice Ao27 tB5.length co27) ∧ nO k_ (.slice Ao19 tB0.length co19)) ∧ nO k_ (.slice Ao20 tB4.length co20))) (n := tB1.length) (c := co26) ?_).2.2; exact (crF HOA9 BKA1)); (case side4 => exact (Kd.R_reads' HOA9.out).2.1); rintro e w29 ⟨vC7, vC8, rfl, ho0, ho1, hb⟩; refine ⟨_, rfl, ?_⟩; have HOC1 := lwR (nwF (nwF (nwF (nwF ho0 HOA4 BKA1) HOA6 BKA1) HOA9 BKA1) HOB2 BKA1) HB; have HOC2 := lwR (nwF (nwF (nwF (nwF ho1 HOA4 BKA1) HOA6 BKA1) HOA9 BKA1) HOB2 BKA1) HB; replace HOA4 := tldF HOA4 BKA1 hb (Kd.R_base ho0) (Kd.R_base ho1); replace HOA6 := tldF HOA6 BKA1 hb (Kd.R_base ho0) (Kd.R_base ho1); replace HOA9 := tldF HOA9 BKA1 hb (Kd.R_base ho0) (Kd.R_base ho1); replace HOB2 := tldF HOB2 BKA1 hb (Kd.R_base ho0) (Kd.R_base ho1); replace BKA0 := bkf BKA0 hb; replace BKA2 := bkf BKA2 hb; replace BKA1 := bkp BKA1 (.bool tA5) (.slice Ao26 tB1.length co26) (.slice Ao27 tB5.length co27) hb; replace HB := bst HB hb; (try clear hb); (try clear hb2); (try clear hk); (try clear hi); (try clear ho0); (try clear ho1); obtain ⟨hcz30_0, hcz30_1, hcz30_2, hfz30_0, hfz30_1, hfz30_2⟩ := bc3 BKA0; obtain ⟨Ao31, co31, eo31⟩ := Kd.R_slice HOC1.out; subst eo31; obtain ⟨Ao32, co32, eo32⟩ := Kd.R_slice HOC2.out; subst eo32))
     refine bodyPost_ret (results_ct rfl _ _ gbA0 24 #[.bool tA3, .slice Ao31 tB6.length co31, .slice Ao32 tB7.length co32] (0, 0) _ rfl (bp3 BKA0 _ _ _) Try.underlying24 rfl (by kernel_rfl)) rfl ?_
     exact ⟨_, _, er_, (crN HOC1 BKA0 fun _ hk => hk.1.1.1.1.1), (crN HOC2 BKA0 fun _ hk => hk.1.1.1.1.1), blw HB⟩

end Go.Proofs.Ytacdaijalkkogaa.Q
