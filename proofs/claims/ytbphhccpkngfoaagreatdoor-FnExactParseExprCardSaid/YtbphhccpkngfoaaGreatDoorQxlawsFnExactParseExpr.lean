-- written by a program of this claim's session (myprint.py) out of the translation; Lean checks it.
import Derived.Test.YtbphhccpkngfoaaGreatDoorQx0
import Derived.Test.YtbphhccpkngfoaaGreatDoorWords
import Derived.Test.YtbphhccpkngfoaaGreatDoorQxParseExpr
import Derived.Test.YtbphhccpkngfoaaGreatDoorQla
namespace Go.Proofs.YtbphhccpkngfoaaGreatDoor.Q
open Go.RowKit Go.Proofs.YtbphhccpkngfoaaGreatDoorW.PrintWords Go.Proofs.YtbphhccpkngfoaaGreatDoorW.PrintLast Go.Proofs.YtbphhccpkngfoaaGreatDoorW.PrintMore
attribute [local go_sem] max2_int min2_int max_two min_two max_three min_three max_four min_four   -- for this text's walks alone
set_option linter.unusedVariables false
set_option linter.unusedSimpArgs false

mutual
def laws_FnExactParseExpr.j0 : Nat → ByteArray → Int → Bool → List (S49) → List (S49) → Option (Bool)
 | 0, _, _, _, _, _ => none
 | k + 1, x0, x4, x32, x343000, x348000 => if x32 = true then (some false) else ((laws_markExpr.f k x348000 1).bind fun btA5 => ((laws_heldExpr.f k btA5.2 1).bind fun tA9 => (if tA9 < 0 then (some false) else (if tA9 = btA5.1 then ((impl_ParseExpr.f k x0).bind fun btA7 => ((laws_eqExpr.f k btA7.1 x343000).bind fun tB4 => (if tB4 = true then (laws_FnExactParseExpr.j1 k btA5.1 (btA7.2 != x4) btA5.2) else (laws_FnExactParseExpr.j1 k btA5.1 true btA5.2)))) else (some false)))))
def laws_FnExactParseExpr.j1 : Nat → Int → Bool → List (S49) → Option (Bool)
 | 0, _, _, _ => none
 | k + 1, x7, x57, x348000 => if x57 = true then (some false) else ((laws_heldExpr.f k x348000 1).bind fun tB1 => (if tB1 < 0 then (some false) else (if tB1 = x7 then (some true) else (some false))))
end
def laws_FnExactParseExpr.f (k : Nat) (a0 : ByteArray) : Option (Bool) := if (a0.size : Int) > 1048576 then (some true) else ((spec_ParseExpr.f k a0).bind fun btA2 => ((impl_ParseExpr.f k a0).bind fun btA3 => ((laws_eqExpr.f k btA3.1 btA2.1).bind fun tB5 => (if tB5 = true then (laws_FnExactParseExpr.j0 k a0 btA2.2 (btA3.2 != btA2.2) btA2.1 btA3.1) else (laws_FnExactParseExpr.j0 k a0 btA2.2 true btA2.1 btA3.1)))))
set_option maxHeartbeats 8000000 in
set_option maxRecDepth 100000 in
theorem laws_FnExactParseExpr.calls (k : Nat) (a0 : ByteArray) (r : Bool) (w : World) (hg_ : LxW w) (h : laws_FnExactParseExpr.f k a0 = some r) (hr_ : r = true) :
  Calls Tryz.prog 3 #[.string a0] w fun e w' => e = .returned (.bool r) ∧ Below w.heap.size w w' := by
 have hu24 := Tryz.underlying24
 have HB := Aside0.mk (Below.refl w.heap.size w)
 have HG := Aside0.mk hg_
 clear hg_
 have H : (if (a0.size : Int) > 1048576 then (some true) else ((spec_ParseExpr.f k a0).bind fun btA2 => ((impl_ParseExpr.f k a0).bind fun btA3 => ((laws_eqExpr.f k btA3.1 btA2.1).bind fun tB5 => (if tB5 = true then (laws_FnExactParseExpr.j0 k a0 btA2.2 (btA3.2 != btA2.2) btA2.1 btA3.1) else (laws_FnExactParseExpr.j0 k a0 btA2.2 true btA2.1 btA3.1)))))) = some r := h
 clear h
 by_cases c2 : (a0.size : Int) > 1048576
 ·
  rw [if_pos c2] at H
  have c2b0 : decide (1048576 < (a0.size : Int)) = true := decide_eq_true c2
  have c2b1 : decide (1048576 < a0.size) = true := decide_eq_true (by omega)
  clear c2
  obtain rfl := Option.some.inj H
  go_enter Tryz.func3, Tryz.ntmps3
  go_wp2
  go_ret
  exact ⟨er_, blw HB⟩
 ·
  rw [if_neg c2] at H
  have c2b0 : decide (1048576 < (a0.size : Int)) = false := decide_eq_false c2
  have c2b1 : decide (1048576 < a0.size) = false := decide_eq_false (by omega)
  clear c2
  replace H := Option.bind_eq_some_iff.mp H
  obtain ⟨⟨tA2, tB0⟩, A30, H⟩ := H
  replace H : ((impl_ParseExpr.f k a0).bind fun btA3 => ((laws_eqExpr.f k btA3.1 tA2).bind fun tB5 => (if tB5 = true then (laws_FnExactParseExpr.j0 k a0 tB0 (btA3.2 != tB0) tA2 btA3.1) else (laws_FnExactParseExpr.j0 k a0 tB0 true tA2 btA3.1)))) = some r := H
  have A3 := Aside0.mk A30
  clear A30
  replace H := Option.bind_eq_some_iff.mp H
  obtain ⟨⟨tA3, tB6⟩, A40, H⟩ := H
  replace H : ((laws_eqExpr.f k tA3 tA2).bind fun tB5 => (if tB5 = true then (laws_FnExactParseExpr.j0 k a0 tB0 (tB6 != tB0) tA2 tA3) else (laws_FnExactParseExpr.j0 k a0 tB0 true tA2 tA3))) = some r := H
  have A4 := Aside0.mk A40
  clear A40
  have HC5 := Aside0.mk H
  clear H
  go_enter Tryz.func3, Tryz.ntmps3
  go_upto_region 5 with (first | ((with_reducible refine gate_callee (f := 4) rfl ?_); refine gL_ (some 16) Tryz.func4 #[.string a0] ?_; (with_reducible refine (spec_ParseExpr.calls k a0 tA2 tB0 _ A3.out).mono ?_); rintro e w6 ⟨vC3, rfl, ho0, hb⟩; refine ⟨_, rfl, ?_⟩; have HOA8 := lwR ho0 HB; replace HB := bst HB hb; (try clear hb); (try clear hb2); (try clear hk); (try clear hi); (try clear ho0)) | ((with_reducible refine gate_dst (N := 3) rfl ?_); refine bx_ (N := 3) (cs := #[.slice none 0 0]) (t := 24) ?_; intro gbA1 hg w7 hbox hb; replace HOA8 := rblR HOA8 hb; have BKA1 := Aside0.mk (hbox); have GWA1 := geh hg HB; have GEA1 := geh hg HB; replace HB := bst HB hb; clear hb hbox hg; obtain ⟨Ao8, co8, eo8⟩ := Kd.R_slice HOA8.out; subst eo8; have hcz9_0 := bce BKA1 0 (.slice none 0 0); have hfz9_0 := blk_frozen BKA1.out 0) | ((with_reducible refine gate_callee (f := 5) rfl ?_); refine gL_ (some 21) Tryz.func5 #[.string a0] ?_; (with_reducible refine (impl_ParseExpr.calls k a0 tA3 tB6 _ (lxW_below HG.out (blw HB) (Nat.le_refl _)) A4.out).mono ?_); rintro e w10 ⟨vC4, rfl, ho0, hb⟩; refine ⟨_, rfl, ?_⟩; have HOB2 := lwR (nwF ho0 HOA8 BKA1) HB; replace HOA8 := eldF HOA8 BKA1 (Kd.R_base ho0) hb; replace BKA1 := Aside0.mk (blk_below (g := gbA1) (o := .cells #[.slice Ao8 tA2.length co8] 24 (0, 0)) (by (with_reducible repeat (first | refine blk_drewN ?_ _ | refine blk_drew ?_ | refine blk_alloc ?_ _)); refine blk_put (cs := #[.slice none 0 0]) ?_ 0 _ rfl; (with_reducible repeat (first | refine blk_drewN ?_ _ | refine blk_drew ?_ | refine blk_alloc ?_ _)); exact BKA1.out) hb); replace HB := bst HB hb; (try clear hb); (try clear hb2); (try clear hk); (try clear hi); (try clear ho0)) | ((with_reducible refine gate_dst (N := 5) rfl ?_); refine bx_ (N := 5) (cs := #[.slice none 0 0]) (t := 24) ?_; intro gbA0 hg w11 hbox hb; replace HOA8 := rblR HOA8 hb; replace HOB2 := rblR HOB2 hb; have BKA0 := Aside0.mk (hbox); have GWA0 := geh hg HB; have GEA0 := geh hg HB; replace HB := bst HB hb; have NBA1_A0 := nlt hg BKA1; have NBA0_A1 := ngt hg BKA1; replace BKA1 := bkb BKA1 hb; clear hb hbox hg; obtain ⟨Ao12, co12, eo12⟩ := Kd.R_slice HOB2.out; subst eo12; have hnb13 := NBA0_A1.out; have hnc13 := NBA1_A0.out; have hcz14_0 := bce BKA0 0 (.slice none 0 0); have hfz14_0 := blk_frozen BKA0.out 0))
  (try simp only [Act.put, List.setIfInBounds_toArray, List.set_cons_zero, List.set_cons_succ])
  go_cut [32] (fun v32 wc => ∃ (kq : Nat) (x32_4 : Bool), v32 = .bool x32_4 ∧ Aside0 (laws_FnExactParseExpr.j0 kq a0 tB0 x32_4 tA2 tA3 = some r) ∧ Aside0 (kq ≤ k) ∧ Aside0 (Kd.R k49 49 wc w.heap.size (fun k_ => nO k_ (.slice Ao12 tA3.length co12)) (.slice Ao8 tA2.length co8) tA2) ∧ Aside0 (Kd.R k49 49 wc w.heap.size (fun k_ => nO k_ (.slice Ao8 tA2.length co8)) (.slice Ao12 tA3.length co12) tA3) ∧ Aside0 (wc.heap[gbA1]? = some (.cells #[(.slice Ao8 tA2.length co8)] 24 (0, 0))) ∧ Aside0 (wc.heap[gbA0]? = some (.cells #[(.slice Ao12 tA3.length co12)] 24 (0, 0))) ∧ Aside0 (Below w.heap.size w wc))
  case first =>
   have H := HC5.out
   clear HC5
   replace H := Option.bind_eq_some_iff.mp H
   obtain ⟨tB5, AB8, H⟩ := H
   replace H : (if tB5 = true then (laws_FnExactParseExpr.j0 k a0 tB0 (tB6 != tB0) tA2 tA3) else (laws_FnExactParseExpr.j0 k a0 tB0 true tA2 tA3)) = some r := H
   have A15 := Aside0.mk AB8
   clear AB8
   by_cases c16 : tB5 = true
   ·
    subst c16
    rw [if_pos rfl] at H
    have H' := Aside0.mk H
    clear H
    have hnb17 := NBA0_A1.out
    have hnc17 := NBA1_A0.out
    have hcz18_0 := bce BKA0 0 (.slice none 0 0)
    have hfz18_0 := blk_frozen BKA0.out 0
    have hcz19_0 := bce BKA1 0 (.slice Ao8 tA2.length co8)
    have hfz19_0 := blk_frozen BKA1.out 0
    go_wp2_with (first | ((with_reducible refine gate_callee (f := 6) rfl ?_); refine gL_ (some 26) Tryz.func6 #[.agg #[.slice Ao12 tA3.length co12], .agg #[.slice Ao8 tA2.length co8]] ?_; (with_reducible refine (laws_eqExpr.calls k _ _ tA3 _ _ tA2 true _ ?side1 ?side2 ?side3 ?side4 A15.out).mono ?_); (case side1 => refine (Kd.R_reads' (e := 49) (base := w.heap.size) (ok := fun k_ => (True ∧ nO k_ (.slice Ao8 tA2.length co8))) (n := tA3.length) (c := co12) ?_).2.2; exact (crF HOB2 BKA0)); (case side2 => exact (Kd.R_reads' HOB2.out).2.1); (case side3 => refine (Kd.R_reads' (e := 49) (base := w.heap.size) (ok := fun k_ => (True ∧ nO k_ (.slice Ao12 tA3.length co12))) (n := tA2.length) (c := co8) ?_).2.2; exact (crF HOA8 BKA0)); (case side4 => exact (Kd.R_reads' HOA8.out).2.1); rintro e w20 ⟨rfl, hb⟩; refine ⟨_, rfl, ?_⟩; replace HOA8 := rblF HOA8 BKA0 hb; replace HOB2 := rblF HOB2 BKA0 hb; replace BKA1 := bkf BKA1 hb; replace BKA0 := Aside0.mk (blk_below (g := gbA0) (o := .cells #[.slice Ao12 tA3.length co12] 24 (0, 0)) (by (with_reducible repeat (first | refine blk_drewN ?_ _ | refine blk_drew ?_ | refine blk_alloc ?_ _)); refine blk_put (cs := #[.slice none 0 0]) ?_ 0 _ rfl; (with_reducible repeat (first | refine blk_drewN ?_ _ | refine blk_drew ?_ | refine blk_alloc ?_ _)); exact BKA0.out) hb); replace HB := bst HB hb; (try clear hb); (try clear hb2); (try clear hk); (try clear hi)))
    go_meet
    case rel => exact ⟨_, ((tB6 != tB0)), rs_, H', ⟨by first | omega | exact Nat.le_refl _⟩, ⟨crM HOA8 fun _ hk => hk.2⟩, ⟨crM HOB2 fun _ hk => hk.2⟩, ⟨crb BKA1⟩, ⟨crb BKA0⟩, ⟨blw HB⟩⟩
   ·
    replace c16 := Bool.eq_false_iff.mpr c16
    subst c16
    rw [if_neg (show ¬ (false = true) by decide)] at H
    have H' := Aside0.mk H
    clear H
    have hnb21 := NBA0_A1.out
    have hnc21 := NBA1_A0.out
    have hcz22_0 := bce BKA0 0 (.slice none 0 0)
    have hfz22_0 := blk_frozen BKA0.out 0
    have hcz23_0 := bce BKA1 0 (.slice Ao8 tA2.length co8)
    have hfz23_0 := blk_frozen BKA1.out 0
    go_wp2_with (first | ((with_reducible refine gate_callee (f := 6) rfl ?_); refine gL_ (some 26) Tryz.func6 #[.agg #[.slice Ao12 tA3.length co12], .agg #[.slice Ao8 tA2.length co8]] ?_; (with_reducible refine (laws_eqExpr.calls k _ _ tA3 _ _ tA2 false _ ?side1 ?side2 ?side3 ?side4 A15.out).mono ?_); (case side1 => refine (Kd.R_reads' (e := 49) (base := w.heap.size) (ok := fun k_ => (True ∧ nO k_ (.slice Ao8 tA2.length co8))) (n := tA3.length) (c := co12) ?_).2.2; exact (crF HOB2 BKA0)); (case side2 => exact (Kd.R_reads' HOB2.out).2.1); (case side3 => refine (Kd.R_reads' (e := 49) (base := w.heap.size) (ok := fun k_ => (True ∧ nO k_ (.slice Ao12 tA3.length co12))) (n := tA2.length) (c := co8) ?_).2.2; exact (crF HOA8 BKA0)); (case side4 => exact (Kd.R_reads' HOA8.out).2.1); rintro e w24 ⟨rfl, hb⟩; refine ⟨_, rfl, ?_⟩; replace HOA8 := rblF HOA8 BKA0 hb; replace HOB2 := rblF HOB2 BKA0 hb; replace BKA1 := bkf BKA1 hb; replace BKA0 := Aside0.mk (blk_below (g := gbA0) (o := .cells #[.slice Ao12 tA3.length co12] 24 (0, 0)) (by (with_reducible repeat (first | refine blk_drewN ?_ _ | refine blk_drew ?_ | refine blk_alloc ?_ _)); refine blk_put (cs := #[.slice none 0 0]) ?_ 0 _ rfl; (with_reducible repeat (first | refine blk_drewN ?_ _ | refine blk_drew ?_ | refine blk_alloc ?_ _)); exact BKA0.out) hb); replace HB := bst HB hb; (try clear hb); (try clear hb2); (try clear hk); (try clear hi)))
    go_meet
    case rel => exact ⟨_, (true), rs_, H', ⟨by first | omega | exact Nat.le_refl _⟩, ⟨crM HOA8 fun _ hk => hk.2⟩, ⟨crM HOB2 fun _ hk => hk.2⟩, ⟨crb BKA1⟩, ⟨crb BKA0⟩, ⟨blw HB⟩⟩
  case rest =>
   clear HC5
   try clear c1
   try clear c2
   try clear c2b0
   try clear c2b1
   try clear p2
   try clear c3
   try clear c4
   try clear c5
   try clear c6
   try clear c13
   try clear c16
   try clear c17
   try clear c21
   try clear hcz14_0
   try clear hcz18_0
   try clear hcz19_0
   try clear hcz22_0
   try clear hcz23_0
   try clear hcz9_0
   try clear hfz14_0
   try clear hfz18_0
   try clear hfz19_0
   try clear hfz22_0
   try clear hfz23_0
   try clear hfz9_0
   obtain ⟨kq, x32_4, rfl, HA, HJ4, HO_343000, HO_348000, BKA1, BKA0, HB⟩ := hcut
   cases kq with
   | zero => exact absurd HA.out (by simp [laws_FnExactParseExpr.j0])
   | succ kj4 =>
    have H := HA.out
    clear HA
    simp only [laws_FnExactParseExpr.j0] at H
    by_cases c25 : x32_4 = true
    ·
     subst c25
     rw [if_pos rfl] at H
     obtain rfl := Option.some.inj H
     exact absurd hr_ (by decide)
    ·
     replace c25 := Bool.eq_false_iff.mpr c25
     subst c25
     rw [if_neg (show ¬ (false = true) by decide)] at H
     replace H := Option.bind_eq_some_iff.mp H
     obtain ⟨⟨tA5, tA6⟩, AB9, H⟩ := H
     replace H : ((laws_heldExpr.f kj4 tA6 1).bind fun tA9 => (if tA9 < 0 then (some false) else (if tA9 = tA5 then ((impl_ParseExpr.f kj4 a0).bind fun btA7 => ((laws_eqExpr.f kj4 btA7.1 tA2).bind fun tB4 => (if tB4 = true then (laws_FnExactParseExpr.j1 kj4 tA5 (btA7.2 != tB0) tA6) else (laws_FnExactParseExpr.j1 kj4 tA5 true tA6)))) else (some false)))) = some r := H
     have A26 := Aside0.mk AB9
     clear AB9
     replace H := Option.bind_eq_some_iff.mp H
     obtain ⟨tA9, AC0, H⟩ := H
     replace H : (if tA9 < 0 then (some false) else (if tA9 = tA5 then ((impl_ParseExpr.f kj4 a0).bind fun btA7 => ((laws_eqExpr.f kj4 btA7.1 tA2).bind fun tB4 => (if tB4 = true then (laws_FnExactParseExpr.j1 kj4 tA5 (btA7.2 != tB0) tA6) else (laws_FnExactParseExpr.j1 kj4 tA5 true tA6)))) else (some false))) = some r := H
     have A27 := Aside0.mk AC0
     clear AC0
     by_cases c28 : tA9 < 0
     ·
      rw [if_pos c28] at H
      have c28b0 : decide (tA9 < 0) = true := decide_eq_true c28
      clear c28
      obtain rfl := Option.some.inj H
      exact absurd hr_ (by decide)
     ·
      rw [if_neg c28] at H
      have c28b0 : decide (tA9 < 0) = false := decide_eq_false c28
      clear c28
      by_cases c34 : tA9 = tA5
      ·
       rw [if_pos c34] at H
       have c34b0 : (tA9 == tA5) = true := beq_iff_eq.mpr c34
       have c34b1 : (tA9 != tA5) = false := bne_eq_false_iff_eq.mpr c34
       clear c34
       replace H := Option.bind_eq_some_iff.mp H
       obtain ⟨⟨tA7, tB7⟩, AA6, H⟩ := H
       replace H : ((laws_eqExpr.f kj4 tA7 tA2).bind fun tB4 => (if tB4 = true then (laws_FnExactParseExpr.j1 kj4 tA5 (tB7 != tB0) tA6) else (laws_FnExactParseExpr.j1 kj4 tA5 true tA6))) = some r := H
       have A35 := Aside0.mk AA6
       clear AA6
       have HC36 := Aside0.mk H
       clear H
       have hnb37 := NBA0_A1.out
       have hnc37 := NBA1_A0.out
       have hcz38_0 := bce BKA0 0 (.slice Ao12 tA3.length co12)
       have hfz38_0 := blk_frozen BKA0.out 0
       go_upto_region 16 with (first | ((with_reducible refine gate_callee (f := 7) rfl ?_); refine gL_ (some 35) Tryz.func7 #[.agg #[.slice Ao12 tA3.length co12], .int .i64 1] ?_; (with_reducible refine (laws_markExpr.calls kj4 (fun k_ => some k_ = (.slice Ao12 tA3.length co12 : Value).ownBlock) (.slice Ao12 tA3.length co12) tA3 1 tA5 tA6 w _ ?side1 ?side2 A26.out).mono ?_); (case side1 => repeat (first | (with_reducible first | exact HB.out | apply below_alloc | apply pw_below_drewN | apply below_drew1 | refine below_set ?_ GEA1.out | refine below_set ?_ GEA0.out) | exact HB.out)); (case side2 => exact Kd.R_tight rfl HO_348000.out); rintro e w39 ⟨rfl, hy0, hb, hkp⟩; refine ⟨_, rfl, ?_⟩; replace HO_343000 := Aside0.mk (Kd.R_mono (ok' := fun k_ => nO k_ (.slice Ao12 tA3.length co12)) (Kd.R_keptB (HO_343000.out) hkp (fun k_ hk_ hs_ => (hk_) hs_)) (fun k_ hk_ => hk_.1)); replace BKA1 := Aside0.mk (blk_kept (crb BKA1) hkp (fun hs_ => (fun e_ => (Kd.R_ne HO_348000.out BKA1.out (by decide)) e_) hs_)); replace BKA0 := Aside0.mk (blk_kept (crb BKA0) hkp (fun hs_ => (fun e_ => (Kd.R_ne HO_348000.out BKA0.out (by decide)) e_) hs_)); replace HO_348000 := Aside0.mk (Kd.R_reok rfl hy0 (fun k_ e_ => HO_348000.out.1 k_ e_)); replace HB := Aside0.mk (hb); (try clear hb); (try clear hkp); (try clear hy0); have hcz40_0 := bce BKA0 0 (.slice Ao12 tA3.length co12); have hfz40_0 := blk_frozen BKA0.out 0) | ((with_reducible refine gate_callee (f := 8) rfl ?_); refine goesL_ (some 38) rfl rfl Tryz.func8 (by kernel_rfl) rfl #[.agg #[.slice Ao12 tA6.length co12], .int .i64 1] rfl (by (try simp only [List.map_toArray, List.map_cons, List.map_nil]); first | done | (rw [show tA6.length = tA3.length from (Kd.R_reads' HO_348000.out).1.symm] <;> rfl) | rfl | (simp only [List.length_drop, List.length_take]; rfl)) ?_; (with_reducible refine (laws_heldExpr.calls kj4 _ _ tA6 1 tA9 _ ?side1 ?side2 A27.out).mono ?_); (case side1 => exact crC (Kd.R_reads' HO_348000.out).2.2); (case side2 => rw [show tA6.length = tA3.length from (Kd.R_reads' HO_348000.out).1.symm]; exact (Kd.R_reads' HO_348000.out).2.1); rintro e w41 ⟨rfl, hb⟩; refine ⟨_, rfl, ?_⟩; replace HO_343000 := rblR HO_343000 hb; replace HO_348000 := rblR HO_348000 hb; replace BKA1 := bkb BKA1 hb; replace BKA0 := bkb BKA0 hb; replace HB := bst HB hb; (try clear hb); (try clear hb2); (try clear hk); (try clear hi)) | ((with_reducible refine gate_callee (f := 5) rfl ?_); refine gL_ (some 46) Tryz.func5 #[.string a0] ?_; (with_reducible refine (impl_ParseExpr.calls kj4 a0 tA7 tB7 _ (lxW_below HG.out (blw HB) (Nat.le_refl _)) A35.out).mono ?_); rintro e w42 ⟨vC5, rfl, ho0, hb⟩; refine ⟨_, rfl, ?_⟩; have HOB3 := lwR (nwR (nwR ho0 HO_343000) HO_348000) HB; replace HO_343000 := eldR HO_343000 (Kd.R_base ho0) hb; replace HO_348000 := eldR HO_348000 (Kd.R_base ho0) hb; replace BKA1 := bkb BKA1 hb; replace BKA0 := bkb BKA0 hb; replace HB := bst HB hb; (try clear hb); (try clear hb2); (try clear hk); (try clear hi); (try clear ho0)) | ((with_reducible refine gate_dst (N := 9) rfl ?_); refine bx_ (N := 9) (cs := #[.slice none 0 0]) (t := 24) ?_; intro gbA4 hg w43 hbox hb; replace HO_343000 := rblR HO_343000 hb; replace HO_348000 := rblR HO_348000 hb; replace HOB3 := rblR HOB3 hb; have BKA4 := Aside0.mk (hbox); have GWA4 := geh hg HB; have GEA4 := geh hg HB; replace HB := bst HB hb; have NBA1_A4 := nlt hg BKA1; have NBA4_A1 := ngt hg BKA1; replace BKA1 := bkb BKA1 hb; have NBA0_A4 := nlt hg BKA0; have NBA4_A0 := ngt hg BKA0; replace BKA0 := bkb BKA0 hb; clear hb hbox hg; obtain ⟨Ao44, co44, eo44⟩ := Kd.R_slice HOB3.out; subst eo44; have hnb45 := NBA4_A1.out; have hnc45 := NBA1_A4.out; have hnb46 := NBA4_A0.out; have hnc46 := NBA0_A4.out; have hcz47_0 := bce BKA4 0 (.slice none 0 0); have hfz47_0 := blk_frozen BKA4.out 0))
       (try simp only [Act.put, List.setIfInBounds_toArray, List.set_cons_zero, List.set_cons_succ])
       go_cut [57] (fun v57 wc => ∃ (kq : Nat) (x57_35 : Bool), v57 = .bool x57_35 ∧ Aside0 (laws_FnExactParseExpr.j1 kq tA5 x57_35 tA6 = some r) ∧ Aside0 (kq ≤ kj4) ∧ Aside0 (Kd.R k49 49 wc w.heap.size (fun _ => True) (.slice Ao12 tA3.length co12) tA6) ∧ Aside0 (wc.heap[gbA0]? = some (.cells #[(.slice Ao12 tA3.length co12)] 24 (0, 0))) ∧ Aside0 (Below w.heap.size w wc))
       case first =>
        have H := HC36.out
        clear HC36
        replace H := Option.bind_eq_some_iff.mp H
        obtain ⟨tB4, AC1, H⟩ := H
        replace H : (if tB4 = true then (laws_FnExactParseExpr.j1 kj4 tA5 (tB7 != tB0) tA6) else (laws_FnExactParseExpr.j1 kj4 tA5 true tA6)) = some r := H
        have A48 := Aside0.mk AC1
        clear AC1
        by_cases c49 : tB4 = true
        ·
         subst c49
         rw [if_pos rfl] at H
         have H' := Aside0.mk H
         clear H
         have hnb50 := NBA4_A1.out
         have hnc50 := NBA1_A4.out
         have hnb51 := NBA4_A0.out
         have hnc51 := NBA0_A4.out
         have hcz52_0 := bce BKA4 0 (.slice none 0 0)
         have hfz52_0 := blk_frozen BKA4.out 0
         have hnb53 := NBA1_A0.out
         have hnc53 := NBA0_A1.out
         have hcz54_0 := bce BKA1 0 (.slice Ao8 tA2.length co8)
         have hfz54_0 := blk_frozen BKA1.out 0
         go_wp2_with (first | ((with_reducible refine gate_callee (f := 6) rfl ?_); refine gL_ (some 51) Tryz.func6 #[.agg #[.slice Ao44 tA7.length co44], .agg #[.slice Ao8 tA2.length co8]] ?_; (with_reducible refine (laws_eqExpr.calls kj4 _ _ tA7 _ _ tA2 true _ ?side1 ?side2 ?side3 ?side4 A48.out).mono ?_); (case side1 => refine (Kd.R_reads' (e := 49) (base := w.heap.size) (ok := fun k_ => ((True ∧ nO k_ (.slice Ao8 tA2.length co8)) ∧ nO k_ (.slice Ao12 tA3.length co12))) (n := tA7.length) (c := co44) ?_).2.2; exact (crF HOB3 BKA4)); (case side2 => exact (Kd.R_reads' HOB3.out).2.1); (case side3 => refine (Kd.R_reads' (e := 49) (base := w.heap.size) (ok := fun k_ => (nO k_ (.slice Ao12 tA3.length co12) ∧ nO k_ (.slice Ao44 tA7.length co44))) (n := tA2.length) (c := co8) ?_).2.2; exact (crF HO_343000 BKA4)); (case side4 => exact (Kd.R_reads' HO_343000.out).2.1); rintro e w55 ⟨rfl, hb⟩; refine ⟨_, rfl, ?_⟩; replace HO_343000 := rblF HO_343000 BKA4 hb; replace HO_348000 := rblF HO_348000 BKA4 hb; replace HOB3 := rblF HOB3 BKA4 hb; replace BKA1 := bkf BKA1 hb; replace BKA0 := bkf BKA0 hb; replace BKA4 := Aside0.mk (blk_below (g := gbA4) (o := .cells #[.slice Ao44 tA7.length co44] 24 (0, 0)) (by (with_reducible repeat (first | refine blk_drewN ?_ _ | refine blk_drew ?_ | refine blk_alloc ?_ _)); refine blk_put (cs := #[.slice none 0 0]) ?_ 0 _ rfl; (with_reducible repeat (first | refine blk_drewN ?_ _ | refine blk_drew ?_ | refine blk_alloc ?_ _)); exact BKA4.out) hb); replace HB := bst HB hb; (try clear hb); (try clear hb2); (try clear hk); (try clear hi)))
         go_meet
         case rel => exact ⟨_, ((tB7 != tB0)), rs_, H', ⟨by have := HJ4.out; first | omega | exact Nat.le_refl _⟩, ⟨crM HO_348000 fun _ hk => trivial⟩, ⟨crb BKA0⟩, ⟨blw HB⟩⟩
        ·
         replace c49 := Bool.eq_false_iff.mpr c49
         subst c49
         rw [if_neg (show ¬ (false = true) by decide)] at H
         have H' := Aside0.mk H
         clear H
         have hnb56 := NBA4_A1.out
         have hnc56 := NBA1_A4.out
         have hnb57 := NBA4_A0.out
         have hnc57 := NBA0_A4.out
         have hcz58_0 := bce BKA4 0 (.slice none 0 0)
         have hfz58_0 := blk_frozen BKA4.out 0
         have hnb59 := NBA1_A0.out
         have hnc59 := NBA0_A1.out
         have hcz60_0 := bce BKA1 0 (.slice Ao8 tA2.length co8)
         have hfz60_0 := blk_frozen BKA1.out 0
         go_wp2_with (first | ((with_reducible refine gate_callee (f := 6) rfl ?_); refine gL_ (some 51) Tryz.func6 #[.agg #[.slice Ao44 tA7.length co44], .agg #[.slice Ao8 tA2.length co8]] ?_; (with_reducible refine (laws_eqExpr.calls kj4 _ _ tA7 _ _ tA2 false _ ?side1 ?side2 ?side3 ?side4 A48.out).mono ?_); (case side1 => refine (Kd.R_reads' (e := 49) (base := w.heap.size) (ok := fun k_ => ((True ∧ nO k_ (.slice Ao8 tA2.length co8)) ∧ nO k_ (.slice Ao12 tA3.length co12))) (n := tA7.length) (c := co44) ?_).2.2; exact (crF HOB3 BKA4)); (case side2 => exact (Kd.R_reads' HOB3.out).2.1); (case side3 => refine (Kd.R_reads' (e := 49) (base := w.heap.size) (ok := fun k_ => (nO k_ (.slice Ao12 tA3.length co12) ∧ nO k_ (.slice Ao44 tA7.length co44))) (n := tA2.length) (c := co8) ?_).2.2; exact (crF HO_343000 BKA4)); (case side4 => exact (Kd.R_reads' HO_343000.out).2.1); rintro e w61 ⟨rfl, hb⟩; refine ⟨_, rfl, ?_⟩; replace HO_343000 := rblF HO_343000 BKA4 hb; replace HO_348000 := rblF HO_348000 BKA4 hb; replace HOB3 := rblF HOB3 BKA4 hb; replace BKA1 := bkf BKA1 hb; replace BKA0 := bkf BKA0 hb; replace BKA4 := Aside0.mk (blk_below (g := gbA4) (o := .cells #[.slice Ao44 tA7.length co44] 24 (0, 0)) (by (with_reducible repeat (first | refine blk_drewN ?_ _ | refine blk_drew ?_ | refine blk_alloc ?_ _)); refine blk_put (cs := #[.slice none 0 0]) ?_ 0 _ rfl; (with_reducible repeat (first | refine blk_drewN ?_ _ | refine blk_drew ?_ | refine blk_alloc ?_ _)); exact BKA4.out) hb); replace HB := bst HB hb; (try clear hb); (try clear hb2); (try clear hk); (try clear hi)))
         go_meet
         case rel => exact ⟨_, (true), rs_, H', ⟨by have := HJ4.out; first | omega | exact Nat.le_refl _⟩, ⟨crM HO_348000 fun _ hk => trivial⟩, ⟨crb BKA0⟩, ⟨blw HB⟩⟩
       case rest =>
        clear HC36
        try clear c1
        try clear c2
        try clear c2b0
        try clear c2b1
        try clear p2
        try clear c3
        try clear c4
        try clear c5
        try clear c6
        try clear c7
        try clear c8
        try clear c13
        try clear c16
        try clear c17
        try clear c21
        try clear c25
        try clear c28
        try clear c28b0
        try clear c29
        try clear c34
        try clear c34b0
        try clear c34b1
        try clear c37
        try clear c45
        try clear c46
        try clear c49
        try clear c50
        try clear c51
        try clear c53
        try clear c56
        try clear c57
        try clear c59
        try clear hcz14_0
        try clear hcz18_0
        try clear hcz19_0
        try clear hcz22_0
        try clear hcz23_0
        try clear hcz30_0
        try clear hcz32_0
        try clear hcz38_0
        try clear hcz40_0
        try clear hcz47_0
        try clear hcz52_0
        try clear hcz54_0
        try clear hcz58_0
        try clear hcz60_0
        try clear hcz9_0
        try clear hfz14_0
        try clear hfz18_0
        try clear hfz19_0
        try clear hfz22_0
        try clear hfz23_0
        try clear hfz30_0
        try clear hfz32_0
        try clear hfz38_0
        try clear hfz40_0
        try clear hfz47_0
        try clear hfz52_0
        try clear hfz54_0
        try clear hfz58_0
        try clear hfz60_0
        try clear hfz9_0
        try clear p2
        obtain ⟨kq, x57_35, rfl, HA, HJ35, HO_348000, BKA0, HB⟩ := hcut
        have hl348000_35 := (Kd.R_reads' HO_348000.out).1
        rw [hl348000_35] at HO_348000
        (try simp only [hl348000_35])
        (try simp only [hl348000_35] at BKA0)
        cases kq with
        | zero => exact absurd HA.out (by simp [laws_FnExactParseExpr.j1])
        | succ kj35 =>
         have H := HA.out
         clear HA
         simp only [laws_FnExactParseExpr.j1] at H
         by_cases c62 : x57_35 = true
         ·
          subst c62
          rw [if_pos rfl] at H
          obtain rfl := Option.some.inj H
          exact absurd hr_ (by decide)
         ·
          replace c62 := Bool.eq_false_iff.mpr c62
          subst c62
          rw [if_neg (show ¬ (false = true) by decide)] at H
          replace H := Option.bind_eq_some_iff.mp H
          obtain ⟨tB1, AC2, H⟩ := H
          replace H : (if tB1 < 0 then (some false) else (if tB1 = tA5 then (some true) else (some false))) = some r := H
          have A63 := Aside0.mk AC2
          clear AC2
          by_cases c64 : tB1 < 0
          ·
           rw [if_pos c64] at H
           have c64b0 : decide (tB1 < 0) = true := decide_eq_true c64
           clear c64
           obtain rfl := Option.some.inj H
           exact absurd hr_ (by decide)
          ·
           rw [if_neg c64] at H
           have c64b0 : decide (tB1 < 0) = false := decide_eq_false c64
           clear c64
           by_cases c67 : tB1 = tA5
           ·
            rw [if_pos c67] at H
            have c67b0 : (tB1 == tA5) = true := beq_iff_eq.mpr c67
            have c67b1 : (tB1 != tA5) = false := bne_eq_false_iff_eq.mpr c67
            clear c67
            obtain rfl := Option.some.inj H
            have hcz68_0 := bce BKA0 0 (.slice Ao12 tA6.length co12)
            have hfz68_0 := blk_frozen BKA0.out 0
            go_wp2_with (first | ((with_reducible refine gate_callee (f := 8) rfl ?_); refine gL_ (some 60) Tryz.func8 #[.agg #[.slice Ao12 tA6.length co12], .int .i64 1] ?_; (with_reducible refine (laws_heldExpr.calls kj35 _ _ tA6 1 tB1 _ ?side1 ?side2 A63.out).mono ?_); (case side1 => exact crC (Kd.R_reads' HO_348000.out).2.2); (case side2 => exact (Kd.R_reads' HO_348000.out).2.1); rintro e w69 ⟨rfl, hb⟩; refine ⟨_, rfl, ?_⟩; replace HO_348000 := rblR HO_348000 hb; replace BKA0 := bkb BKA0 hb; replace HB := bst HB hb; (try clear hb); (try clear hb2); (try clear hk); (try clear hi)))
            go_ret
            exact ⟨er_, blw HB⟩
           ·
            rw [if_neg c67] at H
            have c67b0 : (tB1 == tA5) = false := beq_eq_false_iff_ne.mpr c67
            have c67b1 : (tB1 != tA5) = true := bne_iff_ne.mpr c67
            obtain rfl := Option.some.inj H
            exact absurd hr_ (by decide)
      ·
       rw [if_neg c34] at H
       have c34b0 : (tA9 == tA5) = false := beq_eq_false_iff_ne.mpr c34
       have c34b1 : (tA9 != tA5) = true := bne_iff_ne.mpr c34
       obtain rfl := Option.some.inj H
       exact absurd hr_ (by decide)

/-- THE ONE PURE STATEMENT of laws_FnExactParseExpr: yours. -/
def laws_FnExactParseExpr.Pure : Prop := ∀ (a0 : ByteArray), a0.size ≤ 140737488351232 → ∃ k, laws_FnExactParseExpr.f k a0 = some true
theorem laws_FnExactParseExpr.walk (P : laws_FnExactParseExpr.Pure) (a0 : ByteArray) (w : World) (hg_ : LxW w) (w0 : a0.size ≤ 140737488351232) :
  Calls Tryz.prog 3 #[.string a0] w fun e w' => e = .returned (.bool true) ∧ Below w.heap.size w w' := by
 obtain ⟨k, h⟩ := P a0 w0
 refine (laws_FnExactParseExpr.calls k a0 true w hg_ h rfl).mono ?_
 rintro e w' ⟨rfl, hd⟩
 exact ⟨rfl, hd⟩

end Go.Proofs.YtbphhccpkngfoaaGreatDoor.Q
