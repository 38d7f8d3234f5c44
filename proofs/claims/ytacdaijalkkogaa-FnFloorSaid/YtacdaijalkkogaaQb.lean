-- several texts of this claim in one
import Derived.Test.YtacdaijalkkogaaQa
import Derived.Test.YtacdaijalkkogaaWords
import Derived.Test.YtacdaijalkkogaaQxdiv
namespace Go.Proofs.Ytacdaijalkkogaa.Q
open Go.RowKit Go.Proofs.YtacdaijalkkogaaW.PrintWords Go.Proofs.YtacdaijalkkogaaW.PrintLast Go.Proofs.YtacdaijalkkogaaW.PrintMore
attribute [local go_sem] max2_int min2_int max_two min_two max_three min_three max_four min_four   -- for this text's walks alone
set_option linter.unusedVariables false
set_option linter.unusedSimpArgs false
def impl_natGcd.l0 : Nat → List Int → List Int → Option (List Int)
 | 0, _, _ => none
 | k + 1, x0, x1 => if (x1.length : Int) > 0 then ((impl_natDiv.f x0 x1).bind fun btA1 => (impl_natGcd.l0 k x1 btA1.2)) else (some x0)
def impl_natGcd.f (k : Nat) (l0 : List Int) (l1 : List Int) : Option (List Int) := impl_natGcd.l0 k l0 l1
set_option maxHeartbeats 8000000 in
set_option maxRecDepth 100000 in
theorem impl_natGcd.calls (k : Nat) (P0_ : Nat → Prop) (A0 : Option Addr) (c0 : Nat) (l0 : List Int) (P1_ : Nat → Prop) (A1 : Option Addr) (c1 : Nat) (l1 : List Int) (r : List Int) (w : World) (hs0 : Kd.V (Kd.int .i64) 3 w w.heap.size (fun k_ => P0_ k_) (.slice A0 l0.length c0) l0) (hs1 : Kd.V (Kd.int .i64) 3 w w.heap.size (fun k_ => P1_ k_) (.slice A1 l1.length c1) l1) (h : impl_natGcd.f k l0 l1 = some r) :
  Calls Try.prog 61 #[.slice A0 l0.length c0, .slice A1 l1.length c1] w fun e w' => ∃ v0_ : Value, e = .returned (v0_) ∧ Kd.V (Kd.int .i64) 3 w' w.heap.size (fun k_ => ((P0_ k_ ∨ P1_ k_) ∨ w.heap.size ≤ k_)) v0_ r ∧ Below w.heap.size w w' := by
 have HO0 := Aside0.mk (show Kd.V (Kd.int .i64) 3 w w.heap.size (fun k_ => ((P0_ k_ ∨ P1_ k_) ∨ w.heap.size ≤ k_)) (.slice A0 l0.length c0) l0 from Kd.V_mono hs0 (fun k_ hk => .inl (.inl hk)))
 have HO1 := Aside0.mk (show Kd.V (Kd.int .i64) 3 w w.heap.size (fun k_ => ((P0_ k_ ∨ P1_ k_) ∨ w.heap.size ≤ k_)) (.slice A1 l1.length c1) l1 from Kd.V_mono hs1 (fun k_ hk => .inl (.inr hk)))
 have HB := Aside0.mk (Below.refl w.heap.size w)
 have H : (impl_natGcd.l0 k l0 l1) = some r := h
 clear h
 have H' := Aside0.mk H
 clear H
 go_enter Try.func61, Try.ntmps61
 go_wp2
 go_loopg [0, 1] k (fun kq v0 v1 w' => ∃ (x0_1 : List Int) (x1_1 : List Int), Aside0 (impl_natGcd.l0 kq x0_1 x1_1 = some r) ∧ Aside0 (kq ≤ k) ∧ Aside0 (Kd.V (Kd.int .i64) 3 w' w.heap.size (fun k_ => ((P0_ k_ ∨ P1_ k_) ∨ w.heap.size ≤ k_)) v0 x0_1) ∧ Aside0 (Kd.V (Kd.int .i64) 3 w' w.heap.size (fun k_ => ((P0_ k_ ∨ P1_ k_) ∨ w.heap.size ≤ k_)) v1 x1_1) ∧ Aside0 (Below w.heap.size w w'))
 case atStart => exact ⟨(l0), (l1), H', ⟨Nat.le_refl _⟩, ⟨by (with_reducible repeat (first | apply Kd.V_alloc | apply Kd.V_drewN | apply Kd.V_drew)); exact HO0.out⟩, ⟨by (with_reducible repeat (first | apply Kd.V_alloc | apply Kd.V_drewN | apply Kd.V_drew)); exact HO1.out⟩, ⟨blw HB⟩⟩
 case round =>
  clear H'
  try clear c1
  try clear p2
  obtain ⟨x0_1, x1_1, HA, HK1, HO_0, HO_1, HB⟩ := hrel
  cases gk with
  | zero => exact absurd HA.out (by simp [impl_natGcd.l0])
  | succ k1 =>
   have H := HA.out
   clear HA
   simp only [impl_natGcd.l0] at H
   by_cases c3 : (x1_1.length : Int) > 0
   ·
    rw [if_pos c3] at H
    have c3b0 : decide (0 < (x1_1.length : Int)) = true := decide_eq_true c3
    have c3b1 : decide (0 < x1_1.length) = true := decide_eq_true (by omega)
    clear c3
    replace H := Option.bind_eq_some_iff.mp H
    obtain ⟨⟨tA1, tA2⟩, A40, H⟩ := H
    replace H : (impl_natGcd.l0 k1 x1_1 tA2) = some r := H
    have A4 := Aside0.mk A40
    clear A40
    have H' := Aside0.mk H
    clear H
    obtain ⟨Ao5, co5, eo5⟩ := Kd.V_slice HO_1.out
    subst eo5
    obtain ⟨Ao6, co6, eo6⟩ := Kd.V_slice HO_0.out
    subst eo6
    go_wp2_with (first | ((with_reducible refine gate_callee (f := 75) rfl ?_); refine gL_ (some 13) Try.func75 #[.slice Ao6 x0_1.length co6, .slice Ao5 x1_1.length co5] ?_; (with_reducible refine (impl_natDiv.calls _ _ x0_1 _ _ x1_1 tA1 tA2 _ ?side1 ?side2 ?side3 ?side4 A4.out).mono ?_); (case side1 => exact crC (Kd.V_reads' HO_0.out).2.2); (case side2 => exact (Kd.V_reads' HO_0.out).2.1); (case side3 => exact crC (Kd.V_reads' HO_1.out).2.2); (case side4 => exact (Kd.V_reads' HO_1.out).2.1); rintro e w7 ⟨vB1, vB2, rfl, ho0, ho1, hb⟩; refine ⟨_, rfl, ?_⟩; replace HO_0 := tldV HO_0 hb (Kd.R_base ho0) (Kd.R_base ho1); replace HO_1 := tldV HO_1 hb (Kd.R_base ho0) (Kd.R_base ho1); have HOB3 := lwR (Kd.R_newM (M := fun k_ => (w.heap.size ≤ k_)) ho0 (bsz HB) (fun k_ h_ => h_)) HB; have HOA7 := lwR (Kd.R_newM (M := fun k_ => (w.heap.size ≤ k_)) ho1 (bsz HB) (fun k_ h_ => h_)) HB; replace HB := bst HB hb; (try clear hb); (try clear hb2); (try clear hk); (try clear hi); (try clear ho0); (try clear ho1)))
    go_roundg k1
    case measure => have := HK1.out; omega
    case rel => exact ⟨(x1_1), (tA2), H', ⟨by have := HK1.out; omega⟩, ⟨by (with_reducible repeat (first | apply Kd.V_alloc | apply Kd.V_drewN | apply Kd.V_drew)); exact Kd.V_mono HO_1.out (fun _ hk => hk.1.1)⟩, ⟨Kd.V_mono (Kd.R_V (crM HOA7 fun _ hk => hk.1)) (fun k_ hk => by first | exact ⟨(.inr (hk.1)), hk.2⟩ | exact (.inr (hk)))⟩, ⟨blw HB⟩⟩
   ·
    rw [if_neg c3] at H
    have c3b0 : decide (0 < (x1_1.length : Int)) = false := decide_eq_false c3
    have c3b1 : decide (0 < x1_1.length) = false := decide_eq_false (by omega)
    clear c3
    obtain rfl := Option.some.inj H
    obtain ⟨Ao8, co8, eo8⟩ := Kd.V_slice HO_1.out
    subst eo8
    go_wp2
    go_ret
    exact ⟨_, er_, by (with_reducible repeat (first | apply Kd.V_alloc | apply Kd.V_drewN | apply Kd.V_drew)); exact HO_0.out, blw HB⟩

def spec_l01Gcd.l0 : Nat → List Int → List Int → Option (List Int)
 | 0, _, _ => none
 | k + 1, x0, x1 => if (x1.length : Int) > 0 then ((spec_l01Div.f k x0 x1).bind fun btA3 => (spec_l01Gcd.l0 k x1 btA3.2)) else ((some (([] : List Int) : List Int)).bind fun yA0 => (if yA0.length + x0.length < 17592186044416 then (some (yA0 ++ x0)) else (none)))
def spec_l01Gcd.f (k : Nat) (l0 : List Int) (l1 : List Int) : Option (List Int) := spec_l01Gcd.l0 k l0 l1
set_option maxHeartbeats 8000000 in
set_option maxRecDepth 100000 in
theorem spec_l01Gcd.calls (k : Nat) (P0_ : Nat → Prop) (A0 : Option Addr) (c0 : Nat) (l0 : List Int) (P1_ : Nat → Prop) (A1 : Option Addr) (c1 : Nat) (l1 : List Int) (r : List Int) (w : World) (hs0 : Kd.V (Kd.int .i64) 3 w w.heap.size (fun k_ => P0_ k_) (.slice A0 l0.length c0) l0) (hs1 : Kd.V (Kd.int .i64) 3 w w.heap.size (fun k_ => P1_ k_) (.slice A1 l1.length c1) l1) (h : spec_l01Gcd.f k l0 l1 = some r) :
  Calls Try.prog 56 #[.slice A0 l0.length c0, .slice A1 l1.length c1] w fun e w' => ∃ v0_ : Value, e = .returned (v0_) ∧ Kd.R (Kd.int .i64) 3 w' w.heap.size (fun k_ => (w.heap.size ≤ k_)) v0_ r ∧ Below w.heap.size w w' := by
 have HO0 := Aside0.mk (show Kd.V (Kd.int .i64) 3 w w.heap.size (fun k_ => ((P0_ k_ ∨ P1_ k_) ∨ w.heap.size ≤ k_)) (.slice A0 l0.length c0) l0 from Kd.V_mono hs0 (fun k_ hk => .inl (.inl hk)))
 have HO1 := Aside0.mk (show Kd.V (Kd.int .i64) 3 w w.heap.size (fun k_ => ((P0_ k_ ∨ P1_ k_) ∨ w.heap.size ≤ k_)) (.slice A1 l1.length c1) l1 from Kd.V_mono hs1 (fun k_ hk => .inl (.inr hk)))
 have HB := Aside0.mk (Below.refl w.heap.size w)
 have H : (spec_l01Gcd.l0 k l0 l1) = some r := h
 clear h
 have H' := Aside0.mk H
 clear H
 go_enter Try.func56, Try.ntmps56
 go_wp2
 go_loopg [0, 1] k (fun kq v0 v1 w' => ∃ (x0_1 : List Int) (x1_1 : List Int), Aside0 (spec_l01Gcd.l0 kq x0_1 x1_1 = some r) ∧ Aside0 (kq ≤ k) ∧ Aside0 (Kd.V (Kd.int .i64) 3 w' w.heap.size (fun k_ => ((P0_ k_ ∨ P1_ k_) ∨ w.heap.size ≤ k_)) v0 x0_1) ∧ Aside0 (Kd.V (Kd.int .i64) 3 w' w.heap.size (fun k_ => ((P0_ k_ ∨ P1_ k_) ∨ w.heap.size ≤ k_)) v1 x1_1) ∧ Aside0 (Below w.heap.size w w'))
 case atStart => exact ⟨(l0), (l1), H', ⟨Nat.le_refl _⟩, ⟨by (with_reducible repeat (first | apply Kd.V_alloc | apply Kd.V_drewN | apply Kd.V_drew)); exact HO0.out⟩, ⟨by (with_reducible repeat (first | apply Kd.V_alloc | apply Kd.V_drewN | apply Kd.V_drew)); exact HO1.out⟩, ⟨blw HB⟩⟩
 case round =>
  clear H'
  try clear c1
  try clear p2
  obtain ⟨x0_1, x1_1, HA, HK1, HO_0, HO_1, HB⟩ := hrel
  cases gk with
  | zero => exact absurd HA.out (by simp [spec_l01Gcd.l0])
  | succ k1 =>
   have H := HA.out
   clear HA
   simp only [spec_l01Gcd.l0] at H
   by_cases c3 : (x1_1.length : Int) > 0
   ·
    rw [if_pos c3] at H
    have c3b0 : decide (0 < (x1_1.length : Int)) = true := decide_eq_true c3
    have c3b1 : decide (0 < x1_1.length) = true := decide_eq_true (by omega)
    clear c3
    replace H := Option.bind_eq_some_iff.mp H
    obtain ⟨⟨tA3, tA4⟩, A40, H⟩ := H
    replace H : (spec_l01Gcd.l0 k1 x1_1 tA4) = some r := H
    have A4 := Aside0.mk A40
    clear A40
    have H' := Aside0.mk H
    clear H
    obtain ⟨Ao5, co5, eo5⟩ := Kd.V_slice HO_1.out
    subst eo5
    obtain ⟨Ao6, co6, eo6⟩ := Kd.V_slice HO_0.out
    subst eo6
    go_wp2_with (first | ((with_reducible refine gate_callee (f := 92) rfl ?_); refine gL_ (some 13) Try.func92 #[.slice Ao6 x0_1.length co6, .slice Ao5 x1_1.length co5] ?_; (with_reducible refine (spec_l01Div.calls k1 _ _ x0_1 _ _ x1_1 tA3 tA4 _ ?side1 ?side2 ?side3 ?side4 A4.out).mono ?_); (case side1 => exact crC (Kd.V_reads' HO_0.out).2.2); (case side2 => exact (Kd.V_reads' HO_0.out).2.1); (case side3 => exact crC (Kd.V_reads' HO_1.out).2.2); (case side4 => exact (Kd.V_reads' HO_1.out).2.1); rintro e w7 ⟨vB4, vB5, rfl, ho0, ho1, hb⟩; refine ⟨_, rfl, ?_⟩; replace HO_0 := tldV HO_0 hb (Kd.R_base ho0) (Kd.R_base ho1); replace HO_1 := tldV HO_1 hb (Kd.R_base ho0) (Kd.R_base ho1); have HOB6 := lwR (Kd.R_newM (M := fun k_ => (w.heap.size ≤ k_)) ho0 (bsz HB) (fun k_ h_ => h_)) HB; have HOA8 := lwR (Kd.R_newM (M := fun k_ => (w.heap.size ≤ k_)) ho1 (bsz HB) (fun k_ h_ => h_)) HB; replace HB := bst HB hb; (try clear hb); (try clear hb2); (try clear hk); (try clear hi); (try clear ho0); (try clear ho1)))
    go_roundg k1
    case measure => have := HK1.out; omega
    case rel => exact ⟨(x1_1), (tA4), H', ⟨by have := HK1.out; omega⟩, ⟨by (with_reducible repeat (first | apply Kd.V_alloc | apply Kd.V_drewN | apply Kd.V_drew)); exact Kd.V_mono HO_1.out (fun _ hk => hk.1.1)⟩, ⟨Kd.V_mono (Kd.R_V (crM HOA8 fun _ hk => hk.1)) (fun k_ hk => by first | exact ⟨(.inr (hk.1)), hk.2⟩ | exact (.inr (hk)))⟩, ⟨blw HB⟩⟩
   ·
    rw [if_neg c3] at H
    have c3b0 : decide (0 < (x1_1.length : Int)) = false := decide_eq_false c3
    have c3b1 : decide (0 < x1_1.length) = false := decide_eq_false (by omega)
    clear c3
    obtain ⟨yA0, hy248⟩ : ∃ y_ : List Int, y_ = (([] : List Int)) := ⟨_, rfl⟩
    replace H : (if yA0.length + x0_1.length < 17592186044416 then (some (yA0 ++ x0_1)) else (none)) = some r := by subst hy248; first | with_reducible exact H | with_reducible exact (Option.bind_some _ _).symm.trans H | exact H
    have NyA0 := Aside0.mk hy248
    clear hy248
    by_cases c8 : yA0.length + x0_1.length < 17592186044416
    ·
     rw [if_pos c8] at H
     have LMc8 := Aside0.mk c8
     clear c8
     obtain ⟨yA5, hy251⟩ : ∃ y_ : List Int, y_ = (yA0 ++ x0_1) := ⟨_, rfl⟩
     replace H : (some yA5) = some r := by subst hy251; first | with_reducible exact H | with_reducible exact (Option.bind_some _ _).symm.trans H | exact H
     have NyA5 := Aside0.mk hy251
     clear hy251
     obtain rfl := Option.some.inj H
     obtain ⟨Ao9, co9, eo9⟩ := Kd.V_slice HO_1.out
     subst eo9
     go_wp2_with (first | ((with_reducible refine gate_dst (N := 18) rfl ?_); refine Kd.R_lit (Kd.int .i64) _ 3 ?hg (N := 18) ?hd (xs := ([] : List Int)) (inner := []) (ok := fun _ => True) (okp := fun _ => True) ?hr ?hp (fun _ hk => hk) trivial (Below.refl _ _) (Nat.le_refl _) (by simp) ?_; (case hd => rfl); (case hg => rfl); (case hr => first | (go_simp; done) | (go_simp; rfl)); (case hp => exact (Reps.none _ _)); intro vA9 w10 ho11 hb hg_ hnew_; clear hg_ hnew_; (first | rw [← NyA0.out] at ho11 | (simp only [Int.reduceToNat] at ho11; rw [← NyA0.out] at ho11)); replace HO_0 := eldV HO_0 (Kd.R_base ho11) hb; replace HO_1 := eldV HO_1 (Kd.R_base ho11) hb; have HOA6 := lwR (Kd.R_newM (M := fun k_ => (w.heap.size ≤ k_)) ho11 (bsz HB) (fun k_ h_ => h_)) HB; replace HB := bst HB hb; clear hb ho11; obtain ⟨Ao13, co13, eo13⟩ := Kd.V_slice HO_0.out; subst eo13) | ((with_reducible refine gate_builtin (b := .append) (xs := #[.tmp 18, .tmp 19]) rfl ?_); at_builtin; refine Kd.R_append_rows (Kd.int .i64) (w0 := w) w.heap.size rfl (.tmp 18) (.tmp 19) 22 3 (.int .i64 0) 8 rfl Try.underlying22 info3 rfl (by decide) (by omega) vA9 yA0 x0_1 _ _ _ (fun k_ => (w.heap.size ≤ k_)) (fun _ => False) rfl rfl ?aO ?aR (fun _ _ h => h) (fun _ h => h.elim) ?aF ?aB ?aS ?aL ?_; (case aR => exact crC (Kd.V_reads' HO_0.out).2.2); (case aB => exact (blw HB)); (case aF => exact (fun k_ hk => (Nat.le_trans (bsz HB) hk))); (case aO => exact (crM HOA6 fun _ hk => hk.1)); (case aS => exact (bsz HB)); (case aL => have := LMc8.out; omega); intro vB7 w12 ho hb hg hat; rw [← NyA5.out] at ho; replace HO_0 := Aside0.mk (Kd.V_afterv (ok := (fun k_ => ((P0_ k_ ∨ P1_ k_) ∨ w.heap.size ≤ k_))) (crV HO_0) hg hat); replace HO_1 := Aside0.mk (Kd.V_afterv (ok := (fun k_ => ((P0_ k_ ∨ P1_ k_) ∨ w.heap.size ≤ k_))) (crV HO_1) hg hat); replace HB := Aside0.mk (hb); have HOB0 := Aside0.mk (ho); clear HOA6; clear ho hb hg hat))
     go_ret
     exact ⟨_, er_, by (with_reducible repeat (first | apply Kd.R_alloc | apply Kd.R_drewN | apply Kd.R_drew)); exact HOB0.out, blw HB⟩
    ·
     rw [if_neg c8] at H
     exact absurd H (by simp)

def impl_Rat_isZero.f (a0_0 : Bool) (l0_1 : List Int) (l0_2 : List Int) : Option (Bool) := some ((l0_1.length : Int) == 0)
set_option maxHeartbeats 8000000 in
set_option maxRecDepth 100000 in
theorem impl_Rat_isZero.calls (a0_0 : Bool) (A0_1 : Option Addr) (c0_1 : Nat) (l0_1 : List Int) (A0_2 : Option Addr) (c0_2 : Nat) (l0_2 : List Int) (r : Bool) (w : World) (hr0_1 : Kd.C (Kd.int .i64) w A0_1 l0_1.length l0_1) (hc0_1 : l0_1.length ≤ c0_1) (hr0_2 : Kd.C (Kd.int .i64) w A0_2 l0_2.length l0_2) (hc0_2 : l0_2.length ≤ c0_2) (h : impl_Rat_isZero.f a0_0 l0_1 l0_2 = some r) :
  Calls Try.prog 59 #[.agg #[.bool a0_0, .slice A0_1 l0_1.length c0_1, .slice A0_2 l0_2.length c0_2]] w fun e w' => e = .returned (.bool r) ∧ Below w.heap.size w w' := by
 have hu24 := Try.underlying24
 have HR0_1 := Aside0.mk hr0_1
 have HC0_1 := Aside0.mk hc0_1
 clear hr0_1 hc0_1
 have HR0_2 := Aside0.mk hr0_2
 have HC0_2 := Aside0.mk hc0_2
 clear hr0_2 hc0_2
 have HB := Aside0.mk (Below.refl w.heap.size w)
 have H : (some ((l0_1.length : Int) == 0)) = some r := h
 clear h
 obtain rfl := Option.some.inj H
 go_enter Try.func59, Try.ntmps59
 go_wp2_with (first | ((with_reducible refine gate_dst (N := 1) rfl ?_); refine bx_ (N := 1) (cs := #[.bool a0_0, .slice A0_1 l0_1.length c0_1, .slice A0_2 l0_2.length c0_2]) (t := 24) ?_; intro gbB8 hg w2 hbox hb; have BKB8 := Aside0.mk (hbox); have GWB8 := geh hg HB; have GEB8 := geh hg HB; replace HB := bst HB hb; clear hb hbox hg; obtain ⟨hcz3_0, hcz3_1, hcz3_2, hfz3_0, hfz3_1, hfz3_2⟩ := bc3 BKB8))
 go_ret
 exact ⟨er_, blw HB⟩

def impl_one.f  : Option (List Int) := some (([1] : List Int))
set_option maxHeartbeats 8000000 in
set_option maxRecDepth 100000 in
theorem impl_one.calls  (r : List Int) (w : World) (h : impl_one.f  = some r) :
  Calls Try.prog 62 #[] w fun e w' => ∃ v0_ : Value, e = .returned (v0_) ∧ Kd.R (Kd.int .i64) 3 w' w.heap.size (fun _ => True) v0_ r ∧ Below w.heap.size w w' := by
 have HB := Aside0.mk (Below.refl w.heap.size w)
 have H : (some (([1] : List Int))) = some r := h
 clear h
 obtain ⟨yB9, hy121⟩ : ∃ y_ : List Int, y_ = (([1] : List Int)) := ⟨_, rfl⟩
 replace H : (some yB9) = some r := by subst hy121; first | with_reducible exact H | with_reducible exact (Option.bind_some _ _).symm.trans H | exact H
 have NyB9 := Aside0.mk hy121
 clear hy121
 obtain rfl := Option.some.inj H
 go_enter Try.func62, Try.ntmps62
 go_wp2_with (first | ((with_reducible refine gate_dst (N := 1) rfl ?_); refine Kd.R_lit (Kd.int .i64) _ 3 ?hg (N := 1) ?hd (xs := ([1] : List Int)) (inner := [.int .i64 1]) (ok := fun _ => True) (okp := fun _ => True) ?hr ?hp (fun _ hk => hk) trivial (Below.refl _ _) (Nat.le_refl _) (by simp) ?_; (case hd => rfl); (case hg => rfl); (case hr => first | (go_simp; done) | (go_simp; rfl)); (case hp => exact (Reps.one (show Kd.M (Kd.int .i64) _ _ _ 1 [.int .i64 1] from rfl) (Reps.none _ _))); intro vC8 w1 ho2 hb hg_ hnew_; clear hg_ hnew_; (first | rw [← NyB9.out] at ho2 | (simp only [Int.reduceToNat] at ho2; rw [← NyB9.out] at ho2)); have HOC7 := lwR ho2 HB; replace HB := bst HB hb; clear hb ho2))
 go_ret
 exact ⟨_, er_, by (with_reducible repeat (first | apply Kd.R_alloc | apply Kd.R_drewN | apply Kd.R_drew)); exact HOC7.out, blw HB⟩

def impl_RatOK.j0 : Nat → Bool → Bool → List Int → List Int → Option (Bool)
 | 0, _, _, _, _ => none
 | k + 1, x26, x125000, x125001, x125002 => if x26 = true then (some false) else ((impl_natGcd.f k x125001 x125002).bind fun tB0 => ((impl_one.f).bind fun tA5 => ((impl_natCmp.f tB0 tA5).bind fun tA6 => (some (tA6 == 0)))))
def impl_RatOK.f (k : Nat) (a0_0 : Bool) (l0_1 : List Int) (l0_2 : List Int) : Option (Bool) := (impl_NatOK.f l0_1).bind fun tB3 => (if tB3 = true then ((impl_NatOK.f l0_2).bind fun tA7 => (if tA7 = true then (if (l0_2.length : Int) = 0 then (impl_RatOK.j0 k true a0_0 l0_1 l0_2) else (if a0_0 = true then ((impl_Rat_isZero.f a0_0 l0_1 l0_2).bind fun tA4 => (impl_RatOK.j0 k tA4 a0_0 l0_1 l0_2)) else (impl_RatOK.j0 k false a0_0 l0_1 l0_2))) else (impl_RatOK.j0 k true a0_0 l0_1 l0_2))) else (impl_RatOK.j0 k true a0_0 l0_1 l0_2))
set_option maxHeartbeats 8000000 in
set_option maxRecDepth 100000 in
theorem impl_RatOK.calls (k : Nat) (a0_0 : Bool) (A0_1 : Option Addr) (c0_1 : Nat) (l0_1 : List Int) (A0_2 : Option Addr) (c0_2 : Nat) (l0_2 : List Int) (r : Bool) (w : World) (hr0_1 : Kd.C (Kd.int .i64) w A0_1 l0_1.length l0_1) (hc0_1 : l0_1.length ≤ c0_1) (hr0_2 : Kd.C (Kd.int .i64) w A0_2 l0_2.length l0_2) (hc0_2 : l0_2.length ≤ c0_2) (h : impl_RatOK.f k a0_0 l0_1 l0_2 = some r) :
  Calls Try.prog 23 #[.agg #[.bool a0_0, .slice A0_1 l0_1.length c0_1, .slice A0_2 l0_2.length c0_2]] w fun e w' => e = .returned (.bool r) ∧ Below w.heap.size w w' := by
 have hu24 := Try.underlying24
 have HR0_1 := Aside0.mk hr0_1
 have HC0_1 := Aside0.mk hc0_1
 clear hr0_1 hc0_1
 have HR0_2 := Aside0.mk hr0_2
 have HC0_2 := Aside0.mk hc0_2
 clear hr0_2 hc0_2
 have HB := Aside0.mk (Below.refl w.heap.size w)
 have H : ((impl_NatOK.f l0_1).bind fun tB3 => (if tB3 = true then ((impl_NatOK.f l0_2).bind fun tA7 => (if tA7 = true then (if (l0_2.length : Int) = 0 then (impl_RatOK.j0 k true a0_0 l0_1 l0_2) else (if a0_0 = true then ((impl_Rat_isZero.f a0_0 l0_1 l0_2).bind fun tA4 => (impl_RatOK.j0 k tA4 a0_0 l0_1 l0_2)) else (impl_RatOK.j0 k false a0_0 l0_1 l0_2))) else (impl_RatOK.j0 k true a0_0 l0_1 l0_2))) else (impl_RatOK.j0 k true a0_0 l0_1 l0_2))) = some r := h
 clear h
 have HC2 := Aside0.mk H
 clear H
 go_enter Try.func23, Try.ntmps23
 go_upto_region 1 with (first | ((with_reducible refine gate_dst (N := 1) rfl ?_); (try (refine gate_guard (by rfl) ?_; dsimp only)); refine bx_ (N := 1) (cs := #[.bool a0_0, .slice A0_1 l0_1.length c0_1, .slice A0_2 l0_2.length c0_2]) (t := 24) ?_; intro gbA0 hg w3 hbox hb; have BKA0 := Aside0.mk (hbox); have GWA0 := geh hg HB; have GEA0 := geh hg HB; replace HB := bst HB hb; clear hb hbox hg))
 (try simp only [Act.put, List.setIfInBounds_toArray, List.set_cons_zero, List.set_cons_succ])
 go_cut [26] (fun v26 wc => ∃ (kq : Nat) (x26_1 : Bool), v26 = .bool x26_1 ∧ Aside0 (impl_RatOK.j0 kq x26_1 a0_0 l0_1 l0_2 = some r) ∧ Aside0 (kq ≤ k) ∧ Aside0 (wc.heap[gbA0]? = some (.cells #[.bool a0_0, (.slice A0_1 l0_1.length c0_1), (.slice A0_2 l0_2.length c0_2)] 24 (0, 0))) ∧ Aside0 (Below w.heap.size w wc))
 case first =>
  have H := HC2.out
  clear HC2
  replace H := Option.bind_eq_some_iff.mp H
  obtain ⟨tB3, A40, H⟩ := H
  replace H : (if tB3 = true then ((impl_NatOK.f l0_2).bind fun tA7 => (if tA7 = true then (if (l0_2.length : Int) = 0 then (impl_RatOK.j0 k true a0_0 l0_1 l0_2) else (if a0_0 = true then ((impl_Rat_isZero.f a0_0 l0_1 l0_2).bind fun tA4 => (impl_RatOK.j0 k tA4 a0_0 l0_1 l0_2)) else (impl_RatOK.j0 k false a0_0 l0_1 l0_2))) else (impl_RatOK.j0 k true a0_0 l0_1 l0_2))) else (impl_RatOK.j0 k true a0_0 l0_1 l0_2)) = some r := H
  have A4 := Aside0.mk A40
  clear A40
  by_cases c5 : tB3 = true
  ·
   subst c5
   rw [if_pos rfl] at H
   replace H := Option.bind_eq_some_iff.mp H
   obtain ⟨tA7, A60, H⟩ := H
   replace H : (if tA7 = true then (if (l0_2.length : Int) = 0 then (impl_RatOK.j0 k true a0_0 l0_1 l0_2) else (if a0_0 = true then ((impl_Rat_isZero.f a0_0 l0_1 l0_2).bind fun tA4 => (impl_RatOK.j0 k tA4 a0_0 l0_1 l0_2)) else (impl_RatOK.j0 k false a0_0 l0_1 l0_2))) else (impl_RatOK.j0 k true a0_0 l0_1 l0_2)) = some r := H
   have A6 := Aside0.mk A60
   clear A60
   by_cases c7 : tA7 = true
   ·
    subst c7
    rw [if_pos rfl] at H
    by_cases c8 : (l0_2.length : Int) = 0
    ·
     rw [if_pos c8] at H
     have c8b0 : ((l0_2.length : Int) == 0) = true := beq_iff_eq.mpr c8
     have c8b1 : ((l0_2.length : Int) != 0) = false := bne_eq_false_iff_eq.mpr c8
     clear c8
     (first | rw [c8b0] | (simp only [i64_w, i32_w]; rw [c8b0]) | skip)
     have H' := Aside0.mk H
     clear H
     obtain ⟨hcz9_0, hcz9_1, hcz9_2, hfz9_0, hfz9_1, hfz9_2⟩ := bc3 BKA0
     go_wp2_with (first | ((with_reducible refine gate_callee (f := 58) rfl ?_); refine gL_ (some 5) Try.func58 #[.slice A0_1 l0_1.length c0_1] ?_; (with_reducible refine (impl_NatOK.calls _ _ l0_1 true _ ?side1 ?side2 A4.out).mono ?_); (case side1 => exact crC (Kd.C_below HR0_1.out HB.out)); (case side2 => exact HC0_1.out); rintro e w' ⟨rfl, ⟨nd, rfl⟩⟩; refine ⟨_, rfl, ?_⟩) | (go_at_call 58; (with_reducible refine (impl_NatOK.calls _ _ l0_2 true _ ?side1 ?side2 A6.out).mono ?_); (case side1 => exact crC (Kd.C_below HR0_2.out (blw HB))); (case side2 => exact HC0_2.out); rintro e w' ⟨rfl, ⟨nd, rfl⟩⟩))
     go_meet
     case rel => exact ⟨_, (true), rs_, H', ⟨by first | omega | exact Nat.le_refl _⟩, ⟨crb BKA0⟩, ⟨blw HB⟩⟩
    ·
     rw [if_neg c8] at H
     have c8b0 : ((l0_2.length : Int) == 0) = false := beq_eq_false_iff_ne.mpr c8
     have c8b1 : ((l0_2.length : Int) != 0) = true := bne_iff_ne.mpr c8
     have c8b2 : ¬ (l0_2 = []) := fun h_ => c8 (by rw [h_]; rfl)
     (first | rw [c8b0] | (simp only [i64_w, i32_w]; rw [c8b0]) | skip)
     by_cases c10 : a0_0 = true
     ·
      subst c10
      rw [if_pos rfl] at H
      replace H := Option.bind_eq_some_iff.mp H
      obtain ⟨tA4, AC1, H⟩ := H
      replace H : (impl_RatOK.j0 k tA4 true l0_1 l0_2) = some r := H
      have A11 := Aside0.mk AC1
      clear AC1
      have H' := Aside0.mk H
      clear H
      obtain ⟨hcz12_0, hcz12_1, hcz12_2, hfz12_0, hfz12_1, hfz12_2⟩ := bc3 BKA0
      go_wp2_with (first | ((with_reducible refine gate_callee (f := 58) rfl ?_); refine gL_ (some 5) Try.func58 #[.slice A0_1 l0_1.length c0_1] ?_; (with_reducible refine (impl_NatOK.calls _ _ l0_1 true _ ?side1 ?side2 A4.out).mono ?_); (case side1 => exact crC (Kd.C_below HR0_1.out HB.out)); (case side2 => exact HC0_1.out); rintro e w' ⟨rfl, ⟨nd, rfl⟩⟩; refine ⟨_, rfl, ?_⟩) | (go_at_call 58; (with_reducible refine (impl_NatOK.calls _ _ l0_2 true _ ?side1 ?side2 A6.out).mono ?_); (case side1 => exact crC (Kd.C_below HR0_2.out (blw HB))); (case side2 => exact HC0_2.out); rintro e w' ⟨rfl, ⟨nd, rfl⟩⟩) | (go_at_call 59; (with_reducible refine (impl_Rat_isZero.calls true _ _ l0_1 _ _ l0_2 tA4 _ ?side1 ?side2 ?side3 ?side4 A11.out).mono ?_); (case side1 => exact crC (Kd.C_below HR0_1.out (blw HB))); (case side2 => exact HC0_1.out); (case side3 => exact crC (Kd.C_below HR0_2.out (blw HB))); (case side4 => exact HC0_2.out); rintro e w13 ⟨rfl, hb⟩; replace BKA0 := bkb BKA0 hb; replace HB := bst HB hb; (try clear hb); (try clear hb2); (try clear hk); (try clear hi)))
      go_meet
      case rel => exact ⟨_, (tA4), rs_, H', ⟨by first | omega | exact Nat.le_refl _⟩, ⟨crb BKA0⟩, ⟨blw HB⟩⟩
     ·
      replace c10 := Bool.eq_false_iff.mpr c10
      subst c10
      rw [if_neg (show ¬ (false = true) by decide)] at H
      have H' := Aside0.mk H
      clear H
      obtain ⟨hcz14_0, hcz14_1, hcz14_2, hfz14_0, hfz14_1, hfz14_2⟩ := bc3 BKA0
      go_wp2_with (first | ((with_reducible refine gate_callee (f := 58) rfl ?_); refine gL_ (some 5) Try.func58 #[.slice A0_1 l0_1.length c0_1] ?_; (with_reducible refine (impl_NatOK.calls _ _ l0_1 true _ ?side1 ?side2 A4.out).mono ?_); (case side1 => exact crC (Kd.C_below HR0_1.out HB.out)); (case side2 => exact HC0_1.out); rintro e w' ⟨rfl, ⟨nd, rfl⟩⟩; refine ⟨_, rfl, ?_⟩) | (go_at_call 58; (with_reducible refine (impl_NatOK.calls _ _ l0_2 true _ ?side1 ?side2 A6.out).mono ?_); (case side1 => exact crC (Kd.C_below HR0_2.out (blw HB))); (case side2 => exact HC0_2.out); rintro e w' ⟨rfl, ⟨nd, rfl⟩⟩))
      go_meet
      case rel => exact ⟨_, (false), rs_, H', ⟨by first | omega | exact Nat.le_refl _⟩, ⟨crb BKA0⟩, ⟨blw HB⟩⟩
   ·
    replace c7 := Bool.eq_false_iff.mpr c7
    subst c7
    rw [if_neg (show ¬ (false = true) by decide)] at H
    have H' := Aside0.mk H
    clear H
    obtain ⟨hcz15_0, hcz15_1, hcz15_2, hfz15_0, hfz15_1, hfz15_2⟩ := bc3 BKA0
    go_wp2_with (first | ((with_reducible refine gate_callee (f := 58) rfl ?_); refine gL_ (some 5) Try.func58 #[.slice A0_1 l0_1.length c0_1] ?_; (with_reducible refine (impl_NatOK.calls _ _ l0_1 true _ ?side1 ?side2 A4.out).mono ?_); (case side1 => exact crC (Kd.C_below HR0_1.out HB.out)); (case side2 => exact HC0_1.out); rintro e w' ⟨rfl, ⟨nd, rfl⟩⟩; refine ⟨_, rfl, ?_⟩) | (go_at_call 58; (with_reducible refine (impl_NatOK.calls _ _ l0_2 false _ ?side1 ?side2 A6.out).mono ?_); (case side1 => exact crC (Kd.C_below HR0_2.out (blw HB))); (case side2 => exact HC0_2.out); rintro e w' ⟨rfl, ⟨nd, rfl⟩⟩))
    go_meet
    case rel => exact ⟨_, (true), rs_, H', ⟨by first | omega | exact Nat.le_refl _⟩, ⟨crb BKA0⟩, ⟨blw HB⟩⟩
  ·
   replace c5 := Bool.eq_false_iff.mpr c5
   subst c5
   rw [if_neg (show ¬ (false = true) by decide)] at H
   have H' := Aside0.mk H
   clear H
   obtain ⟨hcz16_0, hcz16_1, hcz16_2, hfz16_0, hfz16_1, hfz16_2⟩ := bc3 BKA0
   go_wp2_with (first | ((with_reducible refine gate_callee (f := 58) rfl ?_); refine gL_ (some 5) Try.func58 #[.slice A0_1 l0_1.length c0_1] ?_; (with_reducible refine (impl_NatOK.calls _ _ l0_1 false _ ?side1 ?side2 A4.out).mono ?_); (case side1 => exact crC (Kd.C_below HR0_1.out HB.out)); (case side2 => exact HC0_1.out); rintro e w' ⟨rfl, ⟨nd, rfl⟩⟩; refine ⟨_, rfl, ?_⟩))
   go_meet
   case rel => exact ⟨_, (true), rs_, H', ⟨by first | omega | exact Nat.le_refl _⟩, ⟨crb BKA0⟩, ⟨blw HB⟩⟩
 case rest =>
  clear HC2
  try clear c1
  try clear c2
  try clear p2
  try clear c5
  try clear c7
  try clear c8
  try clear c8b0
  try clear c8b1
  try clear c8b2
  try clear c10
  try clear hcz12_0
  try clear hcz12_1
  try clear hcz12_2
  try clear hcz14_0
  try clear hcz14_1
  try clear hcz14_2
  try clear hcz15_0
  try clear hcz15_1
  try clear hcz15_2
  try clear hcz16_0
  try clear hcz16_1
  try clear hcz16_2
  try clear hcz9_0
  try clear hcz9_1
  try clear hcz9_2
  try clear hfz12_0
  try clear hfz12_1
  try clear hfz12_2
  try clear hfz14_0
  try clear hfz14_1
  try clear hfz14_2
  try clear hfz15_0
  try clear hfz15_1
  try clear hfz15_2
  try clear hfz16_0
  try clear hfz16_1
  try clear hfz16_2
  try clear hfz9_0
  try clear hfz9_1
  try clear hfz9_2
  obtain ⟨kq, x26_1, rfl, HA, HJ1, BKA0, HB⟩ := hcut
  cases kq with
  | zero => exact absurd HA.out (by simp [impl_RatOK.j0])
  | succ kj1 =>
   have H := HA.out
   clear HA
   simp only [impl_RatOK.j0] at H
   by_cases c17 : x26_1 = true
   ·
    subst c17
    rw [if_pos rfl] at H
    obtain rfl := Option.some.inj H
    go_wp2
    go_ret
    exact ⟨er_, blw HB⟩
   ·
    replace c17 := Bool.eq_false_iff.mpr c17
    subst c17
    rw [if_neg (show ¬ (false = true) by decide)] at H
    replace H := Option.bind_eq_some_iff.mp H
    obtain ⟨tB0, AC2, H⟩ := H
    replace H : ((impl_one.f).bind fun tA5 => ((impl_natCmp.f tB0 tA5).bind fun tA6 => (some (tA6 == 0)))) = some r := H
    have A18 := Aside0.mk AC2
    clear AC2
    replace H := Option.bind_eq_some_iff.mp H
    obtain ⟨tA5, AC3, H⟩ := H
    replace H : ((impl_natCmp.f tB0 tA5).bind fun tA6 => (some (tA6 == 0))) = some r := H
    have A19 := Aside0.mk AC3
    clear AC3
    replace H := Option.bind_eq_some_iff.mp H
    obtain ⟨tA6, AC4, H⟩ := H
    replace H : (some (tA6 == 0)) = some r := H
    have A20 := Aside0.mk AC4
    clear AC4
    obtain rfl := Option.some.inj H
    obtain ⟨hcz21_0, hcz21_1, hcz21_2, hfz21_0, hfz21_1, hfz21_2⟩ := bc3 BKA0
    go_wp2_with (first | ((with_reducible refine gate_callee (f := 61) rfl ?_); refine gL_ (some 31) Try.func61 #[.slice A0_1 l0_1.length c0_1, .slice A0_2 l0_2.length c0_2] ?_; (with_reducible refine (impl_natGcd.calls kj1 (fun k_ => k_ < w.heap.size) _ _ l0_1 (fun k_ => k_ < w.heap.size) _ _ l0_2 tB0 _ ?side1 ?side2 A18.out).mono ?_); (case side1 => exact Kd.V_mk HC0_1.out (Kd.F_below (Kd.C_F (Kd.heap_int .i64) HR0_1.out) (blw HB))); (case side2 => exact Kd.V_mk HC0_2.out (Kd.F_below (Kd.C_F (Kd.heap_int .i64) HR0_2.out) (blw HB))); rintro e w22 ⟨vC9, rfl, ho0, hb⟩; refine ⟨_, rfl, ?_⟩; have HOB1 := Aside0.mk (Kd.V_lower (Kd.V_mono (ok' := fun k_ => k_ ≠ gbA0) ho0 (fun k_ hk_ => Or.elim hk_ (fun hs_ => Or.elim hs_ (fun hs_ => fun e_ => Nat.not_le.2 hs_ (by rw [e_]; exact GWA0.out)) (fun hs_ => fun e_ => Nat.not_le.2 hs_ (by rw [e_]; exact GWA0.out))) (fun hn_ => (Kd.freshB (g := gbA0) (o := .cells #[.bool a0_0, .slice A0_1 l0_1.length c0_1, .slice A0_2 l0_2.length c0_2] 24 (0, 0)) (crb BKA0) k_ hn_)))) (bsz HB)); replace BKA0 := bkb BKA0 hb; replace HB := bst HB hb; (try clear hb); (try clear hb2); (try clear hk); (try clear hi); (try clear ho0)) | ((with_reducible refine gate_callee (f := 62) rfl ?_); refine gL_ (some 32) Try.func62 #[] ?_; (with_reducible refine (impl_one.calls  tA5 _ A19.out).mono ?_); rintro e w23 ⟨vD0, rfl, ho0, hb⟩; refine ⟨_, rfl, ?_⟩; replace HOB1 := eldV HOB1 (Kd.R_base ho0) hb; have HOB7 := lwR ho0 HB; replace BKA0 := bkb BKA0 hb; replace HB := bst HB hb; (try clear hb); (try clear hb2); (try clear hk); (try clear hi); (try clear ho0); obtain ⟨Ao24, co24, eo24⟩ := Kd.V_slice HOB1.out; subst eo24; obtain ⟨Ao25, co25, eo25⟩ := Kd.R_slice HOB7.out; subst eo25) | ((with_reducible refine gate_callee (f := 60) rfl ?_); refine gL_ (some 33) Try.func60 #[.slice Ao24 tB0.length co24, .slice Ao25 tA5.length co25] ?_; (with_reducible refine (impl_natCmp.calls _ _ tB0 _ _ tA5 tA6 _ ?side1 ?side2 ?side3 ?side4 A20.out).mono ?_); (case side1 => exact crC (Kd.V_reads' HOB1.out).2.2); (case side2 => exact (Kd.V_reads' HOB1.out).2.1); (case side3 => exact crC (Kd.R_reads' HOB7.out).2.2); (case side4 => exact (Kd.R_reads' HOB7.out).2.1); rintro e w26 ⟨rfl, hb⟩; refine ⟨_, rfl, ?_⟩; replace HOB1 := rblV HOB1 hb; replace HOB7 := rblR HOB7 hb; replace BKA0 := bkb BKA0 hb; replace HB := bst HB hb; (try clear hb); (try clear hb2); (try clear hk); (try clear hi)))
    go_ret
    exact ⟨er_, blw HB⟩

def spec_RatOK.j0 : Nat → Bool → Bool → List Int → List Int → Option (Bool)
 | 0, _, _, _, _ => none
 | k + 1, x28, x255000, x255001, x255002 => if x28 = true then (some false) else ((spec_l01Gcd.f k x255001 x255002).bind fun tB2 => ((spec_l01Cmp.f k tB2 (([1] : List Int))).bind fun tA8 => (some (tA8 == 0))))
def spec_RatOK.f (k : Nat) (a0_0 : Bool) (l0_1 : List Int) (l0_2 : List Int) : Option (Bool) := (spec_NatOK.f k l0_1).bind fun tB4 => (if tB4 = true then ((spec_NatOK.f k l0_2).bind fun tA9 => (if tA9 = true then (if (l0_2.length : Int) = 0 then (spec_RatOK.j0 k true a0_0 l0_1 l0_2) else (if (l0_1.length : Int) = 0 then (spec_RatOK.j0 k a0_0 a0_0 l0_1 l0_2) else (spec_RatOK.j0 k false a0_0 l0_1 l0_2))) else (spec_RatOK.j0 k true a0_0 l0_1 l0_2))) else (spec_RatOK.j0 k true a0_0 l0_1 l0_2))
set_option maxHeartbeats 8000000 in
set_option maxRecDepth 100000 in
theorem spec_RatOK.calls (k : Nat) (a0_0 : Bool) (A0_1 : Option Addr) (c0_1 : Nat) (l0_1 : List Int) (A0_2 : Option Addr) (c0_2 : Nat) (l0_2 : List Int) (r : Bool) (w : World) (hr0_1 : Kd.C (Kd.int .i64) w A0_1 l0_1.length l0_1) (hc0_1 : l0_1.length ≤ c0_1) (hr0_2 : Kd.C (Kd.int .i64) w A0_2 l0_2.length l0_2) (hc0_2 : l0_2.length ≤ c0_2) (h : spec_RatOK.f k a0_0 l0_1 l0_2 = some r) :
  Calls Try.prog 21 #[.agg #[.bool a0_0, .slice A0_1 l0_1.length c0_1, .slice A0_2 l0_2.length c0_2]] w fun e w' => e = .returned (.bool r) ∧ Below w.heap.size w w' := by
 have hu24 := Try.underlying24
 have HR0_1 := Aside0.mk hr0_1
 have HC0_1 := Aside0.mk hc0_1
 clear hr0_1 hc0_1
 have HR0_2 := Aside0.mk hr0_2
 have HC0_2 := Aside0.mk hc0_2
 clear hr0_2 hc0_2
 have HB := Aside0.mk (Below.refl w.heap.size w)
 have H : ((spec_NatOK.f k l0_1).bind fun tB4 => (if tB4 = true then ((spec_NatOK.f k l0_2).bind fun tA9 => (if tA9 = true then (if (l0_2.length : Int) = 0 then (spec_RatOK.j0 k true a0_0 l0_1 l0_2) else (if (l0_1.length : Int) = 0 then (spec_RatOK.j0 k a0_0 a0_0 l0_1 l0_2) else (spec_RatOK.j0 k false a0_0 l0_1 l0_2))) else (spec_RatOK.j0 k true a0_0 l0_1 l0_2))) else (spec_RatOK.j0 k true a0_0 l0_1 l0_2))) = some r := h
 clear h
 have HC2 := Aside0.mk H
 clear H
 go_enter Try.func21, Try.ntmps21
 go_upto_region 1 with (first | ((with_reducible refine gate_dst (N := 1) rfl ?_); (try (refine gate_guard (by rfl) ?_; dsimp only)); refine bx_ (N := 1) (cs := #[.bool a0_0, .slice A0_1 l0_1.length c0_1, .slice A0_2 l0_2.length c0_2]) (t := 24) ?_; intro gbA1 hg w3 hbox hb; have BKA1 := Aside0.mk (hbox); have GWA1 := geh hg HB; have GEA1 := geh hg HB; replace HB := bst HB hb; clear hb hbox hg))
 (try simp only [Act.put, List.setIfInBounds_toArray, List.set_cons_zero, List.set_cons_succ])
 go_cut [28] (fun v28 wc => ∃ (kq : Nat) (x28_1 : Bool), v28 = .bool x28_1 ∧ Aside0 (spec_RatOK.j0 kq x28_1 a0_0 l0_1 l0_2 = some r) ∧ Aside0 (kq ≤ k) ∧ Aside0 (wc.heap[gbA1]? = some (.cells #[.bool a0_0, (.slice A0_1 l0_1.length c0_1), (.slice A0_2 l0_2.length c0_2)] 24 (0, 0))) ∧ Aside0 (Below w.heap.size w wc))
 case first =>
  have H := HC2.out
  clear HC2
  replace H := Option.bind_eq_some_iff.mp H
  obtain ⟨tB4, A40, H⟩ := H
  replace H : (if tB4 = true then ((spec_NatOK.f k l0_2).bind fun tA9 => (if tA9 = true then (if (l0_2.length : Int) = 0 then (spec_RatOK.j0 k true a0_0 l0_1 l0_2) else (if (l0_1.length : Int) = 0 then (spec_RatOK.j0 k a0_0 a0_0 l0_1 l0_2) else (spec_RatOK.j0 k false a0_0 l0_1 l0_2))) else (spec_RatOK.j0 k true a0_0 l0_1 l0_2))) else (spec_RatOK.j0 k true a0_0 l0_1 l0_2)) = some r := H
  have A4 := Aside0.mk A40
  clear A40
  by_cases c5 : tB4 = true
  ·
   subst c5
   rw [if_pos rfl] at H
   replace H := Option.bind_eq_some_iff.mp H
   obtain ⟨tA9, A60, H⟩ := H
   replace H : (if tA9 = true then (if (l0_2.length : Int) = 0 then (spec_RatOK.j0 k true a0_0 l0_1 l0_2) else (if (l0_1.length : Int) = 0 then (spec_RatOK.j0 k a0_0 a0_0 l0_1 l0_2) else (spec_RatOK.j0 k false a0_0 l0_1 l0_2))) else (spec_RatOK.j0 k true a0_0 l0_1 l0_2)) = some r := H
   have A6 := Aside0.mk A60
   clear A60
   by_cases c7 : tA9 = true
   ·
    subst c7
    rw [if_pos rfl] at H
    by_cases c8 : (l0_2.length : Int) = 0
    ·
     rw [if_pos c8] at H
     have c8b0 : ((l0_2.length : Int) == 0) = true := beq_iff_eq.mpr c8
     have c8b1 : ((l0_2.length : Int) != 0) = false := bne_eq_false_iff_eq.mpr c8
     clear c8
     (first | rw [c8b0] | (simp only [i64_w, i32_w]; rw [c8b0]) | skip)
     have H' := Aside0.mk H
     clear H
     obtain ⟨hcz9_0, hcz9_1, hcz9_2, hfz9_0, hfz9_1, hfz9_2⟩ := bc3 BKA1
     go_wp2_with (first | ((with_reducible refine gate_callee (f := 54) rfl ?_); refine gL_ (some 5) Try.func54 #[.slice A0_1 l0_1.length c0_1] ?_; (with_reducible refine (spec_NatOK.calls k _ _ l0_1 true _ ?side1 ?side2 A4.out).mono ?_); (case side1 => exact crC (Kd.C_below HR0_1.out HB.out)); (case side2 => exact HC0_1.out); rintro e w' ⟨rfl, ⟨nd, rfl⟩⟩; refine ⟨_, rfl, ?_⟩) | (go_at_call 54; (with_reducible refine (spec_NatOK.calls k _ _ l0_2 true _ ?side1 ?side2 A6.out).mono ?_); (case side1 => exact crC (Kd.C_below HR0_2.out (blw HB))); (case side2 => exact HC0_2.out); rintro e w' ⟨rfl, ⟨nd, rfl⟩⟩))
     go_meet
     case rel => exact ⟨_, (true), rs_, H', ⟨by first | omega | exact Nat.le_refl _⟩, ⟨crb BKA1⟩, ⟨blw HB⟩⟩
    ·
     rw [if_neg c8] at H
     have c8b0 : ((l0_2.length : Int) == 0) = false := beq_eq_false_iff_ne.mpr c8
     have c8b1 : ((l0_2.length : Int) != 0) = true := bne_iff_ne.mpr c8
     have c8b2 : ¬ (l0_2 = []) := fun h_ => c8 (by rw [h_]; rfl)
     (first | rw [c8b0] | (simp only [i64_w, i32_w]; rw [c8b0]) | skip)
     by_cases c10 : (l0_1.length : Int) = 0
     ·
      rw [if_pos c10] at H
      have c10b0 : ((l0_1.length : Int) == 0) = true := beq_iff_eq.mpr c10
      have c10b1 : ((l0_1.length : Int) != 0) = false := bne_eq_false_iff_eq.mpr c10
      clear c10
      have H' := Aside0.mk H
      clear H
      obtain ⟨hcz11_0, hcz11_1, hcz11_2, hfz11_0, hfz11_1, hfz11_2⟩ := bc3 BKA1
      go_wp2_with (first | ((with_reducible refine gate_callee (f := 54) rfl ?_); refine gL_ (some 5) Try.func54 #[.slice A0_1 l0_1.length c0_1] ?_; (with_reducible refine (spec_NatOK.calls k _ _ l0_1 true _ ?side1 ?side2 A4.out).mono ?_); (case side1 => exact crC (Kd.C_below HR0_1.out HB.out)); (case side2 => exact HC0_1.out); rintro e w' ⟨rfl, ⟨nd, rfl⟩⟩; refine ⟨_, rfl, ?_⟩) | (go_at_call 54; (with_reducible refine (spec_NatOK.calls k _ _ l0_2 true _ ?side1 ?side2 A6.out).mono ?_); (case side1 => exact crC (Kd.C_below HR0_2.out (blw HB))); (case side2 => exact HC0_2.out); rintro e w' ⟨rfl, ⟨nd, rfl⟩⟩))
      go_meet
      case rel => exact ⟨_, (a0_0), rs_, H', ⟨by first | omega | exact Nat.le_refl _⟩, ⟨crb BKA1⟩, ⟨blw HB⟩⟩
     ·
      rw [if_neg c10] at H
      have c10b0 : ((l0_1.length : Int) == 0) = false := beq_eq_false_iff_ne.mpr c10
      have c10b1 : ((l0_1.length : Int) != 0) = true := bne_iff_ne.mpr c10
      have c10b2 : ¬ (l0_1 = []) := fun h_ => c10 (by rw [h_]; rfl)
      have H' := Aside0.mk H
      clear H
      obtain ⟨hcz12_0, hcz12_1, hcz12_2, hfz12_0, hfz12_1, hfz12_2⟩ := bc3 BKA1
      go_wp2_with (first | ((with_reducible refine gate_callee (f := 54) rfl ?_); refine gL_ (some 5) Try.func54 #[.slice A0_1 l0_1.length c0_1] ?_; (with_reducible refine (spec_NatOK.calls k _ _ l0_1 true _ ?side1 ?side2 A4.out).mono ?_); (case side1 => exact crC (Kd.C_below HR0_1.out HB.out)); (case side2 => exact HC0_1.out); rintro e w' ⟨rfl, ⟨nd, rfl⟩⟩; refine ⟨_, rfl, ?_⟩) | (go_at_call 54; (with_reducible refine (spec_NatOK.calls k _ _ l0_2 true _ ?side1 ?side2 A6.out).mono ?_); (case side1 => exact crC (Kd.C_below HR0_2.out (blw HB))); (case side2 => exact HC0_2.out); rintro e w' ⟨rfl, ⟨nd, rfl⟩⟩))
      go_meet
      case rel => exact ⟨_, (false), rs_, H', ⟨by first | omega | exact Nat.le_refl _⟩, ⟨crb BKA1⟩, ⟨blw HB⟩⟩
   ·
    replace c7 := Bool.eq_false_iff.mpr c7
    subst c7
    rw [if_neg (show ¬ (false = true) by decide)] at H
    have H' := Aside0.mk H
    clear H
    obtain ⟨hcz13_0, hcz13_1, hcz13_2, hfz13_0, hfz13_1, hfz13_2⟩ := bc3 BKA1
    go_wp2_with (first | ((with_reducible refine gate_callee (f := 54) rfl ?_); refine gL_ (some 5) Try.func54 #[.slice A0_1 l0_1.length c0_1] ?_; (with_reducible refine (spec_NatOK.calls k _ _ l0_1 true _ ?side1 ?side2 A4.out).mono ?_); (case side1 => exact crC (Kd.C_below HR0_1.out HB.out)); (case side2 => exact HC0_1.out); rintro e w' ⟨rfl, ⟨nd, rfl⟩⟩; refine ⟨_, rfl, ?_⟩) | (go_at_call 54; (with_reducible refine (spec_NatOK.calls k _ _ l0_2 false _ ?side1 ?side2 A6.out).mono ?_); (case side1 => exact crC (Kd.C_below HR0_2.out (blw HB))); (case side2 => exact HC0_2.out); rintro e w' ⟨rfl, ⟨nd, rfl⟩⟩))
    go_meet
    case rel => exact ⟨_, (true), rs_, H', ⟨by first | omega | exact Nat.le_refl _⟩, ⟨crb BKA1⟩, ⟨blw HB⟩⟩
  ·
   replace c5 := Bool.eq_false_iff.mpr c5
   subst c5
   rw [if_neg (show ¬ (false = true) by decide)] at H
   have H' := Aside0.mk H
   clear H
   obtain ⟨hcz14_0, hcz14_1, hcz14_2, hfz14_0, hfz14_1, hfz14_2⟩ := bc3 BKA1
   go_wp2_with (first | ((with_reducible refine gate_callee (f := 54) rfl ?_); refine gL_ (some 5) Try.func54 #[.slice A0_1 l0_1.length c0_1] ?_; (with_reducible refine (spec_NatOK.calls k _ _ l0_1 false _ ?side1 ?side2 A4.out).mono ?_); (case side1 => exact crC (Kd.C_below HR0_1.out HB.out)); (case side2 => exact HC0_1.out); rintro e w' ⟨rfl, ⟨nd, rfl⟩⟩; refine ⟨_, rfl, ?_⟩))
   go_meet
   case rel => exact ⟨_, (true), rs_, H', ⟨by first | omega | exact Nat.le_refl _⟩, ⟨crb BKA1⟩, ⟨blw HB⟩⟩
 case rest =>
  clear HC2
  try clear c1
  try clear c2
  try clear p2
  try clear c5
  try clear c7
  try clear c8
  try clear c8b0
  try clear c8b1
  try clear c8b2
  try clear c10
  try clear c10b0
  try clear c10b1
  try clear c10b2
  try clear hcz11_0
  try clear hcz11_1
  try clear hcz11_2
  try clear hcz12_0
  try clear hcz12_1
  try clear hcz12_2
  try clear hcz13_0
  try clear hcz13_1
  try clear hcz13_2
  try clear hcz14_0
  try clear hcz14_1
  try clear hcz14_2
  try clear hcz9_0
  try clear hcz9_1
  try clear hcz9_2
  try clear hfz11_0
  try clear hfz11_1
  try clear hfz11_2
  try clear hfz12_0
  try clear hfz12_1
  try clear hfz12_2
  try clear hfz13_0
  try clear hfz13_1
  try clear hfz13_2
  try clear hfz14_0
  try clear hfz14_1
  try clear hfz14_2
  try clear hfz9_0
  try clear hfz9_1
  try clear hfz9_2
  obtain ⟨kq, x28_1, rfl, HA, HJ1, BKA1, HB⟩ := hcut
  cases kq with
  | zero => exact absurd HA.out (by simp [spec_RatOK.j0])
  | succ kj1 =>
   have H := HA.out
   clear HA
   simp only [spec_RatOK.j0] at H
   by_cases c15 : x28_1 = true
   ·
    subst c15
    rw [if_pos rfl] at H
    obtain rfl := Option.some.inj H
    go_wp2
    go_ret
    exact ⟨er_, blw HB⟩
   ·
    replace c15 := Bool.eq_false_iff.mpr c15
    subst c15
    rw [if_neg (show ¬ (false = true) by decide)] at H
    replace H := Option.bind_eq_some_iff.mp H
    obtain ⟨tB2, AC5, H⟩ := H
    replace H : ((spec_l01Cmp.f kj1 tB2 (([1] : List Int))).bind fun tA8 => (some (tA8 == 0))) = some r := H
    have A16 := Aside0.mk AC5
    clear AC5
    obtain ⟨yB5, hy260⟩ : ∃ y_ : List Int, y_ = (([1] : List Int)) := ⟨_, rfl⟩
    replace H : ((spec_l01Cmp.f kj1 tB2 yB5).bind fun tA8 => (some (tA8 == 0))) = some r := by subst hy260; first | with_reducible exact H | with_reducible exact (Option.bind_some _ _).symm.trans H | exact H
    have NyB5 := Aside0.mk hy260
    clear hy260
    replace H := Option.bind_eq_some_iff.mp H
    obtain ⟨tA8, AC6, H⟩ := H
    replace H : (some (tA8 == 0)) = some r := H
    have A17 := Aside0.mk AC6
    clear AC6
    obtain rfl := Option.some.inj H
    obtain ⟨hcz18_0, hcz18_1, hcz18_2, hfz18_0, hfz18_1, hfz18_2⟩ := bc3 BKA1
    go_wp2_with (first | ((with_reducible refine gate_callee (f := 56) rfl ?_); refine gL_ (some 33) Try.func56 #[.slice A0_1 l0_1.length c0_1, .slice A0_2 l0_2.length c0_2] ?_; (with_reducible refine (spec_l01Gcd.calls kj1 (fun k_ => k_ < w.heap.size) _ _ l0_1 (fun k_ => k_ < w.heap.size) _ _ l0_2 tB2 _ ?side1 ?side2 A16.out).mono ?_); (case side1 => exact Kd.V_mk HC0_1.out (Kd.F_below (Kd.C_F (Kd.heap_int .i64) HR0_1.out) (blw HB))); (case side2 => exact Kd.V_mk HC0_2.out (Kd.F_below (Kd.C_F (Kd.heap_int .i64) HR0_2.out) (blw HB))); rintro e w19 ⟨vD1, rfl, ho0, hb⟩; refine ⟨_, rfl, ?_⟩; have HOB6 := lwR (Kd.R_mono (ok' := fun k_ => True) ho0 (fun _ hk_ => trivial)) HB; replace BKA1 := bkb BKA1 hb; replace HB := bst HB hb; (try clear hb); (try clear hb2); (try clear hk); (try clear hi); (try clear ho0)) | ((with_reducible refine gate_dst (N := 34) rfl ?_); (try (refine gate_guard (by rfl) ?_; dsimp only)); refine Kd.R_lit (Kd.int .i64) _ 3 ?hg (N := 34) ?hd (xs := ([1] : List Int)) (inner := [.int .i64 1]) (ok := fun _ => True) (okp := fun _ => True) ?hr ?hp (fun _ hk => hk) trivial (Below.refl _ _) (Nat.le_refl _) (by simp) ?_; (case hd => rfl); (case hg => rfl); (case hr => first | (go_simp; done) | (go_simp; rfl)); (case hp => exact (Reps.one (show Kd.M (Kd.int .i64) _ _ _ 1 [.int .i64 1] from rfl) (Reps.none _ _))); intro vD2 w20 ho21 hb hg_ hnew_; clear hg_ hnew_; (first | rw [← NyB5.out] at ho21 | (simp only [Int.reduceToNat] at ho21; rw [← NyB5.out] at ho21)); have HOC0 := lwR (nwR ho21 HOB6) HB; replace HOB6 := eldR HOB6 (Kd.R_base ho21) hb; replace BKA1 := bkb BKA1 hb; replace HB := bst HB hb; clear hb ho21; obtain ⟨Ao22, co22, eo22⟩ := Kd.R_slice HOB6.out; subst eo22; obtain ⟨Ao23, co23, eo23⟩ := Kd.R_slice HOC0.out; subst eo23) | ((with_reducible refine gate_callee (f := 55) rfl ?_); refine gL_ (some 35) Try.func55 #[.slice Ao22 tB2.length co22, .slice Ao23 yB5.length co23] ?_; (with_reducible refine (spec_l01Cmp.calls kj1 _ _ tB2 _ _ yB5 tA8 _ ?side1 ?side2 ?side3 ?side4 A17.out).mono ?_); (case side1 => exact crC (Kd.R_reads' HOB6.out).2.2); (case side2 => exact (Kd.R_reads' HOB6.out).2.1); (case side3 => exact crC (Kd.R_reads' HOC0.out).2.2); (case side4 => exact (Kd.R_reads' HOC0.out).2.1); rintro e w' ⟨rfl, ⟨nd, rfl⟩⟩; refine ⟨_, rfl, ?_⟩))
    go_ret
    exact ⟨er_, blw HB⟩

def impl_ratsCode_1.f (k : Nat) (a0_0 : Bool) (l0_1 : List Int) (l0_2 : List Int) : Option (Bool) := (impl_RatOK.f k a0_0 l0_1 l0_2).bind fun tA2 => (some (!tA2))
set_option maxHeartbeats 8000000 in
set_option maxRecDepth 100000 in
theorem impl_ratsCode_1.calls (k : Nat) (a0_0 : Bool) (A0_1 : Option Addr) (c0_1 : Nat) (l0_1 : List Int) (A0_2 : Option Addr) (c0_2 : Nat) (l0_2 : List Int) (r : Bool) (w : World) (hr0_1 : Kd.C (Kd.int .i64) w A0_1 l0_1.length l0_1) (hc0_1 : l0_1.length ≤ c0_1) (hr0_2 : Kd.C (Kd.int .i64) w A0_2 l0_2.length l0_2) (hc0_2 : l0_2.length ≤ c0_2) (h : impl_ratsCode_1.f k a0_0 l0_1 l0_2 = some r) :
  Calls Try.prog 101 #[.agg #[.bool a0_0, .slice A0_1 l0_1.length c0_1, .slice A0_2 l0_2.length c0_2]] w fun e w' => e = .returned (.bool r) ∧ Below w.heap.size w w' := by
 have hu24 := Try.underlying24
 have HR0_1 := Aside0.mk hr0_1
 have HC0_1 := Aside0.mk hc0_1
 clear hr0_1 hc0_1
 have HR0_2 := Aside0.mk hr0_2
 have HC0_2 := Aside0.mk hc0_2
 clear hr0_2 hc0_2
 have HB := Aside0.mk (Below.refl w.heap.size w)
 have H : ((impl_RatOK.f k a0_0 l0_1 l0_2).bind fun tA2 => (some (!tA2))) = some r := h
 clear h
 replace H := Option.bind_eq_some_iff.mp H
 obtain ⟨tA2, A20, H⟩ := H
 replace H : (some (!tA2)) = some r := H
 have A2 := Aside0.mk A20
 clear A20
 obtain rfl := Option.some.inj H
 go_enter Try.func101, Try.ntmps101
 go_wp2_with (first | ((with_reducible refine gate_dst (N := 1) rfl ?_); refine bx_ (N := 1) (cs := #[.bool a0_0, .slice A0_1 l0_1.length c0_1, .slice A0_2 l0_2.length c0_2]) (t := 24) ?_; intro gbA3 hg w3 hbox hb; have BKA3 := Aside0.mk (hbox); have GWA3 := geh hg HB; have GEA3 := geh hg HB; replace HB := bst HB hb; clear hb hbox hg; obtain ⟨hcz4_0, hcz4_1, hcz4_2, hfz4_0, hfz4_1, hfz4_2⟩ := bc3 BKA3) | ((with_reducible refine gate_callee (f := 23) rfl ?_); refine gL_ (some 4) Try.func23 #[.agg #[.bool a0_0, .slice A0_1 l0_1.length c0_1, .slice A0_2 l0_2.length c0_2]] ?_; (with_reducible refine (impl_RatOK.calls k a0_0 _ _ l0_1 _ _ l0_2 tA2 _ ?side1 ?side2 ?side3 ?side4 A2.out).mono ?_); (case side1 => exact crC (Kd.C_below HR0_1.out HB.out)); (case side2 => exact HC0_1.out); (case side3 => exact crC (Kd.C_below HR0_2.out HB.out)); (case side4 => exact HC0_2.out); rintro e w5 ⟨rfl, hb⟩; refine ⟨_, rfl, ?_⟩; replace BKA3 := bkb BKA3 hb; replace HB := bst HB hb; (try clear hb); (try clear hb2); (try clear hk); (try clear hi)))
 go_ret
 exact ⟨er_, blw HB⟩

theorem l02Make_gt (l : List Int) : decide (0 < l.length) = decide ((l.length : Int) > 0) := by simp only [decide_eq_decide]; omega
def spec_l02Make.f (k : Nat) (a0 : Bool) (l1 : List Int) (l2 : List Int) : Option (Bool × List Int × List Int) := (spec_l01Gcd.f k l1 l2).bind fun tB4 => ((spec_l01Div.f k l1 tB4).bind fun btB1 => ((spec_l01Div.f k l2 tB4).bind fun btB9 => (if a0 = true then (some (decide ((btB1.1.length : Int) > 0), btB1.1, btB9.1)) else (some (false, btB1.1, btB9.1)))))
set_option maxHeartbeats 8000000 in
set_option maxRecDepth 100000 in
theorem spec_l02Make.calls (k : Nat) (a0 : Bool) (A1 : Option Addr) (c1 : Nat) (l1 : List Int) (A2 : Option Addr) (c2 : Nat) (l2 : List Int) (r1 : Bool) (r2 : List Int) (r3 : List Int) (w : World) (hr1 : Kd.C (Kd.int .i64) w A1 l1.length l1) (hc1 : l1.length ≤ c1) (hr2 : Kd.C (Kd.int .i64) w A2 l2.length l2) (hc2 : l2.length ≤ c2) (h : spec_l02Make.f k a0 l1 l2 = some (r1, r2, r3)) :
  Calls Try.prog 47 #[.bool a0, .slice A1 l1.length c1, .slice A2 l2.length c2] w fun e w' => ∃ v1_ v2_ : Value, e = .returned (.agg #[.bool r1, v1_, v2_]) ∧ Kd.R (Kd.int .i64) 3 w' w.heap.size (fun k_ => nO k_ v2_) v1_ r2 ∧ Kd.R (Kd.int .i64) 3 w' w.heap.size (fun k_ => nO k_ v1_) v2_ r3 ∧ Below w.heap.size w w' := by
 have hu24 := Try.underlying24
 have HR1 := Aside0.mk hr1
 have HC1 := Aside0.mk hc1
 clear hr1 hc1
 have HR2 := Aside0.mk hr2
 have HC2 := Aside0.mk hc2
 clear hr2 hc2
 have HB := Aside0.mk (Below.refl w.heap.size w)
 have H : ((spec_l01Gcd.f k l1 l2).bind fun tB4 => ((spec_l01Div.f k l1 tB4).bind fun btB1 => ((spec_l01Div.f k l2 tB4).bind fun btB9 => (if a0 = true then (some (decide ((btB1.1.length : Int) > 0), btB1.1, btB9.1)) else (some (false, btB1.1, btB9.1)))))) = some (r1, r2, r3) := h
 clear h
 replace H := Option.bind_eq_some_iff.mp H
 obtain ⟨tB4, A40, H⟩ := H
 replace H : ((spec_l01Div.f k l1 tB4).bind fun btB1 => ((spec_l01Div.f k l2 tB4).bind fun btB9 => (if a0 = true then (some (decide ((btB1.1.length : Int) > 0), btB1.1, btB9.1)) else (some (false, btB1.1, btB9.1))))) = some (r1, r2, r3) := H
 have A4 := Aside0.mk A40
 clear A40
 replace H := Option.bind_eq_some_iff.mp H
 obtain ⟨⟨tB1, tF1⟩, A50, H⟩ := H
 replace H : ((spec_l01Div.f k l2 tB4).bind fun btB9 => (if a0 = true then (some (decide ((tB1.length : Int) > 0), tB1, btB9.1)) else (some (false, tB1, btB9.1)))) = some (r1, r2, r3) := H
 have A5 := Aside0.mk A50
 clear A50
 replace H := Option.bind_eq_some_iff.mp H
 obtain ⟨⟨tB9, tF2⟩, A60, H⟩ := H
 replace H : (if a0 = true then (some (decide ((tB1.length : Int) > 0), tB1, tB9)) else (some (false, tB1, tB9))) = some (r1, r2, r3) := H
 have A6 := Aside0.mk A60
 clear A60
 by_cases c7 : a0 = true
 ·
  subst c7
  rw [if_pos rfl] at H
  simp only [Option.some.injEq, Prod.mk.injEq] at H
  obtain ⟨rfl, rfl, rfl⟩ := H
  go_enter Try.func47, Try.ntmps47
  go_wp2_with (first | ((with_reducible refine gate_dst (N := 6) rfl ?_); (try (refine gate_guard (by rfl) ?_; dsimp only)); refine bx_ (N := 6) (cs := #[.bool false, .slice none 0 0, .slice none 0 0]) (t := 24) ?_; intro gbA5 hg w8 hbox hb; have BKA5 := Aside0.mk (hbox); have GWA5 := geh hg HB; have GEA5 := geh hg HB; replace HB := bst HB hb; clear hb hbox hg) | ((with_reducible refine gate_callee (f := 56) rfl ?_); refine gL_ (some 14) Try.func56 #[.slice A1 l1.length c1, .slice A2 l2.length c2] ?_; (with_reducible refine (spec_l01Gcd.calls k (fun k_ => k_ < w.heap.size) _ _ l1 (fun k_ => k_ < w.heap.size) _ _ l2 tB4 _ ?side1 ?side2 A4.out).mono ?_); (case side1 => exact Kd.V_mk HC1.out (Kd.F_below (Kd.C_F (Kd.heap_int .i64) HR1.out) (blw HB))); (case side2 => exact Kd.V_mk HC2.out (Kd.F_below (Kd.C_F (Kd.heap_int .i64) HR2.out) (blw HB))); rintro e w9 ⟨vG8, rfl, ho0, hb⟩; refine ⟨_, rfl, ?_⟩; have HOA7 := lwR (Kd.R_mono (ok' := fun k_ => True) ho0 (fun _ hk_ => trivial)) HB; replace BKA5 := bkb BKA5 hb; replace HB := bst HB hb; (try clear hb); (try clear hb2); (try clear hk); (try clear hi); (try clear ho0); obtain ⟨Ao10, co10, eo10⟩ := Kd.R_slice HOA7.out; subst eo10) | ((with_reducible refine gate_callee (f := 92) rfl ?_); refine gL_ (some 18) Try.func92 #[.slice A1 l1.length c1, .slice Ao10 tB4.length co10] ?_; (with_reducible refine (spec_l01Div.calls k _ _ l1 _ _ tB4 tB1 tF1 _ ?side1 ?side2 ?side3 ?side4 A5.out).mono ?_); (case side1 => exact crC (Kd.C_below HR1.out HB.out)); (case side2 => exact HC1.out); (case side3 => exact crC (Kd.R_reads' HOA7.out).2.2); (case side4 => exact (Kd.R_reads' HOA7.out).2.1); rintro e w11 ⟨vG9, vH0, rfl, ho0, ho1, hb⟩; refine ⟨_, rfl, ?_⟩; have HOC6 := lwR (nwR ho0 HOA7) HB; have HOC9 := lwR (nwR ho1 HOA7) HB; replace HOA7 := tldR HOA7 hb (Kd.R_base ho0) (Kd.R_base ho1); replace BKA5 := bkb BKA5 hb; replace HB := bst HB hb; (try clear hb); (try clear hb2); (try clear hk); (try clear hi); (try clear ho0); (try clear ho1)) | ((with_reducible refine gate_callee (f := 92) rfl ?_); refine gL_ (some 24) Try.func92 #[.slice A2 l2.length c2, .slice Ao10 tB4.length co10] ?_; (with_reducible refine (spec_l01Div.calls k _ _ l2 _ _ tB4 tB9 tF2 _ ?side1 ?side2 ?side3 ?side4 A6.out).mono ?_); (case side1 => exact crC (Kd.C_below HR2.out HB.out)); (case side2 => exact HC2.out); (case side3 => exact crC (Kd.R_reads' HOA7.out).2.2); (case side4 => exact (Kd.R_reads' HOA7.out).2.1); rintro e w12 ⟨vH1, vH2, rfl, ho0, ho1, hb⟩; refine ⟨_, rfl, ?_⟩; have HOD6 := lwR (nwR (nwR (nwR ho0 HOA7) HOC6) HOC9) HB; have HOH3 := lwR (nwR (nwR (nwR ho1 HOA7) HOC6) HOC9) HB; replace HOA7 := tldR HOA7 hb (Kd.R_base ho0) (Kd.R_base ho1); replace HOC6 := tldR HOC6 hb (Kd.R_base ho0) (Kd.R_base ho1); replace HOC9 := tldR HOC9 hb (Kd.R_base ho0) (Kd.R_base ho1); replace BKA5 := bkb BKA5 hb; replace HB := bst HB hb; (try clear hb); (try clear hb2); (try clear hk); (try clear hi); (try clear ho0); (try clear ho1); obtain ⟨Ao13, co13, eo13⟩ := Kd.R_slice HOC6.out; subst eo13; obtain ⟨Ao14, co14, eo14⟩ := Kd.R_slice HOD6.out; subst eo14; obtain ⟨hcz15_0, hcz15_1, hcz15_2, hfz15_0, hfz15_1, hfz15_2⟩ := bc3 BKA5))
  refine bodyPost_ret (results_cell_row rfl _ _ gbA5 24 #[.bool (decide (0 < tB1.length)), .slice Ao13 tB1.length co13, .slice Ao14 tB9.length co14] (0, 0) _ rfl (bp3 BKA5 _ _ _) Try.underlying24 rfl (by kernel_rfl)) rfl ?_
  exact ⟨_, _, by first | rfl | (simp only [l02Make_gt]; rfl) | (simp [errW_none, errW_some] <;> rfl) | (simp [*, errW_none, errW_some] <;> rfl), (crN HOC6 BKA5 fun _ hk => hk.1.1.2), (crN HOD6 BKA5 fun _ hk => hk.1.1.2), blw HB⟩
 ·
  replace c7 := Bool.eq_false_iff.mpr c7
  subst c7
  rw [if_neg (show ¬ (false = true) by decide)] at H
  simp only [Option.some.injEq, Prod.mk.injEq] at H
  obtain ⟨rfl, rfl, rfl⟩ := H
  go_enter Try.func47, Try.ntmps47
  go_wp2_with (first | ((with_reducible refine gate_dst (N := 6) rfl ?_); (try (refine gate_guard (by rfl) ?_; dsimp only)); refine bx_ (N := 6) (cs := #[.bool false, .slice none 0 0, .slice none 0 0]) (t := 24) ?_; intro gbA5 hg w16 hbox hb; have BKA5 := Aside0.mk (hbox); have GWA5 := geh hg HB; have GEA5 := geh hg HB; replace HB := bst HB hb; clear hb hbox hg) | ((with_reducible refine gate_callee (f := 56) rfl ?_); refine gL_ (some 14) Try.func56 #[.slice A1 l1.length c1, .slice A2 l2.length c2] ?_; (with_reducible refine (spec_l01Gcd.calls k (fun k_ => k_ < w.heap.size) _ _ l1 (fun k_ => k_ < w.heap.size) _ _ l2 tB4 _ ?side1 ?side2 A4.out).mono ?_); (case side1 => exact Kd.V_mk HC1.out (Kd.F_below (Kd.C_F (Kd.heap_int .i64) HR1.out) (blw HB))); (case side2 => exact Kd.V_mk HC2.out (Kd.F_below (Kd.C_F (Kd.heap_int .i64) HR2.out) (blw HB))); rintro e w17 ⟨vG8, rfl, ho0, hb⟩; refine ⟨_, rfl, ?_⟩; have HOA7 := lwR (Kd.R_mono (ok' := fun k_ => True) ho0 (fun _ hk_ => trivial)) HB; replace BKA5 := bkb BKA5 hb; replace HB := bst HB hb; (try clear hb); (try clear hb2); (try clear hk); (try clear hi); (try clear ho0); obtain ⟨Ao18, co18, eo18⟩ := Kd.R_slice HOA7.out; subst eo18) | ((with_reducible refine gate_callee (f := 92) rfl ?_); refine gL_ (some 18) Try.func92 #[.slice A1 l1.length c1, .slice Ao18 tB4.length co18] ?_; (with_reducible refine (spec_l01Div.calls k _ _ l1 _ _ tB4 tB1 tF1 _ ?side1 ?side2 ?side3 ?side4 A5.out).mono ?_); (case side1 => exact crC (Kd.C_below HR1.out HB.out)); (case side2 => exact HC1.out); (case side3 => exact crC (Kd.R_reads' HOA7.out).2.2); (case side4 => exact (Kd.R_reads' HOA7.out).2.1); rintro e w19 ⟨vG9, vH0, rfl, ho0, ho1, hb⟩; refine ⟨_, rfl, ?_⟩; have HOC6 := lwR (nwR ho0 HOA7) HB; have HOC9 := lwR (nwR ho1 HOA7) HB; replace HOA7 := tldR HOA7 hb (Kd.R_base ho0) (Kd.R_base ho1); replace BKA5 := bkb BKA5 hb; replace HB := bst HB hb; (try clear hb); (try clear hb2); (try clear hk); (try clear hi); (try clear ho0); (try clear ho1)) | ((with_reducible refine gate_callee (f := 92) rfl ?_); refine gL_ (some 24) Try.func92 #[.slice A2 l2.length c2, .slice Ao18 tB4.length co18] ?_; (with_reducible refine (spec_l01Div.calls k _ _ l2 _ _ tB4 tB9 tF2 _ ?side1 ?side2 ?side3 ?side4 A6.out).mono ?_); (case side1 => exact crC (Kd.C_below HR2.out HB.out)); (case side2 => exact HC2.out); (case side3 => exact crC (Kd.R_reads' HOA7.out).2.2); (case side4 => exact (Kd.R_reads' HOA7.out).2.1); rintro e w20 ⟨vH1, vH2, rfl, ho0, ho1, hb⟩; refine ⟨_, rfl, ?_⟩; have HOD6 := lwR (nwR (nwR (nwR ho0 HOA7) HOC6) HOC9) HB; have HOH3 := lwR (nwR (nwR (nwR ho1 HOA7) HOC6) HOC9) HB; replace HOA7 := tldR HOA7 hb (Kd.R_base ho0) (Kd.R_base ho1); replace HOC6 := tldR HOC6 hb (Kd.R_base ho0) (Kd.R_base ho1); replace HOC9 := tldR HOC9 hb (Kd.R_base ho0) (Kd.R_base ho1); replace BKA5 := bkb BKA5 hb; replace HB := bst HB hb; (try clear hb); (try clear hb2); (try clear hk); (try clear hi); (try clear ho0); (try clear ho1); obtain ⟨Ao21, co21, eo21⟩ := Kd.R_slice HOD6.out; subst eo21; obtain ⟨Ao22, co22, eo22⟩ := Kd.R_slice HOC6.out; subst eo22; obtain ⟨hcz23_0, hcz23_1, hcz23_2, hfz23_0, hfz23_1, hfz23_2⟩ := bc3 BKA5))
  refine bodyPost_ret (results_cell_row rfl _ _ gbA5 24 #[.bool false, .slice Ao22 tB1.length co22, .slice Ao21 tB9.length co21] (0, 0) _ rfl (bp3 BKA5 _ _ _) Try.underlying24 rfl (by kernel_rfl)) rfl ?_
  exact ⟨_, _, by first | rfl | (simp only [l02Make_gt]; rfl) | (simp [errW_none, errW_some] <;> rfl) | (simp [*, errW_none, errW_some] <;> rfl), (crN HOC6 BKA5 fun _ hk => hk.1.1.2), (crN HOD6 BKA5 fun _ hk => hk.1.1.2), blw HB⟩

theorem lowest_gt (l : List Int) : decide (0 < l.length) = decide ((l.length : Int) > 0) := by simp only [decide_eq_decide]; omega
def impl_lowest.f (k : Nat) (a0 : Bool) (l1 : List Int) (l2 : List Int) : Option (Bool × List Int × List Int) := (impl_natGcd.f k l1 l2).bind fun tA3 => ((impl_one.f).bind fun tB5 => ((impl_natCmp.f tA3 tB5).bind fun tC0 => (if tC0 = 0 then (if a0 = true then ((slices_Clone_int_int.f l1).bind fun tC4 => ((slices_Clone_int_int.f l2).bind fun tC2 => (some (decide ((l1.length : Int) > 0), tC4, tC2)))) else ((slices_Clone_int_int.f l1).bind fun tC5 => ((slices_Clone_int_int.f l2).bind fun tC3 => (some (false, tC5, tC3))))) else ((impl_natDiv.f l1 tA3).bind fun btA4 => ((impl_natDiv.f l2 tA3).bind fun btA6 => (if a0 = true then ((slices_Clone_int_int.f btA4.1).bind fun tB2 => ((slices_Clone_int_int.f btA6.1).bind fun tB6 => (some (decide ((btA4.1.length : Int) > 0), tB2, tB6)))) else ((slices_Clone_int_int.f btA4.1).bind fun tC1 => ((slices_Clone_int_int.f btA6.1).bind fun tB7 => (some (false, tC1, tB7))))))))))
set_option maxHeartbeats 8000000 in
set_option maxRecDepth 100000 in
theorem impl_lowest.calls (k : Nat) (a0 : Bool) (A1 : Option Addr) (c1 : Nat) (l1 : List Int) (A2 : Option Addr) (c2 : Nat) (l2 : List Int) (r1 : Bool) (r2 : List Int) (r3 : List Int) (w : World) (hr1 : Kd.C (Kd.int .i64) w A1 l1.length l1) (hc1 : l1.length ≤ c1) (hr2 : Kd.C (Kd.int .i64) w A2 l2.length l2) (hc2 : l2.length ≤ c2) (h : impl_lowest.f k a0 l1 l2 = some (r1, r2, r3)) :
  Calls Try.prog 94 #[.bool a0, .slice A1 l1.length c1, .slice A2 l2.length c2] w fun e w' => ∃ v1_ v2_ : Value, e = .returned (.agg #[.bool r1, v1_, v2_]) ∧ Kd.R (Kd.int .i64) 3 w' w.heap.size (fun k_ => nO k_ v2_) v1_ r2 ∧ Kd.R (Kd.int .i64) 3 w' w.heap.size (fun k_ => nO k_ v1_) v2_ r3 ∧ Below w.heap.size w w' := by
 have hu24 := Try.underlying24
 have HR1 := Aside0.mk hr1
 have HC1 := Aside0.mk hc1
 clear hr1 hc1
 have HR2 := Aside0.mk hr2
 have HC2 := Aside0.mk hc2
 clear hr2 hc2
 have HB := Aside0.mk (Below.refl w.heap.size w)
 have H : ((impl_natGcd.f k l1 l2).bind fun tA3 => ((impl_one.f).bind fun tB5 => ((impl_natCmp.f tA3 tB5).bind fun tC0 => (if tC0 = 0 then (if a0 = true then ((slices_Clone_int_int.f l1).bind fun tC4 => ((slices_Clone_int_int.f l2).bind fun tC2 => (some (decide ((l1.length : Int) > 0), tC4, tC2)))) else ((slices_Clone_int_int.f l1).bind fun tC5 => ((slices_Clone_int_int.f l2).bind fun tC3 => (some (false, tC5, tC3))))) else ((impl_natDiv.f l1 tA3).bind fun btA4 => ((impl_natDiv.f l2 tA3).bind fun btA6 => (if a0 = true then ((slices_Clone_int_int.f btA4.1).bind fun tB2 => ((slices_Clone_int_int.f btA6.1).bind fun tB6 => (some (decide ((btA4.1.length : Int) > 0), tB2, tB6)))) else ((slices_Clone_int_int.f btA4.1).bind fun tC1 => ((slices_Clone_int_int.f btA6.1).bind fun tB7 => (some (false, tC1, tB7))))))))))) = some (r1, r2, r3) := h
 clear h
 replace H := Option.bind_eq_some_iff.mp H
 obtain ⟨tA3, A40, H⟩ := H
 replace H : ((impl_one.f).bind fun tB5 => ((impl_natCmp.f tA3 tB5).bind fun tC0 => (if tC0 = 0 then (if a0 = true then ((slices_Clone_int_int.f l1).bind fun tC4 => ((slices_Clone_int_int.f l2).bind fun tC2 => (some (decide ((l1.length : Int) > 0), tC4, tC2)))) else ((slices_Clone_int_int.f l1).bind fun tC5 => ((slices_Clone_int_int.f l2).bind fun tC3 => (some (false, tC5, tC3))))) else ((impl_natDiv.f l1 tA3).bind fun btA4 => ((impl_natDiv.f l2 tA3).bind fun btA6 => (if a0 = true then ((slices_Clone_int_int.f btA4.1).bind fun tB2 => ((slices_Clone_int_int.f btA6.1).bind fun tB6 => (some (decide ((btA4.1.length : Int) > 0), tB2, tB6)))) else ((slices_Clone_int_int.f btA4.1).bind fun tC1 => ((slices_Clone_int_int.f btA6.1).bind fun tB7 => (some (false, tC1, tB7)))))))))) = some (r1, r2, r3) := H
 have A4 := Aside0.mk A40
 clear A40
 replace H := Option.bind_eq_some_iff.mp H
 obtain ⟨tB5, A50, H⟩ := H
 replace H : ((impl_natCmp.f tA3 tB5).bind fun tC0 => (if tC0 = 0 then (if a0 = true then ((slices_Clone_int_int.f l1).bind fun tC4 => ((slices_Clone_int_int.f l2).bind fun tC2 => (some (decide ((l1.length : Int) > 0), tC4, tC2)))) else ((slices_Clone_int_int.f l1).bind fun tC5 => ((slices_Clone_int_int.f l2).bind fun tC3 => (some (false, tC5, tC3))))) else ((impl_natDiv.f l1 tA3).bind fun btA4 => ((impl_natDiv.f l2 tA3).bind fun btA6 => (if a0 = true then ((slices_Clone_int_int.f btA4.1).bind fun tB2 => ((slices_Clone_int_int.f btA6.1).bind fun tB6 => (some (decide ((btA4.1.length : Int) > 0), tB2, tB6)))) else ((slices_Clone_int_int.f btA4.1).bind fun tC1 => ((slices_Clone_int_int.f btA6.1).bind fun tB7 => (some (false, tC1, tB7))))))))) = some (r1, r2, r3) := H
 have A5 := Aside0.mk A50
 clear A50
 replace H := Option.bind_eq_some_iff.mp H
 obtain ⟨tC0, A60, H⟩ := H
 replace H : (if tC0 = 0 then (if a0 = true then ((slices_Clone_int_int.f l1).bind fun tC4 => ((slices_Clone_int_int.f l2).bind fun tC2 => (some (decide ((l1.length : Int) > 0), tC4, tC2)))) else ((slices_Clone_int_int.f l1).bind fun tC5 => ((slices_Clone_int_int.f l2).bind fun tC3 => (some (false, tC5, tC3))))) else ((impl_natDiv.f l1 tA3).bind fun btA4 => ((impl_natDiv.f l2 tA3).bind fun btA6 => (if a0 = true then ((slices_Clone_int_int.f btA4.1).bind fun tB2 => ((slices_Clone_int_int.f btA6.1).bind fun tB6 => (some (decide ((btA4.1.length : Int) > 0), tB2, tB6)))) else ((slices_Clone_int_int.f btA4.1).bind fun tC1 => ((slices_Clone_int_int.f btA6.1).bind fun tB7 => (some (false, tC1, tB7)))))))) = some (r1, r2, r3) := H
 have A6 := Aside0.mk A60
 clear A60
 by_cases c7 : tC0 = 0
 ·
  rw [if_pos c7] at H
  have c7b0 : (tC0 == 0) = true := beq_iff_eq.mpr c7
  have c7b1 : (tC0 != 0) = false := bne_eq_false_iff_eq.mpr c7
  clear c7
  by_cases c8 : a0 = true
  ·
   subst c8
   rw [if_pos rfl] at H
   replace H := Option.bind_eq_some_iff.mp H
   obtain ⟨tC4, A90, H⟩ := H
   replace H : ((slices_Clone_int_int.f l2).bind fun tC2 => (some (decide ((l1.length : Int) > 0), tC4, tC2))) = some (r1, r2, r3) := H
   have A9 := Aside0.mk A90
   clear A90
   replace H := Option.bind_eq_some_iff.mp H
   obtain ⟨tC2, AF3, H⟩ := H
   replace H : (some (decide ((l1.length : Int) > 0), tC4, tC2)) = some (r1, r2, r3) := H
   have A10 := Aside0.mk AF3
   clear AF3
   simp only [Option.some.injEq, Prod.mk.injEq] at H
   obtain ⟨rfl, rfl, rfl⟩ := H
   go_enter Try.func94, Try.ntmps94
   go_wp2_with (first | ((with_reducible refine gate_dst (N := 6) rfl ?_); (try (refine gate_guard (by rfl) ?_; dsimp only)); refine bx_ (N := 6) (cs := #[.bool false, .slice none 0 0, .slice none 0 0]) (t := 24) ?_; intro gbA0 hg w11 hbox hb; have BKA0 := Aside0.mk (hbox); have GWA0 := geh hg HB; have GEA0 := geh hg HB; replace HB := bst HB hb; clear hb hbox hg) | ((with_reducible refine gate_callee (f := 61) rfl ?_); refine gL_ (some 10) Try.func61 #[.slice A1 l1.length c1, .slice A2 l2.length c2] ?_; (with_reducible refine (impl_natGcd.calls k (fun k_ => k_ < w.heap.size) _ _ l1 (fun k_ => k_ < w.heap.size) _ _ l2 tA3 _ ?side1 ?side2 A4.out).mono ?_); (case side1 => exact Kd.V_mk HC1.out (Kd.F_below (Kd.C_F (Kd.heap_int .i64) HR1.out) (blw HB))); (case side2 => exact Kd.V_mk HC2.out (Kd.F_below (Kd.C_F (Kd.heap_int .i64) HR2.out) (blw HB))); rintro e w12 ⟨vD5, rfl, ho0, hb⟩; refine ⟨_, rfl, ?_⟩; have HOA1 := Aside0.mk (Kd.V_lower (Kd.V_mono (ok' := fun k_ => k_ ≠ gbA0) ho0 (fun k_ hk_ => Or.elim hk_ (fun hs_ => Or.elim hs_ (fun hs_ => fun e_ => Nat.not_le.2 hs_ (by rw [e_]; exact GWA0.out)) (fun hs_ => fun e_ => Nat.not_le.2 hs_ (by rw [e_]; exact GWA0.out))) (fun hn_ => (Kd.freshB (g := gbA0) (o := .cells #[.bool false, .slice none 0 0, .slice none 0 0] 24 (0, 0)) (crb BKA0) k_ hn_)))) (bsz HB)); replace BKA0 := bkb BKA0 hb; replace HB := bst HB hb; (try clear hb); (try clear hb2); (try clear hk); (try clear hi); (try clear ho0)) | ((with_reducible refine gate_callee (f := 62) rfl ?_); refine gL_ (some 12) Try.func62 #[] ?_; (with_reducible refine (impl_one.calls  tB5 _ A5.out).mono ?_); rintro e w13 ⟨vE8, rfl, ho0, hb⟩; refine ⟨_, rfl, ?_⟩; replace HOA1 := eldV HOA1 (Kd.R_base ho0) hb; have HOA2 := lwR ho0 HB; replace BKA0 := bkb BKA0 hb; replace HB := bst HB hb; (try clear hb); (try clear hb2); (try clear hk); (try clear hi); (try clear ho0); obtain ⟨Ao14, co14, eo14⟩ := Kd.V_slice HOA1.out; subst eo14; obtain ⟨Ao15, co15, eo15⟩ := Kd.R_slice HOA2.out; subst eo15) | ((with_reducible refine gate_callee (f := 60) rfl ?_); refine gL_ (some 13) Try.func60 #[.slice Ao14 tA3.length co14, .slice Ao15 tB5.length co15] ?_; (with_reducible refine (impl_natCmp.calls _ _ tA3 _ _ tB5 tC0 _ ?side1 ?side2 ?side3 ?side4 A6.out).mono ?_); (case side1 => exact crC (Kd.V_reads' HOA1.out).2.2); (case side2 => exact (Kd.V_reads' HOA1.out).2.1); (case side3 => exact crC (Kd.R_reads' HOA2.out).2.2); (case side4 => exact (Kd.R_reads' HOA2.out).2.1); rintro e w16 ⟨rfl, hb⟩; refine ⟨_, rfl, ?_⟩; replace HOA1 := rblV HOA1 hb; replace HOA2 := rblR HOA2 hb; replace BKA0 := bkb BKA0 hb; replace HB := bst HB hb; (try clear hb); (try clear hb2); (try clear hk); (try clear hi)) | ((with_reducible refine gate_callee (f := 102) rfl ?_); refine gL_ (some 34) Try.func102 #[.slice A1 l1.length c1] ?_; (with_reducible refine (slices_Clone_int_int.calls _ _ l1 tC4 _ ?side1 ?side2 A9.out).mono ?_); (case side1 => exact crC (Kd.C_below HR1.out HB.out)); (case side2 => exact HC1.out); rintro e w17 ⟨vH8, rfl, ho0, hb⟩; refine ⟨_, rfl, ?_⟩; replace HOA1 := eldV HOA1 (Kd.R_base ho0) hb; have HOD7 := lwR (nwR ho0 HOA2) HB; replace HOA2 := eldR HOA2 (Kd.R_base ho0) hb; replace BKA0 := bkb BKA0 hb; replace HB := bst HB hb; (try clear hb); (try clear hb2); (try clear hk); (try clear hi); (try clear ho0)) | ((with_reducible refine gate_callee (f := 102) rfl ?_); refine gL_ (some 36) Try.func102 #[.slice A2 l2.length c2] ?_; (with_reducible refine (slices_Clone_int_int.calls _ _ l2 tC2 _ ?side1 ?side2 A10.out).mono ?_); (case side1 => exact crC (Kd.C_below HR2.out HB.out)); (case side2 => exact HC2.out); rintro e w18 ⟨vE9, rfl, ho0, hb⟩; refine ⟨_, rfl, ?_⟩; replace HOA1 := eldV HOA1 (Kd.R_base ho0) hb; have HOF4 := lwR (nwR (nwR ho0 HOA2) HOD7) HB; replace HOA2 := eldR HOA2 (Kd.R_base ho0) hb; replace HOD7 := eldR HOD7 (Kd.R_base ho0) hb; replace BKA0 := bkb BKA0 hb; replace HB := bst HB hb; (try clear hb); (try clear hb2); (try clear hk); (try clear hi); (try clear ho0); obtain ⟨Ao19, co19, eo19⟩ := Kd.R_slice HOF4.out; subst eo19; obtain ⟨Ao20, co20, eo20⟩ := Kd.R_slice HOD7.out; subst eo20; obtain ⟨hcz21_0, hcz21_1, hcz21_2, hfz21_0, hfz21_1, hfz21_2⟩ := bc3 BKA0))
   refine bodyPost_ret (results_cell_row rfl _ _ gbA0 24 #[.bool (decide (0 < l1.length)), .slice Ao20 tC4.length co20, .slice Ao19 tC2.length co19] (0, 0) _ rfl (bp3 BKA0 _ _ _) Try.underlying24 rfl (by kernel_rfl)) rfl ?_
   exact ⟨_, _, by first | rfl | (simp only [lowest_gt]; rfl) | (simp [errW_none, errW_some] <;> rfl) | (simp [*, errW_none, errW_some] <;> rfl), (crN HOD7 BKA0 fun _ hk => hk.1.2), (crN HOF4 BKA0 fun _ hk => hk.1.2), blw HB⟩
  ·
   replace c8 := Bool.eq_false_iff.mpr c8
   subst c8
   rw [if_neg (show ¬ (false = true) by decide)] at H
   replace H := Option.bind_eq_some_iff.mp H
   obtain ⟨tC5, AF5, H⟩ := H
   replace H : ((slices_Clone_int_int.f l2).bind fun tC3 => (some (false, tC5, tC3))) = some (r1, r2, r3) := H
   have A22 := Aside0.mk AF5
   clear AF5
   replace H := Option.bind_eq_some_iff.mp H
   obtain ⟨tC3, AF6, H⟩ := H
   replace H : (some (false, tC5, tC3)) = some (r1, r2, r3) := H
   have A23 := Aside0.mk AF6
   clear AF6
   simp only [Option.some.injEq, Prod.mk.injEq] at H
   obtain ⟨rfl, rfl, rfl⟩ := H
   go_enter Try.func94, Try.ntmps94
   go_wp2_with (first | ((with_reducible refine gate_dst (N := 6) rfl ?_); (try (refine gate_guard (by rfl) ?_; dsimp only)); refine bx_ (N := 6) (cs := #[.bool false, .slice none 0 0, .slice none 0 0]) (t := 24) ?_; intro gbA0 hg w24 hbox hb; have BKA0 := Aside0.mk (hbox); have GWA0 := geh hg HB; have GEA0 := geh hg HB; replace HB := bst HB hb; clear hb hbox hg) | ((with_reducible refine gate_callee (f := 61) rfl ?_); refine gL_ (some 10) Try.func61 #[.slice A1 l1.length c1, .slice A2 l2.length c2] ?_; (with_reducible refine (impl_natGcd.calls k (fun k_ => k_ < w.heap.size) _ _ l1 (fun k_ => k_ < w.heap.size) _ _ l2 tA3 _ ?side1 ?side2 A4.out).mono ?_); (case side1 => exact Kd.V_mk HC1.out (Kd.F_below (Kd.C_F (Kd.heap_int .i64) HR1.out) (blw HB))); (case side2 => exact Kd.V_mk HC2.out (Kd.F_below (Kd.C_F (Kd.heap_int .i64) HR2.out) (blw HB))); rintro e w25 ⟨vD5, rfl, ho0, hb⟩; refine ⟨_, rfl, ?_⟩; have HOA1 := Aside0.mk (Kd.V_lower (Kd.V_mono (ok' := fun k_ => k_ ≠ gbA0) ho0 (fun k_ hk_ => Or.elim hk_ (fun hs_ => Or.elim hs_ (fun hs_ => fun e_ => Nat.not_le.2 hs_ (by rw [e_]; exact GWA0.out)) (fun hs_ => fun e_ => Nat.not_le.2 hs_ (by rw [e_]; exact GWA0.out))) (fun hn_ => (Kd.freshB (g := gbA0) (o := .cells #[.bool false, .slice none 0 0, .slice none 0 0] 24 (0, 0)) (crb BKA0) k_ hn_)))) (bsz HB)); replace BKA0 := bkb BKA0 hb; replace HB := bst HB hb; (try clear hb); (try clear hb2); (try clear hk); (try clear hi); (try clear ho0)) | ((with_reducible refine gate_callee (f := 62) rfl ?_); refine gL_ (some 12) Try.func62 #[] ?_; (with_reducible refine (impl_one.calls  tB5 _ A5.out).mono ?_); rintro e w26 ⟨vE8, rfl, ho0, hb⟩; refine ⟨_, rfl, ?_⟩; replace HOA1 := eldV HOA1 (Kd.R_base ho0) hb; have HOA2 := lwR ho0 HB; replace BKA0 := bkb BKA0 hb; replace HB := bst HB hb; (try clear hb); (try clear hb2); (try clear hk); (try clear hi); (try clear ho0); obtain ⟨Ao27, co27, eo27⟩ := Kd.V_slice HOA1.out; subst eo27; obtain ⟨Ao28, co28, eo28⟩ := Kd.R_slice HOA2.out; subst eo28) | ((with_reducible refine gate_callee (f := 60) rfl ?_); refine gL_ (some 13) Try.func60 #[.slice Ao27 tA3.length co27, .slice Ao28 tB5.length co28] ?_; (with_reducible refine (impl_natCmp.calls _ _ tA3 _ _ tB5 tC0 _ ?side1 ?side2 ?side3 ?side4 A6.out).mono ?_); (case side1 => exact crC (Kd.V_reads' HOA1.out).2.2); (case side2 => exact (Kd.V_reads' HOA1.out).2.1); (case side3 => exact crC (Kd.R_reads' HOA2.out).2.2); (case side4 => exact (Kd.R_reads' HOA2.out).2.1); rintro e w29 ⟨rfl, hb⟩; refine ⟨_, rfl, ?_⟩; replace HOA1 := rblV HOA1 hb; replace HOA2 := rblR HOA2 hb; replace BKA0 := bkb BKA0 hb; replace HB := bst HB hb; (try clear hb); (try clear hb2); (try clear hk); (try clear hi)) | ((with_reducible refine gate_callee (f := 102) rfl ?_); refine gL_ (some 34) Try.func102 #[.slice A1 l1.length c1] ?_; (with_reducible refine (slices_Clone_int_int.calls _ _ l1 tC5 _ ?side1 ?side2 A22.out).mono ?_); (case side1 => exact crC (Kd.C_below HR1.out HB.out)); (case side2 => exact HC1.out); rintro e w30 ⟨vH9, rfl, ho0, hb⟩; refine ⟨_, rfl, ?_⟩; replace HOA1 := eldV HOA1 (Kd.R_base ho0) hb; have HOD8 := lwR (nwR ho0 HOA2) HB; replace HOA2 := eldR HOA2 (Kd.R_base ho0) hb; replace BKA0 := bkb BKA0 hb; replace HB := bst HB hb; (try clear hb); (try clear hb2); (try clear hk); (try clear hi); (try clear ho0)) | ((with_reducible refine gate_callee (f := 102) rfl ?_); refine gL_ (some 36) Try.func102 #[.slice A2 l2.length c2] ?_; (with_reducible refine (slices_Clone_int_int.calls _ _ l2 tC3 _ ?side1 ?side2 A23.out).mono ?_); (case side1 => exact crC (Kd.C_below HR2.out HB.out)); (case side2 => exact HC2.out); rintro e w31 ⟨vI0, rfl, ho0, hb⟩; refine ⟨_, rfl, ?_⟩; replace HOA1 := eldV HOA1 (Kd.R_base ho0) hb; have HOF7 := lwR (nwR (nwR ho0 HOA2) HOD8) HB; replace HOA2 := eldR HOA2 (Kd.R_base ho0) hb; replace HOD8 := eldR HOD8 (Kd.R_base ho0) hb; replace BKA0 := bkb BKA0 hb; replace HB := bst HB hb; (try clear hb); (try clear hb2); (try clear hk); (try clear hi); (try clear ho0); obtain ⟨Ao32, co32, eo32⟩ := Kd.R_slice HOF7.out; subst eo32; obtain ⟨Ao33, co33, eo33⟩ := Kd.R_slice HOD8.out; subst eo33; obtain ⟨hcz34_0, hcz34_1, hcz34_2, hfz34_0, hfz34_1, hfz34_2⟩ := bc3 BKA0))
   refine bodyPost_ret (results_cell_row rfl _ _ gbA0 24 #[.bool false, .slice Ao33 tC5.length co33, .slice Ao32 tC3.length co32] (0, 0) _ rfl (bp3 BKA0 _ _ _) Try.underlying24 rfl (by kernel_rfl)) rfl ?_
   exact ⟨_, _, by first | rfl | (simp only [lowest_gt]; rfl) | (simp [errW_none, errW_some] <;> rfl) | (simp [*, errW_none, errW_some] <;> rfl), (crN HOD8 BKA0 fun _ hk => hk.1.2), (crN HOF7 BKA0 fun _ hk => hk.1.2), blw HB⟩
 ·
  rw [if_neg c7] at H
  have c7b0 : (tC0 == 0) = false := beq_eq_false_iff_ne.mpr c7
  have c7b1 : (tC0 != 0) = true := bne_iff_ne.mpr c7
  replace H := Option.bind_eq_some_iff.mp H
  obtain ⟨⟨tA4, tF8⟩, AD5, H⟩ := H
  replace H : ((impl_natDiv.f l2 tA3).bind fun btA6 => (if a0 = true then ((slices_Clone_int_int.f tA4).bind fun tB2 => ((slices_Clone_int_int.f btA6.1).bind fun tB6 => (some (decide ((tA4.length : Int) > 0), tB2, tB6)))) else ((slices_Clone_int_int.f tA4).bind fun tC1 => ((slices_Clone_int_int.f btA6.1).bind fun tB7 => (some (false, tC1, tB7)))))) = some (r1, r2, r3) := H
  have A35 := Aside0.mk AD5
  clear AD5
  replace H := Option.bind_eq_some_iff.mp H
  obtain ⟨⟨tA6, tF9⟩, AE9, H⟩ := H
  replace H : (if a0 = true then ((slices_Clone_int_int.f tA4).bind fun tB2 => ((slices_Clone_int_int.f tA6).bind fun tB6 => (some (decide ((tA4.length : Int) > 0), tB2, tB6)))) else ((slices_Clone_int_int.f tA4).bind fun tC1 => ((slices_Clone_int_int.f tA6).bind fun tB7 => (some (false, tC1, tB7))))) = some (r1, r2, r3) := H
  have A36 := Aside0.mk AE9
  clear AE9
  by_cases c37 : a0 = true
  ·
   subst c37
   rw [if_pos rfl] at H
   replace H := Option.bind_eq_some_iff.mp H
   obtain ⟨tB2, AB2, H⟩ := H
   replace H : ((slices_Clone_int_int.f tA6).bind fun tB6 => (some (decide ((tA4.length : Int) > 0), tB2, tB6))) = some (r1, r2, r3) := H
   have A38 := Aside0.mk AB2
   clear AB2
   replace H := Option.bind_eq_some_iff.mp H
   obtain ⟨tB6, AF0, H⟩ := H
   replace H : (some (decide ((tA4.length : Int) > 0), tB2, tB6)) = some (r1, r2, r3) := H
   have A39 := Aside0.mk AF0
   clear AF0
   simp only [Option.some.injEq, Prod.mk.injEq] at H
   obtain ⟨rfl, rfl, rfl⟩ := H
   go_enter Try.func94, Try.ntmps94
   go_wp2_with (first | ((with_reducible refine gate_dst (N := 6) rfl ?_); (try (refine gate_guard (by rfl) ?_; dsimp only)); refine bx_ (N := 6) (cs := #[.bool false, .slice none 0 0, .slice none 0 0]) (t := 24) ?_; intro gbA0 hg w40 hbox hb; have BKA0 := Aside0.mk (hbox); have GWA0 := geh hg HB; have GEA0 := geh hg HB; replace HB := bst HB hb; clear hb hbox hg) | ((with_reducible refine gate_callee (f := 61) rfl ?_); refine gL_ (some 10) Try.func61 #[.slice A1 l1.length c1, .slice A2 l2.length c2] ?_; (with_reducible refine (impl_natGcd.calls k (fun k_ => k_ < w.heap.size) _ _ l1 (fun k_ => k_ < w.heap.size) _ _ l2 tA3 _ ?side1 ?side2 A4.out).mono ?_); (case side1 => exact Kd.V_mk HC1.out (Kd.F_below (Kd.C_F (Kd.heap_int .i64) HR1.out) (blw HB))); (case side2 => exact Kd.V_mk HC2.out (Kd.F_below (Kd.C_F (Kd.heap_int .i64) HR2.out) (blw HB))); rintro e w41 ⟨vD5, rfl, ho0, hb⟩; refine ⟨_, rfl, ?_⟩; have HOA1 := Aside0.mk (Kd.V_lower (Kd.V_mono (ok' := fun k_ => k_ ≠ gbA0) ho0 (fun k_ hk_ => Or.elim hk_ (fun hs_ => Or.elim hs_ (fun hs_ => fun e_ => Nat.not_le.2 hs_ (by rw [e_]; exact GWA0.out)) (fun hs_ => fun e_ => Nat.not_le.2 hs_ (by rw [e_]; exact GWA0.out))) (fun hn_ => (Kd.freshB (g := gbA0) (o := .cells #[.bool false, .slice none 0 0, .slice none 0 0] 24 (0, 0)) (crb BKA0) k_ hn_)))) (bsz HB)); replace BKA0 := bkb BKA0 hb; replace HB := bst HB hb; (try clear hb); (try clear hb2); (try clear hk); (try clear hi); (try clear ho0)) | ((with_reducible refine gate_callee (f := 62) rfl ?_); refine gL_ (some 12) Try.func62 #[] ?_; (with_reducible refine (impl_one.calls  tB5 _ A5.out).mono ?_); rintro e w42 ⟨vE8, rfl, ho0, hb⟩; refine ⟨_, rfl, ?_⟩; replace HOA1 := eldV HOA1 (Kd.R_base ho0) hb; have HOA2 := lwR ho0 HB; replace BKA0 := bkb BKA0 hb; replace HB := bst HB hb; (try clear hb); (try clear hb2); (try clear hk); (try clear hi); (try clear ho0); obtain ⟨Ao43, co43, eo43⟩ := Kd.V_slice HOA1.out; subst eo43; obtain ⟨Ao44, co44, eo44⟩ := Kd.R_slice HOA2.out; subst eo44) | ((with_reducible refine gate_callee (f := 60) rfl ?_); refine gL_ (some 13) Try.func60 #[.slice Ao43 tA3.length co43, .slice Ao44 tB5.length co44] ?_; (with_reducible refine (impl_natCmp.calls _ _ tA3 _ _ tB5 tC0 _ ?side1 ?side2 ?side3 ?side4 A6.out).mono ?_); (case side1 => exact crC (Kd.V_reads' HOA1.out).2.2); (case side2 => exact (Kd.V_reads' HOA1.out).2.1); (case side3 => exact crC (Kd.R_reads' HOA2.out).2.2); (case side4 => exact (Kd.R_reads' HOA2.out).2.1); rintro e w45 ⟨rfl, hb⟩; refine ⟨_, rfl, ?_⟩; replace HOA1 := rblV HOA1 hb; replace HOA2 := rblR HOA2 hb; replace BKA0 := bkb BKA0 hb; replace HB := bst HB hb; (try clear hb); (try clear hb2); (try clear hk); (try clear hi)) | ((with_reducible refine gate_callee (f := 75) rfl ?_); refine gL_ (some 18) Try.func75 #[.slice A1 l1.length c1, .slice Ao43 tA3.length co43] ?_; (with_reducible refine (impl_natDiv.calls _ _ l1 _ _ tA3 tA4 tF8 _ ?side1 ?side2 ?side3 ?side4 A35.out).mono ?_); (case side1 => exact crC (Kd.C_below HR1.out HB.out)); (case side2 => exact HC1.out); (case side3 => exact crC (Kd.V_reads' HOA1.out).2.2); (case side4 => exact (Kd.V_reads' HOA1.out).2.1); rintro e w46 ⟨vH4, vH5, rfl, ho0, ho1, hb⟩; refine ⟨_, rfl, ?_⟩; replace HOA1 := tldV HOA1 hb (Kd.R_base ho0) (Kd.R_base ho1); have HOA8 := lwR (nwR ho0 HOA2) HB; have HOB3 := lwR (nwR ho1 HOA2) HB; replace HOA2 := tldR HOA2 hb (Kd.R_base ho0) (Kd.R_base ho1); replace BKA0 := bkb BKA0 hb; replace HB := bst HB hb; (try clear hb); (try clear hb2); (try clear hk); (try clear hi); (try clear ho0); (try clear ho1)) | ((with_reducible refine gate_callee (f := 75) rfl ?_); refine gL_ (some 24) Try.func75 #[.slice A2 l2.length c2, .slice Ao43 tA3.length co43] ?_; (with_reducible refine (impl_natDiv.calls _ _ l2 _ _ tA3 tA6 tF9 _ ?side1 ?side2 ?side3 ?side4 A36.out).mono ?_); (case side1 => exact crC (Kd.C_below HR2.out HB.out)); (case side2 => exact HC2.out); (case side3 => exact crC (Kd.V_reads' HOA1.out).2.2); (case side4 => exact (Kd.V_reads' HOA1.out).2.1); rintro e w47 ⟨vH6, vH7, rfl, ho0, ho1, hb⟩; refine ⟨_, rfl, ?_⟩; replace HOA1 := tldV HOA1 hb (Kd.R_base ho0) (Kd.R_base ho1); have HOB8 := lwR (nwR (nwR (nwR ho0 HOA2) HOA8) HOB3) HB; have HOC7 := lwR (nwR (nwR (nwR ho1 HOA2) HOA8) HOB3) HB; replace HOA2 := tldR HOA2 hb (Kd.R_base ho0) (Kd.R_base ho1); replace HOA8 := tldR HOA8 hb (Kd.R_base ho0) (Kd.R_base ho1); replace HOB3 := tldR HOB3 hb (Kd.R_base ho0) (Kd.R_base ho1); replace BKA0 := bkb BKA0 hb; replace HB := bst HB hb; (try clear hb); (try clear hb2); (try clear hk); (try clear hi); (try clear ho0); (try clear ho1); obtain ⟨Ao48, co48, eo48⟩ := Kd.R_slice HOA8.out; subst eo48) | ((with_reducible refine gate_callee (f := 102) rfl ?_); refine gL_ (some 34) Try.func102 #[.slice Ao48 tA4.length co48] ?_; (with_reducible refine (slices_Clone_int_int.calls _ _ tA4 tB2 _ ?side1 ?side2 A38.out).mono ?_); (case side1 => exact crC (Kd.R_reads' HOA8.out).2.2); (case side2 => exact (Kd.R_reads' HOA8.out).2.1); rintro e w49 ⟨vI1, rfl, ho0, hb⟩; refine ⟨_, rfl, ?_⟩; replace HOA1 := eldV HOA1 (Kd.R_base ho0) hb; have HOD9 := lwR (nwR (nwR (nwR (nwR (nwR ho0 HOA2) HOA8) HOB3) HOB8) HOC7) HB; replace HOA2 := eldR HOA2 (Kd.R_base ho0) hb; replace HOA8 := eldR HOA8 (Kd.R_base ho0) hb; replace HOB3 := eldR HOB3 (Kd.R_base ho0) hb; replace HOB8 := eldR HOB8 (Kd.R_base ho0) hb; replace HOC7 := eldR HOC7 (Kd.R_base ho0) hb; replace BKA0 := bkb BKA0 hb; replace HB := bst HB hb; (try clear hb); (try clear hb2); (try clear hk); (try clear hi); (try clear ho0); obtain ⟨Ao50, co50, eo50⟩ := Kd.R_slice HOB8.out; subst eo50) | ((with_reducible refine gate_callee (f := 102) rfl ?_); refine gL_ (some 36) Try.func102 #[.slice Ao50 tA6.length co50] ?_; (with_reducible refine (slices_Clone_int_int.calls _ _ tA6 tB6 _ ?side1 ?side2 A39.out).mono ?_); (case side1 => exact crC (Kd.R_reads' HOB8.out).2.2); (case side2 => exact (Kd.R_reads' HOB8.out).2.1); rintro e w51 ⟨vI2, rfl, ho0, hb⟩; refine ⟨_, rfl, ?_⟩; replace HOA1 := eldV HOA1 (Kd.R_base ho0) hb; have HOG0 := lwR (nwR (nwR (nwR (nwR (nwR (nwR ho0 HOA2) HOA8) HOB3) HOB8) HOC7) HOD9) HB; replace HOA2 := eldR HOA2 (Kd.R_base ho0) hb; replace HOA8 := eldR HOA8 (Kd.R_base ho0) hb; replace HOB3 := eldR HOB3 (Kd.R_base ho0) hb; replace HOB8 := eldR HOB8 (Kd.R_base ho0) hb; replace HOC7 := eldR HOC7 (Kd.R_base ho0) hb; replace HOD9 := eldR HOD9 (Kd.R_base ho0) hb; replace BKA0 := bkb BKA0 hb; replace HB := bst HB hb; (try clear hb); (try clear hb2); (try clear hk); (try clear hi); (try clear ho0); obtain ⟨Ao52, co52, eo52⟩ := Kd.R_slice HOG0.out; subst eo52; obtain ⟨Ao53, co53, eo53⟩ := Kd.R_slice HOD9.out; subst eo53; obtain ⟨hcz54_0, hcz54_1, hcz54_2, hfz54_0, hfz54_1, hfz54_2⟩ := bc3 BKA0))
   refine bodyPost_ret (results_cell_row rfl _ _ gbA0 24 #[.bool (decide (0 < tA4.length)), .slice Ao53 tB2.length co53, .slice Ao52 tB6.length co52] (0, 0) _ rfl (bp3 BKA0 _ _ _) Try.underlying24 rfl (by kernel_rfl)) rfl ?_
   exact ⟨_, _, by first | rfl | (simp only [lowest_gt]; rfl) | (simp [errW_none, errW_some] <;> rfl) | (simp [*, errW_none, errW_some] <;> rfl), (crN HOD9 BKA0 fun _ hk => hk.1.2), (crN HOG0 BKA0 fun _ hk => hk.1.2), blw HB⟩
  ·
   replace c37 := Bool.eq_false_iff.mpr c37
   subst c37
   rw [if_neg (show ¬ (false = true) by decide)] at H
   replace H := Option.bind_eq_some_iff.mp H
   obtain ⟨tC1, AC8, H⟩ := H
   replace H : ((slices_Clone_int_int.f tA6).bind fun tB7 => (some (false, tC1, tB7))) = some (r1, r2, r3) := H
   have A55 := Aside0.mk AC8
   clear AC8
   replace H := Option.bind_eq_some_iff.mp H
   obtain ⟨tB7, AG1, H⟩ := H
   replace H : (some (false, tC1, tB7)) = some (r1, r2, r3) := H
   have A56 := Aside0.mk AG1
   clear AG1
   simp only [Option.some.injEq, Prod.mk.injEq] at H
   obtain ⟨rfl, rfl, rfl⟩ := H
   go_enter Try.func94, Try.ntmps94
   go_wp2_with (first | ((with_reducible refine gate_dst (N := 6) rfl ?_); (try (refine gate_guard (by rfl) ?_; dsimp only)); refine bx_ (N := 6) (cs := #[.bool false, .slice none 0 0, .slice none 0 0]) (t := 24) ?_; intro gbA0 hg w57 hbox hb; have BKA0 := Aside0.mk (hbox); have GWA0 := geh hg HB; have GEA0 := geh hg HB; replace HB := bst HB hb; clear hb hbox hg) | ((with_reducible refine gate_callee (f := 61) rfl ?_); refine gL_ (some 10) Try.func61 #[.slice A1 l1.length c1, .slice A2 l2.length c2] ?_; (with_reducible refine (impl_natGcd.calls k (fun k_ => k_ < w.heap.size) _ _ l1 (fun k_ => k_ < w.heap.size) _ _ l2 tA3 _ ?side1 ?side2 A4.out).mono ?_); (case side1 => exact Kd.V_mk HC1.out (Kd.F_below (Kd.C_F (Kd.heap_int .i64) HR1.out) (blw HB))); (case side2 => exact Kd.V_mk HC2.out (Kd.F_below (Kd.C_F (Kd.heap_int .i64) HR2.out) (blw HB))); rintro e w58 ⟨vD5, rfl, ho0, hb⟩; refine ⟨_, rfl, ?_⟩; have HOA1 := Aside0.mk (Kd.V_lower (Kd.V_mono (ok' := fun k_ => k_ ≠ gbA0) ho0 (fun k_ hk_ => Or.elim hk_ (fun hs_ => Or.elim hs_ (fun hs_ => fun e_ => Nat.not_le.2 hs_ (by rw [e_]; exact GWA0.out)) (fun hs_ => fun e_ => Nat.not_le.2 hs_ (by rw [e_]; exact GWA0.out))) (fun hn_ => (Kd.freshB (g := gbA0) (o := .cells #[.bool false, .slice none 0 0, .slice none 0 0] 24 (0, 0)) (crb BKA0) k_ hn_)))) (bsz HB)); replace BKA0 := bkb BKA0 hb; replace HB := bst HB hb; (try clear hb); (try clear hb2); (try clear hk); (try clear hi); (try clear ho0)) | ((with_reducible refine gate_callee (f := 62) rfl ?_); refine gL_ (some 12) Try.func62 #[] ?_; (with_reducible refine (impl_one.calls  tB5 _ A5.out).mono ?_); rintro e w59 ⟨vE8, rfl, ho0, hb⟩; refine ⟨_, rfl, ?_⟩; replace HOA1 := eldV HOA1 (Kd.R_base ho0) hb; have HOA2 := lwR ho0 HB; replace BKA0 := bkb BKA0 hb; replace HB := bst HB hb; (try clear hb); (try clear hb2); (try clear hk); (try clear hi); (try clear ho0); obtain ⟨Ao60, co60, eo60⟩ := Kd.V_slice HOA1.out; subst eo60; obtain ⟨Ao61, co61, eo61⟩ := Kd.R_slice HOA2.out; subst eo61) | ((with_reducible refine gate_callee (f := 60) rfl ?_); refine gL_ (some 13) Try.func60 #[.slice Ao60 tA3.length co60, .slice Ao61 tB5.length co61] ?_; (with_reducible refine (impl_natCmp.calls _ _ tA3 _ _ tB5 tC0 _ ?side1 ?side2 ?side3 ?side4 A6.out).mono ?_); (case side1 => exact crC (Kd.V_reads' HOA1.out).2.2); (case side2 => exact (Kd.V_reads' HOA1.out).2.1); (case side3 => exact crC (Kd.R_reads' HOA2.out).2.2); (case side4 => exact (Kd.R_reads' HOA2.out).2.1); rintro e w62 ⟨rfl, hb⟩; refine ⟨_, rfl, ?_⟩; replace HOA1 := rblV HOA1 hb; replace HOA2 := rblR HOA2 hb; replace BKA0 := bkb BKA0 hb; replace HB := bst HB hb; (try clear hb); (try clear hb2); (try clear hk); (try clear hi)) | ((with_reducible refine gate_callee (f := 75) rfl ?_); refine gL_ (some 18) Try.func75 #[.slice A1 l1.length c1, .slice Ao60 tA3.length co60] ?_; (with_reducible refine (impl_natDiv.calls _ _ l1 _ _ tA3 tA4 tF8 _ ?side1 ?side2 ?side3 ?side4 A35.out).mono ?_); (case side1 => exact crC (Kd.C_below HR1.out HB.out)); (case side2 => exact HC1.out); (case side3 => exact crC (Kd.V_reads' HOA1.out).2.2); (case side4 => exact (Kd.V_reads' HOA1.out).2.1); rintro e w63 ⟨vH4, vH5, rfl, ho0, ho1, hb⟩; refine ⟨_, rfl, ?_⟩; replace HOA1 := tldV HOA1 hb (Kd.R_base ho0) (Kd.R_base ho1); have HOA8 := lwR (nwR ho0 HOA2) HB; have HOB3 := lwR (nwR ho1 HOA2) HB; replace HOA2 := tldR HOA2 hb (Kd.R_base ho0) (Kd.R_base ho1); replace BKA0 := bkb BKA0 hb; replace HB := bst HB hb; (try clear hb); (try clear hb2); (try clear hk); (try clear hi); (try clear ho0); (try clear ho1)) | ((with_reducible refine gate_callee (f := 75) rfl ?_); refine gL_ (some 24) Try.func75 #[.slice A2 l2.length c2, .slice Ao60 tA3.length co60] ?_; (with_reducible refine (impl_natDiv.calls _ _ l2 _ _ tA3 tA6 tF9 _ ?side1 ?side2 ?side3 ?side4 A36.out).mono ?_); (case side1 => exact crC (Kd.C_below HR2.out HB.out)); (case side2 => exact HC2.out); (case side3 => exact crC (Kd.V_reads' HOA1.out).2.2); (case side4 => exact (Kd.V_reads' HOA1.out).2.1); rintro e w64 ⟨vH6, vH7, rfl, ho0, ho1, hb⟩; refine ⟨_, rfl, ?_⟩; replace HOA1 := tldV HOA1 hb (Kd.R_base ho0) (Kd.R_base ho1); have HOB8 := lwR (nwR (nwR (nwR ho0 HOA2) HOA8) HOB3) HB; have HOC7 := lwR (nwR (nwR (nwR ho1 HOA2) HOA8) HOB3) HB; replace HOA2 := tldR HOA2 hb (Kd.R_base ho0) (Kd.R_base ho1); replace HOA8 := tldR HOA8 hb (Kd.R_base ho0) (Kd.R_base ho1); replace HOB3 := tldR HOB3 hb (Kd.R_base ho0) (Kd.R_base ho1); replace BKA0 := bkb BKA0 hb; replace HB := bst HB hb; (try clear hb); (try clear hb2); (try clear hk); (try clear hi); (try clear ho0); (try clear ho1); obtain ⟨Ao65, co65, eo65⟩ := Kd.R_slice HOA8.out; subst eo65) | ((with_reducible refine gate_callee (f := 102) rfl ?_); refine gL_ (some 34) Try.func102 #[.slice Ao65 tA4.length co65] ?_; (with_reducible refine (slices_Clone_int_int.calls _ _ tA4 tC1 _ ?side1 ?side2 A55.out).mono ?_); (case side1 => exact crC (Kd.R_reads' HOA8.out).2.2); (case side2 => exact (Kd.R_reads' HOA8.out).2.1); rintro e w66 ⟨vI3, rfl, ho0, hb⟩; refine ⟨_, rfl, ?_⟩; replace HOA1 := eldV HOA1 (Kd.R_base ho0) hb; have HOE0 := lwR (nwR (nwR (nwR (nwR (nwR ho0 HOA2) HOA8) HOB3) HOB8) HOC7) HB; replace HOA2 := eldR HOA2 (Kd.R_base ho0) hb; replace HOA8 := eldR HOA8 (Kd.R_base ho0) hb; replace HOB3 := eldR HOB3 (Kd.R_base ho0) hb; replace HOB8 := eldR HOB8 (Kd.R_base ho0) hb; replace HOC7 := eldR HOC7 (Kd.R_base ho0) hb; replace BKA0 := bkb BKA0 hb; replace HB := bst HB hb; (try clear hb); (try clear hb2); (try clear hk); (try clear hi); (try clear ho0); obtain ⟨Ao67, co67, eo67⟩ := Kd.R_slice HOB8.out; subst eo67) | ((with_reducible refine gate_callee (f := 102) rfl ?_); refine gL_ (some 36) Try.func102 #[.slice Ao67 tA6.length co67] ?_; (with_reducible refine (slices_Clone_int_int.calls _ _ tA6 tB7 _ ?side1 ?side2 A56.out).mono ?_); (case side1 => exact crC (Kd.R_reads' HOB8.out).2.2); (case side2 => exact (Kd.R_reads' HOB8.out).2.1); rintro e w68 ⟨vF0, rfl, ho0, hb⟩; refine ⟨_, rfl, ?_⟩; replace HOA1 := eldV HOA1 (Kd.R_base ho0) hb; have HOG2 := lwR (nwR (nwR (nwR (nwR (nwR (nwR ho0 HOA2) HOA8) HOB3) HOB8) HOC7) HOE0) HB; replace HOA2 := eldR HOA2 (Kd.R_base ho0) hb; replace HOA8 := eldR HOA8 (Kd.R_base ho0) hb; replace HOB3 := eldR HOB3 (Kd.R_base ho0) hb; replace HOB8 := eldR HOB8 (Kd.R_base ho0) hb; replace HOC7 := eldR HOC7 (Kd.R_base ho0) hb; replace HOE0 := eldR HOE0 (Kd.R_base ho0) hb; replace BKA0 := bkb BKA0 hb; replace HB := bst HB hb; (try clear hb); (try clear hb2); (try clear hk); (try clear hi); (try clear ho0); obtain ⟨Ao69, co69, eo69⟩ := Kd.R_slice HOG2.out; subst eo69; obtain ⟨Ao70, co70, eo70⟩ := Kd.R_slice HOE0.out; subst eo70; obtain ⟨hcz71_0, hcz71_1, hcz71_2, hfz71_0, hfz71_1, hfz71_2⟩ := bc3 BKA0))
   refine bodyPost_ret (results_cell_row rfl _ _ gbA0 24 #[.bool false, .slice Ao70 tC1.length co70, .slice Ao69 tB7.length co69] (0, 0) _ rfl (bp3 BKA0 _ _ _) Try.underlying24 rfl (by kernel_rfl)) rfl ?_
   exact ⟨_, _, by first | rfl | (simp only [lowest_gt]; rfl) | (simp [errW_none, errW_some] <;> rfl) | (simp [*, errW_none, errW_some] <;> rfl), (crN HOE0 BKA0 fun _ hk => hk.1.2), (crN HOG2 BKA0 fun _ hk => hk.1.2), blw HB⟩

def spec_l02Int.f (k : Nat) (a0 : Int) : Option (Bool × List Int × List Int) := if a0 < 0 then ((spec_l01Small.f k (wrap64 (-a0))).bind fun tD2 => (some (true, tD2, (([1] : List Int))))) else ((spec_l01Small.f k a0).bind fun tC8 => (some (false, tC8, (([1] : List Int)))))
set_option maxHeartbeats 8000000 in
set_option maxRecDepth 100000 in
theorem spec_l02Int.calls (k : Nat) (a0 : Int) (r1 : Bool) (r2 : List Int) (r3 : List Int) (w : World) (h : spec_l02Int.f k a0 = some (r1, r2, r3)) :
  Calls Try.prog 46 #[.int .i64 a0] w fun e w' => ∃ v1_ v2_ : Value, e = .returned (.agg #[.bool r1, v1_, v2_]) ∧ Kd.R (Kd.int .i64) 3 w' w.heap.size (fun k_ => nO k_ v2_) v1_ r2 ∧ Kd.R (Kd.int .i64) 3 w' w.heap.size (fun k_ => nO k_ v1_) v2_ r3 ∧ Below w.heap.size w w' := by
 have hu24 := Try.underlying24
 have HB := Aside0.mk (Below.refl w.heap.size w)
 have H : (if a0 < 0 then ((spec_l01Small.f k (wrap64 (-a0))).bind fun tD2 => (some (true, tD2, (([1] : List Int))))) else ((spec_l01Small.f k a0).bind fun tC8 => (some (false, tC8, (([1] : List Int)))))) = some (r1, r2, r3) := h
 clear h
 by_cases c2 : a0 < 0
 ·
  rw [if_pos c2] at H
  have c2b0 : decide (a0 < 0) = true := decide_eq_true c2
  clear c2
  replace H := Option.bind_eq_some_iff.mp H
  obtain ⟨tD2, A30, H⟩ := H
  replace H : (some (true, tD2, (([1] : List Int)))) = some (r1, r2, r3) := H
  have A3 := Aside0.mk A30
  clear A30
  obtain ⟨yE1, hy547⟩ : ∃ y_ : List Int, y_ = (([1] : List Int)) := ⟨_, rfl⟩
  replace H : (some (true, tD2, yE1)) = some (r1, r2, r3) := by subst hy547; first | with_reducible exact H | with_reducible exact (Option.bind_some _ _).symm.trans H | exact H
  have NyE1 := Aside0.mk hy547
  clear hy547
  simp only [Option.some.injEq, Prod.mk.injEq] at H
  obtain ⟨rfl, rfl, rfl⟩ := H
  go_enter Try.func46, Try.ntmps46
  go_wp2_with (first | ((with_reducible refine gate_dst (N := 2) rfl ?_); refine bx_ (N := 2) (cs := #[.bool false, .slice none 0 0, .slice none 0 0]) (t := 24) ?_; intro gbA9 hg w4 hbox hb; have BKA9 := Aside0.mk (hbox); have GWA9 := geh hg HB; have GEA9 := geh hg HB; replace HB := bst HB hb; clear hb hbox hg) | ((with_reducible refine gate_callee (f := 91) rfl ?_); refine gL_ (some 7) Try.func91 #[.int .i64 (wrap64 (-a0))] ?_; (with_reducible refine (spec_l01Small.calls k (wrap64 (-a0)) tD2 _ A3.out).mono ?_); rintro e w5 ⟨vI4, rfl, ho0, hb⟩; refine ⟨_, rfl, ?_⟩; have HOE2 := lwR ho0 HB; replace BKA9 := bkb BKA9 hb; replace HB := bst HB hb; (try clear hb); (try clear hb2); (try clear hk); (try clear hi); (try clear ho0)) | ((with_reducible refine gate_dst (N := 8) rfl ?_); refine Kd.R_lit (Kd.int .i64) _ 3 ?hg (N := 8) ?hd (xs := ([1] : List Int)) (inner := [.int .i64 1]) (ok := fun _ => True) (okp := fun _ => True) ?hr ?hp (fun _ hk => hk) trivial (Below.refl _ _) (Nat.le_refl _) (by simp) ?_; (case hd => rfl); (case hg => rfl); (case hr => first | (go_simp; done) | (go_simp; rfl)); (case hp => exact (Reps.one (show Kd.M (Kd.int .i64) _ _ _ 1 [.int .i64 1] from rfl) (Reps.none _ _))); intro vI5 w6 ho7 hb hg_ hnew_; clear hg_ hnew_; (first | rw [← NyE1.out] at ho7 | (simp only [Int.reduceToNat] at ho7; rw [← NyE1.out] at ho7)); have HOG3 := lwR (nwR ho7 HOE2) HB; replace HOE2 := eldR HOE2 (Kd.R_base ho7) hb; replace BKA9 := bkb BKA9 hb; replace HB := bst HB hb; clear hb ho7; obtain ⟨Ao8, co8, eo8⟩ := Kd.R_slice HOG3.out; subst eo8; obtain ⟨Ao9, co9, eo9⟩ := Kd.R_slice HOE2.out; subst eo9; obtain ⟨hcz10_0, hcz10_1, hcz10_2, hfz10_0, hfz10_1, hfz10_2⟩ := bc3 BKA9))
  refine bodyPost_ret (results_cell_row rfl _ _ gbA9 24 #[.bool true, .slice Ao9 tD2.length co9, .slice Ao8 yE1.length co8] (0, 0) _ rfl (bp3 BKA9 _ _ _) Try.underlying24 rfl (by kernel_rfl)) rfl ?_
  exact ⟨_, _, er_, (crN HOE2 BKA9 fun _ hk => hk.1.2), (crN HOG3 BKA9 fun _ hk => hk.1.2), blw HB⟩
 ·
  rw [if_neg c2] at H
  have c2b0 : decide (a0 < 0) = false := decide_eq_false c2
  clear c2
  replace H := Option.bind_eq_some_iff.mp H
  obtain ⟨tC8, AE3, H⟩ := H
  replace H : (some (false, tC8, (([1] : List Int)))) = some (r1, r2, r3) := H
  have A11 := Aside0.mk AE3
  clear AE3
  obtain ⟨yE4, hy553⟩ : ∃ y_ : List Int, y_ = (([1] : List Int)) := ⟨_, rfl⟩
  replace H : (some (false, tC8, yE4)) = some (r1, r2, r3) := by subst hy553; first | with_reducible exact H | with_reducible exact (Option.bind_some _ _).symm.trans H | exact H
  have NyE4 := Aside0.mk hy553
  clear hy553
  simp only [Option.some.injEq, Prod.mk.injEq] at H
  obtain ⟨rfl, rfl, rfl⟩ := H
  go_enter Try.func46, Try.ntmps46
  go_wp2_with (first | ((with_reducible refine gate_dst (N := 2) rfl ?_); refine bx_ (N := 2) (cs := #[.bool false, .slice none 0 0, .slice none 0 0]) (t := 24) ?_; intro gbA9 hg w12 hbox hb; have BKA9 := Aside0.mk (hbox); have GWA9 := geh hg HB; have GEA9 := geh hg HB; replace HB := bst HB hb; clear hb hbox hg) | ((with_reducible refine gate_callee (f := 91) rfl ?_); refine gL_ (some 11) Try.func91 #[.int .i64 a0] ?_; (with_reducible refine (spec_l01Small.calls k a0 tC8 _ A11.out).mono ?_); rintro e w13 ⟨vI6, rfl, ho0, hb⟩; refine ⟨_, rfl, ?_⟩; have HOE5 := lwR ho0 HB; replace BKA9 := bkb BKA9 hb; replace HB := bst HB hb; (try clear hb); (try clear hb2); (try clear hk); (try clear hi); (try clear ho0)) | ((with_reducible refine gate_dst (N := 12) rfl ?_); refine Kd.R_lit (Kd.int .i64) _ 3 ?hg (N := 12) ?hd (xs := ([1] : List Int)) (inner := [.int .i64 1]) (ok := fun _ => True) (okp := fun _ => True) ?hr ?hp (fun _ hk => hk) trivial (Below.refl _ _) (Nat.le_refl _) (by simp) ?_; (case hd => rfl); (case hg => rfl); (case hr => first | (go_simp; done) | (go_simp; rfl)); (case hp => exact (Reps.one (show Kd.M (Kd.int .i64) _ _ _ 1 [.int .i64 1] from rfl) (Reps.none _ _))); intro vI7 w14 ho15 hb hg_ hnew_; clear hg_ hnew_; (first | rw [← NyE4.out] at ho15 | (simp only [Int.reduceToNat] at ho15; rw [← NyE4.out] at ho15)); have HOG4 := lwR (nwR ho15 HOE5) HB; replace HOE5 := eldR HOE5 (Kd.R_base ho15) hb; replace BKA9 := bkb BKA9 hb; replace HB := bst HB hb; clear hb ho15; obtain ⟨Ao16, co16, eo16⟩ := Kd.R_slice HOG4.out; subst eo16; obtain ⟨Ao17, co17, eo17⟩ := Kd.R_slice HOE5.out; subst eo17; obtain ⟨hcz18_0, hcz18_1, hcz18_2, hfz18_0, hfz18_1, hfz18_2⟩ := bc3 BKA9))
  refine bodyPost_ret (results_cell_row rfl _ _ gbA9 24 #[.bool false, .slice Ao17 tC8.length co17, .slice Ao16 yE4.length co16] (0, 0) _ rfl (bp3 BKA9 _ _ _) Try.underlying24 rfl (by kernel_rfl)) rfl ?_
  exact ⟨_, _, er_, (crN HOE5 BKA9 fun _ hk => hk.1.2), (crN HOG4 BKA9 fun _ hk => hk.1.2), blw HB⟩

def impl_whole.f (k : Nat) (a0 : Int) : Option (Bool × List Int × List Int) := if a0 < 0 then ((impl_natOf.f k (wrap64 (-a0))).bind fun tD3 => ((impl_one.f).bind fun tD0 => (some (true, tD3, tD0)))) else ((impl_natOf.f k a0).bind fun tD4 => ((impl_one.f).bind fun tD1 => (some (false, tD4, tD1))))
set_option maxHeartbeats 8000000 in
set_option maxRecDepth 100000 in
theorem impl_whole.calls (k : Nat) (a0 : Int) (r1 : Bool) (r2 : List Int) (r3 : List Int) (w : World) (h : impl_whole.f k a0 = some (r1, r2, r3)) :
  Calls Try.prog 48 #[.int .i64 a0] w fun e w' => ∃ v1_ v2_ : Value, e = .returned (.agg #[.bool r1, v1_, v2_]) ∧ Kd.R (Kd.int .i64) 3 w' w.heap.size (fun k_ => nO k_ v2_) v1_ r2 ∧ Kd.R (Kd.int .i64) 3 w' w.heap.size (fun k_ => nO k_ v1_) v2_ r3 ∧ Below w.heap.size w w' := by
 have hu24 := Try.underlying24
 have HB := Aside0.mk (Below.refl w.heap.size w)
 have H : (if a0 < 0 then ((impl_natOf.f k (wrap64 (-a0))).bind fun tD3 => ((impl_one.f).bind fun tD0 => (some (true, tD3, tD0)))) else ((impl_natOf.f k a0).bind fun tD4 => ((impl_one.f).bind fun tD1 => (some (false, tD4, tD1))))) = some (r1, r2, r3) := h
 clear h
 by_cases c2 : a0 < 0
 ·
  rw [if_pos c2] at H
  have c2b0 : decide (a0 < 0) = true := decide_eq_true c2
  clear c2
  replace H := Option.bind_eq_some_iff.mp H
  obtain ⟨tD3, A30, H⟩ := H
  replace H : ((impl_one.f).bind fun tD0 => (some (true, tD3, tD0))) = some (r1, r2, r3) := H
  have A3 := Aside0.mk A30
  clear A30
  replace H := Option.bind_eq_some_iff.mp H
  obtain ⟨tD0, A40, H⟩ := H
  replace H : (some (true, tD3, tD0)) = some (r1, r2, r3) := H
  have A4 := Aside0.mk A40
  clear A40
  simp only [Option.some.injEq, Prod.mk.injEq] at H
  obtain ⟨rfl, rfl, rfl⟩ := H
  go_enter Try.func48, Try.ntmps48
  go_wp2_with (first | ((with_reducible refine gate_dst (N := 2) rfl ?_); refine bx_ (N := 2) (cs := #[.bool false, .slice none 0 0, .slice none 0 0]) (t := 24) ?_; intro gbB0 hg w5 hbox hb; have BKB0 := Aside0.mk (hbox); have GWB0 := geh hg HB; have GEB0 := geh hg HB; replace HB := bst HB hb; clear hb hbox hg) | ((with_reducible refine gate_callee (f := 93) rfl ?_); refine gL_ (some 7) Try.func93 #[.int .i64 (wrap64 (-a0))] ?_; (with_reducible refine (impl_natOf.calls k (wrap64 (-a0)) tD3 _ A3.out).mono ?_); rintro e w6 ⟨vI8, rfl, ho0, hb⟩; refine ⟨_, rfl, ?_⟩; have HOE6 := lwR ho0 HB; replace BKB0 := bkb BKB0 hb; replace HB := bst HB hb; (try clear hb); (try clear hb2); (try clear hk); (try clear hi); (try clear ho0)) | ((with_reducible refine gate_callee (f := 62) rfl ?_); refine gL_ (some 8) Try.func62 #[] ?_; (with_reducible refine (impl_one.calls  tD0 _ A4.out).mono ?_); rintro e w7 ⟨vI9, rfl, ho0, hb⟩; refine ⟨_, rfl, ?_⟩; have HOG5 := lwR (nwR ho0 HOE6) HB; replace HOE6 := eldR HOE6 (Kd.R_base ho0) hb; replace BKB0 := bkb BKB0 hb; replace HB := bst HB hb; (try clear hb); (try clear hb2); (try clear hk); (try clear hi); (try clear ho0); obtain ⟨Ao8, co8, eo8⟩ := Kd.R_slice HOG5.out; subst eo8; obtain ⟨Ao9, co9, eo9⟩ := Kd.R_slice HOE6.out; subst eo9; obtain ⟨hcz10_0, hcz10_1, hcz10_2, hfz10_0, hfz10_1, hfz10_2⟩ := bc3 BKB0))
  refine bodyPost_ret (results_cell_row rfl _ _ gbB0 24 #[.bool true, .slice Ao9 tD3.length co9, .slice Ao8 tD0.length co8] (0, 0) _ rfl (bp3 BKB0 _ _ _) Try.underlying24 rfl (by kernel_rfl)) rfl ?_
  exact ⟨_, _, er_, (crN HOE6 BKB0 fun _ hk => hk.1.2), (crN HOG5 BKB0 fun _ hk => hk.1.2), blw HB⟩
 ·
  rw [if_neg c2] at H
  have c2b0 : decide (a0 < 0) = false := decide_eq_false c2
  clear c2
  replace H := Option.bind_eq_some_iff.mp H
  obtain ⟨tD4, AE3, H⟩ := H
  replace H : ((impl_one.f).bind fun tD1 => (some (false, tD4, tD1))) = some (r1, r2, r3) := H
  have A11 := Aside0.mk AE3
  clear AE3
  replace H := Option.bind_eq_some_iff.mp H
  obtain ⟨tD1, AG6, H⟩ := H
  replace H : (some (false, tD4, tD1)) = some (r1, r2, r3) := H
  have A12 := Aside0.mk AG6
  clear AG6
  simp only [Option.some.injEq, Prod.mk.injEq] at H
  obtain ⟨rfl, rfl, rfl⟩ := H
  go_enter Try.func48, Try.ntmps48
  go_wp2_with (first | ((with_reducible refine gate_dst (N := 2) rfl ?_); refine bx_ (N := 2) (cs := #[.bool false, .slice none 0 0, .slice none 0 0]) (t := 24) ?_; intro gbB0 hg w13 hbox hb; have BKB0 := Aside0.mk (hbox); have GWB0 := geh hg HB; have GEB0 := geh hg HB; replace HB := bst HB hb; clear hb hbox hg) | ((with_reducible refine gate_callee (f := 93) rfl ?_); refine gL_ (some 11) Try.func93 #[.int .i64 a0] ?_; (with_reducible refine (impl_natOf.calls k a0 tD4 _ A11.out).mono ?_); rintro e w14 ⟨vJ0, rfl, ho0, hb⟩; refine ⟨_, rfl, ?_⟩; have HOE7 := lwR ho0 HB; replace BKB0 := bkb BKB0 hb; replace HB := bst HB hb; (try clear hb); (try clear hb2); (try clear hk); (try clear hi); (try clear ho0)) | ((with_reducible refine gate_callee (f := 62) rfl ?_); refine gL_ (some 12) Try.func62 #[] ?_; (with_reducible refine (impl_one.calls  tD1 _ A12.out).mono ?_); rintro e w15 ⟨vJ1, rfl, ho0, hb⟩; refine ⟨_, rfl, ?_⟩; have HOG7 := lwR (nwR ho0 HOE7) HB; replace HOE7 := eldR HOE7 (Kd.R_base ho0) hb; replace BKB0 := bkb BKB0 hb; replace HB := bst HB hb; (try clear hb); (try clear hb2); (try clear hk); (try clear hi); (try clear ho0); obtain ⟨Ao16, co16, eo16⟩ := Kd.R_slice HOG7.out; subst eo16; obtain ⟨Ao17, co17, eo17⟩ := Kd.R_slice HOE7.out; subst eo17; obtain ⟨hcz18_0, hcz18_1, hcz18_2, hfz18_0, hfz18_1, hfz18_2⟩ := bc3 BKB0))
  refine bodyPost_ret (results_cell_row rfl _ _ gbB0 24 #[.bool false, .slice Ao17 tD4.length co17, .slice Ao16 tD1.length co16] (0, 0) _ rfl (bp3 BKB0 _ _ _) Try.underlying24 rfl (by kernel_rfl)) rfl ?_
  exact ⟨_, _, er_, (crN HOE7 BKB0 fun _ hk => hk.1.2), (crN HOG7 BKB0 fun _ hk => hk.1.2), blw HB⟩

end Go.Proofs.Ytacdaijalkkogaa.Q
