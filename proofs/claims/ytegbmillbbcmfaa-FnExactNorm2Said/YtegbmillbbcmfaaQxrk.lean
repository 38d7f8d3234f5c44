-- written by a program of this claim's session (myprint.py) out of the translation; Lean checks it.
import Derived.Test.YtegbmillbbcmfaaQx0
import Derived.Test.YtegbmillbbcmfaaWords
import Derived.Test.YtegbmillbbcmfaaQxbase
import Derived.Test.YtegbmillbbcmfaaQxcmp
import Derived.Test.YtegbmillbbcmfaaQxgcd
namespace Go.Proofs.Ytegbmillbbcmfaa.Q
open Go.RowKit Go.Proofs.YtegbmillbbcmfaaW.PrintWords Go.Proofs.YtegbmillbbcmfaaW.PrintLast Go.Proofs.YtegbmillbbcmfaaW.PrintMore
attribute [local go_sem] max2_int min2_int max_two min_two max_three min_three max_four min_four   -- for this text's walks alone
set_option linter.unusedVariables false
set_option linter.unusedSimpArgs false

def spec_RatOK.j0 : Nat → Bool → Bool → List Int → List Int → Option (Bool)
 | 0, _, _, _, _ => none
 | k + 1, x28, x233000, x233001, x233002 => if x28 = true then (some false) else ((spec_l01Gcd.f k x233001 x233002).bind fun tA8 => ((spec_l01Cmp.f k tA8 (([1] : List Int))).bind fun tA3 => (some (tA3 == 0))))
def spec_RatOK.f (k : Nat) (a0_0 : Bool) (l0_1 : List Int) (l0_2 : List Int) : Option (Bool) := (spec_NatOK.f k l0_1).bind fun tB1 => (if tB1 = true then ((spec_NatOK.f k l0_2).bind fun tA4 => (if tA4 = true then (if (l0_2.length : Int) = 0 then (spec_RatOK.j0 k true a0_0 l0_1 l0_2) else (if (l0_1.length : Int) = 0 then (spec_RatOK.j0 k a0_0 a0_0 l0_1 l0_2) else (spec_RatOK.j0 k false a0_0 l0_1 l0_2))) else (spec_RatOK.j0 k true a0_0 l0_1 l0_2))) else (spec_RatOK.j0 k true a0_0 l0_1 l0_2))
set_option maxHeartbeats 8000000 in
set_option maxRecDepth 100000 in
theorem spec_RatOK.calls (k : Nat) (a0_0 : Bool) (A0_1 : Option Addr) (c0_1 : Nat) (l0_1 : List Int) (A0_2 : Option Addr) (c0_2 : Nat) (l0_2 : List Int) (r : Bool) (w : World) (hr0_1 : Kd.C (Kd.int .i64) w A0_1 l0_1.length l0_1) (hc0_1 : l0_1.length ≤ c0_1) (hr0_2 : Kd.C (Kd.int .i64) w A0_2 l0_2.length l0_2) (hc0_2 : l0_2.length ≤ c0_2) (h : spec_RatOK.f k a0_0 l0_1 l0_2 = some r) :
  Calls Try.prog 23 #[.agg #[.bool a0_0, .slice A0_1 l0_1.length c0_1, .slice A0_2 l0_2.length c0_2]] w fun e w' => e = .returned (.bool r) ∧ Below w.heap.size w w' := by
 have hu32 := Try.underlying32
 have HR0_1 := Aside0.mk hr0_1
 have HC0_1 := Aside0.mk hc0_1
 clear hr0_1 hc0_1
 have HR0_2 := Aside0.mk hr0_2
 have HC0_2 := Aside0.mk hc0_2
 clear hr0_2 hc0_2
 have HB := Aside0.mk (Below.refl w.heap.size w)
 have H : ((spec_NatOK.f k l0_1).bind fun tB1 => (if tB1 = true then ((spec_NatOK.f k l0_2).bind fun tA4 => (if tA4 = true then (if (l0_2.length : Int) = 0 then (spec_RatOK.j0 k true a0_0 l0_1 l0_2) else (if (l0_1.length : Int) = 0 then (spec_RatOK.j0 k a0_0 a0_0 l0_1 l0_2) else (spec_RatOK.j0 k false a0_0 l0_1 l0_2))) else (spec_RatOK.j0 k true a0_0 l0_1 l0_2))) else (spec_RatOK.j0 k true a0_0 l0_1 l0_2))) = some r := h
 clear h
 have HC2 := Aside0.mk H
 clear H
 go_enter Try.func23, Try.ntmps23
 go_upto_region 1 with (first | ((with_reducible refine gate_dst (N := 1) rfl ?_); (try (refine gate_guard (by rfl) ?_; dsimp only)); refine bx_ (N := 1) (cs := #[.bool a0_0, .slice A0_1 l0_1.length c0_1, .slice A0_2 l0_2.length c0_2]) (t := 32) ?_; intro gbA1 hg w3 hbox hb; have BKA1 := Aside0.mk (hbox); have GWA1 := geh hg HB; have GEA1 := geh hg HB; replace HB := bst HB hb; clear hb hbox hg))
 (try simp only [Act.put, List.setIfInBounds_toArray, List.set_cons_zero, List.set_cons_succ])
 go_cut [28] (fun v28 wc => ∃ (kq : Nat) (x28_1 : Bool), v28 = .bool x28_1 ∧ Aside0 (spec_RatOK.j0 kq x28_1 a0_0 l0_1 l0_2 = some r) ∧ Aside0 (kq ≤ k) ∧ Aside0 (wc.heap[gbA1]? = some (.cells #[.bool a0_0, (.slice A0_1 l0_1.length c0_1), (.slice A0_2 l0_2.length c0_2)] 32 (0, 0))) ∧ Aside0 (Below w.heap.size w wc))
 case first =>
  have H := HC2.out
  clear HC2
  replace H := Option.bind_eq_some_iff.mp H
  obtain ⟨tB1, A40, H⟩ := H
  replace H : (if tB1 = true then ((spec_NatOK.f k l0_2).bind fun tA4 => (if tA4 = true then (if (l0_2.length : Int) = 0 then (spec_RatOK.j0 k true a0_0 l0_1 l0_2) else (if (l0_1.length : Int) = 0 then (spec_RatOK.j0 k a0_0 a0_0 l0_1 l0_2) else (spec_RatOK.j0 k false a0_0 l0_1 l0_2))) else (spec_RatOK.j0 k true a0_0 l0_1 l0_2))) else (spec_RatOK.j0 k true a0_0 l0_1 l0_2)) = some r := H
  have A4 := Aside0.mk A40
  clear A40
  by_cases c5 : tB1 = true
  ·
   subst c5
   rw [if_pos rfl] at H
   replace H := Option.bind_eq_some_iff.mp H
   obtain ⟨tA4, A60, H⟩ := H
   replace H : (if tA4 = true then (if (l0_2.length : Int) = 0 then (spec_RatOK.j0 k true a0_0 l0_1 l0_2) else (if (l0_1.length : Int) = 0 then (spec_RatOK.j0 k a0_0 a0_0 l0_1 l0_2) else (spec_RatOK.j0 k false a0_0 l0_1 l0_2))) else (spec_RatOK.j0 k true a0_0 l0_1 l0_2)) = some r := H
   have A6 := Aside0.mk A60
   clear A60
   by_cases c7 : tA4 = true
   ·
    subst c7
    rw [if_pos rfl] at H
    by_cases c8 : (l0_2.length : Int) = 0
    ·
     rw [if_pos c8] at H
     have c8b0 : ((l0_2.length : Int) == 0) = true := beq_iff_eq.mpr c8
     have c8b1 : ((l0_2.length : Int) != 0) = false := bne_eq_false_iff_eq.mpr c8
     clear c8
     (first | rw [c8b0] | (simp only [i64_w, i32_w]; rw [c8b0]) | skip)
     have H' := Aside0.mk H
     clear H
     obtain ⟨hcz9_0, hcz9_1, hcz9_2, hfz9_0, hfz9_1, hfz9_2⟩ := bc3 BKA1
     go_wp2_with (first | ((with_reducible refine gate_callee (f := 39) rfl ?_); refine gL_ (some 5) Try.func39 #[.slice A0_1 l0_1.length c0_1] ?_; (with_reducible refine (spec_NatOK.calls k _ _ l0_1 true _ ?side1 ?side2 A4.out).mono ?_); (case side1 => exact crC (Kd.C_below HR0_1.out HB.out)); (case side2 => exact HC0_1.out); rintro e w' ⟨rfl, ⟨nd, rfl⟩⟩; refine ⟨_, rfl, ?_⟩) | (go_at_call 39; (with_reducible refine (spec_NatOK.calls k _ _ l0_2 true _ ?side1 ?side2 A6.out).mono ?_); (case side1 => exact crC (Kd.C_below HR0_2.out (blw HB))); (case side2 => exact HC0_2.out); rintro e w' ⟨rfl, ⟨nd, rfl⟩⟩))
     go_meet
     case rel => exact ⟨_, (true), rs_, H', ⟨by first | omega | exact Nat.le_refl _⟩, ⟨crb BKA1⟩, ⟨blw HB⟩⟩
    ·
     rw [if_neg c8] at H
     have c8b0 : ((l0_2.length : Int) == 0) = false := beq_eq_false_iff_ne.mpr c8
     have c8b1 : ((l0_2.length : Int) != 0) = true := bne_iff_ne.mpr c8
     have c8b2 : ¬ (l0_2 = []) := fun h_ => c8 (by rw [h_]; rfl)
     (first | rw [c8b0] | (simp only [i64_w, i32_w]; rw [c8b0]) | skip)
     by_cases c10 : (l0_1.length : Int) = 0
     ·
      rw [if_pos c10] at H
      have c10b0 : ((l0_1.length : Int) == 0) = true := beq_iff_eq.mpr c10
      have c10b1 : ((l0_1.length : Int) != 0) = false := bne_eq_false_iff_eq.mpr c10
      clear c10
      have H' := Aside0.mk H
      clear H
      obtain ⟨hcz11_0, hcz11_1, hcz11_2, hfz11_0, hfz11_1, hfz11_2⟩ := bc3 BKA1
      go_wp2_with (first | ((with_reducible refine gate_callee (f := 39) rfl ?_); refine gL_ (some 5) Try.func39 #[.slice A0_1 l0_1.length c0_1] ?_; (with_reducible refine (spec_NatOK.calls k _ _ l0_1 true _ ?side1 ?side2 A4.out).mono ?_); (case side1 => exact crC (Kd.C_below HR0_1.out HB.out)); (case side2 => exact HC0_1.out); rintro e w' ⟨rfl, ⟨nd, rfl⟩⟩; refine ⟨_, rfl, ?_⟩) | (go_at_call 39; (with_reducible refine (spec_NatOK.calls k _ _ l0_2 true _ ?side1 ?side2 A6.out).mono ?_); (case side1 => exact crC (Kd.C_below HR0_2.out (blw HB))); (case side2 => exact HC0_2.out); rintro e w' ⟨rfl, ⟨nd, rfl⟩⟩))
      go_meet
      case rel => exact ⟨_, (a0_0), rs_, H', ⟨by first | omega | exact Nat.le_refl _⟩, ⟨crb BKA1⟩, ⟨blw HB⟩⟩
     ·
      rw [if_neg c10] at H
      have c10b0 : ((l0_1.length : Int) == 0) = false := beq_eq_false_iff_ne.mpr c10
      have c10b1 : ((l0_1.length : Int) != 0) = true := bne_iff_ne.mpr c10
      have c10b2 : ¬ (l0_1 = []) := fun h_ => c10 (by rw [h_]; rfl)
      have H' := Aside0.mk H
      clear H
      obtain ⟨hcz12_0, hcz12_1, hcz12_2, hfz12_0, hfz12_1, hfz12_2⟩ := bc3 BKA1
      go_wp2_with (first | ((with_reducible refine gate_callee (f := 39) rfl ?_); refine gL_ (some 5) Try.func39 #[.slice A0_1 l0_1.length c0_1] ?_; (with_reducible refine (spec_NatOK.calls k _ _ l0_1 true _ ?side1 ?side2 A4.out).mono ?_); (case side1 => exact crC (Kd.C_below HR0_1.out HB.out)); (case side2 => exact HC0_1.out); rintro e w' ⟨rfl, ⟨nd, rfl⟩⟩; refine ⟨_, rfl, ?_⟩) | (go_at_call 39; (with_reducible refine (spec_NatOK.calls k _ _ l0_2 true _ ?side1 ?side2 A6.out).mono ?_); (case side1 => exact crC (Kd.C_below HR0_2.out (blw HB))); (case side2 => exact HC0_2.out); rintro e w' ⟨rfl, ⟨nd, rfl⟩⟩))
      go_meet
      case rel => exact ⟨_, (false), rs_, H', ⟨by first | omega | exact Nat.le_refl _⟩, ⟨crb BKA1⟩, ⟨blw HB⟩⟩
   ·
    replace c7 := Bool.eq_false_iff.mpr c7
    subst c7
    rw [if_neg (show ¬ (false = true) by decide)] at H
    have H' := Aside0.mk H
    clear H
    obtain ⟨hcz13_0, hcz13_1, hcz13_2, hfz13_0, hfz13_1, hfz13_2⟩ := bc3 BKA1
    go_wp2_with (first | ((with_reducible refine gate_callee (f := 39) rfl ?_); refine gL_ (some 5) Try.func39 #[.slice A0_1 l0_1.length c0_1] ?_; (with_reducible refine (spec_NatOK.calls k _ _ l0_1 true _ ?side1 ?side2 A4.out).mono ?_); (case side1 => exact crC (Kd.C_below HR0_1.out HB.out)); (case side2 => exact HC0_1.out); rintro e w' ⟨rfl, ⟨nd, rfl⟩⟩; refine ⟨_, rfl, ?_⟩) | (go_at_call 39; (with_reducible refine (spec_NatOK.calls k _ _ l0_2 false _ ?side1 ?side2 A6.out).mono ?_); (case side1 => exact crC (Kd.C_below HR0_2.out (blw HB))); (case side2 => exact HC0_2.out); rintro e w' ⟨rfl, ⟨nd, rfl⟩⟩))
    go_meet
    case rel => exact ⟨_, (true), rs_, H', ⟨by first | omega | exact Nat.le_refl _⟩, ⟨crb BKA1⟩, ⟨blw HB⟩⟩
  ·
   replace c5 := Bool.eq_false_iff.mpr c5
   subst c5
   rw [if_neg (show ¬ (false = true) by decide)] at H
   have H' := Aside0.mk H
   clear H
   obtain ⟨hcz14_0, hcz14_1, hcz14_2, hfz14_0, hfz14_1, hfz14_2⟩ := bc3 BKA1
   go_wp2_with (first | ((with_reducible refine gate_callee (f := 39) rfl ?_); refine gL_ (some 5) Try.func39 #[.slice A0_1 l0_1.length c0_1] ?_; (with_reducible refine (spec_NatOK.calls k _ _ l0_1 false _ ?side1 ?side2 A4.out).mono ?_); (case side1 => exact crC (Kd.C_below HR0_1.out HB.out)); (case side2 => exact HC0_1.out); rintro e w' ⟨rfl, ⟨nd, rfl⟩⟩; refine ⟨_, rfl, ?_⟩))
   go_meet
   case rel => exact ⟨_, (true), rs_, H', ⟨by first | omega | exact Nat.le_refl _⟩, ⟨crb BKA1⟩, ⟨blw HB⟩⟩
 case rest =>
  clear HC2
  try clear c1
  try clear c2
  try clear p2
  try clear c3
  try clear c5
  try clear c7
  try clear c8
  try clear c8b0
  try clear c8b1
  try clear c8b2
  try clear c10
  try clear c10b0
  try clear c10b1
  try clear c10b2
  try clear hcz11_0
  try clear hcz11_1
  try clear hcz11_2
  try clear hcz12_0
  try clear hcz12_1
  try clear hcz12_2
  try clear hcz13_0
  try clear hcz13_1
  try clear hcz13_2
  try clear hcz14_0
  try clear hcz14_1
  try clear hcz14_2
  try clear hcz9_0
  try clear hcz9_1
  try clear hcz9_2
  try clear hfz11_0
  try clear hfz11_1
  try clear hfz11_2
  try clear hfz12_0
  try clear hfz12_1
  try clear hfz12_2
  try clear hfz13_0
  try clear hfz13_1
  try clear hfz13_2
  try clear hfz14_0
  try clear hfz14_1
  try clear hfz14_2
  try clear hfz9_0
  try clear hfz9_1
  try clear hfz9_2
  obtain ⟨kq, x28_1, rfl, HA, HJ1, BKA1, HB⟩ := hcut
  cases kq with
  | zero => exact absurd HA.out (by simp [spec_RatOK.j0])
  | succ kj1 =>
   have H := HA.out
   clear HA
   simp only [spec_RatOK.j0] at H
   by_cases c15 : x28_1 = true
   ·
    subst c15
    rw [if_pos rfl] at H
    obtain rfl := Option.some.inj H
    go_wp2
    go_ret
    exact ⟨er_, blw HB⟩
   ·
    replace c15 := Bool.eq_false_iff.mpr c15
    subst c15
    rw [if_neg (show ¬ (false = true) by decide)] at H
    replace H := Option.bind_eq_some_iff.mp H
    obtain ⟨tA8, AC1, H⟩ := H
    replace H : ((spec_l01Cmp.f kj1 tA8 (([1] : List Int))).bind fun tA3 => (some (tA3 == 0))) = some r := H
    have A16 := Aside0.mk AC1
    clear AC1
    obtain ⟨yB2, hy238⟩ : ∃ y_ : List Int, y_ = (([1] : List Int)) := ⟨_, rfl⟩
    replace H : ((spec_l01Cmp.f kj1 tA8 yB2).bind fun tA3 => (some (tA3 == 0))) = some r := by subst hy238; first | with_reducible exact H | with_reducible exact (Option.bind_some _ _).symm.trans H | exact H
    have NyB2 := Aside0.mk hy238
    clear hy238
    replace H := Option.bind_eq_some_iff.mp H
    obtain ⟨tA3, AC2, H⟩ := H
    replace H : (some (tA3 == 0)) = some r := H
    have A17 := Aside0.mk AC2
    clear AC2
    obtain rfl := Option.some.inj H
    obtain ⟨hcz18_0, hcz18_1, hcz18_2, hfz18_0, hfz18_1, hfz18_2⟩ := bc3 BKA1
    go_wp2_with (first | ((with_reducible refine gate_callee (f := 41) rfl ?_); refine gL_ (some 33) Try.func41 #[.slice A0_1 l0_1.length c0_1, .slice A0_2 l0_2.length c0_2] ?_; (with_reducible refine (spec_l01Gcd.calls kj1 (fun k_ => k_ < w.heap.size) _ _ l0_1 (fun k_ => k_ < w.heap.size) _ _ l0_2 tA8 _ ?side1 ?side2 A16.out).mono ?_); (case side1 => exact Kd.V_mk HC0_1.out (Kd.F_below (Kd.C_F (Kd.heap_int .i64) HR0_1.out) (blw HB))); (case side2 => exact Kd.V_mk HC0_2.out (Kd.F_below (Kd.C_F (Kd.heap_int .i64) HR0_2.out) (blw HB))); rintro e w19 ⟨vC8, rfl, ho0, hb⟩; refine ⟨_, rfl, ?_⟩; have HOB3 := lwR (Kd.R_mono (ok' := fun k_ => True) ho0 (fun _ hk_ => trivial)) HB; replace BKA1 := bkb BKA1 hb; replace HB := bst HB hb; (try clear hb); (try clear hb2); (try clear hk); (try clear hi); (try clear ho0)) | ((with_reducible refine gate_dst (N := 34) rfl ?_); (try (refine gate_guard (by rfl) ?_; dsimp only)); refine Kd.R_lit (Kd.int .i64) _ 3 ?hg (N := 34) ?hd (xs := ([1] : List Int)) (inner := [.int .i64 1]) (ok := fun _ => True) (okp := fun _ => True) ?hr ?hp (fun _ hk => hk) trivial (Below.refl _ _) (Nat.le_refl _) (by simp) ?_; (case hd => rfl); (case hg => rfl); (case hr => first | (go_simp; done) | (go_simp; rfl)); (case hp => exact (Reps.one (show Kd.M (Kd.int .i64) _ _ _ 1 [.int .i64 1] from rfl) (Reps.none _ _))); intro vC9 w20 ho21 hb hg_ hnew_; clear hg_ hnew_; (first | rw [← NyB2.out] at ho21 | (simp only [Int.reduceToNat] at ho21; rw [← NyB2.out] at ho21)); have HOC0 := lwR (nwR ho21 HOB3) HB; replace HOB3 := eldR HOB3 (Kd.R_base ho21) hb; replace BKA1 := bkb BKA1 hb; replace HB := bst HB hb; clear hb ho21; obtain ⟨Ao22, co22, eo22⟩ := Kd.R_slice HOB3.out; subst eo22; obtain ⟨Ao23, co23, eo23⟩ := Kd.R_slice HOC0.out; subst eo23) | ((with_reducible refine gate_callee (f := 40) rfl ?_); refine gL_ (some 35) Try.func40 #[.slice Ao22 tA8.length co22, .slice Ao23 yB2.length co23] ?_; (with_reducible refine (spec_l01Cmp.calls kj1 _ _ tA8 _ _ yB2 tA3 _ ?side1 ?side2 ?side3 ?side4 A17.out).mono ?_); (case side1 => exact crC (Kd.R_reads' HOB3.out).2.2); (case side2 => exact (Kd.R_reads' HOB3.out).2.1); (case side3 => exact crC (Kd.R_reads' HOC0.out).2.2); (case side4 => exact (Kd.R_reads' HOC0.out).2.1); rintro e w' ⟨rfl, ⟨nd, rfl⟩⟩; refine ⟨_, rfl, ?_⟩))
    go_ret
    exact ⟨er_, blw HB⟩

def impl_one.f  : Option (List Int) := some (([1] : List Int))
set_option maxHeartbeats 8000000 in
set_option maxRecDepth 100000 in
theorem impl_one.calls  (r : List Int) (w : World) (h : impl_one.f  = some r) :
  Calls Try.prog 68 #[] w fun e w' => ∃ v0_ : Value, e = .returned (v0_) ∧ Kd.R (Kd.int .i64) 3 w' w.heap.size (fun _ => True) v0_ r ∧ Below w.heap.size w w' := by
 have HB := Aside0.mk (Below.refl w.heap.size w)
 have H : (some (([1] : List Int))) = some r := h
 clear h
 obtain ⟨yB8, hy439⟩ : ∃ y_ : List Int, y_ = (([1] : List Int)) := ⟨_, rfl⟩
 replace H : (some yB8) = some r := by subst hy439; first | with_reducible exact H | with_reducible exact (Option.bind_some _ _).symm.trans H | exact H
 have NyB8 := Aside0.mk hy439
 clear hy439
 obtain rfl := Option.some.inj H
 go_enter Try.func68, Try.ntmps68
 go_wp2_with (first | ((with_reducible refine gate_dst (N := 1) rfl ?_); refine Kd.R_lit (Kd.int .i64) _ 3 ?hg (N := 1) ?hd (xs := ([1] : List Int)) (inner := [.int .i64 1]) (ok := fun _ => True) (okp := fun _ => True) ?hr ?hp (fun _ hk => hk) trivial (Below.refl _ _) (Nat.le_refl _) (by simp) ?_; (case hd => rfl); (case hg => rfl); (case hr => first | (go_simp; done) | (go_simp; rfl)); (case hp => exact (Reps.one (show Kd.M (Kd.int .i64) _ _ _ 1 [.int .i64 1] from rfl) (Reps.none _ _))); intro vD0 w1 ho2 hb hg_ hnew_; clear hg_ hnew_; (first | rw [← NyB8.out] at ho2 | (simp only [Int.reduceToNat] at ho2; rw [← NyB8.out] at ho2)); have HOC7 := lwR ho2 HB; replace HB := bst HB hb; clear hb ho2))
 go_ret
 exact ⟨_, er_, by (with_reducible repeat (first | apply Kd.R_alloc | apply Kd.R_drewN | apply Kd.R_drew)); exact HOC7.out, blw HB⟩

def impl_Rat_isZero.f (a0_0 : Bool) (l0_1 : List Int) (l0_2 : List Int) : Option (Bool) := some ((l0_1.length : Int) == 0)
set_option maxHeartbeats 8000000 in
set_option maxRecDepth 100000 in
theorem impl_Rat_isZero.calls (a0_0 : Bool) (A0_1 : Option Addr) (c0_1 : Nat) (l0_1 : List Int) (A0_2 : Option Addr) (c0_2 : Nat) (l0_2 : List Int) (r : Bool) (w : World) (hr0_1 : Kd.C (Kd.int .i64) w A0_1 l0_1.length l0_1) (hc0_1 : l0_1.length ≤ c0_1) (hr0_2 : Kd.C (Kd.int .i64) w A0_2 l0_2.length l0_2) (hc0_2 : l0_2.length ≤ c0_2) (h : impl_Rat_isZero.f a0_0 l0_1 l0_2 = some r) :
  Calls Try.prog 65 #[.agg #[.bool a0_0, .slice A0_1 l0_1.length c0_1, .slice A0_2 l0_2.length c0_2]] w fun e w' => e = .returned (.bool r) ∧ Below w.heap.size w w' := by
 have hu32 := Try.underlying32
 have HR0_1 := Aside0.mk hr0_1
 have HC0_1 := Aside0.mk hc0_1
 clear hr0_1 hc0_1
 have HR0_2 := Aside0.mk hr0_2
 have HC0_2 := Aside0.mk hc0_2
 clear hr0_2 hc0_2
 have HB := Aside0.mk (Below.refl w.heap.size w)
 have H : (some ((l0_1.length : Int) == 0)) = some r := h
 clear h
 obtain rfl := Option.some.inj H
 go_enter Try.func65, Try.ntmps65
 go_wp2_with (first | ((with_reducible refine gate_dst (N := 1) rfl ?_); refine bx_ (N := 1) (cs := #[.bool a0_0, .slice A0_1 l0_1.length c0_1, .slice A0_2 l0_2.length c0_2]) (t := 32) ?_; intro gbB9 hg w2 hbox hb; have BKB9 := Aside0.mk (hbox); have GWB9 := geh hg HB; have GEB9 := geh hg HB; replace HB := bst HB hb; clear hb hbox hg; obtain ⟨hcz3_0, hcz3_1, hcz3_2, hfz3_0, hfz3_1, hfz3_2⟩ := bc3 BKB9))
 go_ret
 exact ⟨er_, blw HB⟩

def impl_RatOK.j0 : Nat → Bool → Bool → List Int → List Int → Option (Bool)
 | 0, _, _, _, _ => none
 | k + 1, x26, x770000, x770001, x770002 => if x26 = true then (some false) else ((impl_natGcd.f k x770001 x770002).bind fun tA9 => ((impl_one.f).bind fun tA5 => ((impl_natCmp.f tA9 tA5).bind fun tA6 => (some (tA6 == 0)))))
def impl_RatOK.f (k : Nat) (a0_0 : Bool) (l0_1 : List Int) (l0_2 : List Int) : Option (Bool) := (impl_NatOK.f l0_1).bind fun tB4 => (if tB4 = true then ((impl_NatOK.f l0_2).bind fun tA7 => (if tA7 = true then (if (l0_2.length : Int) = 0 then (impl_RatOK.j0 k true a0_0 l0_1 l0_2) else (if a0_0 = true then ((impl_Rat_isZero.f a0_0 l0_1 l0_2).bind fun tA2 => (impl_RatOK.j0 k tA2 a0_0 l0_1 l0_2)) else (impl_RatOK.j0 k false a0_0 l0_1 l0_2))) else (impl_RatOK.j0 k true a0_0 l0_1 l0_2))) else (impl_RatOK.j0 k true a0_0 l0_1 l0_2))
set_option maxHeartbeats 8000000 in
set_option maxRecDepth 100000 in
theorem impl_RatOK.calls (k : Nat) (a0_0 : Bool) (A0_1 : Option Addr) (c0_1 : Nat) (l0_1 : List Int) (A0_2 : Option Addr) (c0_2 : Nat) (l0_2 : List Int) (r : Bool) (w : World) (hr0_1 : Kd.C (Kd.int .i64) w A0_1 l0_1.length l0_1) (hc0_1 : l0_1.length ≤ c0_1) (hr0_2 : Kd.C (Kd.int .i64) w A0_2 l0_2.length l0_2) (hc0_2 : l0_2.length ≤ c0_2) (h : impl_RatOK.f k a0_0 l0_1 l0_2 = some r) :
  Calls Try.prog 46 #[.agg #[.bool a0_0, .slice A0_1 l0_1.length c0_1, .slice A0_2 l0_2.length c0_2]] w fun e w' => e = .returned (.bool r) ∧ Below w.heap.size w w' := by
 have hu32 := Try.underlying32
 have HR0_1 := Aside0.mk hr0_1
 have HC0_1 := Aside0.mk hc0_1
 clear hr0_1 hc0_1
 have HR0_2 := Aside0.mk hr0_2
 have HC0_2 := Aside0.mk hc0_2
 clear hr0_2 hc0_2
 have HB := Aside0.mk (Below.refl w.heap.size w)
 have H : ((impl_NatOK.f l0_1).bind fun tB4 => (if tB4 = true then ((impl_NatOK.f l0_2).bind fun tA7 => (if tA7 = true then (if (l0_2.length : Int) = 0 then (impl_RatOK.j0 k true a0_0 l0_1 l0_2) else (if a0_0 = true then ((impl_Rat_isZero.f a0_0 l0_1 l0_2).bind fun tA2 => (impl_RatOK.j0 k tA2 a0_0 l0_1 l0_2)) else (impl_RatOK.j0 k false a0_0 l0_1 l0_2))) else (impl_RatOK.j0 k true a0_0 l0_1 l0_2))) else (impl_RatOK.j0 k true a0_0 l0_1 l0_2))) = some r := h
 clear h
 have HC2 := Aside0.mk H
 clear H
 go_enter Try.func46, Try.ntmps46
 go_upto_region 1 with (first | ((with_reducible refine gate_dst (N := 1) rfl ?_); (try (refine gate_guard (by rfl) ?_; dsimp only)); refine bx_ (N := 1) (cs := #[.bool a0_0, .slice A0_1 l0_1.length c0_1, .slice A0_2 l0_2.length c0_2]) (t := 32) ?_; intro gbA0 hg w3 hbox hb; have BKA0 := Aside0.mk (hbox); have GWA0 := geh hg HB; have GEA0 := geh hg HB; replace HB := bst HB hb; clear hb hbox hg))
 (try simp only [Act.put, List.setIfInBounds_toArray, List.set_cons_zero, List.set_cons_succ])
 go_cut [26] (fun v26 wc => ∃ (kq : Nat) (x26_1 : Bool), v26 = .bool x26_1 ∧ Aside0 (impl_RatOK.j0 kq x26_1 a0_0 l0_1 l0_2 = some r) ∧ Aside0 (kq ≤ k) ∧ Aside0 (wc.heap[gbA0]? = some (.cells #[.bool a0_0, (.slice A0_1 l0_1.length c0_1), (.slice A0_2 l0_2.length c0_2)] 32 (0, 0))) ∧ Aside0 (Below w.heap.size w wc))
 case first =>
  have H := HC2.out
  clear HC2
  replace H := Option.bind_eq_some_iff.mp H
  obtain ⟨tB4, A40, H⟩ := H
  replace H : (if tB4 = true then ((impl_NatOK.f l0_2).bind fun tA7 => (if tA7 = true then (if (l0_2.length : Int) = 0 then (impl_RatOK.j0 k true a0_0 l0_1 l0_2) else (if a0_0 = true then ((impl_Rat_isZero.f a0_0 l0_1 l0_2).bind fun tA2 => (impl_RatOK.j0 k tA2 a0_0 l0_1 l0_2)) else (impl_RatOK.j0 k false a0_0 l0_1 l0_2))) else (impl_RatOK.j0 k true a0_0 l0_1 l0_2))) else (impl_RatOK.j0 k true a0_0 l0_1 l0_2)) = some r := H
  have A4 := Aside0.mk A40
  clear A40
  by_cases c5 : tB4 = true
  ·
   subst c5
   rw [if_pos rfl] at H
   replace H := Option.bind_eq_some_iff.mp H
   obtain ⟨tA7, A60, H⟩ := H
   replace H : (if tA7 = true then (if (l0_2.length : Int) = 0 then (impl_RatOK.j0 k true a0_0 l0_1 l0_2) else (if a0_0 = true then ((impl_Rat_isZero.f a0_0 l0_1 l0_2).bind fun tA2 => (impl_RatOK.j0 k tA2 a0_0 l0_1 l0_2)) else (impl_RatOK.j0 k false a0_0 l0_1 l0_2))) else (impl_RatOK.j0 k true a0_0 l0_1 l0_2)) = some r := H
   have A6 := Aside0.mk A60
   clear A60
   by_cases c7 : tA7 = true
   ·
    subst c7
    rw [if_pos rfl] at H
    by_cases c8 : (l0_2.length : Int) = 0
    ·
     rw [if_pos c8] at H
     have c8b0 : ((l0_2.length : Int) == 0) = true := beq_iff_eq.mpr c8
     have c8b1 : ((l0_2.length : Int) != 0) = false := bne_eq_false_iff_eq.mpr c8
     clear c8
     (first | rw [c8b0] | (simp only [i64_w, i32_w]; rw [c8b0]) | skip)
     have H' := Aside0.mk H
     clear H
     obtain ⟨hcz9_0, hcz9_1, hcz9_2, hfz9_0, hfz9_1, hfz9_2⟩ := bc3 BKA0
     go_wp2_with (first | ((with_reducible refine gate_callee (f := 64) rfl ?_); refine gL_ (some 5) Try.func64 #[.slice A0_1 l0_1.length c0_1] ?_; (with_reducible refine (impl_NatOK.calls _ _ l0_1 true _ ?side1 ?side2 A4.out).mono ?_); (case side1 => exact crC (Kd.C_below HR0_1.out HB.out)); (case side2 => exact HC0_1.out); rintro e w' ⟨rfl, ⟨nd, rfl⟩⟩; refine ⟨_, rfl, ?_⟩) | (go_at_call 64; (with_reducible refine (impl_NatOK.calls _ _ l0_2 true _ ?side1 ?side2 A6.out).mono ?_); (case side1 => exact crC (Kd.C_below HR0_2.out (blw HB))); (case side2 => exact HC0_2.out); rintro e w' ⟨rfl, ⟨nd, rfl⟩⟩))
     go_meet
     case rel => exact ⟨_, (true), rs_, H', ⟨by first | omega | exact Nat.le_refl _⟩, ⟨crb BKA0⟩, ⟨blw HB⟩⟩
    ·
     rw [if_neg c8] at H
     have c8b0 : ((l0_2.length : Int) == 0) = false := beq_eq_false_iff_ne.mpr c8
     have c8b1 : ((l0_2.length : Int) != 0) = true := bne_iff_ne.mpr c8
     have c8b2 : ¬ (l0_2 = []) := fun h_ => c8 (by rw [h_]; rfl)
     (first | rw [c8b0] | (simp only [i64_w, i32_w]; rw [c8b0]) | skip)
     by_cases c10 : a0_0 = true
     ·
      subst c10
      rw [if_pos rfl] at H
      replace H := Option.bind_eq_some_iff.mp H
      obtain ⟨tA2, AC3, H⟩ := H
      replace H : (impl_RatOK.j0 k tA2 true l0_1 l0_2) = some r := H
      have A11 := Aside0.mk AC3
      clear AC3
      have H' := Aside0.mk H
      clear H
      obtain ⟨hcz12_0, hcz12_1, hcz12_2, hfz12_0, hfz12_1, hfz12_2⟩ := bc3 BKA0
      go_wp2_with (first | ((with_reducible refine gate_callee (f := 64) rfl ?_); refine gL_ (some 5) Try.func64 #[.slice A0_1 l0_1.length c0_1] ?_; (with_reducible refine (impl_NatOK.calls _ _ l0_1 true _ ?side1 ?side2 A4.out).mono ?_); (case side1 => exact crC (Kd.C_below HR0_1.out HB.out)); (case side2 => exact HC0_1.out); rintro e w' ⟨rfl, ⟨nd, rfl⟩⟩; refine ⟨_, rfl, ?_⟩) | (go_at_call 64; (with_reducible refine (impl_NatOK.calls _ _ l0_2 true _ ?side1 ?side2 A6.out).mono ?_); (case side1 => exact crC (Kd.C_below HR0_2.out (blw HB))); (case side2 => exact HC0_2.out); rintro e w' ⟨rfl, ⟨nd, rfl⟩⟩) | (go_at_call 65; (with_reducible refine (impl_Rat_isZero.calls true _ _ l0_1 _ _ l0_2 tA2 _ ?side1 ?side2 ?side3 ?side4 A11.out).mono ?_); (case side1 => exact crC (Kd.C_below HR0_1.out (blw HB))); (case side2 => exact HC0_1.out); (case side3 => exact crC (Kd.C_below HR0_2.out (blw HB))); (case side4 => exact HC0_2.out); rintro e w13 ⟨rfl, hb⟩; replace BKA0 := bkb BKA0 hb; replace HB := bst HB hb; (try clear hb); (try clear hb2); (try clear hk); (try clear hi)))
      go_meet
      case rel => exact ⟨_, (tA2), rs_, H', ⟨by first | omega | exact Nat.le_refl _⟩, ⟨crb BKA0⟩, ⟨blw HB⟩⟩
     ·
      replace c10 := Bool.eq_false_iff.mpr c10
      subst c10
      rw [if_neg (show ¬ (false = true) by decide)] at H
      have H' := Aside0.mk H
      clear H
      obtain ⟨hcz14_0, hcz14_1, hcz14_2, hfz14_0, hfz14_1, hfz14_2⟩ := bc3 BKA0
      go_wp2_with (first | ((with_reducible refine gate_callee (f := 64) rfl ?_); refine gL_ (some 5) Try.func64 #[.slice A0_1 l0_1.length c0_1] ?_; (with_reducible refine (impl_NatOK.calls _ _ l0_1 true _ ?side1 ?side2 A4.out).mono ?_); (case side1 => exact crC (Kd.C_below HR0_1.out HB.out)); (case side2 => exact HC0_1.out); rintro e w' ⟨rfl, ⟨nd, rfl⟩⟩; refine ⟨_, rfl, ?_⟩) | (go_at_call 64; (with_reducible refine (impl_NatOK.calls _ _ l0_2 true _ ?side1 ?side2 A6.out).mono ?_); (case side1 => exact crC (Kd.C_below HR0_2.out (blw HB))); (case side2 => exact HC0_2.out); rintro e w' ⟨rfl, ⟨nd, rfl⟩⟩))
      go_meet
      case rel => exact ⟨_, (false), rs_, H', ⟨by first | omega | exact Nat.le_refl _⟩, ⟨crb BKA0⟩, ⟨blw HB⟩⟩
   ·
    replace c7 := Bool.eq_false_iff.mpr c7
    subst c7
    rw [if_neg (show ¬ (false = true) by decide)] at H
    have H' := Aside0.mk H
    clear H
    obtain ⟨hcz15_0, hcz15_1, hcz15_2, hfz15_0, hfz15_1, hfz15_2⟩ := bc3 BKA0
    go_wp2_with (first | ((with_reducible refine gate_callee (f := 64) rfl ?_); refine gL_ (some 5) Try.func64 #[.slice A0_1 l0_1.length c0_1] ?_; (with_reducible refine (impl_NatOK.calls _ _ l0_1 true _ ?side1 ?side2 A4.out).mono ?_); (case side1 => exact crC (Kd.C_below HR0_1.out HB.out)); (case side2 => exact HC0_1.out); rintro e w' ⟨rfl, ⟨nd, rfl⟩⟩; refine ⟨_, rfl, ?_⟩) | (go_at_call 64; (with_reducible refine (impl_NatOK.calls _ _ l0_2 false _ ?side1 ?side2 A6.out).mono ?_); (case side1 => exact crC (Kd.C_below HR0_2.out (blw HB))); (case side2 => exact HC0_2.out); rintro e w' ⟨rfl, ⟨nd, rfl⟩⟩))
    go_meet
    case rel => exact ⟨_, (true), rs_, H', ⟨by first | omega | exact Nat.le_refl _⟩, ⟨crb BKA0⟩, ⟨blw HB⟩⟩
  ·
   replace c5 := Bool.eq_false_iff.mpr c5
   subst c5
   rw [if_neg (show ¬ (false = true) by decide)] at H
   have H' := Aside0.mk H
   clear H
   obtain ⟨hcz16_0, hcz16_1, hcz16_2, hfz16_0, hfz16_1, hfz16_2⟩ := bc3 BKA0
   go_wp2_with (first | ((with_reducible refine gate_callee (f := 64) rfl ?_); refine gL_ (some 5) Try.func64 #[.slice A0_1 l0_1.length c0_1] ?_; (with_reducible refine (impl_NatOK.calls _ _ l0_1 false _ ?side1 ?side2 A4.out).mono ?_); (case side1 => exact crC (Kd.C_below HR0_1.out HB.out)); (case side2 => exact HC0_1.out); rintro e w' ⟨rfl, ⟨nd, rfl⟩⟩; refine ⟨_, rfl, ?_⟩))
   go_meet
   case rel => exact ⟨_, (true), rs_, H', ⟨by first | omega | exact Nat.le_refl _⟩, ⟨crb BKA0⟩, ⟨blw HB⟩⟩
 case rest =>
  clear HC2
  try clear c1
  try clear p2
  try clear c4
  try clear c5
  try clear c6
  try clear c7
  try clear c8
  try clear c8b0
  try clear c8b1
  try clear c8b2
  try clear c10
  try clear hcz12_0
  try clear hcz12_1
  try clear hcz12_2
  try clear hcz14_0
  try clear hcz14_1
  try clear hcz14_2
  try clear hcz15_0
  try clear hcz15_1
  try clear hcz15_2
  try clear hcz16_0
  try clear hcz16_1
  try clear hcz16_2
  try clear hcz9_0
  try clear hcz9_1
  try clear hcz9_2
  try clear hfz12_0
  try clear hfz12_1
  try clear hfz12_2
  try clear hfz14_0
  try clear hfz14_1
  try clear hfz14_2
  try clear hfz15_0
  try clear hfz15_1
  try clear hfz15_2
  try clear hfz16_0
  try clear hfz16_1
  try clear hfz16_2
  try clear hfz9_0
  try clear hfz9_1
  try clear hfz9_2
  obtain ⟨kq, x26_1, rfl, HA, HJ1, BKA0, HB⟩ := hcut
  cases kq with
  | zero => exact absurd HA.out (by simp [impl_RatOK.j0])
  | succ kj1 =>
   have H := HA.out
   clear HA
   simp only [impl_RatOK.j0] at H
   by_cases c17 : x26_1 = true
   ·
    subst c17
    rw [if_pos rfl] at H
    obtain rfl := Option.some.inj H
    go_wp2
    go_ret
    exact ⟨er_, blw HB⟩
   ·
    replace c17 := Bool.eq_false_iff.mpr c17
    subst c17
    rw [if_neg (show ¬ (false = true) by decide)] at H
    replace H := Option.bind_eq_some_iff.mp H
    obtain ⟨tA9, AC4, H⟩ := H
    replace H : ((impl_one.f).bind fun tA5 => ((impl_natCmp.f tA9 tA5).bind fun tA6 => (some (tA6 == 0)))) = some r := H
    have A18 := Aside0.mk AC4
    clear AC4
    replace H := Option.bind_eq_some_iff.mp H
    obtain ⟨tA5, AC5, H⟩ := H
    replace H : ((impl_natCmp.f tA9 tA5).bind fun tA6 => (some (tA6 == 0))) = some r := H
    have A19 := Aside0.mk AC5
    clear AC5
    replace H := Option.bind_eq_some_iff.mp H
    obtain ⟨tA6, AC6, H⟩ := H
    replace H : (some (tA6 == 0)) = some r := H
    have A20 := Aside0.mk AC6
    clear AC6
    obtain rfl := Option.some.inj H
    obtain ⟨hcz21_0, hcz21_1, hcz21_2, hfz21_0, hfz21_1, hfz21_2⟩ := bc3 BKA0
    go_wp2_with (first | ((with_reducible refine gate_callee (f := 67) rfl ?_); refine gL_ (some 31) Try.func67 #[.slice A0_1 l0_1.length c0_1, .slice A0_2 l0_2.length c0_2] ?_; (with_reducible refine (impl_natGcd.calls kj1 (fun k_ => k_ < w.heap.size) _ _ l0_1 (fun k_ => k_ < w.heap.size) _ _ l0_2 tA9 _ ?side1 ?side2 A18.out).mono ?_); (case side1 => exact Kd.V_mk HC0_1.out (Kd.F_below (Kd.C_F (Kd.heap_int .i64) HR0_1.out) (blw HB))); (case side2 => exact Kd.V_mk HC0_2.out (Kd.F_below (Kd.C_F (Kd.heap_int .i64) HR0_2.out) (blw HB))); rintro e w22 ⟨vD1, rfl, ho0, hb⟩; refine ⟨_, rfl, ?_⟩; have HOB0 := Aside0.mk (Kd.V_lower (Kd.V_mono (ok' := fun k_ => k_ ≠ gbA0) ho0 (fun k_ hk_ => Or.elim hk_ (fun hs_ => Or.elim hs_ (fun hs_ => fun e_ => Nat.not_le.2 hs_ (by rw [e_]; exact GWA0.out)) (fun hs_ => fun e_ => Nat.not_le.2 hs_ (by rw [e_]; exact GWA0.out))) (fun hn_ => (Kd.freshB (g := gbA0) (o := .cells #[.bool a0_0, .slice A0_1 l0_1.length c0_1, .slice A0_2 l0_2.length c0_2] 32 (0, 0)) (crb BKA0) k_ hn_)))) (bsz HB)); replace BKA0 := bkb BKA0 hb; replace HB := bst HB hb; (try clear hb); (try clear hb2); (try clear hk); (try clear hi); (try clear ho0)) | ((with_reducible refine gate_callee (f := 68) rfl ?_); refine gL_ (some 32) Try.func68 #[] ?_; (with_reducible refine (impl_one.calls  tA5 _ A19.out).mono ?_); rintro e w23 ⟨vD2, rfl, ho0, hb⟩; refine ⟨_, rfl, ?_⟩; replace HOB0 := eldV HOB0 (Kd.R_base ho0) hb; have HOB7 := lwR ho0 HB; replace BKA0 := bkb BKA0 hb; replace HB := bst HB hb; (try clear hb); (try clear hb2); (try clear hk); (try clear hi); (try clear ho0); obtain ⟨Ao24, co24, eo24⟩ := Kd.V_slice HOB0.out; subst eo24; obtain ⟨Ao25, co25, eo25⟩ := Kd.R_slice HOB7.out; subst eo25) | ((with_reducible refine gate_callee (f := 66) rfl ?_); refine gL_ (some 33) Try.func66 #[.slice Ao24 tA9.length co24, .slice Ao25 tA5.length co25] ?_; (with_reducible refine (impl_natCmp.calls _ _ tA9 _ _ tA5 tA6 _ ?side1 ?side2 ?side3 ?side4 A20.out).mono ?_); (case side1 => exact crC (Kd.V_reads' HOB0.out).2.2); (case side2 => exact (Kd.V_reads' HOB0.out).2.1); (case side3 => exact crC (Kd.R_reads' HOB7.out).2.2); (case side4 => exact (Kd.R_reads' HOB7.out).2.1); rintro e w26 ⟨rfl, hb⟩; refine ⟨_, rfl, ?_⟩; replace HOB0 := rblV HOB0 hb; replace HOB7 := rblR HOB7 hb; replace BKA0 := bkb BKA0 hb; replace HB := bst HB hb; (try clear hb); (try clear hb2); (try clear hk); (try clear hi)))
    go_ret
    exact ⟨er_, blw HB⟩

def impl_ratsCode_1.f (k : Nat) (a0_0 : Bool) (l0_1 : List Int) (l0_2 : List Int) : Option (Bool) := (impl_RatOK.f k a0_0 l0_1 l0_2).bind fun tB5 => (some (!tB5))
set_option maxHeartbeats 8000000 in
set_option maxRecDepth 100000 in
theorem impl_ratsCode_1.calls (k : Nat) (a0_0 : Bool) (A0_1 : Option Addr) (c0_1 : Nat) (l0_1 : List Int) (A0_2 : Option Addr) (c0_2 : Nat) (l0_2 : List Int) (r : Bool) (w : World) (hr0_1 : Kd.C (Kd.int .i64) w A0_1 l0_1.length l0_1) (hc0_1 : l0_1.length ≤ c0_1) (hr0_2 : Kd.C (Kd.int .i64) w A0_2 l0_2.length l0_2) (hc0_2 : l0_2.length ≤ c0_2) (h : impl_ratsCode_1.f k a0_0 l0_1 l0_2 = some r) :
  Calls Try.prog 45 #[.agg #[.bool a0_0, .slice A0_1 l0_1.length c0_1, .slice A0_2 l0_2.length c0_2]] w fun e w' => e = .returned (.bool r) ∧ Below w.heap.size w w' := by
 have hu32 := Try.underlying32
 have HR0_1 := Aside0.mk hr0_1
 have HC0_1 := Aside0.mk hc0_1
 clear hr0_1 hc0_1
 have HR0_2 := Aside0.mk hr0_2
 have HC0_2 := Aside0.mk hc0_2
 clear hr0_2 hc0_2
 have HB := Aside0.mk (Below.refl w.heap.size w)
 have H : ((impl_RatOK.f k a0_0 l0_1 l0_2).bind fun tB5 => (some (!tB5))) = some r := h
 clear h
 replace H := Option.bind_eq_some_iff.mp H
 obtain ⟨tB5, A20, H⟩ := H
 replace H : (some (!tB5)) = some r := H
 have A2 := Aside0.mk A20
 clear A20
 obtain rfl := Option.some.inj H
 go_enter Try.func45, Try.ntmps45
 go_wp2_with (first | ((with_reducible refine gate_dst (N := 1) rfl ?_); refine bx_ (N := 1) (cs := #[.bool a0_0, .slice A0_1 l0_1.length c0_1, .slice A0_2 l0_2.length c0_2]) (t := 32) ?_; intro gbB6 hg w3 hbox hb; have BKB6 := Aside0.mk (hbox); have GWB6 := geh hg HB; have GEB6 := geh hg HB; replace HB := bst HB hb; clear hb hbox hg; obtain ⟨hcz4_0, hcz4_1, hcz4_2, hfz4_0, hfz4_1, hfz4_2⟩ := bc3 BKB6) | ((with_reducible refine gate_callee (f := 46) rfl ?_); refine gL_ (some 4) Try.func46 #[.agg #[.bool a0_0, .slice A0_1 l0_1.length c0_1, .slice A0_2 l0_2.length c0_2]] ?_; (with_reducible refine (impl_RatOK.calls k a0_0 _ _ l0_1 _ _ l0_2 tB5 _ ?side1 ?side2 ?side3 ?side4 A2.out).mono ?_); (case side1 => exact crC (Kd.C_below HR0_1.out HB.out)); (case side2 => exact HC0_1.out); (case side3 => exact crC (Kd.C_below HR0_2.out HB.out)); (case side4 => exact HC0_2.out); rintro e w5 ⟨rfl, hb⟩; refine ⟨_, rfl, ?_⟩; replace BKB6 := bkb BKB6 hb; replace HB := bst HB hb; (try clear hb); (try clear hb2); (try clear hk); (try clear hi)))
 go_ret
 exact ⟨er_, blw HB⟩

end Go.Proofs.Ytegbmillbbcmfaa.Q
