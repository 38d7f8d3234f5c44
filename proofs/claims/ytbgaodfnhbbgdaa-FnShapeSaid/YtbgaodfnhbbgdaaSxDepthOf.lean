-- written by a program of this claim's session (myprint.py) out of the translation; Lean checks it.
import Derived.Test.YtbgaodfnhbbgdaaSx0
import Derived.Test.YtbgaodfnhbbgdaaSq
import Derived.Test.YtbgaodfnhbbgdaaSxshape
import Derived.Test.YtbgaodfnhbbgdaaSxexprCode
namespace Go.Proofs.Ytbgaodfnhbbgdaa.S
open Go.RowKit Go.Proofs.YtbgaodfnhbbgdaaW.PrintWords Go.Proofs.YtbgaodfnhbbgdaaW.PrintLast Go.Proofs.YtbgaodfnhbbgdaaW.PrintMore
attribute [local go_sem] max2_int min2_int max_two min_two max_three min_three max_four min_four   -- for this text's walks alone
set_option linter.unusedVariables false
set_option linter.unusedSimpArgs false

/-! ### impl_DepthOf: function 21 -/
def impl_DepthOf.f (k : Nat) (l0_0 : List (S46)) : Option (Int × Int) := (impl_exprCode.f k l0_0).bind fun t259 => (if t259 = 0 then ((impl_shape.f k l0_0).bind fun bt260 => (if 0 ≤ (wrap64 ((bt260.2.1.length : Int) - 1)) then (if (wrap64 ((bt260.2.1.length : Int) - 1)) < (bt260.2.1.length : Int) then (some (rd bt260.2.1 (wrap64 ((bt260.2.1.length : Int) - 1)), 0)) else (none)) else (none))) else (some (0, t259)))
theorem impl_DepthOf.mono : ∀ a0 k, LeO (impl_DepthOf.f k a0) (impl_DepthOf.f (k + 1) a0) := by
  intro a0 k
  unfold impl_DepthOf.f
  repeat' first
      | (with_reducible exact impl_exprCode.mono _ _)
      | (with_reducible exact impl_shape.mono _ _)
      | (with_reducible exact LeO.refl _)
      | (with_reducible exact LeO.none _)
      | (with_reducible refine LeO.ite ?_ ?_)
      | (with_reducible refine LeO.bind ?_ (fun _ => ?_))
      | exact impl_exprCode.mono _ _
      | exact impl_shape.mono _ _
      | exact LeO.none _
      | refine LeO.ite ?_ ?_
      | refine LeO.bind ?_ (fun _ => ?_)
set_option maxHeartbeats 8000000 in
set_option maxRecDepth 100000 in
theorem impl_DepthOf.calls (k : Nat) (A0_0 : Option Addr) (c0_0 : Nat) (l0_0 : List (S46)) (r1 : Int) (r2 : Int) (w : World) (hr0_0 : Kd.C k46 w A0_0 l0_0.length l0_0) (hc0_0 : l0_0.length ≤ c0_0) (h : impl_DepthOf.f k l0_0 = some (r1, r2)) :
    Calls Try.prog 21 #[.agg #[.slice A0_0 l0_0.length c0_0]] w fun e w' => e = .returned (.tuple #[.int .i64 r1, .int .i64 r2]) ∧ Below w.heap.size w w' := by
  have hu41 := Try.underlying41
  have HR0_0 := Aside0.mk hr0_0
  have HC0_0 := Aside0.mk hc0_0
  clear hr0_0 hc0_0
  have HB := Aside0.mk (Below.refl w.heap.size w)
  have H : ((impl_exprCode.f k l0_0).bind fun t259 => (if t259 = 0 then ((impl_shape.f k l0_0).bind fun bt260 => (if 0 ≤ (wrap64 ((bt260.2.1.length : Int) - 1)) then (if (wrap64 ((bt260.2.1.length : Int) - 1)) < (bt260.2.1.length : Int) then (some (rd bt260.2.1 (wrap64 ((bt260.2.1.length : Int) - 1)), 0)) else (none)) else (none))) else (some (0, t259)))) = some (r1, r2) := h
  clear h
  replace H := Option.bind_eq_some_iff.mp H
  obtain ⟨t259, A20, H⟩ := H
  replace H : (if t259 = 0 then ((impl_shape.f k l0_0).bind fun bt260 => (if 0 ≤ (wrap64 ((bt260.2.1.length : Int) - 1)) then (if (wrap64 ((bt260.2.1.length : Int) - 1)) < (bt260.2.1.length : Int) then (some (rd bt260.2.1 (wrap64 ((bt260.2.1.length : Int) - 1)), 0)) else (none)) else (none))) else (some (0, t259))) = some (r1, r2) := H
  have A2 := Aside0.mk A20
  clear A20
  by_cases c3 : t259 = 0
  · rw [if_pos c3] at H
    have c3b0 : (t259 == 0) = true := beq_iff_eq.mpr c3
    have c3b1 : (t259 != 0) = false := bne_eq_false_iff_eq.mpr c3
    clear c3
    replace H := Option.bind_eq_some_iff.mp H
    obtain ⟨⟨t260, t261, t262⟩, A40, H⟩ := H
    replace H : (if 0 ≤ (wrap64 ((t261.length : Int) - 1)) then (if (wrap64 ((t261.length : Int) - 1)) < (t261.length : Int) then (some (rd t261 (wrap64 ((t261.length : Int) - 1)), 0)) else (none)) else (none)) = some (r1, r2) := H
    have A4 := Aside0.mk A40
    clear A40
    obtain ⟨ji5, hji5⟩ : ∃ j_ : Int, (wrap64 ((t261.length : Int) - 1)) = j_ := ⟨_, rfl⟩
    replace H : (if 0 ≤ (ji5) then (if (ji5) < (t261.length : Int) then (some (rd t261 (ji5), 0)) else (none)) else (none)) = some (r1, r2) := by first | (rw [hji5] at H; exact H) | (simp only [hji5] at H ⊢; exact H)
    (try rw [hji5] at A2)
    (try rw [hji5] at A4)
    have hji5w : (IntKind.i64.wrap ((t261.length : Int) - 1)) = ji5 := (i64_w _).trans hji5
    by_cases c6 : 0 ≤ (ji5)
    · rw [if_pos c6] at H
      have c6b0 : decide (0 ≤ (ji5)) = true := decide_eq_true c6
      clear c6
      by_cases c7 : (ji5) < (t261.length : Int)
      · rw [if_pos c7] at H
        have c7b0 : decide ((ji5) < (t261.length : Int)) = true := decide_eq_true c7
        clear c7
        simp only [Option.some.injEq, Prod.mk.injEq] at H
        obtain ⟨rfl, rfl⟩ := H
        go_enter Try.func21, Try.ntmps21
        go_wp2_with (first | ((with_reducible refine gate_dst (N := 1) rfl ?_); refine box_event ?hg (N := 1) ?hd (cs := #[.slice A0_0 l0_0.length c0_0]) (t := 41) ?hr ?_; (case hd => rfl); (case hg => rfl); (case hr => first | (go_simp; done) | (go_simp; rfl)); intro gb258 hg w8 hbox hb; have BK258 := Aside0.mk (hbox); have GW258 := geh hg HB; have GE258 := geh hg HB; replace HB := bst HB hb; clear hb hbox hg; have hcz9_0 := bce BK258 0 (.slice A0_0 l0_0.length c0_0); have hfz9_0 := blk_frozen BK258.out 0) | ((with_reducible refine gate_callee (f := 45) rfl ?_); refine goesL_ (some 9) rfl rfl Try.func45 (by kernel_rfl) rfl #[.agg #[.slice A0_0 l0_0.length c0_0]] rfl (by (try simp only [List.map_toArray, List.map_cons, List.map_nil]); first | done | rfl | (simp only [List.length_drop, List.length_take]; rfl)) ?_; (with_reducible refine (impl_exprCode.calls k _ _ l0_0 t259 _ ?side1 ?side2 A2.out).mono ?_); (case side1 => exact crC (Kd.C_below HR0_0.out HB.out)); (case side2 => exact HC0_0.out); rintro e w10 ⟨rfl, hb⟩; refine ⟨_, rfl, ?_⟩; replace BK258 := bkb BK258 hb; replace HB := bst HB hb; (try clear hb); (try clear hb2); (try clear hk); (try clear hi); have hcz11_0 := bce BK258 0 (.slice A0_0 l0_0.length c0_0); have hfz11_0 := blk_frozen BK258.out 0) | ((with_reducible refine gate_callee (f := 46) rfl ?_); refine goesL_ (some 16) rfl rfl Try.func46 (by kernel_rfl) rfl #[.slice A0_0 l0_0.length c0_0] rfl (by (try simp only [List.map_toArray, List.map_cons, List.map_nil]); first | done | rfl | (simp only [List.length_drop, List.length_take]; rfl)) ?_; (with_reducible refine (impl_shape.calls k _ _ l0_0 t260 t261 t262 _ ?side1 ?side2 A4.out).mono ?_); (case side1 => exact crC (Kd.C_below HR0_0.out HB.out)); (case side2 => exact HC0_0.out); rintro e w12 ⟨v263, v265, rfl, ho0, ho1, hb⟩; refine ⟨_, rfl, ?_⟩; have HO264 := lwR ho0 HB; have HO266 := lwR ho1 HB; replace BK258 := bkb BK258 hb; replace HB := bst HB hb; (try clear hb); (try clear hb2); (try clear hk); (try clear hi); (try clear ho0); (try clear ho1); obtain ⟨Ao13, co13, eo13⟩ := Kd.R_slice HO266.out; subst eo13; have p267 : 0 ≤ ((ji5) : Int) := of_decide_eq_true (by first | (with_reducible assumption) | assumption); have q267 : (ji5) < (t261.length : Int) := of_decide_eq_true (by first | (with_reducible assumption) | assumption); obtain ⟨ad267, e267, hx267_0⟩ := Kd.at_int (Kd.R_reads' HO266.out).2.2 (ji5) p267 q267; cases e267; replace p267 := eq_true p267; replace q267 := eq_true q267))
        go_ret2
        exact ⟨by first | rfl | (simp [errW_none, errW_some] <;> rfl) | (simp only [← hji5]; first | rfl | (simp [errW_none, errW_some] <;> rfl)) | (simp [*, errW_none, errW_some] <;> rfl), blw HB⟩
      · rw [if_neg c7] at H
        exact absurd H (by simp)
    · rw [if_neg c6] at H
      exact absurd H (by simp)
  · rw [if_neg c3] at H
    have c3b0 : (t259 == 0) = false := beq_eq_false_iff_ne.mpr c3
    have c3b1 : (t259 != 0) = true := bne_iff_ne.mpr c3
    simp only [Option.some.injEq, Prod.mk.injEq] at H
    obtain ⟨rfl, rfl⟩ := H
    go_enter Try.func21, Try.ntmps21
    go_wp2_with (first | ((with_reducible refine gate_dst (N := 1) rfl ?_); refine box_event ?hg (N := 1) ?hd (cs := #[.slice A0_0 l0_0.length c0_0]) (t := 41) ?hr ?_; (case hd => rfl); (case hg => rfl); (case hr => first | (go_simp; done) | (go_simp; rfl)); intro gb258 hg w14 hbox hb; have BK258 := Aside0.mk (hbox); have GW258 := geh hg HB; have GE258 := geh hg HB; replace HB := bst HB hb; clear hb hbox hg; have hcz15_0 := bce BK258 0 (.slice A0_0 l0_0.length c0_0); have hfz15_0 := blk_frozen BK258.out 0) | ((with_reducible refine gate_callee (f := 45) rfl ?_); refine goesL_ (some 9) rfl rfl Try.func45 (by kernel_rfl) rfl #[.agg #[.slice A0_0 l0_0.length c0_0]] rfl (by (try simp only [List.map_toArray, List.map_cons, List.map_nil]); first | done | rfl | (simp only [List.length_drop, List.length_take]; rfl)) ?_; (with_reducible refine (impl_exprCode.calls k _ _ l0_0 t259 _ ?side1 ?side2 A2.out).mono ?_); (case side1 => exact crC (Kd.C_below HR0_0.out HB.out)); (case side2 => exact HC0_0.out); rintro e w16 ⟨rfl, hb⟩; refine ⟨_, rfl, ?_⟩; replace BK258 := bkb BK258 hb; replace HB := bst HB hb; (try clear hb); (try clear hb2); (try clear hk); (try clear hi)))
    go_ret2
    exact ⟨by first | rfl | (simp [errW_none, errW_some] <;> rfl) | (simp [*, errW_none, errW_some] <;> rfl), blw HB⟩

end Go.Proofs.Ytbgaodfnhbbgdaa.S
