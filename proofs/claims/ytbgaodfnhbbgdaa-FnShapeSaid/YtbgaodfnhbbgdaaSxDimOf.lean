-- written by a program of this claim's session (myprint.py) out of the translation; Lean checks it.
import Derived.Test.YtbgaodfnhbbgdaaSx0
import Derived.Test.YtbgaodfnhbbgdaaSq
import Derived.Test.YtbgaodfnhbbgdaaSxexprCode
import Derived.Test.YtbgaodfnhbbgdaaSxdimOf
namespace Go.Proofs.Ytbgaodfnhbbgdaa.S
open Go.RowKit Go.Proofs.YtbgaodfnhbbgdaaW.PrintWords Go.Proofs.YtbgaodfnhbbgdaaW.PrintLast Go.Proofs.YtbgaodfnhbbgdaaW.PrintMore
attribute [local go_sem] max2_int min2_int max_two min_two max_three min_three max_four min_four   -- for this text's walks alone
set_option linter.unusedVariables false
set_option linter.unusedSimpArgs false

/-! ### impl_DimOf: function 22 -/
def impl_DimOf.f (k : Nat) (l0_0 : List (S46)) : Option (Int × Int) := (impl_exprCode.f k l0_0).bind fun t271 => (if t271 = 0 then ((impl_dimOf.f k l0_0).bind fun t272 => (some (t272, 0))) else (some (0, t271)))
theorem impl_DimOf.mono : ∀ a0 k, LeO (impl_DimOf.f k a0) (impl_DimOf.f (k + 1) a0) := by
  intro a0 k
  unfold impl_DimOf.f
  repeat' first
      | (with_reducible exact impl_dimOf.mono _ _)
      | (with_reducible exact impl_exprCode.mono _ _)
      | (with_reducible exact LeO.refl _)
      | (with_reducible exact LeO.none _)
      | (with_reducible refine LeO.ite ?_ ?_)
      | (with_reducible refine LeO.bind ?_ (fun _ => ?_))
      | exact impl_dimOf.mono _ _
      | exact impl_exprCode.mono _ _
      | exact LeO.none _
      | refine LeO.ite ?_ ?_
      | refine LeO.bind ?_ (fun _ => ?_)
set_option maxHeartbeats 8000000 in
set_option maxRecDepth 100000 in
theorem impl_DimOf.calls (k : Nat) (A0_0 : Option Addr) (c0_0 : Nat) (l0_0 : List (S46)) (r1 : Int) (r2 : Int) (w : World) (hr0_0 : Kd.C k46 w A0_0 l0_0.length l0_0) (hc0_0 : l0_0.length ≤ c0_0) (h : impl_DimOf.f k l0_0 = some (r1, r2)) :
    Calls Try.prog 22 #[.agg #[.slice A0_0 l0_0.length c0_0]] w fun e w' => e = .returned (.tuple #[.int .i64 r1, .int .i64 r2]) ∧ Below w.heap.size w w' := by
  have hu41 := Try.underlying41
  have HR0_0 := Aside0.mk hr0_0
  have HC0_0 := Aside0.mk hc0_0
  clear hr0_0 hc0_0
  have HB := Aside0.mk (Below.refl w.heap.size w)
  have H : ((impl_exprCode.f k l0_0).bind fun t271 => (if t271 = 0 then ((impl_dimOf.f k l0_0).bind fun t272 => (some (t272, 0))) else (some (0, t271)))) = some (r1, r2) := h
  clear h
  replace H := Option.bind_eq_some_iff.mp H
  obtain ⟨t271, A20, H⟩ := H
  replace H : (if t271 = 0 then ((impl_dimOf.f k l0_0).bind fun t272 => (some (t272, 0))) else (some (0, t271))) = some (r1, r2) := H
  have A2 := Aside0.mk A20
  clear A20
  by_cases c3 : t271 = 0
  · rw [if_pos c3] at H
    have c3b0 : (t271 == 0) = true := beq_iff_eq.mpr c3
    have c3b1 : (t271 != 0) = false := bne_eq_false_iff_eq.mpr c3
    clear c3
    replace H := Option.bind_eq_some_iff.mp H
    obtain ⟨t272, A40, H⟩ := H
    replace H : (some (t272, 0)) = some (r1, r2) := H
    have A4 := Aside0.mk A40
    clear A40
    simp only [Option.some.injEq, Prod.mk.injEq] at H
    obtain ⟨rfl, rfl⟩ := H
    go_enter Try.func22, Try.ntmps22
    go_wp2_with (first | ((with_reducible refine gate_dst (N := 1) rfl ?_); refine box_event ?hg (N := 1) ?hd (cs := #[.slice A0_0 l0_0.length c0_0]) (t := 41) ?hr ?_; (case hd => rfl); (case hg => rfl); (case hr => first | (go_simp; done) | (go_simp; rfl)); intro gb270 hg w5 hbox hb; have BK270 := Aside0.mk (hbox); have GW270 := geh hg HB; have GE270 := geh hg HB; replace HB := bst HB hb; clear hb hbox hg; have hcz6_0 := bce BK270 0 (.slice A0_0 l0_0.length c0_0); have hfz6_0 := blk_frozen BK270.out 0) | ((with_reducible refine gate_callee (f := 45) rfl ?_); refine goesL_ (some 6) rfl rfl Try.func45 (by kernel_rfl) rfl #[.agg #[.slice A0_0 l0_0.length c0_0]] rfl (by (try simp only [List.map_toArray, List.map_cons, List.map_nil]); first | done | rfl | (simp only [List.length_drop, List.length_take]; rfl)) ?_; (with_reducible refine (impl_exprCode.calls k _ _ l0_0 t271 _ ?side1 ?side2 A2.out).mono ?_); (case side1 => exact crC (Kd.C_below HR0_0.out HB.out)); (case side2 => exact HC0_0.out); rintro e w7 ⟨rfl, hb⟩; refine ⟨_, rfl, ?_⟩; replace BK270 := bkb BK270 hb; replace HB := bst HB hb; (try clear hb); (try clear hb2); (try clear hk); (try clear hi); have hcz8_0 := bce BK270 0 (.slice A0_0 l0_0.length c0_0); have hfz8_0 := blk_frozen BK270.out 0) | ((with_reducible refine gate_callee (f := 47) rfl ?_); refine goesL_ (some 12) rfl rfl Try.func47 (by kernel_rfl) rfl #[.slice A0_0 l0_0.length c0_0] rfl (by (try simp only [List.map_toArray, List.map_cons, List.map_nil]); first | done | rfl | (simp only [List.length_drop, List.length_take]; rfl)) ?_; (with_reducible refine (impl_dimOf.calls k _ _ l0_0 t272 _ ?side1 ?side2 A4.out).mono ?_); (case side1 => exact crC (Kd.C_below HR0_0.out HB.out)); (case side2 => exact HC0_0.out); rintro e w9 ⟨rfl, hb⟩; refine ⟨_, rfl, ?_⟩; replace BK270 := bkb BK270 hb; replace HB := bst HB hb; (try clear hb); (try clear hb2); (try clear hk); (try clear hi)))
    go_ret2
    exact ⟨by first | rfl | (simp [errW_none, errW_some] <;> rfl) | (simp [*, errW_none, errW_some] <;> rfl), blw HB⟩
  · rw [if_neg c3] at H
    have c3b0 : (t271 == 0) = false := beq_eq_false_iff_ne.mpr c3
    have c3b1 : (t271 != 0) = true := bne_iff_ne.mpr c3
    simp only [Option.some.injEq, Prod.mk.injEq] at H
    obtain ⟨rfl, rfl⟩ := H
    go_enter Try.func22, Try.ntmps22
    go_wp2_with (first | ((with_reducible refine gate_dst (N := 1) rfl ?_); refine box_event ?hg (N := 1) ?hd (cs := #[.slice A0_0 l0_0.length c0_0]) (t := 41) ?hr ?_; (case hd => rfl); (case hg => rfl); (case hr => first | (go_simp; done) | (go_simp; rfl)); intro gb270 hg w10 hbox hb; have BK270 := Aside0.mk (hbox); have GW270 := geh hg HB; have GE270 := geh hg HB; replace HB := bst HB hb; clear hb hbox hg; have hcz11_0 := bce BK270 0 (.slice A0_0 l0_0.length c0_0); have hfz11_0 := blk_frozen BK270.out 0) | ((with_reducible refine gate_callee (f := 45) rfl ?_); refine goesL_ (some 6) rfl rfl Try.func45 (by kernel_rfl) rfl #[.agg #[.slice A0_0 l0_0.length c0_0]] rfl (by (try simp only [List.map_toArray, List.map_cons, List.map_nil]); first | done | rfl | (simp only [List.length_drop, List.length_take]; rfl)) ?_; (with_reducible refine (impl_exprCode.calls k _ _ l0_0 t271 _ ?side1 ?side2 A2.out).mono ?_); (case side1 => exact crC (Kd.C_below HR0_0.out HB.out)); (case side2 => exact HC0_0.out); rintro e w12 ⟨rfl, hb⟩; refine ⟨_, rfl, ?_⟩; replace BK270 := bkb BK270 hb; replace HB := bst HB hb; (try clear hb); (try clear hb2); (try clear hk); (try clear hi)))
    go_ret2
    exact ⟨by first | rfl | (simp [errW_none, errW_some] <;> rfl) | (simp [*, errW_none, errW_some] <;> rfl), blw HB⟩

end Go.Proofs.Ytbgaodfnhbbgdaa.S
