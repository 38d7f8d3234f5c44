/-
The rationals' functions, in short words. Conditions: none.
-/
import Derived.Test.YtacdaijalkkogaaLv
import Derived.Test.YtacdaijalkkogaaQxAddRat
import Derived.Test.YtacdaijalkkogaaQxDivRat
import Derived.Test.YtacdaijalkkogaaQxMulRat
import Derived.Test.YtacdaijalkkogaaQxNegRat
import Derived.Test.YtacdaijalkkogaaQxRatDrawn
import Derived.Test.YtacdaijalkkogaaQxSubRat
import Derived.Test.YtacdaijalkkogaaQxWideRat
import Derived.Test.YtacdaijalkkogaaQxlawssameRat
import Derived.Test.YtacdaijalkkogaaQxrk
namespace Go.Proofs.Ytacdaijalkkogaa.Q
open Go.RowKit Go.Proofs.YtacdaijalkkogaaW.PrintWords Go.Proofs.YtacdaijalkkogaaW.PrintLast Go.Proofs.YtacdaijalkkogaaW.PrintMore
set_option linter.unusedVariables false
set_option linter.unusedSimpArgs false
theorem v_add (k : Nat) {n0 : Bool} {u0 x0 : Value} {a0 b0 : List Int} {n1 : Bool} {u1 x1 : Value} {a1 b1 : List Int} {r1 : Bool} {r2 r3 : List Int} {r4 : Int} {w : World} (h0 : RV w u0 a0) (g0 : RV w x0 b0) (h1 : RV w u1 a1) (g1 : RV w x1 b1) (h : impl_AddRat.f k n0 a0 b0 n1 a1 b1 = some (r1, r2, r3, r4)) : Calls Try.prog 37 #[.agg #[.bool n0, u0, x0], .agg #[.bool n1, u1, x1]] w (Ans2 w r1 r2 r3 r4) := by
  obtain ⟨A0, c0, rfl, m0, C0⟩ := h0.slice
  obtain ⟨B0, d0, rfl, p0, D0⟩ := g0.slice
  obtain ⟨A1, c1, rfl, m1, C1⟩ := h1.slice
  obtain ⟨B1, d1, rfl, p1, D1⟩ := g1.slice
  exact (impl_AddRat.calls k n0 A0 c0 a0 B0 d0 b0 n1 A1 c1 a1 B1 d1 b1 _ _ _ _ w C0 m0 D0 p0 C1 m1 D1 p1 h).mono fun e w' ⟨v1, v2, e1, o1, o2, hb⟩ => ⟨v1, v2, e1, .of o1, .of o2, hb⟩
theorem v_mul (k : Nat) {n0 : Bool} {u0 x0 : Value} {a0 b0 : List Int} {n1 : Bool} {u1 x1 : Value} {a1 b1 : List Int} {r1 : Bool} {r2 r3 : List Int} {r4 : Int} {w : World} (h0 : RV w u0 a0) (g0 : RV w x0 b0) (h1 : RV w u1 a1) (g1 : RV w x1 b1) (h : impl_MulRat.f k n0 a0 b0 n1 a1 b1 = some (r1, r2, r3, r4)) : Calls Try.prog 29 #[.agg #[.bool n0, u0, x0], .agg #[.bool n1, u1, x1]] w (Ans2 w r1 r2 r3 r4) := by
  obtain ⟨A0, c0, rfl, m0, C0⟩ := h0.slice
  obtain ⟨B0, d0, rfl, p0, D0⟩ := g0.slice
  obtain ⟨A1, c1, rfl, m1, C1⟩ := h1.slice
  obtain ⟨B1, d1, rfl, p1, D1⟩ := g1.slice
  exact (impl_MulRat.calls k n0 A0 c0 a0 B0 d0 b0 n1 A1 c1 a1 B1 d1 b1 _ _ _ _ w C0 m0 D0 p0 C1 m1 D1 p1 h).mono fun e w' ⟨v1, v2, e1, o1, o2, hb⟩ => ⟨v1, v2, e1, .of o1, .of o2, hb⟩
theorem v_sub (k : Nat) {n0 : Bool} {u0 x0 : Value} {a0 b0 : List Int} {n1 : Bool} {u1 x1 : Value} {a1 b1 : List Int} {r1 : Bool} {r2 r3 : List Int} {r4 : Int} {w : World} (h0 : RV w u0 a0) (g0 : RV w x0 b0) (h1 : RV w u1 a1) (g1 : RV w x1 b1) (h : impl_SubRat.f k n0 a0 b0 n1 a1 b1 = some (r1, r2, r3, r4)) : Calls Try.prog 39 #[.agg #[.bool n0, u0, x0], .agg #[.bool n1, u1, x1]] w (Ans2 w r1 r2 r3 r4) := by
  obtain ⟨A0, c0, rfl, m0, C0⟩ := h0.slice
  obtain ⟨B0, d0, rfl, p0, D0⟩ := g0.slice
  obtain ⟨A1, c1, rfl, m1, C1⟩ := h1.slice
  obtain ⟨B1, d1, rfl, p1, D1⟩ := g1.slice
  exact (impl_SubRat.calls k n0 A0 c0 a0 B0 d0 b0 n1 A1 c1 a1 B1 d1 b1 _ _ _ _ w C0 m0 D0 p0 C1 m1 D1 p1 h).mono fun e w' ⟨v1, v2, e1, o1, o2, hb⟩ => ⟨v1, v2, e1, .of o1, .of o2, hb⟩
theorem v_div (k : Nat) {n0 : Bool} {u0 x0 : Value} {a0 b0 : List Int} {n1 : Bool} {u1 x1 : Value} {a1 b1 : List Int} {r1 : Bool} {r2 r3 : List Int} {r4 : Int} {w : World} (h0 : RV w u0 a0) (g0 : RV w x0 b0) (h1 : RV w u1 a1) (g1 : RV w x1 b1) (h : impl_DivRat.f k n0 a0 b0 n1 a1 b1 = some (r1, r2, r3, r4)) : Calls Try.prog 33 #[.agg #[.bool n0, u0, x0], .agg #[.bool n1, u1, x1]] w (Ans2 w r1 r2 r3 r4) := by
  obtain ⟨A0, c0, rfl, m0, C0⟩ := h0.slice
  obtain ⟨B0, d0, rfl, p0, D0⟩ := g0.slice
  obtain ⟨A1, c1, rfl, m1, C1⟩ := h1.slice
  obtain ⟨B1, d1, rfl, p1, D1⟩ := g1.slice
  exact (impl_DivRat.calls k n0 (fun _ => True) A0 c0 a0 (fun _ => True) B0 d0 b0 n1 (fun _ => True) A1 c1 a1 (fun _ => True) B1 d1 b1 _ _ _ _ w h0 g0 h1 g1 h).mono fun e w' ⟨v1, v2, e1, o1, o2, hb⟩ => ⟨v1, v2, e1, .of o1, .of o2, hb⟩
theorem v_smul (k : Nat) {n0 : Bool} {u0 x0 : Value} {a0 b0 : List Int} {n1 : Bool} {u1 x1 : Value} {a1 b1 : List Int} {r1 : Bool} {r2 r3 : List Int} {r4 : Int} {w : World} (h0 : RV w u0 a0) (g0 : RV w x0 b0) (h1 : RV w u1 a1) (g1 : RV w x1 b1) (h : spec_MulRat.f k n0 a0 b0 n1 a1 b1 = some (r1, r2, r3, r4)) : Calls Try.prog 28 #[.agg #[.bool n0, u0, x0], .agg #[.bool n1, u1, x1]] w (Ans2 w r1 r2 r3 r4) := by
  obtain ⟨A0, c0, rfl, m0, C0⟩ := h0.slice
  obtain ⟨B0, d0, rfl, p0, D0⟩ := g0.slice
  obtain ⟨A1, c1, rfl, m1, C1⟩ := h1.slice
  obtain ⟨B1, d1, rfl, p1, D1⟩ := g1.slice
  exact (spec_MulRat.calls k n0 A0 c0 a0 B0 d0 b0 n1 A1 c1 a1 B1 d1 b1 _ _ _ _ w C0 m0 D0 p0 C1 m1 D1 p1 h).mono fun e w' ⟨v1, v2, e1, o1, o2, hb⟩ => ⟨v1, v2, e1, .of o1, .of o2, hb⟩
theorem v_neg (k : Nat) {n0 : Bool} {u0 x0 : Value} {a0 b0 : List Int} {r1 : Bool} {r2 r3 : List Int} {r4 : Int} {w : World} (h0 : RV w u0 a0) (g0 : RV w x0 b0) (h : impl_NegRat.f k n0 a0 b0 = some (r1, r2, r3, r4)) : Calls Try.prog 25 #[.agg #[.bool n0, u0, x0]] w (Ans2 w r1 r2 r3 r4) := by
  obtain ⟨A0, c0, rfl, m0, C0⟩ := h0.slice
  obtain ⟨B0, d0, rfl, p0, D0⟩ := g0.slice
  exact (impl_NegRat.calls k n0 (fun _ => True) A0 c0 a0 (fun _ => True) B0 d0 b0 _ _ _ _ w h0 g0 h).mono fun e w' ⟨v1, v2, e1, o1, o2, hb⟩ => ⟨v1, v2, e1, .of o1, .of o2, hb⟩
theorem v_ok (k : Nat) {n0 : Bool} {u0 x0 : Value} {a0 b0 : List Int} {r : Bool} {w : World} (h0 : RV w u0 a0) (g0 : RV w x0 b0) (h : impl_RatOK.f k n0 a0 b0 = some r) : Calls Try.prog 23 #[.agg #[.bool n0, u0, x0]] w (fun e w' => e = .returned (.bool r) ∧ Below w.heap.size w w') := by
  obtain ⟨A0, c0, rfl, m0, C0⟩ := h0.slice
  obtain ⟨B0, d0, rfl, p0, D0⟩ := g0.slice
  exact impl_RatOK.calls k n0 A0 c0 a0 B0 d0 b0 _ w C0 m0 D0 p0 h
theorem v_same (k : Nat) {n0 : Bool} {u0 x0 : Value} {a0 b0 : List Int} {n1 : Bool} {u1 x1 : Value} {a1 b1 : List Int} {r : Bool} {w : World} (h0 : RV w u0 a0) (g0 : RV w x0 b0) (h1 : RV w u1 a1) (g1 : RV w x1 b1) (h : laws_sameRat.f k n0 a0 b0 n1 a1 b1 = some r) : Calls Try.prog 42 #[.agg #[.bool n0, u0, x0], .agg #[.bool n1, u1, x1]] w (fun e w' => e = .returned (.bool r) ∧ Below w.heap.size w w') := by
  obtain ⟨A0, c0, rfl, m0, C0⟩ := h0.slice
  obtain ⟨B0, d0, rfl, p0, D0⟩ := g0.slice
  obtain ⟨A1, c1, rfl, m1, C1⟩ := h1.slice
  obtain ⟨B1, d1, rfl, p1, D1⟩ := g1.slice
  exact laws_sameRat.calls k n0 A0 c0 a0 B0 d0 b0 n1 A1 c1 a1 B1 d1 b1 _ w C0 m0 D0 p0 C1 m1 D1 p1 h
theorem v_wide (k : Nat) {A0 : Option Addr} {c0 : Nat} {l0 : List Int} {r1 : Bool} {r2 r3 : List Int} {w : World} (h0 : Kd.C (Kd.int .u8) w A0 l0.length l0) (hc : l0.length ≤ c0) (h : spec_WideRat.f k l0 = some (r1, r2, r3)) : Calls Try.prog 40 #[.slice A0 l0.length c0] w (Ans1 w r1 r2 r3) :=
  (spec_WideRat.calls k A0 c0 l0 _ _ _ w h0 hc h).mono fun e w' ⟨v1, v2, e1, o1, o2, hb⟩ => ⟨v1, v2, e1, .of o1, .of o2, hb⟩
theorem v_rat (k : Nat) {A0 : Option Addr} {c0 : Nat} {l0 : List Int} {r1 : Bool} {r2 r3 : List Int} {w : World} (h0 : Kd.C (Kd.int .u8) w A0 l0.length l0) (hc : l0.length ≤ c0) (h : spec_RatDrawn.f k l0 = some (r1, r2, r3)) : Calls Try.prog 41 #[.slice A0 l0.length c0] w (Ans1 w r1 r2 r3) :=
  (spec_RatDrawn.calls k A0 c0 l0 _ _ _ w h0 hc h).mono fun e w' ⟨v1, v2, e1, o1, o2, hb⟩ => ⟨v1, v2, e1, .of o1, .of o2, hb⟩
end Go.Proofs.Ytacdaijalkkogaa.Q
