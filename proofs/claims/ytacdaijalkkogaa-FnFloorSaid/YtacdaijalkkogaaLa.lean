-- several texts of this claim in one
import Derived.Test.YtacdaijalkkogaaWords
import Derived.Test.YtacdaijalkkogaaQd
import Derived.Test.YtacdaijalkkogaaQe
namespace Go.Proofs.Ytacdaijalkkogaa.Q
open Go.RowKit Go.Proofs.YtacdaijalkkogaaW.PrintWords Go.Proofs.YtacdaijalkkogaaW.PrintLast Go.Proofs.YtacdaijalkkogaaW.PrintMore
set_option linter.unusedVariables false
set_option linter.unusedSimpArgs false
/-- A row of limbs that is read. -/
def RV (W : World) (v : Value) (l : List Int) : Prop := Kd.V (Kd.int .i64) 3 W 0 (fun _ => True) v l
theorem RV.below {W W1 : World} {v : Value} {l : List Int} (h : RV W v l) (hb : Below W.heap.size W W1) : RV W1 v l := Kd.V_below h hb
theorem RV.of {W : World} {base : Nat} {ok : Nat → Prop} {v : Value} {l : List Int} (h : Kd.R (Kd.int .i64) 3 W base ok v l) : RV W v l := Kd.R_V (Kd.R_mono h (fun _ _ => trivial))
theorem RV.slice {W : World} {v : Value} {l : List Int} (h : RV W v l) : ∃ A c, v = .slice A l.length c ∧ l.length ≤ c ∧ Kd.C (Kd.int .i64) W A l.length l := by
  obtain ⟨A, c, rfl, hc, hf⟩ := h
  exact ⟨A, c, rfl, hc, Kd.F_now hf⟩
/-- A rational in a box: the block, the cells, what they read as. -/
structure Ent where
  g : Nat
  n : Bool
  u1 : Value
  u2 : Value
  l1 : List Int
  l2 : List Int
/-- What a walk holds: nothing elder has turned, the boxes stand. -/
def St (w : World) (T : Nat) (W : World) (L : List Ent) : Prop := Below w.heap.size w W ∧ ∀ x ∈ L, W.heap[x.g]? = some (.cells #[.bool x.n, x.u1, x.u2] T (0, 0)) ∧ RV W x.u1 x.l1 ∧ RV W x.u2 x.l2
section
variable {w W W1 W2 : World} {T : Nat} {L : List Ent} {x : Ent}
theorem St.refl (w : World) (T : Nat) : Aside0 (St w T w []) := ⟨Below.refl _ _, fun _ h => by cases h⟩
theorem St.call (S : Aside0 (St w T W L)) (hb : Below W.heap.size W W1) : Aside0 (St w T W1 L) :=
  ⟨below_step S.out.1 hb, fun x hx => ⟨blk_below (S.out.2 x hx).1 hb, (S.out.2 x hx).2.1.below hb, (S.out.2 x hx).2.2.below hb⟩⟩
theorem St.rv (S : Aside0 (St w T W L)) (i : Nat) (hx : L[i]? = some x) : RV W x.u1 x.l1 ∧ RV W x.u2 x.l2 := (S.out.2 x (List.mem_of_getElem? hx)).2
theorem St.cl (S : Aside0 (St w T W L)) (i : Nat) (hx : L[i]? = some x) : W.cell? ⟨x.g, 0, none⟩ = some (.bool x.n) ∧ W.cell? ⟨x.g, 1, none⟩ = some x.u1 ∧ W.cell? ⟨x.g, 2, none⟩ = some x.u2 := by
  have h := (S.out.2 x (List.mem_of_getElem? hx)).1
  exact ⟨(blk_cell h 0).trans rfl, (blk_cell h 1).trans rfl, (blk_cell h 2).trans rfl⟩
/-- A new box, filled. -/
theorem St.new {g : Nat} {n : Bool} {u1 u2 c0 c1 c2 : Value} {l1 l2 : List Int} (S : Aside0 (St w T W L)) (h1 : RV W u1 l1) (h2 : RV W u2 l2) (hg : g = W.heap.size) (hbox : W1.heap[g]? = some (.cells #[c0, c1, c2] T (0, 0))) (hb : Below W.heap.size W W1)
    (e : W2 = ((W1.setCell ⟨g, 0, none⟩ (.bool n)).setCell ⟨g, 1, none⟩ u1).setCell ⟨g, 2, none⟩ u2) : Aside0 (St w T W2 (⟨g, n, u1, u2, l1, l2⟩ :: L)) := by
  have hle : w.heap.size ≤ W.heap.size := below_size S.out.1
  have hB : Below W.heap.size W W2 := by
    rw [e]
    exact below_set (below_set (below_set hb (by omega)) (by omega)) (by omega)
  have hW : W2.heap[g]? = some (.cells #[.bool n, u1, u2] T (0, 0)) := by
    rw [e]
    exact blk_put (cs := #[.bool n, u1, c2]) (blk_put (cs := #[.bool n, c1, c2]) (blk_put (cs := #[c0, c1, c2]) hbox 0 _ rfl) 1 _ rfl) 2 _ rfl
  refine ⟨below_step S.out.1 hB, fun x hx => ?_⟩
  rcases List.mem_cons.1 hx with rfl | hx
  · exact ⟨hW, h1.below hB, h2.below hB⟩
  · exact ((St.call S hB).out.2 x hx)
end
/-- What a function answers that returns a rational and a code; a rational alone. -/
def Ans2 (w : World) (r1 : Bool) (r2 r3 : List Int) (r4 : Int) (e : Ending) (w' : World) : Prop := ∃ v1 v2 : Value, e = .returned (.tuple #[.agg #[.bool r1, v1, v2], .int .i64 r4]) ∧ RV w' v1 r2 ∧ RV w' v2 r3 ∧ Below w.heap.size w w'
def Ans1 (w : World) (r1 : Bool) (r2 r3 : List Int) (e : Ending) (w' : World) : Prop := ∃ v1 v2 : Value, e = .returned (.agg #[.bool r1, v1, v2]) ∧ RV w' v1 r2 ∧ RV w' v2 r3 ∧ Below w.heap.size w w'
theorem v_add (k : Nat) {n0 : Bool} {u0 x0 : Value} {a0 b0 : List Int} {n1 : Bool} {u1 x1 : Value} {a1 b1 : List Int} {r1 : Bool} {r2 r3 : List Int} {r4 : Int} {w : World} (h0 : RV w u0 a0) (g0 : RV w x0 b0) (h1 : RV w u1 a1) (g1 : RV w x1 b1) (h : impl_AddRat.f k n0 a0 b0 n1 a1 b1 = some (r1, r2, r3, r4)) : Calls Try.prog 37 #[.agg #[.bool n0, u0, x0], .agg #[.bool n1, u1, x1]] w (Ans2 w r1 r2 r3 r4) := by
  obtain ⟨A0, c0, rfl, m0, C0⟩ := h0.slice
  obtain ⟨B0, d0, rfl, p0, D0⟩ := g0.slice
  obtain ⟨A1, c1, rfl, m1, C1⟩ := h1.slice
  obtain ⟨B1, d1, rfl, p1, D1⟩ := g1.slice
  exact (impl_AddRat.calls k n0 A0 c0 a0 B0 d0 b0 n1 A1 c1 a1 B1 d1 b1 _ _ _ _ w C0 m0 D0 p0 C1 m1 D1 p1 h).mono fun e w' ⟨v1, v2, e1, o1, o2, hb⟩ => ⟨v1, v2, e1, .of o1, .of o2, hb⟩
theorem v_mul (k : Nat) {n0 : Bool} {u0 x0 : Value} {a0 b0 : List Int} {n1 : Bool} {u1 x1 : Value} {a1 b1 : List Int} {r1 : Bool} {r2 r3 : List Int} {r4 : Int} {w : World} (h0 : RV w u0 a0) (g0 : RV w x0 b0) (h1 : RV w u1 a1) (g1 : RV w x1 b1) (h : impl_MulRat.f k n0 a0 b0 n1 a1 b1 = some (r1, r2, r3, r4)) : Calls Try.prog 29 #[.agg #[.bool n0, u0, x0], .agg #[.bool n1, u1, x1]] w (Ans2 w r1 r2 r3 r4) := by
  obtain ⟨A0, c0, rfl, m0, C0⟩ := h0.slice
  obtain ⟨B0, d0, rfl, p0, D0⟩ := g0.slice
  obtain ⟨A1, c1, rfl, m1, C1⟩ := h1.slice
  obtain ⟨B1, d1, rfl, p1, D1⟩ := g1.slice
  exact (impl_MulRat.calls k n0 A0 c0 a0 B0 d0 b0 n1 A1 c1 a1 B1 d1 b1 _ _ _ _ w C0 m0 D0 p0 C1 m1 D1 p1 h).mono fun e w' ⟨v1, v2, e1, o1, o2, hb⟩ => ⟨v1, v2, e1, .of o1, .of o2, hb⟩
theorem v_same (k : Nat) {n0 : Bool} {u0 x0 : Value} {a0 b0 : List Int} {n1 : Bool} {u1 x1 : Value} {a1 b1 : List Int} {r : Bool} {w : World} (h0 : RV w u0 a0) (g0 : RV w x0 b0) (h1 : RV w u1 a1) (g1 : RV w x1 b1) (h : laws_sameRat.f k n0 a0 b0 n1 a1 b1 = some r) : Calls Try.prog 42 #[.agg #[.bool n0, u0, x0], .agg #[.bool n1, u1, x1]] w (fun e w' => e = .returned (.bool r) ∧ Below w.heap.size w w') := by
  obtain ⟨A0, c0, rfl, m0, C0⟩ := h0.slice
  obtain ⟨B0, d0, rfl, p0, D0⟩ := g0.slice
  obtain ⟨A1, c1, rfl, m1, C1⟩ := h1.slice
  obtain ⟨B1, d1, rfl, p1, D1⟩ := g1.slice
  exact laws_sameRat.calls k n0 A0 c0 a0 B0 d0 b0 n1 A1 c1 a1 B1 d1 b1 _ w C0 m0 D0 p0 C1 m1 D1 p1 h
theorem v_floor (k : Nat) {n0 : Bool} {u0 x0 : Value} {a0 b0 : List Int} {r1 : Bool} {r2 r3 : List Int} {r4 : Int} {w : World} (h0 : RV w u0 a0) (g0 : RV w x0 b0) (h : impl_FloorRat.f k n0 a0 b0 = some (r1, r2, r3, r4)) : Calls Try.prog 31 #[.agg #[.bool n0, u0, x0]] w (Ans2 w r1 r2 r3 r4) := by
  obtain ⟨A0, c0, rfl, m0, C0⟩ := h0.slice
  obtain ⟨B0, d0, rfl, p0, D0⟩ := g0.slice
  exact (impl_FloorRat.calls k n0 (fun _ => True) A0 c0 a0 (fun _ => True) B0 d0 b0 _ _ _ _ w h0 g0 h).mono fun e w' ⟨v1, v2, e1, o1, o2, hb⟩ => ⟨v1, v2, e1, .of o1, .of o2, hb⟩
theorem v_sfloor (k : Nat) {n0 : Bool} {u0 x0 : Value} {a0 b0 : List Int} {r1 : Bool} {r2 r3 : List Int} {r4 : Int} {w : World} (h0 : RV w u0 a0) (g0 : RV w x0 b0) (h : spec_FloorRat.f k n0 a0 b0 = some (r1, r2, r3, r4)) : Calls Try.prog 30 #[.agg #[.bool n0, u0, x0]] w (Ans2 w r1 r2 r3 r4) := by
  obtain ⟨A0, c0, rfl, m0, C0⟩ := h0.slice
  obtain ⟨B0, d0, rfl, p0, D0⟩ := g0.slice
  exact (spec_FloorRat.calls k n0 A0 c0 a0 B0 d0 b0 _ _ _ _ w C0 m0 D0 p0 h).mono fun e w' ⟨v1, v2, e1, o1, o2, hb⟩ => ⟨v1, v2, e1, .of o1, .of o2, hb⟩
theorem v_cmp (k : Nat) {n0 : Bool} {u0 x0 : Value} {a0 b0 : List Int} {n1 : Bool} {u1 x1 : Value} {a1 b1 : List Int} {r r4 : Int} {w : World} (h0 : RV w u0 a0) (g0 : RV w x0 b0) (h1 : RV w u1 a1) (g1 : RV w x1 b1) (h : impl_CmpRat.f k n0 a0 b0 n1 a1 b1 = some (r, r4)) : Calls Try.prog 27 #[.agg #[.bool n0, u0, x0], .agg #[.bool n1, u1, x1]] w (fun e w' => e = .returned (.tuple #[.int .i64 r, .int .i64 r4]) ∧ Below w.heap.size w w') := by
  obtain ⟨A0, c0, rfl, m0, C0⟩ := h0.slice
  obtain ⟨B0, d0, rfl, p0, D0⟩ := g0.slice
  obtain ⟨A1, c1, rfl, m1, C1⟩ := h1.slice
  obtain ⟨B1, d1, rfl, p1, D1⟩ := g1.slice
  exact impl_CmpRat.calls k n0 (fun _ => True) A0 c0 a0 (fun _ => True) B0 d0 b0 n1 (fun _ => True) A1 c1 a1 (fun _ => True) B1 d1 b1 _ _ w h0 g0 h1 g1 h
theorem v_pow (k : Nat) {n0 : Bool} {u0 x0 : Value} {a0 b0 : List Int} {i0 : Int} {r1 : Bool} {r2 r3 : List Int} {r4 : Int} {w : World} (h0 : RV w u0 a0) (g0 : RV w x0 b0) (h : impl_PowRat.f k n0 a0 b0 i0 = some (r1, r2, r3, r4)) : Calls Try.prog 35 #[.agg #[.bool n0, u0, x0], .int .i64 i0] w (Ans2 w r1 r2 r3 r4) := by
  obtain ⟨A0, c0, rfl, m0, C0⟩ := h0.slice
  obtain ⟨B0, d0, rfl, p0, D0⟩ := g0.slice
  exact (impl_PowRat.calls k n0 (fun _ => True) A0 c0 a0 (fun _ => True) B0 d0 b0 i0 _ _ _ _ w h0 g0 h).mono fun e w' ⟨v1, v2, e1, o1, o2, hb⟩ => ⟨v1, v2, e1, .of o1, .of o2, hb⟩
theorem v_wide (k : Nat) {A0 : Option Addr} {c0 : Nat} {l0 : List Int} {r1 : Bool} {r2 r3 : List Int} {w : World} (h0 : Kd.C (Kd.int .u8) w A0 l0.length l0) (hc : l0.length ≤ c0) (h : spec_WideRat.f k l0 = some (r1, r2, r3)) : Calls Try.prog 40 #[.slice A0 l0.length c0] w (Ans1 w r1 r2 r3) :=
  (spec_WideRat.calls k A0 c0 l0 _ _ _ w h0 hc h).mono fun e w' ⟨v1, v2, e1, o1, o2, hb⟩ => ⟨v1, v2, e1, .of o1, .of o2, hb⟩
theorem v_rat (k : Nat) {A0 : Option Addr} {c0 : Nat} {l0 : List Int} {r1 : Bool} {r2 r3 : List Int} {w : World} (h0 : Kd.C (Kd.int .u8) w A0 l0.length l0) (hc : l0.length ≤ c0) (h : spec_RatDrawn.f k l0 = some (r1, r2, r3)) : Calls Try.prog 41 #[.slice A0 l0.length c0] w (Ans1 w r1 r2 r3) :=
  (spec_RatDrawn.calls k A0 c0 l0 _ _ _ w h0 hc h).mono fun e w' ⟨v1, v2, e1, o1, o2, hb⟩ => ⟨v1, v2, e1, .of o1, .of o2, hb⟩
theorem v_make (k : Nat) {i0 i1 : Int} {r1 : Bool} {r2 r3 : List Int} {r4 : Int} {w : World} (h : impl_MakeRat.f k i0 i1 = some (r1, r2, r3, r4)) : Calls Try.prog 16 #[.int .i64 i0, .int .i64 i1] w (Ans2 w r1 r2 r3 r4) := by
  exact (impl_MakeRat.calls k i0 i1 _ _ _ _ w h).mono fun e w' ⟨v1, v2, e1, o1, o2, hb⟩ => ⟨v1, v2, e1, .of o1, .of o2, hb⟩
theorem v_at {A0 : Option Addr} {c0 : Nat} {l0 : List Int} {i j r : Int} {w : World} (h0 : Kd.C (Kd.int .u8) w A0 l0.length l0) (hc : l0.length ≤ c0) (h : laws_at.f l0 i j = some r) : Calls Try.prog 43 #[.slice A0 l0.length c0, .int .i64 i, .int .i64 j] w (fun e w' => e = .returned (.int .i64 r) ∧ Below w.heap.size w w') :=
  (laws_at.calls A0 c0 l0 i j r w h0 hc h).mono fun e w' ⟨e1, nd, e2⟩ => ⟨e1, by rw [e2]; exact pw_below_drewN (Below.refl _ _) _⟩
theorem v_ints (k : Nat) {v1 v2 : Value} {a b : List Int} {r : Bool} {w : World} (h1 : RV w v1 a) (h2 : RV w v2 b) (h : laws_sameInts.f k a b = some r) : Calls Try.prog 44 #[v1, v2] w (fun e w' => e = .returned (.bool r) ∧ Below w.heap.size w w') := by
  obtain ⟨A1, c1, rfl, m1, C1⟩ := h1.slice
  obtain ⟨A2, c2, rfl, m2, C2⟩ := h2.slice
  exact (laws_sameInts.calls k A1 c1 a A2 c2 b r w C1 m1 C2 m2 h).mono fun e w' ⟨e1, nd, e2⟩ => ⟨e1, by rw [e2]; exact pw_below_drewN (Below.refl _ _) _⟩
end Go.Proofs.Ytacdaijalkkogaa.Q
