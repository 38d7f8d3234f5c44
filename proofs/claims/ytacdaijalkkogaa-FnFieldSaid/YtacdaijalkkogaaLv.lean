/-
Rationals that a walk holds in boxes, told as one list; what the rationals' functions answer, in these words.
-/
import Derived.Test.YtacdaijalkkogaaWords
namespace Go.Proofs.Ytacdaijalkkogaa.Q
open Go.RowKit Go.Proofs.YtacdaijalkkogaaW.PrintWords Go.Proofs.YtacdaijalkkogaaW.PrintLast Go.Proofs.YtacdaijalkkogaaW.PrintMore
set_option linter.unusedVariables false
set_option linter.unusedSimpArgs false

/-- A row of limbs that is read. -/
def RV (W : World) (v : Value) (l : List Int) : Prop := Kd.V (Kd.int .i64) 3 W 0 (fun _ => True) v l
theorem RV.below {W W1 : World} {v : Value} {l : List Int} (h : RV W v l) (hb : Below W.heap.size W W1) : RV W1 v l := Kd.V_below h hb
theorem RV.of {W : World} {base : Nat} {ok : Nat → Prop} {v : Value} {l : List Int} (h : Kd.R (Kd.int .i64) 3 W base ok v l) : RV W v l := Kd.R_V (Kd.R_mono h (fun _ _ => trivial))
theorem RV.slice {W : World} {v : Value} {l : List Int} (h : RV W v l) : ∃ A c, v = .slice A l.length c ∧ l.length ≤ c ∧ Kd.C (Kd.int .i64) W A l.length l := by
  obtain ⟨A, c, rfl, hc, hf⟩ := h
  exact ⟨A, c, rfl, hc, Kd.F_now hf⟩
theorem RV.far {W W1 : World} {v : Value} {l : List Int} {g : Nat} (h : RV W v l) (hg : g = W.heap.size) (hb : ∀ k, k < W.heap.size → W1.heap[k]? = W.heap[k]?) : RV W1 v l := by
  obtain ⟨A, c, rfl, hc, hf⟩ := h
  exact ⟨A, c, rfl, hc, Kd.F_step hf (fun k _ hk => hb k hk)⟩
/-- A rational in a box: the block, the cells, what they read as. -/
structure Ent where
  g : Nat
  n : Bool
  u1 : Value
  u2 : Value
  l1 : List Int
  l2 : List Int
/-- What a walk holds: nothing elder has turned, the boxes stand. -/
def St (w : World) (T : Nat) (W : World) (L : List Ent) : Prop := Below w.heap.size w W ∧ ∀ x ∈ L, W.heap[x.g]? = some (.cells #[.bool x.n, x.u1, x.u2] T (0, 0)) ∧ RV W x.u1 x.l1 ∧ RV W x.u2 x.l2
section
variable {w W W1 W2 : World} {T : Nat} {L : List Ent} {x : Ent}
theorem St.refl (w : World) (T : Nat) : Aside0 (St w T w []) := ⟨Below.refl _ _, fun _ h => by cases h⟩
theorem St.call (S : Aside0 (St w T W L)) (hb : Below W.heap.size W W1) : Aside0 (St w T W1 L) :=
  ⟨below_step S.out.1 hb, fun x hx => ⟨blk_below (S.out.2 x hx).1 hb, (S.out.2 x hx).2.1.below hb, (S.out.2 x hx).2.2.below hb⟩⟩
theorem St.rv (S : Aside0 (St w T W L)) (i : Nat) (hx : L[i]? = some x) : RV W x.u1 x.l1 ∧ RV W x.u2 x.l2 := (S.out.2 x (List.mem_of_getElem? hx)).2
theorem St.cl (S : Aside0 (St w T W L)) (i : Nat) (hx : L[i]? = some x) : W.cell? ⟨x.g, 0, none⟩ = some (.bool x.n) ∧ W.cell? ⟨x.g, 1, none⟩ = some x.u1 ∧ W.cell? ⟨x.g, 2, none⟩ = some x.u2 := by
  have h := (S.out.2 x (List.mem_of_getElem? hx)).1
  exact ⟨(blk_cell h 0).trans rfl, (blk_cell h 1).trans rfl, (blk_cell h 2).trans rfl⟩
/-- A new box, filled. -/
theorem St.new {g : Nat} {n : Bool} {u1 u2 c0 c1 c2 : Value} {l1 l2 : List Int} (S : Aside0 (St w T W L)) (h1 : RV W u1 l1) (h2 : RV W u2 l2) (hg : g = W.heap.size) (hbox : W1.heap[g]? = some (.cells #[c0, c1, c2] T (0, 0))) (hb : Below W.heap.size W W1)
    (e : W2 = ((W1.setCell ⟨g, 0, none⟩ (.bool n)).setCell ⟨g, 1, none⟩ u1).setCell ⟨g, 2, none⟩ u2) : Aside0 (St w T W2 (⟨g, n, u1, u2, l1, l2⟩ :: L)) := by
  have hle : w.heap.size ≤ W.heap.size := below_size S.out.1
  have hB : Below W.heap.size W W2 := by
    rw [e]
    exact below_set (below_set (below_set hb (by omega)) (by omega)) (by omega)
  have hW : W2.heap[g]? = some (.cells #[.bool n, u1, u2] T (0, 0)) := by
    rw [e]
    exact blk_put (cs := #[.bool n, u1, c2]) (blk_put (cs := #[.bool n, c1, c2]) (blk_put (cs := #[c0, c1, c2]) hbox 0 _ rfl) 1 _ rfl) 2 _ rfl
  refine ⟨below_step S.out.1 hB, fun x hx => ?_⟩
  rcases List.mem_cons.1 hx with rfl | hx
  · exact ⟨hW, h1.below hB, h2.below hB⟩
  · exact ((St.call S hB).out.2 x hx)
end
/-- What a function answers that returns a rational and a code; a rational alone. -/
def Ans2 (w : World) (r1 : Bool) (r2 r3 : List Int) (r4 : Int) (e : Ending) (w' : World) : Prop := ∃ v1 v2 : Value, e = .returned (.tuple #[.agg #[.bool r1, v1, v2], .int .i64 r4]) ∧ RV w' v1 r2 ∧ RV w' v2 r3 ∧ Below w.heap.size w w'
def Ans1 (w : World) (r1 : Bool) (r2 r3 : List Int) (e : Ending) (w' : World) : Prop := ∃ v1 v2 : Value, e = .returned (.agg #[.bool r1, v1, v2]) ∧ RV w' v1 r2 ∧ RV w' v2 r3 ∧ Below w.heap.size w w'
end Go.Proofs.Ytacdaijalkkogaa.Q
