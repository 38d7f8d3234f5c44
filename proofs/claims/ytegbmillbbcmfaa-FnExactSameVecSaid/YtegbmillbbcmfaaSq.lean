/-
Short words for the printed walks: a fact is carried along the worlds of a walk. Plain theorems.
-/
import Derived.Test.YtegbmillbbcmfaaWWords
import Derived.Test.YtegbmillbbcmfaaWN
import Derived.Test.YtegbmillbbcmfaaWLast
import Derived.Test.YtegbmillbbcmfaaWTab
import Derived.Test.YtegbmillbbcmfaaWMore
namespace Go.Proofs.YtegbmillbbcmfaaW.PrintMore
open Go.RowKit Go.Proofs.YtegbmillbbcmfaaW.PrintWords Go.Proofs.YtegbmillbbcmfaaW.PrintLast
set_option linter.unusedVariables false
set_option linter.unusedSimpArgs false

/-- A block is not a row's own. -/
abbrev nO (k : Nat) (v : Value) : Prop := some k ≠ v.ownBlock
/-- From one world to another by steps that leave what is there. -/
class Sts (W W' : World) : Prop where b : Below W.heap.size W W'
instance Sts.re (W : World) : Sts W W := ⟨Below.refl _ _⟩
instance Sts.al (W W' : World) (o : Obj) [h : Sts W W'] : Sts W (W'.alloc o) := ⟨below_alloc h.b o⟩
instance Sts.dr (W W' : World) [h : Sts W W'] : Sts W W'.drew := ⟨below_drew1 h.b⟩
instance Sts.dn (W W' : World) (n : Nat) [h : Sts W W'] : Sts W (W'.drewN n) := ⟨pw_below_drewN h.b n⟩
section
variable {α β γ : Type} {d : Kd α} {d' : Kd β} {d'' : Kd γ} {e e' base b' g g1 g2 : Nat} {ok ok' : Nat → Prop} {v u u1 : Value} {xs : List α} {ys : List β} {w w1 W W0 : World} {o : Obj}
theorem crR (H : Aside0 (d.R e W0 base ok v xs)) [s : Sts W0 W] : d.R e W base ok v xs := Kd.R_below H.out s.b
theorem crV (H : Aside0 (Kd.V d e W0 base ok v xs)) [s : Sts W0 W] : Kd.V d e W base ok v xs := Kd.V_below H.out s.b
theorem crb (H : Aside0 (W0.heap[g]? = some o)) [s : Sts W0 W] : W.heap[g]? = some o := blk_below H.out s.b
theorem crC {A : Option Addr} {n : Nat} (H : d.C W0 A n xs) [s : Sts W0 W] : d.C W A n xs := Kd.C_below H s.b
theorem crF {t : Nat} {cells : Array Value} (H : Aside0 (d.R e W0 base ok v xs)) (B : Aside0 (W0.heap[g]? = some (.cells cells t (0, 0)))) (ht : ∀ q, q ∈ e :: d.E → q ≠ t := by decide)
    (f : d.R e W0 base (fun k => ok k ∧ k ≠ g) v xs → d.R e W base (fun k => ok k ∧ k ≠ g) v xs := by
      intro h_; repeat (first | with_reducible exact h_ | (with_reducible refine Kd.R_alloc ?_ _) | (with_reducible refine Kd.R_drewN ?_ _) | (with_reducible refine Kd.R_drew ?_) | (refine Kd.R_far ?_ (fun _ hk => hk.2) _))) :
    d.R e W base ok v xs := Kd.R_mono (f (Kd.R_types H.out B.out ht)) (fun _ h => h.1)
theorem blw (H : Aside0 (Below w.heap.size w W0))
    (f : Below w.heap.size w W0 → Below w.heap.size w W := by
      intro h_; repeat (first | with_reducible exact h_ | (with_reducible refine below_alloc ?_ _) | (with_reducible refine pw_below_drewN ?_ _) | (with_reducible refine below_drew1 ?_) | (refine below_set ?_ (Aside0.out (by assumption))))) :
    Below w.heap.size w W := f H.out
theorem bsz (H : Aside0 (Below w.heap.size w W0))
    (f : Below w.heap.size w W0 → Below w.heap.size w W := by
      intro h_; repeat (first | with_reducible exact h_ | (with_reducible refine below_alloc ?_ _) | (with_reducible refine pw_below_drewN ?_ _) | (with_reducible refine below_drew1 ?_) | (refine below_set ?_ (Aside0.out (by assumption))))) :
    w.heap.size ≤ W.heap.size := below_size (f H.out)
theorem bst (H : Aside0 (Below w.heap.size w W0)) (hb : Below W.heap.size W w1)
    (f : Below w.heap.size w W0 → Below w.heap.size w W := by
      intro h_; repeat (first | with_reducible exact h_ | (with_reducible refine below_alloc ?_ _) | (with_reducible refine pw_below_drewN ?_ _) | (with_reducible refine below_drew1 ?_) | (refine below_set ?_ (Aside0.out (by assumption))))) :
    Aside0 (Below w.heap.size w w1) := ⟨below_step (f H.out) hb⟩
theorem bkb (H : Aside0 (W0.heap[g]? = some o)) (hb : Below W.heap.size W w1) [s : Sts W0 W] : Aside0 (w1.heap[g]? = some o) := ⟨blk_below (crb H) hb⟩
theorem eldR (H : Aside0 (d.R e W0 base ok v xs)) (b : ∀ k, u.ownBlock = some k → W.heap.size ≤ k) (hb : Below W.heap.size W w1) [s : Sts W0 W] : Aside0 (d.R e w1 base (fun k => ok k ∧ some k ≠ u.ownBlock) v xs) := ⟨Kd.R_elder' (crR H) b hb⟩
theorem eldV (H : Aside0 (Kd.V d e W0 base ok v xs)) (b : ∀ k, u.ownBlock = some k → W.heap.size ≤ k) (hb : Below W.heap.size W w1) [s : Sts W0 W] : Aside0 (Kd.V d e w1 base (fun k => ok k ∧ some k ≠ u.ownBlock) v xs) := ⟨Kd.V_elder' (crV H) b hb⟩
theorem tldR (H : Aside0 (d.R e W0 base ok v xs)) (hb : Below W.heap.size W w1) (b : ∀ k, u.ownBlock = some k → W.heap.size ≤ k) (b1 : ∀ k, u1.ownBlock = some k → W.heap.size ≤ k) [s : Sts W0 W] : Aside0 (d.R e w1 base (fun k => (ok k ∧ some k ≠ u.ownBlock) ∧ some k ≠ u1.ownBlock) v xs) :=
  ⟨Kd.R_mono (Kd.R_told (Kd.R_told (Kd.R_old (crR H) hb) b) b1) (fun _ h => h.1)⟩
theorem tldV (H : Aside0 (Kd.V d e W0 base ok v xs)) (hb : Below W.heap.size W w1) (b : ∀ k, u.ownBlock = some k → W.heap.size ≤ k) (b1 : ∀ k, u1.ownBlock = some k → W.heap.size ≤ k) [s : Sts W0 W] : Aside0 (Kd.V d e w1 base (fun k => (ok k ∧ some k ≠ u.ownBlock) ∧ some k ≠ u1.ownBlock) v xs) :=
  ⟨Kd.V_mono (Kd.V_told (Kd.V_told (Kd.V_old (crV H) hb) b) b1) (fun _ h => h.1)⟩
theorem rblR (H : Aside0 (d.R e W0 base ok v xs)) (hb : Below W.heap.size W w1) [s : Sts W0 W] : Aside0 (d.R e w1 base ok v xs) := ⟨Kd.R_below (crR H) hb⟩
theorem rblV (H : Aside0 (Kd.V d e W0 base ok v xs)) (hb : Below W.heap.size W w1) [s : Sts W0 W] : Aside0 (Kd.V d e w1 base ok v xs) := ⟨Kd.V_below (crV H) hb⟩
theorem nwR (X : d.R e w1 W.heap.size ok v xs) (H : Aside0 (d'.R e' W0 b' ok' u ys)) [s : Sts W0 W] : d.R e w1 W.heap.size (fun k => ok k ∧ some k ≠ u.ownBlock) v xs := Kd.R_new' X (Kd.R_lt (crR H))
theorem lwR (X : d.R e w1 W.heap.size ok v xs) (H : Aside0 (Below w.heap.size w W0))
    (f : Below w.heap.size w W0 → Below w.heap.size w W := by
      intro h_; repeat (first | with_reducible exact h_ | (with_reducible refine below_alloc ?_ _) | (with_reducible refine pw_below_drewN ?_ _) | (with_reducible refine below_drew1 ?_) | (refine below_set ?_ (Aside0.out (by assumption))))) :
    Aside0 (d.R e w1 w.heap.size ok v xs) := ⟨Kd.R_lower X (below_size (f H.out))⟩
theorem nlt (hg : g2 = W.heap.size) (H : Aside0 (W0.heap[g1]? = some o)) [s : Sts W0 W] : Aside0 (g1 ≠ g2) := ⟨by rw [hg]; exact Nat.ne_of_lt (blk_lt (crb (W := W) H))⟩
theorem ngt (hg : g2 = W.heap.size) (H : Aside0 (W0.heap[g1]? = some o)) [s : Sts W0 W] : Aside0 (g2 ≠ g1) := ⟨by rw [hg]; exact Nat.ne_of_gt (blk_lt (crb (W := W) H))⟩
theorem geh (hg : g = W.heap.size) (H : Aside0 (Below w.heap.size w W0))
    (f : Below w.heap.size w W0 → Below w.heap.size w W := by
      intro h_; repeat (first | with_reducible exact h_ | (with_reducible refine below_alloc ?_ _) | (with_reducible refine pw_below_drewN ?_ _) | (with_reducible refine below_drew1 ?_) | (refine below_set ?_ (Aside0.out (by assumption))))) :
    Aside0 (w.heap.size ≤ g) := ⟨by rw [hg]; exact below_size (f H.out)⟩
theorem crM (H : Aside0 (d.R e W0 base ok v xs)) (f : ∀ k, ok k → ok' k) [s : Sts W0 W] : d.R e W base ok' v xs := Kd.R_mono (crR H) f
theorem eldF {t : Nat} {cells : Array Value} (H : Aside0 (d.R e W0 base ok v xs)) (B : Aside0 (W0.heap[g]? = some (.cells cells t (0, 0)))) (b : ∀ k, u.ownBlock = some k → W.heap.size ≤ k) (hb : Below W.heap.size W w1) (ht : ∀ q, q ∈ e :: d.E → q ≠ t := by decide)
    (f : d.R e W0 base (fun k => ok k ∧ k ≠ g) v xs → d.R e W base (fun k => ok k ∧ k ≠ g) v xs := by
      intro h_; repeat (first | with_reducible exact h_ | (with_reducible refine Kd.R_alloc ?_ _) | (with_reducible refine Kd.R_drewN ?_ _) | (with_reducible refine Kd.R_drew ?_) | (refine Kd.R_far ?_ (fun _ hk => hk.2) _))) :
    Aside0 (d.R e w1 base (fun k => ok k ∧ some k ≠ u.ownBlock) v xs) := ⟨Kd.R_elder' (crF H B ht f) b hb⟩
theorem nwF {t : Nat} {cells : Array Value} (X : d.R e w1 W.heap.size ok v xs) (H : Aside0 (d'.R e' W0 b' ok' u ys)) (B : Aside0 (W0.heap[g]? = some (.cells cells t (0, 0)))) (ht : ∀ q, q ∈ e' :: d'.E → q ≠ t := by decide)
    (f : d'.R e' W0 b' (fun k => ok' k ∧ k ≠ g) u ys → d'.R e' W b' (fun k => ok' k ∧ k ≠ g) u ys := by
      intro h_; repeat (first | with_reducible exact h_ | (with_reducible refine Kd.R_alloc ?_ _) | (with_reducible refine Kd.R_drewN ?_ _) | (with_reducible refine Kd.R_drew ?_) | (refine Kd.R_far ?_ (fun _ hk => hk.2) _))) :
    d.R e w1 W.heap.size (fun k => ok k ∧ some k ≠ u.ownBlock) v xs := Kd.R_new' X (Kd.R_lt (crF H B ht f))
theorem bkf (H : Aside0 (W0.heap[g]? = some o)) (hb : Below W.heap.size W w1)
    (f : W0.heap[g]? = some o → W.heap[g]? = some o := by
      intro h_; repeat (first | with_reducible exact h_ | (with_reducible refine blk_drewN ?_ _) | (with_reducible refine blk_drew ?_) | (with_reducible refine blk_alloc ?_ _) | (refine blk_far ?_ (Aside0.out (by assumption)) _))) :
    Aside0 (w1.heap[g]? = some o) := ⟨blk_below (f H.out) hb⟩
theorem bkp {t : Nat} {c0 c1 c2 : Value} (H : Aside0 (W0.heap[g]? = some (.cells #[c0, c1, c2] t (0, 0)))) (v0 v1 v2 : Value) (hb : Below W.heap.size W w1)
    (f : (((W0.setCell ⟨g, 0, none⟩ v0).setCell ⟨g, 1, none⟩ v1).setCell ⟨g, 2, none⟩ v2).heap[g]? = some (.cells #[v0, v1, v2] t (0, 0)) → W.heap[g]? = some (.cells #[v0, v1, v2] t (0, 0)) := by
      intro h_; repeat (first | with_reducible exact h_ | (with_reducible refine blk_drewN ?_ _) | (with_reducible refine blk_drew ?_) | (with_reducible refine blk_alloc ?_ _))) :
    Aside0 (w1.heap[g]? = some (.cells #[v0, v1, v2] t (0, 0))) :=
  ⟨blk_below (f (blk_put (cs := #[v0, v1, c2]) (blk_put (cs := #[v0, c1, c2]) (blk_put (cs := #[c0, c1, c2]) H.out 0 _ rfl) 1 _ rfl) 2 _ rfl)) hb⟩
theorem bce {t : Nat} {cs : Array Value} (H : Aside0 (W.heap[g]? = some (.cells cs t (0, 0)))) (i : Nat) (v : Value) (h : cs[i]? = some v := by rfl) : W.cell? ⟨g, i, none⟩ = some v := (blk_cell H.out i).trans h
theorem bc3 {t : Nat} {v0 v1 v2 : Value} (H : Aside0 (W.heap[g]? = some (.cells #[v0, v1, v2] t (0, 0)))) : W.cell? ⟨g, 0, none⟩ = some v0 ∧ W.cell? ⟨g, 1, none⟩ = some v1 ∧ W.cell? ⟨g, 2, none⟩ = some v2 ∧ W.frozen? ⟨g, 0, none⟩ = false ∧ W.frozen? ⟨g, 1, none⟩ = false ∧ W.frozen? ⟨g, 2, none⟩ = false :=
  ⟨bce H 0 _, bce H 1 _, bce H 2 _, blk_frozen H.out 0, blk_frozen H.out 1, blk_frozen H.out 2⟩
theorem crN {t : Nat} {cells : Array Value} (H : Aside0 (d.R e W0 base ok v xs)) (B : Aside0 (W0.heap[g]? = some (.cells cells t (0, 0)))) (m : ∀ k, (ok k ∧ k ≠ g) → ok' k) (ht : ∀ q, q ∈ e :: d.E → q ≠ t := by decide)
    (f : d.R e W0 base (fun k => ok k ∧ k ≠ g) v xs → d.R e W base (fun k => ok k ∧ k ≠ g) v xs := by
      intro h_; repeat (first | with_reducible exact h_ | (with_reducible refine Kd.R_alloc ?_ _) | (with_reducible refine Kd.R_drewN ?_ _) | (with_reducible refine Kd.R_drew ?_) | (refine Kd.R_far ?_ (fun _ hk => hk.2) _))) :
    d.R e W base ok' v xs := Kd.R_mono (f (Kd.R_types H.out B.out ht)) m
theorem bp3 {t : Nat} {c0 c1 c2 : Value} (H : Aside0 (W0.heap[g]? = some (.cells #[c0, c1, c2] t (0, 0)))) (v0 v1 v2 : Value)
    (f : (((W0.setCell ⟨g, 0, none⟩ v0).setCell ⟨g, 1, none⟩ v1).setCell ⟨g, 2, none⟩ v2).heap[g]? = some (.cells #[v0, v1, v2] t (0, 0)) → W.heap[g]? = some (.cells #[v0, v1, v2] t (0, 0)) := by
      intro h_; repeat (first | with_reducible exact h_ | (with_reducible refine blk_drewN ?_ _) | (with_reducible refine blk_drew ?_) | (with_reducible refine blk_alloc ?_ _))) :
    W.heap[g]? = some (.cells #[v0, v1, v2] t (0, 0)) :=
  f (blk_put (cs := #[v0, v1, c2]) (blk_put (cs := #[v0, c1, c2]) (blk_put (cs := #[c0, c1, c2]) H.out 0 _ rfl) 1 _ rfl) 2 _ rfl)
theorem er_ {p : Prop} (h : p := by first | rfl | (simp [errW_none, errW_some] <;> rfl) | (simp [*, errW_none, errW_some] <;> rfl)) : p := h
theorem rs_ {p : Prop} (h : p := by first | rfl | (simp; done) | (simp [*]; done)) : p := h
end
section
variable {P : Program} {ops : Array Oper} {Q : Exit → Act → World → Prop} {K : Act → World → Prop}
theorem gL_ {rest : List Oper} {oi : Oper} {a : Act} {w : World} (N : Option Tmp) {f : FuncId} {fn : Func} {as : Array Operand} {ts : Array TypeId} (hf : P.funcs[f]? = some fn) (args : Array Value)
    (h : Calls P f args w fun e w' => ∃ v, e = .returned v ∧ wpList P ops Q rest (a.put N v) w') (hd : oi.dst = N := by rfl) (hg : oi.guard = none := by rfl) (hname : (fn.name == "runtime.NumGoroutine") = false := by kernel_rfl) (hb : fn.body.isSome = true := by rfl)
    (hop : oi.op = .call { callee := .value (.func f), args := as, argTypes := ts } := by rfl)
    (hargs : as.map a.eval = args := by (try simp only [List.map_toArray, List.map_cons, List.map_nil]); first | done | rfl | (simp only [List.length_drop, List.length_take]; rfl)) :
    wpList P ops Q (oi :: rest) a w := goesL_ N hd hg hf hname hb args hop hargs h
theorem g_ {oi : Oper} {N : Option Tmp} {a : Act} {w : World} {f : FuncId} {fn : Func} {as : Array Operand} {ts : Array TypeId} (hf : P.funcs[f]? = some fn) (args : Array Value)
    (h : Calls P f args w fun e w' => ∃ v, e = .returned v ∧ K (a.put N v) w') (hname : (fn.name == "runtime.NumGoroutine") = false := by kernel_rfl) (hb : fn.body.isSome = true := by rfl)
    (hw : Region.wanted oi (yielded ops a.tmps) = true := by rfl) (hN : oi.dst = N := by rfl) (hop : oi.op = .call { callee := .value (.func f), args := as, argTypes := ts } := by rfl)
    (hargs : as.map a.eval = args := by (try simp only [List.map_toArray, List.map_cons, List.map_nil]); first | done | rfl | (simp only [List.length_drop, List.length_take]; rfl)) :
    if Region.wanted oi (yielded ops a.tmps) = true then Oper.wp P oi a w K Q else K (a.put N undef) w := goes_ hf hname hb args hw hN hop hargs h
theorem bx_ {rest : List Oper} {o : Oper} {a : Act} {W : World} {N : Tmp} {cs : Array Value} {t : TypeId}
    (h : ∀ g, g = W.heap.size → ∀ w1, w1.heap[g]? = some (.cells cs t (0, 0)) → Below W.heap.size W w1 → wpList P ops Q rest (a.put o.dst (.pointer (some ⟨g, 0, none⟩))) w1) (hgd : o.guard = none := by rfl) (hd : o.dst = some N := by rfl)
    (hrun : (execOp a.eval o).run P W = .ok (.value (.pointer (some ⟨W.heap.size, 0, none⟩))) (W.alloc (.cells cs t (0, 0))) := by first | (go_simp; done) | (go_simp; rfl)) : wpList P ops Q (o :: rest) a W := box_event hgd hd hrun h
end
/-- Which operations have run: n bits of a number. -/
def bmL : Nat → Nat → List Bool
  | 0, _ => []
  | n + 1, m => (m % 2 == 1) :: bmL n (m / 2)
def bm (n m : Nat) : Array Bool := (bmL n m).toArray
section
variable {P : Program} {md : Region.Mode} {ops : Array Oper} {Q : Exit → Act → World → Prop} {S : World → Prop} {ds : List Nat} {T : Bool × List (List Nat × List Nat)}
theorem pu_ {oi : Oper} {v : Value} {fuel : Nat} {l : Array Bool} {a a' : Act} {w : World} (i : Nat) (N : Option Tmp) (l' : Array Bool) (hT : rtab md ops = T) (h : wpAnyLast P md ops Q S ds fuel l' a' w)
    (hi : ops[i]? = some oi := by rfl) (hN : oi.dst = N := by rfl) (hc : anyT T l.toList l'.toList i = true := by kernel_rfl)
    (hy : Yields P ops oi v a := by refine Or.inl ⟨by rfl, ?_⟩; intro w'; go_simp; with_reducible rfl)
    (ha : a.put N v = a' := by simp only [Act.put, List.setIfInBounds_toArray, List.set_cons_zero, List.set_cons_succ, i64_w, i32_w]; rfl)
    (hQ : ∀ c a w, Q (.panic c) (a.put oi.dst v) w → Q (.panic c) a w := by exact fun _ _ _ h => h) :
    wpAnyLast P md ops Q S ds (fuel + 1) l a w := pure_ l' hi hN (any_of hT hc) hQ hy ha h
theorem tk_ {oi : Oper} {v : Value} {fuel : Nat} {l : Array Bool} {a a' : Act} {w : World} {B : List Nat} (i : Nat) (N : Option Tmp) (l' : Array Bool) (hT : rtab md ops = T) (hB : waitsOk T.2 B = true) (hS : S w) (h : wpAnyLast P md ops Q S ds fuel l' a' w)
    (hi : ops[i]? = some oi := by rfl) (hN : oi.dst = N := by rfl) (hc : takeW T B ds l.toList l'.toList i = true := by kernel_rfl)
    (hy : YieldsIf P ops S oi v a := by refine Or.inl ⟨by rfl, ?_⟩; intro w'; (try simp only [and_imp]); intros; go_simp; with_reducible rfl)
    (ha : a.put N v = a' := by simp only [Act.put, List.setIfInBounds_toArray, List.set_cons_zero, List.set_cons_succ, i64_w, i32_w]; rfl)
    (hQ : ∀ c a w, Q (.panic c) (a.put oi.dst v) w → Q (.panic c) a w := by exact fun _ _ _ h => h) :
    wpAnyLast P md ops Q S ds (fuel + 1) l a w := take_ l' hi hN (take_ofW hT hB hc) hQ hy hS ha h
theorem nm_ {fuel : Nat} {l : Array Bool} {a0 a' : Act} {v0 : Value} {w : World} (N : Tmp) (h : wpAnyLast P md ops Q S ds fuel l a' w)
    (ha : Act.put a0 (some N) v0 = a' := by simp only [Act.put, List.setIfInBounds_toArray, List.set_cons_zero, List.set_cons_succ, i64_w, i32_w]; rfl) : wpAnyLast P md ops Q S ds fuel l (Act.put a0 (some N) v0) w := norm_ ha h
theorem np_ {fuel : Nat} {l : Array Bool} {a a' : Act} {w : World} (h : wpAnyLast P md ops Q S ds fuel l a' w) (ha : a = a' := by simp only [putAll, Act.put, List.setIfInBounds_toArray, List.set_cons_zero, List.set_cons_succ]; rfl) : wpAnyLast P md ops Q S ds fuel l a w := norm_ ha h
theorem nq_ {fuel : Nat} {l : Array Bool} {a a' : Act} {w : World} (h : wpAnyLast P md ops Q S ds fuel l a' w) (ha : a = a' := by first | (simp only [putAll, Act.put, List.setIfInBounds_toArray, List.set_cons_zero, List.set_cons_succ]; done) | (simp only [putAll, Act.put, List.setIfInBounds_toArray, List.set_cons_zero, List.set_cons_succ]; rfl)) : wpAnyLast P md ops Q S ds fuel l a w := norm_ ha h
end
end Go.Proofs.YtegbmillbbcmfaaW.PrintMore
