-- several texts of this claim in one
import Derived.Test.YtbphhccpkngfoaaGreatDoorQx0
import Derived.Test.YtbphhccpkngfoaaGreatDoorWords
import Derived.Test.YtbphhccpkngfoaaGreatDoorQsm
import Derived.Deep.RegionLaw
namespace Go.Proofs.YtbphhccpkngfoaaGreatDoor.Q
open Go.RowKit Go.Proofs.YtbphhccpkngfoaaGreatDoorW.PrintWords Go.Proofs.YtbphhccpkngfoaaGreatDoorW.PrintLast Go.Proofs.YtbphhccpkngfoaaGreatDoorW.PrintMore
set_option linter.unusedVariables false
set_option linter.unusedSimpArgs false
theorem info49 : (Tryz.prog.info? 49).map (fun i => (i.zero, i.size, i.bytes)) = some (some (.agg #[(.int .i64 0), (.int .i64 0), (.int .i64 0), (.int .i64 0)]), 4, 32) := by kernel_rfl
/-- The parser in its box g: the tokens left, the nodes (a row v of its own), the code. -/
structure StI (w0 : World) (g : Nat) (A : Option Addr) (ca : Nat) (v : Value) (ts : List S51) (ns : List S49) (c : Int) (W : World) : Prop where
  bl : Below w0.heap.size w0 W
  lo : w0.heap.size ≤ g
  blk : W.heap[g]? = some (.cells #[.slice A ts.length ca, v, .int .i64 c] 44 (0, 0))
  cap : ts.length ≤ ca
  left : Kd.F k51 W (fun k => k ≠ g ∧ some k ≠ v.ownBlock) A ts.length ts
  nodes : Kd.R k49 49 W w0.heap.size (fun k => k ≠ g) v ns
/-- What a method may have written: the box, the nodes' row; the row has stayed, or is new. -/
structure Mv (g : Nat) (v v' : Value) (W W' : World) : Prop where
  sz : W.heap.size ≤ W'.heap.size
  keep : ∀ k, k < W.heap.size → k ≠ g → some k ≠ v.ownBlock → W'.heap[k]? = W.heap[k]?
  row : v'.ownBlock = v.ownBlock ∨ ∃ b, v'.ownBlock = some b ∧ W.heap.size ≤ b
section
variable {w0 W W1 W2 : World} {g ca : Nat} {A : Option Addr} {v v1 v2 : Value} {ts : List S51} {ns : List S49} {c : Int}
theorem Mv.refl (g : Nat) (v : Value) (W : World) : Mv g v v W W := ⟨Nat.le_refl _, fun _ _ _ _ => rfl, .inl rfl⟩
theorem Mv.trans (h : Mv g v v1 W W1) (k : Mv g v1 v2 W1 W2) : Mv g v v2 W W2 := by
  refine ⟨Nat.le_trans h.sz k.sz, fun i hi hg hv => (k.keep i (Nat.lt_of_lt_of_le hi h.sz) hg (fun e => ?_)).trans (h.keep i hi hg hv), ?_⟩
  · rcases h.row with h1 | ⟨b, h1, h2⟩
    · exact hv (e.trans h1)
    · rw [h1] at e
      injection e with e
      omega
  · rcases k.row with k1 | ⟨b, k1, k2⟩
    · rcases h.row with h1 | ⟨b, h1, h2⟩
      · exact .inl (k1.trans h1)
      · exact .inr ⟨b, k1.trans h1, h2⟩
    · exact .inr ⟨b, k1, Nat.le_trans h.sz k2⟩
theorem Mv.of_below (g : Nat) (v : Value) (hb : Below W.heap.size W W1) : Mv g v v W W1 := ⟨hb.size, fun k hk _ _ => hb.block k hk, .inl rfl⟩
/-- A block of a caller's own is as before, and still apart. -/
theorem Mv.blk {o : Obj} {b : Nat} (h : Mv g v v1 W W1) (hb : W.heap[b]? = some o) (hg : b ≠ g) (hv : some b ≠ v.ownBlock) : W1.heap[b]? = some o ∧ some b ≠ v1.ownBlock := by
  have hl := blk_lt hb
  refine ⟨(h.keep b hl hg hv).trans hb, fun e => ?_⟩
  rcases h.row with h1 | ⟨x, h1, h2⟩
  · exact hv (e.trans h1)
  · rw [h1] at e
    injection e with e
    omega
theorem StI.below (h : StI w0 g A ca v ts ns c W) (hb : Below W.heap.size W W1) : StI w0 g A ca v ts ns c W1 :=
  ⟨below_step h.bl hb, h.lo, blk_below h.blk hb, h.cap, Kd.F_below h.left hb, Kd.R_below h.nodes hb⟩
theorem StI.cells (h : StI w0 g A ca v ts ns c W) : W.cell? ⟨g, 0, none⟩ = some (.slice A ts.length ca) ∧ W.cell? ⟨g, 1, none⟩ = some v ∧ W.cell? ⟨g, 2, none⟩ = some (.int .i64 c) ∧ W.frozen? ⟨g, 0, none⟩ = false ∧ W.frozen? ⟨g, 1, none⟩ = false ∧ W.frozen? ⟨g, 2, none⟩ = false :=
  ⟨(blk_cell h.blk 0).trans rfl, (blk_cell h.blk 1).trans rfl, (blk_cell h.blk 2).trans rfl, blk_frozen h.blk 0, blk_frozen h.blk 1, blk_frozen h.blk 2⟩
theorem StI.head {x : S51} {xs : List S51} (h : StI w0 g A ca v (x :: xs) ns c W) : ∃ ad, A = some ad ∧ W.cell? ad = some (.int .i64 x.f0) ∧ W.cell? ⟨ad.block, ad.off + 1, none⟩ = some (.int .i64 x.f1) ∧ W.cell? ⟨ad.block, ad.off + 2, none⟩ = some (.string x.f2) := by
  obtain ⟨ad, e, h0, h1, h2⟩ := at_T51 (Kd.F_now h.left) 0 (by omega) (by simp only [List.length_cons]; omega)
  have e0 : ad.add ((0 : Int).toNat * 3) = ad := by cases ad; simp [Addr.add]
  rw [e0] at h0 h1 h2
  exact ⟨ad, e, h0, h1, h2⟩
end
/-- Whether the next token is the sign s. -/
def nx (ts : List S51) (s : ByteArray) : Bool := match ts with
  | [] => false
  | x :: _ => x.f2.toList == s.toList
set_option maxHeartbeats 4000000 in
set_option maxRecDepth 100000 in
theorem z_isNext {w0 W : World} {g ca : Nat} {A : Option Addr} {v : Value} {ts : List S51} {ns : List S49} {c : Int} (S : Aside0 (StI w0 g A ca v ts ns c W)) (s : ByteArray) :
    Calls Tryz.prog 57 #[.pointer (some ⟨g, 0, none⟩), .string s] W fun e W' => e = .returned (.bool (nx ts s)) ∧ Below W.heap.size W W' := by
  obtain ⟨f0, _, _, _, _, _⟩ := S.out.cells
  cases ts with
  | nil =>
    go_enter Tryz.func57, Tryz.ntmps57
    go_wp2
    go_ret
    exact ⟨rfl, Below.refl _ _⟩
  | cons x xs =>
    obtain ⟨ad, rfl, h0, h1, h2⟩ := S.out.head
    have q1 : decide (0 < (xs.length : Int) + 1) = true := decide_eq_true (by omega)
    go_enter Tryz.func57, Tryz.ntmps57
    go_wp2
    go_ret
    exact ⟨rfl, Below.refl _ _⟩
section
variable {w0 W W1 W2 : World} {g ca : Nat} {A A' : Option Addr} {v v1 v2 : Value} {ts : List S51} {ns : List S49} {c : Int}
/-- The box has been written: the tokens left and the code may be others, the nodes are the same. -/
theorem StI.put {ts' : List S51} {ca' : Nat} {c' : Int} {j : Nat} {u : Value} (h : StI w0 g A ca v ts ns c W) (hb : (W.setCell ⟨g, j, none⟩ u).heap[g]? = some (.cells #[.slice A' ts'.length ca', v, .int .i64 c'] 44 (0, 0))) (hc : ts'.length ≤ ca') (hl : Kd.F k51 W (fun k => k ≠ g ∧ some k ≠ v.ownBlock) A' ts'.length ts') :
    StI w0 g A' ca' v ts' ns c' (W.setCell ⟨g, j, none⟩ u) ∧ Mv g v v W (W.setCell ⟨g, j, none⟩ u) :=
  ⟨⟨below_set h.bl h.lo, h.lo, hb, hc, Kd.F_far (p := ⟨g, j, none⟩) hl (fun k hk => hk.1) u, Kd.R_far (p := ⟨g, j, none⟩) h.nodes (fun k hk => hk) u⟩,
    ⟨by simp, fun k _ hg _ => Below.heap_setCell W ⟨g, j, none⟩ u k hg, .inl rfl⟩⟩
theorem StI.drop {x : S51} {xs : List S51} (h : StI w0 g A ca v (x :: xs) ns c W) : ∃ A', (∀ w : World, (Instr.slice 33 (.slice A (xs.length + 1) ca) (some (.int .i64 1)) none none).run Tryz.prog w = .ok (.slice A' xs.length (ca - 1)) w) ∧
    StI w0 g A' (ca - 1) v xs ns c (W.setCell ⟨g, 0, none⟩ (.slice A' xs.length (ca - 1))) ∧ Mv g v v W (W.setCell ⟨g, 0, none⟩ (.slice A' xs.length (ca - 1))) := by
  obtain ⟨i0, hi0, _, hsz, _⟩ := info_parts info51
  have hcut := cut_from (P := Tryz.prog) 33 51 .i64 Tryz.underlying33 hi0 3 hsz A (x :: xs).length ca 1 (by omega) (by simp only [List.length_cons]; omega)
  have hl := Kd.F_cut (m := 1) h.left (by simp only [List.length_cons]; omega) h.cap
  have hcap := h.cap
  refine ⟨_, hcut, h.put (ts' := xs) (blk_put (cs := #[.slice A (x :: xs).length ca, v, .int .i64 c]) h.blk 0 _ rfl) (by simp only [List.length_cons] at hcap; omega) hl⟩
end
/-- The parser as it lies, wherever its tokens are. -/
def St1 (w0 : World) (g : Nat) (v : Value) (ts : List S51) (ns : List S49) (c : Int) (W : World) : Prop := ∃ A ca, StI w0 g A ca v ts ns c W
/-- What a method leaves. -/
def Ok1 (w0 : World) (g : Nat) (v : Value) (W : World) (ts : List S51) (ns : List S49) (c : Int) (W' : World) : Prop := ∃ v', St1 w0 g v' ts ns c W' ∧ Mv g v v' W W'
theorem z_isNext1 {w0 W : World} {g : Nat} {v : Value} {ts : List S51} {ns : List S49} {c : Int} (S : Aside0 (St1 w0 g v ts ns c W)) (s : ByteArray) :
    Calls Tryz.prog 57 #[.pointer (some ⟨g, 0, none⟩), .string s] W fun e W' => e = .returned (.bool (nx ts s)) ∧ Below W.heap.size W W' := by
  obtain ⟨A, ca, S⟩ := S.out
  exact z_isNext ⟨S⟩ s
set_option maxHeartbeats 4000000 in
set_option maxRecDepth 100000 in
theorem z_took {w0 W : World} {g : Nat} {v : Value} {ts : List S51} {ns : List S49} {c : Int} (S0 : Aside0 (St1 w0 g v ts ns c W)) (s : ByteArray) :
    Calls Tryz.prog 60 #[.pointer (some ⟨g, 0, none⟩), .string s] W fun e W' => e = .returned (.bool (nx ts s)) ∧ Ok1 w0 g v W (if nx ts s = true then ts.tail else ts) ns c W' := by
  obtain ⟨A, ca, S1⟩ := S0.out
  have S := Aside0.mk S1
  clear S0 S1
  cases hn : nx ts s with
  | false =>
    go_enter Tryz.func60, Tryz.ntmps60
    go_wp2_with (first | ((with_reducible refine gate_dst (N := 7) rfl ?_); refine gL_ (some 7) Tryz.func57 _ ?_; refine (z_isNext S s).mono ?_; rw [hn]; rintro e w1 ⟨rfl, hb⟩; refine ⟨_, rfl, ?_⟩; have HB := Aside0.mk hb; clear hb))
    go_ret
    exact ⟨rfl, v, ⟨A, ca, S.out.below HB.out⟩, Mv.of_below g v HB.out⟩
  | true =>
    obtain ⟨x, xs, rfl⟩ : ∃ x xs, ts = x :: xs := by
      cases ts with
      | nil => cases hn
      | cons x xs => exact ⟨x, xs, rfl⟩
    go_enter Tryz.func60, Tryz.ntmps60
    go_wp2_with (first | ((with_reducible refine gate_dst (N := 7) rfl ?_); refine gL_ (some 7) Tryz.func57 _ ?_; refine (z_isNext S s).mono ?_; rw [hn]; rintro e w1 ⟨rfl, hb⟩; refine ⟨_, rfl, ?_⟩; have HB := Aside0.mk hb; have S1 := S.out.below hb; obtain ⟨f0, _, _, k0, _, _⟩ := S1.cells; obtain ⟨A', hcut, h1, h2⟩ := S1.drop; have R1 := Aside0.mk h1; have R2 := Aside0.mk h2; clear h1 h2 hb S1))
    go_ret
    exact ⟨rfl, v, ⟨A', ca - 1, R1.out⟩, (Mv.of_below g v HB.out).trans R2.out⟩
theorem first_0 {kk : Int} (h : kk ≠ 0) : impl_first.f 3 [0, kk] = some kk := by
  show impl_first.l0 3 [0, kk] 2 0 = _
  rw [impl_first.l0, if_pos (by omega), if_pos (by omega), if_pos (by simp), if_pos (by rfl)]
  rw [show wrap64 (0 + 1) = 1 from by unfold wrap64; omega, impl_first.l0, if_pos (by omega), if_pos (by omega), if_pos (by simp), if_neg (by exact h)]
  rfl
theorem lit_2 (W : World) (a b : Int) : Kd.C (Kd.int .i64) (W.alloc (.cells #[.int .i64 a, .int .i64 b] 3)) (some ⟨W.heap.size, 0, none⟩) [a, b].length [a, b] := by
  have ho := World.ownsRow_lit (base := W.heap.size) (e := 3) (size := 1) W #[.int .i64 a, .int .i64 b] 2 (Nat.le_refl _) (by decide) (by simp)
  have hr : Reps ((Kd.int .i64).M (W.alloc (.cells #[.int .i64 a, .int .i64 b] 3)) W.heap.size (fun k => True ∧ some k ≠ (Value.slice (some ⟨W.heap.size, 0, none⟩) 2 2).ownBlock)) 1 [a, b] [.int .i64 a, .int .i64 b] :=
    Reps.one (show (Kd.int .i64).M _ _ _ a [.int .i64 a] from rfl) (Reps.one (show (Kd.int .i64).M _ _ _ b [.int .i64 b] from rfl) (Reps.none _ _))
  have R : Kd.R (Kd.int .i64) 3 (W.alloc (.cells #[.int .i64 a, .int .i64 b] 3)) W.heap.size (fun _ => True) (.slice (some ⟨W.heap.size, 0, none⟩) 2 2) [a, b] := ⟨fun _ _ => trivial, _, ho, hr⟩
  exact (Kd.R_reads' R).2.2
set_option maxHeartbeats 4000000 in
set_option maxRecDepth 100000 in
theorem z_fail {w0 W : World} {g : Nat} {v : Value} {ts : List S51} {ns : List S49} (S0 : Aside0 (St1 w0 g v ts ns 0 W)) {kk : Int} (hk : kk ≠ 0) :
    Calls Tryz.prog 59 #[.pointer (some ⟨g, 0, none⟩), .int .i64 kk] W fun e W' => e = .returned (.int .i64 0) ∧ Ok1 w0 g v W ts ns kk W' := by
  obtain ⟨A, ca, S1⟩ := S0.out
  have S := Aside0.mk S1
  obtain ⟨_, _, f2, _, _, k2⟩ := S1.cells
  have HF := Aside0.mk (first_0 hk)
  clear S0 S1 hk
  go_enter Tryz.func59, Tryz.ntmps59
  go_wp2_with (first | (go_at_call 21; refine (impl_first.calls 3 _ _ [0, kk] kk _ (lit_2 W 0 kk) (Nat.le_refl 2) HF.out).mono ?_; rintro e w2 ⟨rfl, hb⟩; have HB2 := Aside0.mk (below_step (below_alloc (Below.refl _ _) _) hb.below); clear hb f2 k2; have S2 := S.out.below HB2.out; obtain ⟨_, _, f2, _, _, k2⟩ := S2.cells; have S3 := S2.put (ts' := ts) (blk_put (cs := #[.slice A ts.length ca, v, .int .i64 0]) S2.blk 2 (.int .i64 kk) rfl) S2.cap S2.left; have S4 := Aside0.mk S3; clear S2 S3))
  go_ret
  exact ⟨rfl, v, ⟨A, ca, S4.out.1⟩, (Mv.of_below g v HB2.out).trans S4.out.2⟩
theorem bc4 {W : World} {g t : Nat} {v0 v1 v2 v3 : Value} (h : W.heap[g]? = some (.cells #[v0, v1, v2, v3] t (0, 0))) : W.cell? ⟨g, 0, none⟩ = some v0 ∧ W.cell? ⟨g, 1, none⟩ = some v1 ∧ W.cell? ⟨g, 2, none⟩ = some v2 ∧ W.cell? ⟨g, 3, none⟩ = some v3 :=
  ⟨(blk_cell h 0).trans rfl, (blk_cell h 1).trans rfl, (blk_cell h 2).trans rfl, (blk_cell h 3).trans rfl⟩
theorem StI.grow {w0 W W1 : World} {g ca : Nat} {A : Option Addr} {v v1 : Value} {ts : List S51} {ns ns' : List S49} {c : Int} (h : StI w0 g A ca v ts ns c W) (ho : Kd.R k49 49 W1 w0.heap.size (fun k => k ≠ g) v1 ns') (hb : Below w0.heap.size W W1) (hgr : W.grownBy W1 v.ownBlock) (hat : v1.ownBlock = v.ownBlock ∨ ∃ b, v1.ownBlock = some b ∧ W.heap.size ≤ b) :
    W1.cell? ⟨g, 1, none⟩ = some v ∧ W1.frozen? ⟨g, 1, none⟩ = false ∧ StI w0 g A ca v1 ts ns' c (W1.setCell ⟨g, 1, none⟩ v1) ∧ Mv g v v1 W (W1.setCell ⟨g, 1, none⟩ v1) := by
  have hne : some g ≠ v.ownBlock := fun e => h.nodes.1 g e.symm rfl
  have hblk := blk_grown h.blk hgr hne
  refine ⟨(blk_cell hblk 1).trans rfl, blk_frozen hblk 1, ⟨below_set (h.bl.trans hb) h.lo, h.lo, blk_put (cs := #[.slice A ts.length ca, v, .int .i64 c]) hblk 1 _ rfl, h.cap, ?_, ?_⟩, ?_⟩
  · exact Kd.F_far (p := ⟨g, 1, none⟩) (Kd.F_after h.left hgr hat) (fun k hk => hk.1) v1
  · exact Kd.R_far (p := ⟨g, 1, none⟩) ho (fun k hk => hk) v1
  · exact ⟨by simpa using hb.size, fun k hk hg hv => (Below.heap_setCell W1 ⟨g, 1, none⟩ v1 k hg).trans (hgr.block k hk hv), hat⟩
set_option maxHeartbeats 4000000 in
set_option maxRecDepth 100000 in
theorem z_add {w0 W : World} {g : Nat} {v : Value} {ts : List S51} {ns : List S49} {c : Int} (S0 : Aside0 (St1 w0 g v ts ns c W)) (x : S49) (hn : Aside0 (ns.length ≤ 1000000)) :
    Calls Tryz.prog 58 #[.pointer (some ⟨g, 0, none⟩), .agg #[.int .i64 x.f0, .int .i64 x.f1, .int .i64 x.f2, .int .i64 x.f3]] W fun e W' => e = .returned (.int .i64 ns.length) ∧ Ok1 w0 g v W ts (ns ++ [x]) c W' := by
  obtain ⟨A, ca, S1⟩ := S0.out
  have S := Aside0.mk S1
  clear S0 S1
  have hu22 := Tryz.underlying22
  go_enter Tryz.func58, Tryz.ntmps58
  go_wp2_with (first | ((with_reducible refine gate_dst (N := 3) rfl ?_); refine bx_ (N := 3) (cs := #[.int .i64 x.f0, .int .i64 x.f1, .int .i64 x.f2, .int .i64 x.f3]) (t := 49) ?_; intro gb hg w3 hbox hb; have HB := Aside0.mk hb; have S2 := Aside0.mk (S.out.below hb); obtain ⟨_, f1, _, _, k1, _⟩ := S2.out.cells; obtain ⟨b0, b1, b2, b3⟩ := bc4 hbox; clear hbox hb hg))
  have HD := Aside0.mk (S2.out.below (below_drew (Below.refl w3.heap.size w3)))
  have f1a : (w3.alloc (.cells #[.int .i64 x.f0, .int .i64 x.f1, .int .i64 x.f2, .int .i64 x.f3] 49)).cell? ⟨g, 1, none⟩ = some v := ((below_alloc (Below.refl w3.heap.size w3) _).cell (p := ⟨g, 1, none⟩) (blk_lt S2.out.blk)).trans f1
  go_region_law ((refine Kd.R_append_step k49 (w0 := w3.drew) w0.heap.size (by rfl) (.tmp 9) (.tmp 11) 22 49 (.agg #[.int .i64 0, .int .i64 0, .int .i64 0, .int .i64 0]) 32 (by rfl) hu22 info49 rfl (by decide) (by decide) v ns x [.int .i64 x.f0, .int .i64 x.f1, .int .i64 x.f2, .int .i64 x.f3] (fun k => k ≠ g) (fun _ => False) (by rfl) (by rfl) (k49_mkM _ _ _ x) (fun _ h => h.elim) (fun k hk e => Nat.lt_irrefl _ (Nat.lt_of_lt_of_le (e ▸ blk_lt HD.out.blk) hk)) HD.out.nodes (Below.refl _ _) (below_size HD.out.bl) (by have := hn.out; omega) ?_; intro v1 w4 ho hb hgr hat; obtain ⟨A1, c1, rfl⟩ := Kd.R_slice ho; obtain ⟨f4, k4, h5, h6⟩ := HD.out.grow ho hb hgr hat; rw [show (ns ++ [x]).length = ns.length + 1 from by simp] at h5 h6; have R5 := Aside0.mk h5; have R6 := Aside0.mk h6; clear ho hb hgr hat h5 h6))
  all_goals (go_wp2; go_ret; exact ⟨by (have := hn.out; simp only [List.length_append, List.length_cons, List.length_nil, Ending.returned.injEq, Value.int.injEq, true_and]; first | (unfold wrap64; omega) | (simp; unfold wrap64; omega)), _, ⟨A, ca, R5.out⟩, (Mv.of_below g v (below_step HB.out (below_drew (Below.refl _ _)))).trans R6.out⟩)
/-- The sign of a byte. -/
def sgn (c : Int) : ByteArray := ⟨#[c.toNat.toUInt8]⟩
set_option maxHeartbeats 4000000 in
set_option maxRecDepth 100000 in
theorem z_sign {w0 W : World} {g pb : Nat} {v : Value} {ts : List S51} {ns : List S49} {c : Int} (S : Aside0 (St1 w0 g v ts ns c W)) (hp : W.cell? ⟨pb, 0, none⟩ = some (.pointer (some ⟨g, 0, none⟩))) (b : Int) (hb : b = 43 ∨ b = 45 ∨ b = 42 ∨ b = 47) :
    Calls Tryz.prog 56 #[.int .u8 b, .pointer (some ⟨pb, 0, none⟩)] W fun e W' => e = .returned (.bool (nx ts (sgn b))) ∧ Below W.heap.size W W' := by
  rcases hb with rfl | rfl | rfl | rfl
  all_goals
    go_enter Tryz.func56, Tryz.ntmps56
    go_wp2_with (first | ((with_reducible refine gate_dst (N := 7) rfl ?_); refine gL_ (some 7) Tryz.func57 _ ?_; refine (z_isNext1 S _).mono ?_; rintro e w1 ⟨rfl, hb⟩; refine ⟨_, rfl, ?_⟩; have HB := Aside0.mk hb; clear hb))
    go_ret
    exact ⟨rfl, HB.out⟩
/-- Which of two signs is next. -/
def idx2 (ts : List S51) (b0 b1 : Int) : Int := if nx ts (sgn b0) = true then 0 else if nx ts (sgn b1) = true then 1 else -1
theorem St1.below {w0 W W1 : World} {g : Nat} {v : Value} {ts : List S51} {ns : List S49} {c : Int} (h : St1 w0 g v ts ns c W) (hb : Below W.heap.size W W1) : St1 w0 g v ts ns c W1 := by
  obtain ⟨A, ca, S⟩ := h
  exact ⟨A, ca, S.below hb⟩
set_option maxHeartbeats 8000000 in
set_option maxRecDepth 100000 in
theorem z_index {w0 W : World} {g pb gs cc : Nat} {v : Value} {ts : List S51} {ns : List S49} {c : Int} (S : Aside0 (St1 w0 g v ts ns c W)) (hp : W.cell? ⟨pb, 0, none⟩ = some (.pointer (some ⟨g, 0, none⟩))) (b0 b1 : Int) (h0 : b0 = 43 ∨ b0 = 45 ∨ b0 = 42 ∨ b0 = 47) (h1 : b1 = 43 ∨ b1 = 45 ∨ b1 = 42 ∨ b1 = 47)
    (q0 : W.cell? ⟨gs, 0, none⟩ = some (.int .u8 b0)) (q1 : W.cell? ⟨gs, 1, none⟩ = some (.int .u8 b1)) :
    Calls Tryz.prog 55 #[.slice (some ⟨gs, 0, none⟩) 2 cc, .func (.func 56) #[] #[.pointer (some ⟨pb, 0, none⟩)]] W fun e W' => e = .returned (.int .i64 (idx2 ts b0 b1)) ∧ Below W.heap.size W W' := by
  have HP := Aside0.mk hp
  have Q0 := Aside0.mk q0
  have Q1 := Aside0.mk q1
  have H0 := Aside0.mk h0
  have H1 := Aside0.mk h1
  clear hp q0 q1 h0 h1
  go_enter Tryz.func55, Tryz.ntmps55
  go_wp2
  go_loopw [8] (fun v8 wr => ∃ i : Nat, i ≤ 2 ∧ v8 = .int .i64 i ∧ Aside0 (Below W.heap.size W wr) ∧ (0 < i → nx ts (sgn b0) = false) ∧ (1 < i → nx ts (sgn b1) = false)) (fun v8 _ => 2 - (intOf v8).toNat)
  case atStart => exact ⟨0, by omega, rfl, ⟨Below.refl _ _⟩, by omega, by omega⟩
  case round =>
    obtain ⟨i, hi, rfl, hB, n0, n1⟩ := hrel
    have hi' : i = 0 ∨ i = 1 ∨ i = 2 := by omega
    rcases hi' with rfl | rfl | rfl
    · have S1 := Aside0.mk (S.out.below hB.out)
      have p1 := (hB.out.cell (p := ⟨pb, 0, none⟩) (Lib.lt_of_cell HP.out)).trans HP.out
      have q1 := (hB.out.cell (p := ⟨gs, 0, none⟩) (Lib.lt_of_cell Q0.out)).trans Q0.out
      cases hn : nx ts (sgn b0) with
      | false =>
        go_wp2_with (first | (go_at_call 56; refine (z_sign S1 p1 b0 H0.out).mono ?_; rw [hn]; rintro e w1 ⟨rfl, hb⟩; have HB := Aside0.mk (below_step hB.out hb); clear hb p1 q1))
        go_roundw
        case rel => exact ⟨1, by omega, by go_num, HB, by first | exact fun _ => hn | trivial | simp, by omega⟩
        case measure => simp [intOf]
      | true =>
        go_wp2_with (first | (go_at_call 56; refine (z_sign S1 p1 b0 H0.out).mono ?_; rw [hn]; rintro e w1 ⟨rfl, hb⟩; have HB := Aside0.mk (below_step hB.out hb); clear hb p1 q1))
        go_ret
        exact ⟨by unfold idx2; rw [if_pos hn]; rfl, HB.out⟩
    · have S1 := Aside0.mk (S.out.below hB.out)
      have p1 := (hB.out.cell (p := ⟨pb, 0, none⟩) (Lib.lt_of_cell HP.out)).trans HP.out
      have q1 := (hB.out.cell (p := ⟨gs, 1, none⟩) (Lib.lt_of_cell Q1.out)).trans Q1.out
      cases hn : nx ts (sgn b1) with
      | false =>
        go_wp2_with (first | (go_at_call 56; refine (z_sign S1 p1 b1 H1.out).mono ?_; rw [hn]; rintro e w1 ⟨rfl, hb⟩; have HB := Aside0.mk (below_step hB.out hb); clear hb p1 q1))
        go_roundw
        case rel => exact ⟨2, by omega, by go_num, HB, fun _ => n0 (by omega), by first | exact fun _ => hn | trivial | simp⟩
        case measure => simp [intOf]
      | true =>
        go_wp2_with (first | (go_at_call 56; refine (z_sign S1 p1 b1 H1.out).mono ?_; rw [hn]; rintro e w1 ⟨rfl, hb⟩; have HB := Aside0.mk (below_step hB.out hb); clear hb p1 q1))
        go_ret
        exact ⟨by unfold idx2; rw [n0 (by omega), if_neg (by simp), if_pos hn]; rfl, HB.out⟩
    · go_wp2
      go_ret
      exact ⟨by unfold idx2; rw [n0 (by omega), n1 (by omega), if_neg (by simp), if_neg (by simp)]; rfl, hB.out⟩
abbrev PRes := Except Int (List S51 × List S49 × Int)
abbrev PFun := List S51 → List S49 → PRes
def chLoop (b0 b1 o0 o1 : Int) (part : PFun) : Nat → Int → PFun
  | 0, out, ts, ns => .ok (ts, ns, out)
  | k + 1, out, ts, ns =>
    if idx2 ts b0 b1 < 0 then .ok (ts, ns, out) else
      match part ts.tail ns with
      | .error c => .error c
      | .ok (t, n, b) => chLoop b0 b1 o0 o1 part k n.length t (n ++ [⟨if idx2 ts b0 b1 = 0 then o0 else o1, out, b, 0⟩])
def chF (b0 b1 o0 o1 : Int) (part : PFun) : PFun := fun ts ns =>
  match part ts ns with
  | .error c => .error c
  | .ok (t, n, o) => chLoop b0 b1 o0 o1 part t.length o t n
def sumF (f : PFun) : PFun := chF 43 45 3 4 (chF 42 47 5 6 f)
def atmF (s : PFun) : PFun := fun ts ns =>
  if nx ts (sgn 40) = true then
    match s ts.tail ns with
    | .error c => .error c
    | .ok (t, n, o) => if nx t (sgn 41) = true then .ok (t.tail, n, o) else .error 3
  else
    match ts with
    | [] => .error 3
    | x :: r => if x.f0 = 3 then .error 3 else if x.f0 = 2 then .ok (r, ns ++ [⟨2, 0, 0, x.f1⟩], ns.length) else .ok (r, ns ++ [⟨1, 0, 0, x.f1⟩], ns.length)
def powF (t : List S51) (n : List S49) (o : Int) : PRes :=
  match t with
  | [] => .error 3
  | x :: r => if x.f0 = 1 ∧ x.f1 ≤ 8 then .ok (r, n ++ [⟨8, o, 0, x.f1⟩], n.length) else .error 3
def facF : Nat → PFun
  | 0 => fun _ _ => .error 12
  | d + 1 => fun ts ns =>
    if nx ts (sgn 45) = true then
      match facF d ts.tail ns with
      | .error c => .error c
      | .ok (t, n, o) => .ok (t, n ++ [⟨7, o, 0, 0⟩], n.length)
    else
      match atmF (sumF (facF d)) ts ns with
      | .error c => .error c
      | .ok (t, n, o) => if nx t (sgn 94) = true then powF t.tail n o else .ok (t, n, o)
/-- Every right answer has taken a token for each node. -/
def Good (f : PFun) : Prop := ∀ ts ns t n o, f ts ns = .ok (t, n, o) → n.length + t.length ≤ ns.length + ts.length ∧ t.length ≤ ts.length
theorem nx_len {ts : List S51} {s : ByteArray} (h : nx ts s = true) : ts.tail.length + 1 = ts.length := by
  cases ts with
  | nil => cases h
  | cons x xs => simp
theorem idx2_len {ts : List S51} {b0 b1 : Int} (h : ¬ idx2 ts b0 b1 < 0) : ts.tail.length + 1 = ts.length := by
  unfold idx2 at h
  split at h
  · rename_i e; exact nx_len e
  · split at h
    · rename_i e; exact nx_len e
    · exact absurd (by decide) h
theorem chLoop_good {b0 b1 o0 o1 : Int} {part : PFun} (hp : Good part) : ∀ (k : Nat) (out : Int), Good (chLoop b0 b1 o0 o1 part k out)
  | 0, out => fun ts ns t n o h => by
    simp only [chLoop, Except.ok.injEq, Prod.mk.injEq] at h
    obtain ⟨rfl, rfl, rfl⟩ := h
    exact ⟨Nat.le_refl _, Nat.le_refl _⟩
  | k + 1, out => fun ts ns t n o h => by
    rw [chLoop] at h
    by_cases hi : idx2 ts b0 b1 < 0
    · rw [if_pos hi] at h
      simp only [Except.ok.injEq, Prod.mk.injEq] at h
      obtain ⟨rfl, rfl, rfl⟩ := h
      exact ⟨Nat.le_refl _, Nat.le_refl _⟩
    · rw [if_neg hi] at h
      have hl := idx2_len hi
      cases hq : part ts.tail ns with
      | error c => rw [hq] at h; cases h
      | ok r =>
        obtain ⟨t1, n1, b⟩ := r
        rw [hq] at h
        have g1 := hp _ _ _ _ _ hq
        have g2 := chLoop_good hp k _ _ _ _ _ _ h
        simp only [List.length_append, List.length_cons, List.length_nil] at g2
        omega
theorem chF_good {b0 b1 o0 o1 : Int} {part : PFun} (hp : Good part) : Good (chF b0 b1 o0 o1 part) := fun ts ns t n o h => by
  unfold chF at h
  cases hq : part ts ns with
  | error c => rw [hq] at h; cases h
  | ok r =>
    obtain ⟨t1, n1, b⟩ := r
    rw [hq] at h
    have g1 := hp _ _ _ _ _ hq
    have g2 := chLoop_good hp _ _ _ _ _ _ _ h
    omega
theorem sumF_good {f : PFun} (hf : Good f) : Good (sumF f) := chF_good (chF_good hf)
theorem atmF_good {s : PFun} (hs : Good s) : Good (atmF s) := fun ts ns t n o h => by
  unfold atmF at h
  split at h
  · rename_i e
    have hl := nx_len e
    split at h
    · cases h
    · rename_i t1 n1 o1 hq
      have g1 := hs _ _ _ _ _ hq
      split at h
      · rename_i e2
        have hl2 := nx_len e2
        simp only [Except.ok.injEq, Prod.mk.injEq] at h
        obtain ⟨rfl, rfl, rfl⟩ := h
        omega
      · cases h
  · split at h
    · cases h
    · split at h
      · cases h
      · split at h
        all_goals
          simp only [Except.ok.injEq, Prod.mk.injEq] at h
          obtain ⟨rfl, rfl, rfl⟩ := h
          simp only [List.length_append, List.length_cons, List.length_nil]
          omega
theorem facF_good : ∀ d, Good (facF d)
  | 0 => fun ts ns t n o h => by cases h
  | d + 1 => fun ts ns t n o h => by
    have ih := facF_good d
    rw [facF] at h
    dsimp only at h
    split at h
    · rename_i e
      have hl := nx_len e
      split at h
      · cases h
      · rename_i t1 n1 o1 hq
        have g1 := ih _ _ _ _ _ hq
        simp only [Except.ok.injEq, Prod.mk.injEq] at h
        obtain ⟨rfl, rfl, rfl⟩ := h
        simp only [List.length_append, List.length_cons, List.length_nil]
        omega
    · split at h
      · cases h
      · rename_i t1 n1 o1 hq
        have g1 := atmF_good (sumF_good ih) _ _ _ _ _ hq
        split at h
        · rename_i e2
          have hl2 := nx_len e2
          unfold powF at h
          split at h
          · cases h
          · rename_i x r hx
            rw [hx] at hl2
            split at h
            · simp only [Except.ok.injEq, Prod.mk.injEq] at h
              obtain ⟨rfl, rfl, rfl⟩ := h
              simp only [List.length_append, List.length_cons, List.length_nil] at hl2 ⊢
              omega
            · cases h
        · simp only [Except.ok.injEq, Prod.mk.injEq] at h
          obtain ⟨rfl, rfl, rfl⟩ := h
          exact g1
/-- A state that goes with an answer. -/
def Says (m : PRes) (ts : List S51) (ns : List S49) (c out : Int) : Prop := match m with
  | .error k => c = k ∧ k ≠ 0
  | .ok (t, n, o) => ts = t ∧ ns = n ∧ c = 0 ∧ out = o
/-- What a reading method leaves. -/
def Post (w0 : World) (g : Nat) (v : Value) (W : World) (m : PRes) (e : Ending) (W' : World) : Prop := ∃ (out : Int) (ts : List S51) (ns : List S49) (c : Int), e = .returned (.int .i64 out) ∧ Says m ts ns c out ∧ Ok1 w0 g v W ts ns c W'
/-- A function value that reads a part. -/
def PartC (w0 : World) (g : Nat) (Cap : Value → World → Prop) (fid : Nat) (caps : Array Value) (m : PFun) : Prop :=
  ∀ W v ts ns, Aside0 (St1 w0 g v ts ns 0 W) → Cap v W → Aside0 (ns.length + ts.length ≤ 1000000) → Calls Tryz.prog fid caps W (Post w0 g v W (m ts ns))
/-- How much the parser still has before it. -/
def zm (g : Nat) (W : World) : Nat := match W.cell? ⟨g, 0, none⟩, W.cell? ⟨g, 2, none⟩ with
  | some (.slice _ n _), some (.int _ c) => if c = 0 then n + 1 else 0
  | _, _ => 0
theorem St1.zm {w0 W : World} {g : Nat} {v : Value} {ts : List S51} {ns : List S49} {c : Int} (h : St1 w0 g v ts ns c W) : zm g W = if c = 0 then ts.length + 1 else 0 := by
  obtain ⟨A, ca, S⟩ := h
  obtain ⟨f0, _, f2, _⟩ := S.cells
  unfold Q.zm
  rw [f0, f2]
/-- Where the loop stands. -/
def ChI (w0 : World) (g : Nat) (v : Value) (Cap : Value → World → Prop) (W : World) (b0 b1 o0 o1 : Int) (part : PFun) (goal : PRes) (out : Int) (wr : World) : Prop :=
  ∃ (ts : List S51) (ns : List S49) (c : Int) (v' : Value), St1 w0 g v' ts ns c wr ∧ Mv g v v' W wr ∧ Cap v' wr ∧ ((c ≠ 0 ∧ goal = .error c) ∨ (c = 0 ∧ ns.length + ts.length ≤ 1000000 ∧ ∃ k, ts.length ≤ k ∧ goal = chLoop b0 b1 o0 o1 part k out ts ns))
/-- Behind the first part. -/
theorem ChI.start {w0 W W0 w1 : World} {g : Nat} {v : Value} {Cap : Value → World → Prop} {b0 b1 o0 o1 : Int} {part : PFun} {ts : List S51} {ns : List S49} (hg : Good part) (hcap : ∀ v v' W W', Cap v W → Mv g v v' W W' → Cap v' W') (C : Cap v W) (hn : ns.length + ts.length ≤ 1000000) (hb : Below W0.heap.size W0 W) {out : Int} {ts' : List S51} {ns' : List S49} {c' : Int} (hs : Says (part ts ns) ts' ns' c' out) (ho : Ok1 w0 g v W ts' ns' c' w1) :
    ChI w0 g v Cap W0 b0 b1 o0 o1 part (chF b0 b1 o0 o1 part ts ns) out w1 := by
  obtain ⟨v', hst, hmv⟩ := ho
  refine ⟨ts', ns', c', v', hst, (Mv.of_below g v hb).trans hmv, hcap _ _ _ _ C hmv, ?_⟩
  unfold chF
  cases hp : part ts ns with
  | error k =>
    rw [hp] at hs
    obtain ⟨rfl, hk⟩ := hs
    exact .inl ⟨hk, rfl⟩
  | ok r =>
    obtain ⟨t, n, o⟩ := r
    rw [hp] at hs
    obtain ⟨rfl, rfl, rfl, rfl⟩ := hs
    have := hg _ _ _ _ _ hp
    exact .inr ⟨rfl, by omega, _, Nat.le_refl _, rfl⟩
theorem z_indexB {w0 W : World} {g pb cc : Nat} {v : Value} {ts : List S51} {ns : List S49} {c : Int} (S : St1 w0 g v ts ns c W) (hp : W.cell? ⟨pb, 0, none⟩ = some (.pointer (some ⟨g, 0, none⟩))) (s : ByteArray) (b0 b1 : Int) (h : (b0 = 43 ∧ b1 = 45 ∧ s = ⟨#[43, 45]⟩) ∨ (b0 = 42 ∧ b1 = 47 ∧ s = ⟨#[42, 47]⟩)) :
    Calls Tryz.prog 55 #[.slice (some ⟨W.heap.size, 0, none⟩) 2 cc, .func (.func 56) #[] #[.pointer (some ⟨pb, 0, none⟩)]] (Lib.bytesWorld W 5 s) fun e W' => e = .returned (.int .i64 (idx2 ts b0 b1)) ∧ Below W.heap.size W W' := by
  have hb := bytes_below (Below.refl W.heap.size W) (Nat.le_refl _) 5 s
  have p' := (Lib.bytesWorld_old W 5 s ⟨pb, 0, none⟩ (Lib.lt_of_cell hp)).trans hp
  rcases h with ⟨rfl, rfl, rfl⟩ | ⟨rfl, rfl, rfl⟩
  · refine (z_index ⟨S.below hb⟩ p' 43 45 (by decide) (by decide) (Lib.bytesWorld_cell W 5 _ 0 (by decide)) (Lib.bytesWorld_cell W 5 _ 1 (by decide))).mono fun e w' => ?_
    rintro ⟨rfl, h2⟩
    exact ⟨rfl, below_step hb h2⟩
  · refine (z_index ⟨S.below hb⟩ p' 42 47 (by decide) (by decide) (Lib.bytesWorld_cell W 5 _ 0 (by decide)) (Lib.bytesWorld_cell W 5 _ 1 (by decide))).mono fun e w' => ?_
    rintro ⟨rfl, h2⟩
    exact ⟨rfl, below_step hb h2⟩
theorem kb_ (s : ByteArray) (W : World) : (convert 9 81 (.string s)).run Tryz.prog W = .ok (.slice (some ⟨W.heap.size, 0, none⟩) s.size (grownCap W s.size 0 5)) (Lib.bytesWorld W 5 s) := print_bytes (P := Tryz.prog) 9 81 5 Tryz.underlying9 Tryz.underlying81 Tryz.underlying5 s W
theorem chLoop_done {b0 b1 o0 o1 : Int} {part : PFun} {ts : List S51} {ns : List S49} (h : idx2 ts b0 b1 < 0) (out : Int) : ∀ k, chLoop b0 b1 o0 o1 part k out ts ns = .ok (ts, ns, out)
  | 0 => rfl
  | k + 1 => by rw [chLoop, if_pos h]
theorem idx2_two {ts : List S51} {b0 b1 : Int} (h : ¬ idx2 ts b0 b1 < 0) : idx2 ts b0 b1 = 0 ∨ idx2 ts b0 b1 = 1 := by
  unfold idx2 at h ⊢
  split
  · exact .inl rfl
  · rename_i e
    rw [if_neg e] at h
    split
    · exact .inr rfl
    · rename_i e2
      rw [if_neg e2] at h
      exact absurd (by decide) h
theorem chLoop_err {b0 b1 o0 o1 out c : Int} {part : PFun} {ts : List S51} {ns : List S49} {k : Nat} (h : ¬ idx2 ts b0 b1 < 0) (hk : ts.length ≤ k) (hp : part ts.tail ns = .error c) : chLoop b0 b1 o0 o1 part k out ts ns = .error c := by
  have := idx2_len h
  cases k with
  | zero => omega
  | succ k => rw [chLoop, if_neg h, hp]
theorem chLoop_ok {b0 b1 o0 o1 out b : Int} {part : PFun} {ts t : List S51} {ns n : List S49} {k : Nat} (h : ¬ idx2 ts b0 b1 < 0) (hk : ts.length ≤ k) (hp : part ts.tail ns = .ok (t, n, b)) (ht : t.length ≤ ts.tail.length) :
    ∃ k', t.length ≤ k' ∧ chLoop b0 b1 o0 o1 part k out ts ns = chLoop b0 b1 o0 o1 part k' n.length t (n ++ [⟨if idx2 ts b0 b1 = 0 then o0 else o1, out, b, 0⟩]) := by
  have := idx2_len h
  cases k with
  | zero => omega
  | succ k => exact ⟨k, by omega, by rw [chLoop, if_neg h, hp]⟩
set_option maxHeartbeats 16000000 in
set_option maxRecDepth 100000 in
theorem z_chain {w0 W : World} {g go_ fid : Nat} {v : Value} {ts : List S51} {ns : List S49} {Cap : Value → World → Prop} {caps : Array Value} {part : PFun} (hpart : Aside0 (PartC w0 g Cap fid caps part)) (hf : ∀ w : World, Sem.run Tryz.prog (callFunc fid caps) w = .ok (.enter fid caps) w) (hgood : Aside0 (Good part)) (hcap : Aside0 (∀ v v' W W', Cap v W → Mv g v v' W W' → Cap v' W'))
    (b0 b1 o0 o1 : Int) (h : (b0 = 43 ∧ b1 = 45) ∨ (b0 = 42 ∧ b1 = 47)) (s : ByteArray) (hs : s = ⟨#[b0.toNat.toUInt8, b1.toNat.toUInt8]⟩)
    (S : Aside0 (St1 w0 g v ts ns 0 W)) (C : Aside0 (Cap v W)) (ho : Aside0 (W.heap[go_]? = some (.cells #[.int .i64 o0, .int .i64 o1] 3 (0, 0)) ∧ go_ ≠ g ∧ some go_ ≠ v.ownBlock)) (hn : Aside0 (ns.length + ts.length ≤ 1000000)) :
    Calls Tryz.prog 38 #[.pointer (some ⟨g, 0, none⟩), .string s, .slice (some ⟨go_, 0, none⟩) 2 2, .func (.func fid) #[] caps] W (Post w0 g v W (chF b0 b1 o0 o1 part ts ns)) := by
  subst hs
  have hglt : g < W.heap.size := by
    obtain ⟨A, ca, S'⟩ := S.out
    exact blk_lt S'.blk
  have hvlt : ∀ k, v.ownBlock = some k → k < W.heap.size := by
    obtain ⟨A, ca, S'⟩ := S.out
    obtain ⟨inner, ho'⟩ := Kd.R_own S'.nodes
    exact own_lt ho'
  obtain ⟨q, hq⟩ : ∃ q : Int × Int, q = (b0, b1) := ⟨_, rfl⟩
  have HQ := Aside0.mk hq
  clear hq
  rcases h with ⟨rfl, rfl⟩ | ⟨rfl, rfl⟩
  all_goals
    go_enter Tryz.func38, Tryz.ntmps38
    go_wp2_with (first | ((with_reducible refine gate_dst (N := 4) rfl ?_); refine bx_ (N := 4) (cs := #[.pointer (some ⟨g, 0, none⟩)]) (t := 62) ?_; intro pb hg w1 hbox hb; have BP := Aside0.mk (And.intro hbox (And.intro (show pb ≠ g from by omega) (show some pb ≠ v.ownBlock from fun e => by have := hvlt pb e.symm; omega))); have HB := Aside0.mk hb; have HC := Aside0.mk (hcap.out _ _ _ _ C.out (Mv.of_below g v hb)); clear hbox hb hg) | (refine (hpart.out _ v ts ns ⟨S.out.below HB.out⟩ HC.out hn).mono ?_; rintro e w2 ⟨out, ts', ns', c', rfl, hs, ho'⟩; have HS := Aside0.mk hs; have HO := Aside0.mk ho'; clear hs ho'))
    go_loopw [9] (fun v9 wr => ∃ out : Int, v9 = .int .i64 out ∧ Aside0 (ChI w0 g v Cap w1 q.1 q.2 o0 o1 part (chF q.1 q.2 o0 o1 part ts ns) out wr)) (fun _ wr => zm g wr)
    case atStart => exact ⟨out, rfl, ⟨ChI.start hgood.out hcap.out HC.out hn.out (Below.refl _ _) HS.out HO.out⟩⟩
    case round =>
      obtain ⟨out, rfl, hCI⟩ := hrel
      obtain ⟨ts1, ns1, c1, v1, hst, hmv, hc1, hk⟩ := hCI.out
      obtain ⟨A1, ca1, hS1⟩ := hst
      obtain ⟨f0, f1, f2, k0, k1, k2⟩ := hS1.cells
      obtain ⟨bp, bg⟩ := hmv.blk BP.out.1 BP.out.2.1 BP.out.2.2
      have p0 := (blk_cell bp 0).trans rfl
      have S1 := Aside0.mk hS1
      have MV := Aside0.mk hmv
      have HC1 := Aside0.mk hc1
      clear hS1 hmv hc1 hCI
      rcases hk with ⟨hc, hg⟩ | ⟨rfl, hn1, k, hk, hg⟩
      · have q1 : (c1 == 0) = false := beq_eq_false_iff_ne.2 hc
        have HG := Aside0.mk hg
        clear hg
        go_wp2
        go_ret
        refine ⟨out, ts1, ns1, c1, rfl, ?_, v1, ⟨A1, ca1, S1.out⟩, (Mv.of_below g v HB.out).trans MV.out⟩
        have := HG.out
        rw [HQ.out] at this
        rw [this]
        exact ⟨rfl, hc⟩
      · have hI : idx2 ts1 q.1 q.2 < 0 ∨ ¬ idx2 ts1 q.1 q.2 < 0 := Decidable.em _
        rw [HQ.out] at hI hg
        have HG := Aside0.mk hg
        have HK := Aside0.mk hk
        have HN1 := Aside0.mk hn1
        clear hg hk hn1
        rcases hI with hI | hI
        · have q1 := decide_eq_true hI
          dsimp only at q1
          have kb := kb_
          go_wp2_with (first | (go_at_call 55; refine (z_indexB ⟨A1, ca1, S1.out⟩ p0 _ _ _ (by first | exact .inl ⟨rfl, rfl, rfl⟩ | exact .inr ⟨rfl, rfl, rfl⟩)).mono ?_; rintro e w3 ⟨rfl, hb⟩; have HB3 := Aside0.mk hb; clear hb kb))
          go_ret
          refine ⟨out, ts1, ns1, 0, rfl, ?_, v1, ⟨A1, ca1, S1.out.below HB3.out⟩, ((Mv.of_below g v HB.out).trans MV.out).trans (Mv.of_below g v1 HB3.out)⟩
          have := HG.out
          rw [this, chLoop_done hI]
          exact ⟨rfl, rfl, rfl, rfl⟩
        · have hI2 := idx2_two hI
          have hl := idx2_len hI
          obtain ⟨x, xs, rfl⟩ : ∃ x xs, ts1 = x :: xs := by
            cases ts1 with
            | nil => exact absurd (by decide) hI
            | cons x xs => exact ⟨x, xs, rfl⟩
          obtain ⟨gb, gg⟩ := MV.out.blk (blk_below ho.out.1 HB.out) ho.out.2.1 ho.out.2.2
          have GB := Aside0.mk gb
          have GG := Aside0.mk gg
          have BP1 := Aside0.mk bp
          have BG1 := Aside0.mk bg
          have HI := Aside0.mk hI
          have kb := kb_
          have HN2 : Aside0 (ns1.length + xs.length ≤ 1000000) := ⟨by have := HN1.out; simp only [List.length_cons] at this; omega⟩
          clear gb gg bp bg hI hl
          rcases hI2 with hi | hi
          all_goals
            go_wp2_with (first | (go_at_call 55; refine (z_indexB ⟨A1, ca1, S1.out⟩ p0 _ _ _ (by first | exact .inl ⟨rfl, rfl, rfl⟩ | exact .inr ⟨rfl, rfl, rfl⟩)).mono ?_; rw [hi]; rintro e w3 ⟨rfl, hb⟩; have HB3 := Aside0.mk hb; have S3 := S1.out.below hb; obtain ⟨g0, _, _, l0, _, _⟩ := S3.cells; have p3 := (hb.cell (p := ⟨pb, 0, none⟩) (Lib.lt_of_cell p0)).trans p0; obtain ⟨A', hcut, h1, h2⟩ := S3.drop; have R1 := Aside0.mk (h1.below (below_drew (Below.refl _ _))); have R2 := Aside0.mk (((Mv.of_below g v1 hb).trans h2).trans (Mv.of_below g v1 (below_drew (Below.refl _ _)))); clear hb kb h1 h2 S3))
            go_region
            clear g0 l0 p3 hcut
            have HC2 := Aside0.mk (hcap.out _ _ _ _ HC1.out R2.out)
            cases hp : part xs ns1 with
            | error kk =>
              go_wp2_with (first | (refine (hpart.out _ v1 xs ns1 ⟨⟨A', ca1 - 1, R1.out⟩⟩ HC2.out HN2).mono ?_; rw [hp]; rintro e w5 ⟨out2, ts2, ns2, c2, rfl, ⟨rfl, hc2⟩, v2, ⟨A2, ca2, h2⟩, hm2⟩; have M2 := Aside0.mk (R2.out.trans hm2); obtain ⟨_, _, f5, _, _, _⟩ := h2.cells; have p5 := (blk_cell (M2.out.blk BP1.out BP.out.2.1 BG1.out).1 0).trans rfl; have S5 := Aside0.mk h2; have q5 : (c2 == 0) = false := beq_eq_false_iff_ne.2 hc2; have HC5 := Aside0.mk (hcap.out _ _ _ _ HC1.out M2.out); clear hm2 h2))
              refine ⟨⟨out, rfl, ⟨ts2, ns2, c2, v2, ⟨A2, ca2, S5.out⟩, MV.out.trans M2.out, HC5.out, .inl ⟨hc2, ?_⟩⟩⟩, ?_⟩
              · rw [HQ.out]
                exact HG.out.trans (chLoop_err (Int.not_lt.2 HI.out) HK.out hp)
              · rw [St1.zm (⟨A2, ca2, S5.out⟩ : St1 w0 g v2 ts2 ns2 c2 w5), St1.zm (⟨A1, ca1, S1.out⟩ : St1 w0 g v1 (x :: xs) ns1 0 wr), if_neg hc2, if_pos rfl]
                omega
            | ok r =>
              obtain ⟨t2, n2, b2⟩ := r
              have HL := hgood.out _ _ _ _ _ hp
              go_wp2_with (first | (refine (hpart.out _ v1 xs ns1 ⟨⟨A', ca1 - 1, R1.out⟩⟩ HC2.out HN2).mono ?_; rw [hp]; rintro e w5 ⟨out2, ts2, ns2, c2, rfl, ⟨rfl, rfl, rfl, rfl⟩, v2, ⟨A2, ca2, h2⟩, hm2⟩; have M2 := Aside0.mk (R2.out.trans hm2); obtain ⟨_, _, f5, _, _, _⟩ := h2.cells; have p5 := (blk_cell (M2.out.blk BP1.out BP.out.2.1 BG1.out).1 0).trans rfl; have g5 := (M2.out.blk GB.out ho.out.2.1 GG.out).1; have o5 := (blk_cell g5 0).trans rfl; have o6 := (blk_cell g5 1).trans rfl; have S5 := Aside0.mk h2; have HC5 := Aside0.mk (hcap.out _ _ _ _ HC1.out M2.out); clear hm2 h2 g5))
              have S6 := Aside0.mk (S5.out.below (below_drew (Below.refl _ _)))
              have HN3 : Aside0 (ns2.length ≤ 1000000) := ⟨by have := HN2.out; omega⟩
              go_region_with ((go_at_call 58; refine (z_add ⟨⟨A2, ca2, S6.out⟩⟩ ⟨_, out, out2, 0⟩ HN3).mono ?_; rintro e w6 ⟨rfl, v3, h3, hm3⟩; have S7 := Aside0.mk h3; have M3 := Aside0.mk (((M2.out.trans (Mv.of_below g v2 (below_drew (Below.refl _ _)))).trans hm3)); clear h3 hm3))
              all_goals
                go_wp2
                go_roundw
                case rel =>
                  repeat apply Exists.intro
                  refine ⟨⟨((ns2.length : Nat) : Int), rfl, ⟨ts2, _, 0, v3, S7.out, MV.out.trans M3.out, hcap.out _ _ _ _ HC1.out M3.out, .inr ⟨rfl, ?_, ?_⟩⟩⟩, ?fr⟩
                  case fr => first | rfl | (simp only [Act.put, Array.setIfInBounds, List.set]; rfl) | (simp [Act.put]; done)
                  · have h1 := HN1.out
                    have h2 := HL.1
                    simp only [List.length_cons] at h1
                    simp only [List.length_append, List.length_cons, List.length_nil]
                    omega
                  · obtain ⟨k', hk', e⟩ := chLoop_ok (out := out) (o0 := o0) (o1 := o1) (Int.not_lt.2 HI.out) HK.out hp HL.2
                    refine ⟨k', hk', ?_⟩
                    rw [HQ.out]
                    refine HG.out.trans (e.trans ?_)
                    first | rw [if_pos hi] | rw [if_neg (by omega)]
                case measure =>
                  rw [St1.zm S7.out, St1.zm (⟨A1, ca1, S1.out⟩ : St1 w0 g v1 (x :: xs) ns1 0 wr), if_pos rfl, if_pos rfl]
                  have := HL.2
                  simp only [List.length_cons]
                  omega
/-- factor, with so much room left. -/
def FacC (w0 : World) (g : Nat) (d : Nat) : Prop := ∀ (W : World) (v : Value) (ts : List S51) (ns : List S49) (deep : Int), deep + d = 12 → 0 ≤ deep → Aside0 (St1 w0 g v ts ns 0 W) → Aside0 (ns.length + ts.length ≤ 1000000) → Calls Tryz.prog 40 #[.pointer (some ⟨g, 0, none⟩), .int .i64 deep] W (Post w0 g v W (facF d ts ns))
/-- The boxes that the closures hold. -/
def CapS (g pb db : Nat) (deep : Int) (v : Value) (W : World) : Prop := (W.heap[pb]? = some (.cells #[.pointer (some ⟨g, 0, none⟩)] 62 (0, 0)) ∧ pb ≠ g ∧ some pb ≠ v.ownBlock) ∧ (W.heap[db]? = some (.cells #[.int .i64 deep] 3 (0, 0)) ∧ db ≠ g ∧ some db ≠ v.ownBlock)
theorem CapS.mv {g pb db : Nat} {deep : Int} : ∀ v v' W W', CapS g pb db deep v W → Mv g v v' W W' → CapS g pb db deep v' W' := by
  intro v v' W W' h m
  have h1 := m.blk h.1.1 h.1.2.1 h.1.2.2
  have h2 := m.blk h.2.1 h.2.2.1 h.2.2.2
  exact ⟨⟨h1.1, h.1.2.1, h1.2⟩, ⟨h2.1, h.2.2.1, h2.2⟩⟩
theorem Post.pre {w0 W W1 W' : World} {g : Nat} {v : Value} {m : PRes} {e : Ending} (hb : Below W.heap.size W W1) (h : Post w0 g v W1 m e W') : Post w0 g v W m e W' := by
  obtain ⟨o, ts, ns, c, he, hs, v', h1, h2⟩ := h
  exact ⟨o, ts, ns, c, he, hs, v', h1, (Mv.of_below g v hb).trans h2⟩
theorem St1.lt {w0 W : World} {g : Nat} {v : Value} {ts : List S51} {ns : List S49} {c : Int} (h : St1 w0 g v ts ns c W) : g < W.heap.size ∧ ∀ k, v.ownBlock = some k → k < W.heap.size := by
  obtain ⟨A, ca, S⟩ := h
  obtain ⟨inner, ho⟩ := Kd.R_own S.nodes
  exact ⟨blk_lt S.blk, own_lt ho⟩
/-- A new block is no block of the parser's. -/
theorem St1.new {w0 W W' : World} {g b : Nat} {v : Value} {ts : List S51} {ns : List S49} {c : Int} (h : St1 w0 g v ts ns c W) (hb : W.heap.size ≤ b) : b ≠ g ∧ some b ≠ v.ownBlock := by
  obtain ⟨h1, h2⟩ := h.lt
  exact ⟨by omega, fun e => by have := h2 b e.symm; omega⟩
set_option maxHeartbeats 4000000 in
set_option maxRecDepth 100000 in
theorem z_part11 {w0 : World} {g pb db d : Nat} {deep : Int} (hF : Aside0 (FacC w0 g d)) (hd : deep + d = 12) (hd0 : 0 ≤ deep) :
    PartC w0 g (CapS g pb db deep) 39 #[.pointer (some ⟨pb, 0, none⟩), .pointer (some ⟨db, 0, none⟩)] (facF d) := by
  intro W v ts ns S C hn
  have p0 := (blk_cell C.1.1 0).trans rfl
  have p1 := (blk_cell C.2.1 0).trans rfl
  clear C
  go_enter Tryz.func39, Tryz.ntmps39
  go_wp2_with (first | (go_at_call 40; refine (hF.out _ v ts ns deep hd hd0 S hn).mono ?_; rintro e w1 ⟨out, ts', ns', c', rfl, hs, ho⟩; have HS := Aside0.mk hs; have HO := Aside0.mk ho; clear hs ho))
  go_ret
  exact ⟨out, ts', ns', c', rfl, HS.out, HO.out⟩
theorem hf11 {caps : Array Value} (w : World) : Sem.run Tryz.prog (callFunc 39 caps) w = .ok (.enter 39 caps) w := enters_ Tryz.func39 (by kernel_rfl) (by kernel_rfl) _ w
theorem hf1 {caps : Array Value} (w : World) : Sem.run Tryz.prog (callFunc 37 caps) w = .ok (.enter 37 caps) w := enters_ Tryz.func37 (by kernel_rfl) (by kernel_rfl) _ w
set_option maxHeartbeats 8000000 in
set_option maxRecDepth 100000 in
theorem z_part1 {w0 : World} {g pb db d : Nat} {deep : Int} (hF : Aside0 (FacC w0 g d)) (hd : deep + d = 12) (hd0 : 0 ≤ deep) :
    PartC w0 g (CapS g pb db deep) 37 #[.pointer (some ⟨pb, 0, none⟩), .pointer (some ⟨db, 0, none⟩)] (chF 42 47 5 6 (facF d)) := by
  intro W v ts ns S C hn
  have p0 := (blk_cell C.1.1 0).trans rfl
  have HP := Aside0.mk (z_part11 (pb := pb) (db := db) hF hd hd0)
  have HG := Aside0.mk (facF_good d)
  have HM := Aside0.mk (@CapS.mv g pb db deep)
  have B1 := Aside0.mk (below_alloc (Below.refl W.heap.size W) (.cells #[.int .i64 5, .int .i64 6] 3))
  have S1 := Aside0.mk (S.out.below B1.out)
  have C1 := Aside0.mk (HM.out v v _ _ C (Mv.of_below g v B1.out))
  have NB := S.out.new (W' := W) (Nat.le_refl _)
  have G1 : Aside0 ((W.alloc (.cells #[.int .i64 5, .int .i64 6] 3)).heap[W.heap.size]? = some (.cells #[.int .i64 5, .int .i64 6] 3 (0, 0)) ∧ W.heap.size ≠ g ∧ some W.heap.size ≠ v.ownBlock) := ⟨blk_new W _, NB.1, NB.2⟩
  clear C NB hF
  go_enter Tryz.func37, Tryz.ntmps37
  go_wp2_with (first | (go_at_call 38; refine (z_chain HP hf11 HG HM 42 47 5 6 (.inr ⟨rfl, rfl⟩) _ rfl S1 C1 G1 hn).mono ?_; intro e w1 hp; obtain ⟨out, ts', ns', c', rfl, hs, ho⟩ := hp.pre B1.out; have HS := Aside0.mk hs; have HO := Aside0.mk ho; clear hs ho hp))
  go_ret
  exact ⟨out, ts', ns', c', rfl, HS.out, HO.out⟩
set_option maxHeartbeats 8000000 in
set_option maxRecDepth 100000 in
theorem z_sum {w0 W : World} {g d : Nat} {v : Value} {ts : List S51} {ns : List S49} {deep : Int} (hF : Aside0 (FacC w0 g d)) (hd : deep + d = 12) (hd0 : 0 ≤ deep) (S : Aside0 (St1 w0 g v ts ns 0 W)) (hn : Aside0 (ns.length + ts.length ≤ 1000000)) :
    Calls Tryz.prog 20 #[.pointer (some ⟨g, 0, none⟩), .int .i64 deep] W (Post w0 g v W (sumF (facF d) ts ns)) := by
  have HG := Aside0.mk (chF_good (b0 := 42) (b1 := 47) (o0 := 5) (o1 := 6) (facF_good d))
  go_enter Tryz.func20, Tryz.ntmps20
  go_wp2_with (first | ((with_reducible refine gate_dst (N := 2) rfl ?_); refine bx_ (N := 2) (cs := #[.pointer (some ⟨g, 0, none⟩)]) (t := 62) ?_; intro pb hg w1 hbox hb; have BP := Aside0.mk (And.intro hbox (S.out.new (W' := W) (b := pb) (by omega))); have HB1 := Aside0.mk hb; have S1 := Aside0.mk (S.out.below hb); clear hbox hb hg) | ((with_reducible refine gate_dst (N := 3) rfl ?_); refine bx_ (N := 3) (cs := #[.int .i64 deep]) (t := 3) ?_; intro db hg w2 hbox hb; have C2 : Aside0 (CapS g pb db deep v w2) := ⟨⟨⟨blk_below BP.out.1 hb, BP.out.2⟩, ⟨hbox, S1.out.new (W' := w1) (by omega)⟩⟩⟩; have HB2 := Aside0.mk hb; have S2 := Aside0.mk (S1.out.below hb); have p0 := (blk_cell C2.out.1.1 0).trans rfl; clear hbox hb hg))
  have B3 := Aside0.mk (below_alloc (Below.refl w2.heap.size w2) (.cells #[.int .i64 3, .int .i64 4] 3))
  have H1 := Aside0.mk (z_part1 (pb := pb) (db := db) hF hd hd0)
  have H2 := Aside0.mk (@CapS.mv g pb db deep)
  have S3 := Aside0.mk (S2.out.below B3.out)
  have C3 := Aside0.mk (H2.out v v _ _ C2.out (Mv.of_below g v B3.out))
  have NB := S2.out.new (W' := w2) (Nat.le_refl _)
  have G3 := Aside0.mk (And.intro (blk_new w2 (.cells #[.int .i64 3, .int .i64 4] 3)) NB)
  have Z := z_chain H1 hf1 HG H2 43 45 3 4 (.inl ⟨rfl, rfl⟩) _ rfl S3 C3 G3 hn
  refine Z.mono ?_
  intro e w3 hp
  obtain ⟨out, ts', ns', c', rfl, hs, ho⟩ := hp.pre B3.out
  have HS := Aside0.mk hs
  have HO := Aside0.mk ho
  clear hs ho hp NB
  go_wp2
  clear S3 C3 G3 H1 H2 Z
  go_ret
  obtain ⟨v', h1, h2⟩ := HO.out
  refine ⟨out, ts', ns', c', rfl, by unfold sumF; exact HS.out, ?_⟩
  exact ⟨v', h1, ((Mv.of_below g v HB1.out).trans (Mv.of_below g v HB2.out)).trans h2⟩
theorem z_yes {w0 W : World} {g : Nat} {v : Value} {ts : List S51} {ns : List S49} {c : Int} (S : Aside0 (St1 w0 g v ts ns c W)) (b : Int) {s : ByteArray} (hs : s = sgn b) (hn : nx ts (sgn b) = true) :
    Calls Tryz.prog 60 #[.pointer (some ⟨g, 0, none⟩), .string s] W fun e W' => e = .returned (.bool true) ∧ ∃ v', (∃ A ca, StI w0 g A ca v' ts.tail ns c W') ∧ Mv g v v' W W' := by
  subst hs
  refine (z_took S (sgn b)).mono fun e w' h => ?_
  rw [hn, if_pos rfl] at h
  exact h
theorem z_no {w0 W : World} {g : Nat} {v : Value} {ts : List S51} {ns : List S49} {c : Int} (S : Aside0 (St1 w0 g v ts ns c W)) (b : Int) {s : ByteArray} (hs : s = sgn b) (hn : nx ts (sgn b) = false) :
    Calls Tryz.prog 60 #[.pointer (some ⟨g, 0, none⟩), .string s] W fun e W' => e = .returned (.bool false) ∧ ∃ v', (∃ A ca, StI w0 g A ca v' ts ns c W') ∧ Mv g v v' W W' := by
  subst hs
  refine (z_took S (sgn b)).mono fun e w' h => ?_
  rw [hn, if_neg (by decide)] at h
  exact h
theorem bc3 {W : World} {g t : Nat} {v0 v1 v2 : Value} (h : W.heap[g]? = some (.cells #[v0, v1, v2] t (0, 0))) : W.cell? ⟨g, 0, none⟩ = some v0 ∧ W.cell? ⟨g, 1, none⟩ = some v1 ∧ W.cell? ⟨g, 2, none⟩ = some v2 ∧ W.frozen? ⟨g, 0, none⟩ = false ∧ W.frozen? ⟨g, 1, none⟩ = false ∧ W.frozen? ⟨g, 2, none⟩ = false :=
  ⟨(blk_cell h 0).trans rfl, (blk_cell h 1).trans rfl, (blk_cell h 2).trans rfl, blk_frozen h 0, blk_frozen h 1, blk_frozen h 2⟩
set_option maxHeartbeats 8000000 in
set_option maxRecDepth 100000 in
theorem z_atom1 {w0 W : World} {g d : Nat} {v : Value} {ts : List S51} {ns : List S49} {deep : Int} (hF : Aside0 (FacC w0 g d)) (hd : deep + 1 + d = 12) (hd0 : 0 ≤ deep) (S : Aside0 (St1 w0 g v ts ns 0 W)) (hn : Aside0 (ns.length + ts.length ≤ 1000000)) (hq : nx ts (sgn 40) = true) :
    Calls Tryz.prog 61 #[.pointer (some ⟨g, 0, none⟩), .int .i64 deep] W (Post w0 g v W (atmF (sumF (facF d)) ts ns)) := by
  have hl := nx_len hq
  have HQ := Aside0.mk hq
  have HN2 : Aside0 (ns.length + ts.tail.length ≤ 1000000) := ⟨by have := hn.out; omega⟩
  have e1 : wrap64 (deep + 1) = deep + 1 := by unfold wrap64; omega
  have hd1 : 0 ≤ deep + 1 := by omega
  clear hl hq
  go_enter Tryz.func61, Tryz.ntmps61
  go_wp2_with (first | (go_at_call 60; refine (z_yes S 40 rfl HQ.out).mono ?_; rintro e w1 ⟨rfl, v1, ⟨A1, ca1, h1⟩, m1⟩; have S1 := Aside0.mk h1; have M1 := Aside0.mk m1; clear h1 m1))
  cases hm : sumF (facF d) ts.tail ns with
  | error c =>
    refine (z_sum hF hd hd1 ⟨⟨A1, ca1, S1.out⟩⟩ HN2).mono ?_
    rw [hm]
    rintro e w2 ⟨out, ts2, ns2, c2, rfl, ⟨rfl, hc⟩, v2, ⟨A2, ca2, h2⟩, m2⟩
    have S2 := Aside0.mk h2
    have M2 := Aside0.mk (M1.out.trans m2)
    obtain ⟨_, _, f2, _⟩ := h2.cells
    have q2 : (c2 == 0) = false := beq_eq_false_iff_ne.2 hc
    clear h2 m2
    go_wp2
    go_ret
    exact ⟨out, ts2, ns2, c2, rfl, by unfold atmF; rw [if_pos HQ.out, hm]; exact ⟨rfl, hc⟩, v2, ⟨A2, ca2, S2.out⟩, M2.out⟩
  | ok r =>
    obtain ⟨t, n, o⟩ := r
    refine (z_sum hF hd hd1 ⟨⟨A1, ca1, S1.out⟩⟩ HN2).mono ?_
    rw [hm]
    rintro e w2 ⟨out, ts2, ns2, c2, rfl, ⟨rfl, rfl, rfl, rfl⟩, v2, ⟨A2, ca2, h2⟩, m2⟩
    have S2 := Aside0.mk h2
    have M2 := Aside0.mk (M1.out.trans m2)
    obtain ⟨_, _, f2, _⟩ := h2.cells
    clear h2 m2
    cases hq2 : nx ts2 (sgn 41) with
    | true =>
      have HQ2 := Aside0.mk hq2
      clear hq2
      go_wp2_with (first | (go_at_call 60; refine (z_yes ⟨⟨A2, ca2, S2.out⟩⟩ 41 rfl HQ2.out).mono ?_; rintro e w3 ⟨rfl, v3, ⟨A3, ca3, h3⟩, m3⟩; have S3 := Aside0.mk h3; have M3 := Aside0.mk (M2.out.trans m3); clear h3 m3))
      go_ret
      exact ⟨out, _, ns2, 0, rfl, by unfold atmF; rw [if_pos HQ.out, hm]; dsimp only; rw [if_pos HQ2.out]; exact ⟨rfl, rfl, rfl, rfl⟩, v3, ⟨A3, ca3, S3.out⟩, M3.out⟩
    | false =>
      have HQ2 := Aside0.mk hq2
      clear hq2
      go_wp2_with (first | (go_at_call 60; refine (z_no ⟨⟨A2, ca2, S2.out⟩⟩ 41 rfl HQ2.out).mono ?_; rintro e w3 ⟨rfl, v3, ⟨A3, ca3, h3⟩, m3⟩; have S3 := Aside0.mk h3; have M3 := Aside0.mk (M2.out.trans m3); clear h3 m3) | (go_at_call 59; refine (z_fail (kk := 3) ⟨⟨A3, ca3, S3.out⟩⟩ (by decide)).mono ?_; rintro e w4 ⟨rfl, v4, ⟨A4, ca4, h4⟩, m4⟩; have S4 := Aside0.mk h4; have M4 := Aside0.mk (M3.out.trans m4); clear h4 m4))
      go_ret
      exact ⟨0, _, ns2, 3, rfl, by unfold atmF; rw [if_pos HQ.out, hm]; dsimp only; rw [HQ2.out, if_neg (by decide)]; exact ⟨rfl, by decide⟩, v4, ⟨A4, ca4, S4.out⟩, M4.out⟩
set_option maxHeartbeats 8000000 in
set_option maxRecDepth 100000 in
theorem z_atom0 {w0 W : World} {g : Nat} {v : Value} {ns : List S49} {deep : Int} (sF : PFun) (S : Aside0 (St1 w0 g v [] ns 0 W)) :
    Calls Tryz.prog 61 #[.pointer (some ⟨g, 0, none⟩), .int .i64 deep] W (Post w0 g v W (atmF sF [] ns)) := by
  go_enter Tryz.func61, Tryz.ntmps61
  go_wp2_with (first | (go_at_call 60; refine (z_no S 40 rfl rfl).mono ?_; rintro e w1 ⟨rfl, v1, ⟨A1, ca1, h1⟩, m1⟩; have S1 := Aside0.mk h1; have M1 := Aside0.mk m1; obtain ⟨f0, _, f2, _⟩ := h1.cells; clear h1 m1) | (go_at_call 59; refine (z_fail (kk := 3) ⟨⟨A1, ca1, S1.out⟩⟩ (by decide)).mono ?_; rintro e w4 ⟨rfl, v4, ⟨A4, ca4, h4⟩, m4⟩; have S4 := Aside0.mk h4; have M4 := Aside0.mk (M1.out.trans m4); clear h4 m4))
  go_ret
  exact ⟨0, _, ns, 3, rfl, by unfold atmF; rw [if_neg (by decide)]; exact ⟨rfl, by decide⟩, v4, ⟨A4, ca4, S4.out⟩, M4.out⟩
set_option maxHeartbeats 8000000 in
set_option maxRecDepth 100000 in
theorem z_atom3 {w0 W : World} {g : Nat} {v : Value} {xs : List S51} {y1 : Int} {y2 : ByteArray} {ns : List S49} {deep : Int} (sF : PFun) (S : Aside0 (St1 w0 g v (⟨3, y1, y2⟩ :: xs) ns 0 W)) (hq : nx (⟨3, y1, y2⟩ :: xs) (sgn 40) = false) :
    Calls Tryz.prog 61 #[.pointer (some ⟨g, 0, none⟩), .int .i64 deep] W (Post w0 g v W (atmF sF (⟨3, y1, y2⟩ :: xs) ns)) := by
  have HQ := Aside0.mk hq
  have q0 : decide ((xs.length : Int) + 1 = 0) = false := decide_eq_false (by omega)
  clear hq
  go_enter Tryz.func61, Tryz.ntmps61
  go_wp2_with (first | (go_at_call 60; refine (z_no S 40 rfl HQ.out).mono ?_; rintro e w1 ⟨rfl, v1, ⟨A1, ca1, h1⟩, m1⟩; have S1 := Aside0.mk h1; have M1 := Aside0.mk m1; obtain ⟨f0, _, f2, _⟩ := h1.cells; obtain ⟨ad, rfl, x0, x1, x2⟩ := h1.head; clear h1 m1) | (go_at_call 59; refine (z_fail (kk := 3) ⟨⟨_, ca1, S1.out⟩⟩ (by decide)).mono ?_; rintro e w4 ⟨rfl, v4, ⟨A4, ca4, h4⟩, m4⟩; have S4 := Aside0.mk h4; have M4 := Aside0.mk (M1.out.trans m4); clear h4 m4))
  go_ret
  exact ⟨0, _, ns, 3, rfl, by unfold atmF; rw [HQ.out, if_neg (by decide)]; exact ⟨rfl, by decide⟩, v4, ⟨A4, ca4, S4.out⟩, M4.out⟩
set_option maxHeartbeats 8000000 in
set_option maxRecDepth 100000 in
theorem z_atomT {w0 W : World} {g : Nat} {v : Value} {xs : List S51} {y0 y1 : Int} {y2 : ByteArray} {ns : List S49} {deep : Int} (sF : PFun) (S : Aside0 (St1 w0 g v (⟨y0, y1, y2⟩ :: xs) ns 0 W)) (hn : Aside0 (ns.length ≤ 1000000)) (hq : nx (⟨y0, y1, y2⟩ :: xs) (sgn 40) = false) (hy : y0 ≠ 3) :
    Calls Tryz.prog 61 #[.pointer (some ⟨g, 0, none⟩), .int .i64 deep] W (Post w0 g v W (atmF sF (⟨y0, y1, y2⟩ :: xs) ns)) := by
  have HQ := Aside0.mk hq
  have q0 : decide ((xs.length : Int) + 1 = 0) = false := decide_eq_false (by omega)
  have q3 : (y0 == 3) = false := beq_eq_false_iff_ne.2 hy
  clear hq
  rcases Decidable.em (y0 = 2) with hy2 | hy2
  · subst hy2
    go_enter Tryz.func61, Tryz.ntmps61
    go_wp2_with (first | (go_at_call 60; refine (z_no S 40 rfl HQ.out).mono ?_; rintro e w1 ⟨rfl, v1, ⟨A1, ca1, h1⟩, m1⟩; have S1 := Aside0.mk h1; have M1 := Aside0.mk m1; obtain ⟨f0, _, f2, k0, _, _⟩ := h1.cells; obtain ⟨ad, rfl, x0, x1, x2⟩ := h1.head; have B3 := Aside0.mk (below_alloc (Below.refl w1.heap.size w1) (.cells #[.int .i64 2, .int .i64 y1, .string y2] 51)); have NB := (St1.new (W' := w1) (b := w1.heap.size) ⟨_, ca1, S1.out⟩ (Nat.le_refl _)).1; have g0 := (B3.out.cell (p := ⟨g, 0, none⟩) (blk_lt S1.out.blk)).trans f0; have l0 := blk_frozen (blk_below S1.out.blk B3.out) 0; obtain ⟨A', hcut, h3, m3⟩ := (S1.out.below B3.out).drop; have S3 := Aside0.mk h3; have M3 := Aside0.mk ((M1.out.trans (Mv.of_below g v1 B3.out)).trans m3); have nb := blk_far (blk_new w1 (.cells #[.int .i64 2, .int .i64 y1, .string y2] 51)) (p := ⟨g, 0, none⟩) NB (.slice A' xs.length (ca1 - 1)); obtain ⟨n0, n1, _⟩ := bc3 nb; clear h1 m1 h3 m3 nb NB) | (go_at_call 58; refine (z_add ⟨⟨A', ca1 - 1, S3.out⟩⟩ ⟨_, 0, 0, y1⟩ hn).mono ?_; rintro e w4 ⟨rfl, v4, ⟨A4, ca4, h4⟩, m4⟩; have S4 := Aside0.mk h4; have M4 := Aside0.mk (M3.out.trans m4); clear h4 m4))
    go_ret
    exact ⟨ns.length, _, _, 0, rfl, by unfold atmF; rw [HQ.out, if_neg (by decide)]; dsimp only; rw [if_neg hy, if_pos rfl]; exact ⟨rfl, rfl, rfl, rfl⟩, v4, ⟨A4, ca4, S4.out⟩, M4.out⟩
  · have q2 : (y0 == 2) = false := beq_eq_false_iff_ne.2 hy2
    go_enter Tryz.func61, Tryz.ntmps61
    go_wp2_with (first | (go_at_call 60; refine (z_no S 40 rfl HQ.out).mono ?_; rintro e w1 ⟨rfl, v1, ⟨A1, ca1, h1⟩, m1⟩; have S1 := Aside0.mk h1; have M1 := Aside0.mk m1; obtain ⟨f0, _, f2, k0, _, _⟩ := h1.cells; obtain ⟨ad, rfl, x0, x1, x2⟩ := h1.head; have B3 := Aside0.mk (below_alloc (Below.refl w1.heap.size w1) (.cells #[.int .i64 y0, .int .i64 y1, .string y2] 51)); have NB := (St1.new (W' := w1) (b := w1.heap.size) ⟨_, ca1, S1.out⟩ (Nat.le_refl _)).1; have g0 := (B3.out.cell (p := ⟨g, 0, none⟩) (blk_lt S1.out.blk)).trans f0; have l0 := blk_frozen (blk_below S1.out.blk B3.out) 0; obtain ⟨A', hcut, h3, m3⟩ := (S1.out.below B3.out).drop; have S3 := Aside0.mk h3; have M3 := Aside0.mk ((M1.out.trans (Mv.of_below g v1 B3.out)).trans m3); have nb := blk_far (blk_new w1 (.cells #[.int .i64 y0, .int .i64 y1, .string y2] 51)) (p := ⟨g, 0, none⟩) NB (.slice A' xs.length (ca1 - 1)); obtain ⟨n0, n1, _⟩ := bc3 nb; clear h1 m1 h3 m3 nb NB) | (go_at_call 58; refine (z_add ⟨⟨A', ca1 - 1, S3.out⟩⟩ ⟨_, 0, 0, y1⟩ hn).mono ?_; rintro e w4 ⟨rfl, v4, ⟨A4, ca4, h4⟩, m4⟩; have S4 := Aside0.mk h4; have M4 := Aside0.mk (M3.out.trans m4); clear h4 m4))
    go_ret
    exact ⟨ns.length, _, _, 0, rfl, by unfold atmF; rw [HQ.out, if_neg (by decide)]; dsimp only; rw [if_neg hy, if_neg hy2]; exact ⟨rfl, rfl, rfl, rfl⟩, v4, ⟨A4, ca4, S4.out⟩, M4.out⟩
theorem z_atom {w0 W : World} {g d : Nat} {v : Value} {ts : List S51} {ns : List S49} {deep : Int} (hF : Aside0 (FacC w0 g d)) (hd : deep + 1 + d = 12) (hd0 : 0 ≤ deep) (S : Aside0 (St1 w0 g v ts ns 0 W)) (hn : Aside0 (ns.length + ts.length ≤ 1000000)) :
    Calls Tryz.prog 61 #[.pointer (some ⟨g, 0, none⟩), .int .i64 deep] W (Post w0 g v W (atmF (sumF (facF d)) ts ns)) := by
  cases hq : nx ts (sgn 40) with
  | true => exact z_atom1 hF hd hd0 S hn hq
  | false =>
    cases ts with
    | nil => exact z_atom0 _ S
    | cons x xs =>
      obtain ⟨y0, y1, y2⟩ := x
      rcases Decidable.em (y0 = 3) with rfl | hy
      · exact z_atom3 _ S hq
      · exact z_atomT _ S ⟨by have := hn.out; omega⟩ hq hy
set_option maxHeartbeats 8000000 in
set_option maxRecDepth 100000 in
theorem z_fac0 {w0 : World} {g : Nat} : FacC w0 g 0 := by
  intro W v ts ns deep hd hd0 S hn
  obtain rfl : deep = 12 := by omega
  clear hd hd0 hn
  go_enter Tryz.func40, Tryz.ntmps40
  go_wp2_with (first | (go_at_call 59; refine (z_fail (kk := 12) S (by decide)).mono ?_; rintro e w4 ⟨rfl, v4, ⟨A4, ca4, h4⟩, m4⟩; have S4 := Aside0.mk h4; have M4 := Aside0.mk m4; clear h4 m4))
  go_ret
  exact ⟨0, ts, ns, 12, rfl, ⟨rfl, by decide⟩, v4, ⟨A4, ca4, S4.out⟩, M4.out⟩
set_option maxHeartbeats 8000000 in
set_option maxRecDepth 100000 in
theorem z_facN {w0 W : World} {g d : Nat} {v : Value} {ts : List S51} {ns : List S49} {deep : Int} (hF : Aside0 (FacC w0 g d)) (hd : deep + 1 + d = 12) (hd0 : 0 ≤ deep) (S : Aside0 (St1 w0 g v ts ns 0 W)) (hn : Aside0 (ns.length + ts.length ≤ 1000000)) (hq : nx ts (sgn 45) = true) :
    Calls Tryz.prog 40 #[.pointer (some ⟨g, 0, none⟩), .int .i64 deep] W (Post w0 g v W (facF (d + 1) ts ns)) := by
  have hl := nx_len hq
  have HQ := Aside0.mk hq
  have HN2 : Aside0 (ns.length + ts.tail.length ≤ 1000000) := ⟨by have := hn.out; omega⟩
  have e1 : wrap64 (deep + 1) = deep + 1 := by unfold wrap64; omega
  have hd1 : 0 ≤ deep + 1 := by omega
  have q1 : decide (deep ≥ 12) = false := decide_eq_false (by omega)
  have q1' : decide (12 ≤ deep) = false := decide_eq_false (by omega)
  clear hl hq
  cases hm : facF d ts.tail ns with
  | error c =>
    have HM := Aside0.mk hm
    clear hm
    go_enter Tryz.func40, Tryz.ntmps40
    go_wp2_with (first | (go_at_call 60; refine (z_yes S 45 rfl HQ.out).mono ?_; rintro e w1 ⟨rfl, v1, ⟨A1, ca1, h1⟩, m1⟩; have S1 := Aside0.mk h1; have M1 := Aside0.mk m1; clear h1 m1) | (go_at_call 40; refine (hF.out _ v1 ts.tail ns (deep + 1) hd hd1 ⟨⟨A1, ca1, S1.out⟩⟩ HN2).mono ?_; rw [HM.out]; rintro e w2 ⟨out, ts2, ns2, c2, rfl, ⟨rfl, hc⟩, v2, ⟨A2, ca2, h2⟩, m2⟩; have S2 := Aside0.mk h2; have M2 := Aside0.mk (M1.out.trans m2); obtain ⟨_, _, f2, _⟩ := h2.cells; have q2 : (c2 == 0) = false := beq_eq_false_iff_ne.2 hc; have HC := Aside0.mk hc; clear h2 m2 hc))
    go_ret
    exact ⟨0, ts2, ns2, c2, rfl, by rw [facF]; dsimp only; rw [if_pos HQ.out, HM.out]; exact ⟨rfl, HC.out⟩, v2, ⟨A2, ca2, S2.out⟩, M2.out⟩
  | ok r =>
    obtain ⟨t, n, o⟩ := r
    have HL := facF_good d _ _ _ _ _ hm
    have HN3 : Aside0 (n.length ≤ 1000000) := ⟨by have := HN2.out; omega⟩
    have HM := Aside0.mk hm
    clear hm HL
    go_enter Tryz.func40, Tryz.ntmps40
    go_wp2_with (first | (go_at_call 60; refine (z_yes S 45 rfl HQ.out).mono ?_; rintro e w1 ⟨rfl, v1, ⟨A1, ca1, h1⟩, m1⟩; have S1 := Aside0.mk h1; have M1 := Aside0.mk m1; clear h1 m1) | (go_at_call 40; refine (hF.out _ v1 ts.tail ns (deep + 1) hd hd1 ⟨⟨A1, ca1, S1.out⟩⟩ HN2).mono ?_; rw [HM.out]; rintro e w2 ⟨out, ts2, ns2, c2, rfl, ⟨rfl, rfl, rfl, rfl⟩, v2, ⟨A2, ca2, h2⟩, m2⟩; have S2 := Aside0.mk h2; have M2 := Aside0.mk (M1.out.trans m2); obtain ⟨_, _, f2, _⟩ := h2.cells; clear h2 m2) | (go_at_call 58; refine (z_add ⟨⟨A2, ca2, S2.out⟩⟩ ⟨7, out, 0, 0⟩ HN3).mono ?_; rintro e w4 ⟨rfl, v4, ⟨A4, ca4, h4⟩, m4⟩; have S4 := Aside0.mk h4; have M4 := Aside0.mk (M2.out.trans m4); clear h4 m4))
    go_ret
    exact ⟨ns2.length, ts2, _, 0, rfl, by rw [facF]; dsimp only; rw [if_pos HQ.out, HM.out]; exact ⟨rfl, rfl, rfl, rfl⟩, v4, ⟨A4, ca4, S4.out⟩, M4.out⟩
set_option maxHeartbeats 8000000 in
set_option maxRecDepth 100000 in
theorem z_facE {w0 W : World} {g d : Nat} {v : Value} {ts : List S51} {ns : List S49} {deep : Int} (hF : Aside0 (FacC w0 g d)) (hd : deep + 1 + d = 12) (hd0 : 0 ≤ deep) (S : Aside0 (St1 w0 g v ts ns 0 W)) (hn : Aside0 (ns.length + ts.length ≤ 1000000)) (HQ : Aside0 (nx ts (sgn 45) = false)) {c : Int} (HM : Aside0 (atmF (sumF (facF d)) ts ns = .error c)) :
    Calls Tryz.prog 40 #[.pointer (some ⟨g, 0, none⟩), .int .i64 deep] W (Post w0 g v W (facF (d + 1) ts ns)) := by
  have q1 : decide (deep ≥ 12) = false := decide_eq_false (by omega)
  have q1' : decide (12 ≤ deep) = false := decide_eq_false (by omega)
  go_enter Tryz.func40, Tryz.ntmps40
  go_wp2_with (first | (go_at_call 60; refine (z_no S 45 rfl HQ.out).mono ?_; rintro e w1 ⟨rfl, v1, ⟨A1, ca1, h1⟩, m1⟩; have S1 := Aside0.mk h1; have M1 := Aside0.mk m1; clear h1 m1))
  refine (z_atom hF hd hd0 ⟨⟨A1, ca1, S1.out⟩⟩ hn).mono ?_
  rw [HM.out]
  rintro e w2 ⟨out, ts2, ns2, c2, rfl, ⟨rfl, hc⟩, v2, ⟨A2, ca2, h2⟩, m2⟩
  have S2 := Aside0.mk h2
  have M2 := Aside0.mk (M1.out.trans m2)
  obtain ⟨_, _, f2, _⟩ := h2.cells
  have q2 : (c2 == 0) = false := beq_eq_false_iff_ne.2 hc
  have q2n : (!(c2 == 0)) = true := by rw [q2]; rfl
  have q2m : (c2 != 0) = true := by simpa using hc
  have HC := Aside0.mk hc
  clear hc
  clear h2 m2
  go_wp2
  go_ret
  exact ⟨out, ts2, ns2, c2, rfl, by rw [facF]; dsimp only; rw [HQ.out, if_neg (by decide), HM.out]; exact ⟨rfl, HC.out⟩, v2, ⟨A2, ca2, S2.out⟩, M2.out⟩
set_option maxHeartbeats 8000000 in
set_option maxRecDepth 100000 in
theorem z_facA {w0 W : World} {g d : Nat} {v : Value} {ts : List S51} {ns : List S49} {deep : Int} (hF : Aside0 (FacC w0 g d)) (hd : deep + 1 + d = 12) (hd0 : 0 ≤ deep) (S : Aside0 (St1 w0 g v ts ns 0 W)) (hn : Aside0 (ns.length + ts.length ≤ 1000000)) (HQ : Aside0 (nx ts (sgn 45) = false)) {t : List S51} {n : List S49} {o : Int} (HM : Aside0 (atmF (sumF (facF d)) ts ns = .ok (t, n, o))) (HP : Aside0 (nx t (sgn 94) = false)) :
    Calls Tryz.prog 40 #[.pointer (some ⟨g, 0, none⟩), .int .i64 deep] W (Post w0 g v W (facF (d + 1) ts ns)) := by
  have q1 : decide (deep ≥ 12) = false := decide_eq_false (by omega)
  have q1' : decide (12 ≤ deep) = false := decide_eq_false (by omega)
  go_enter Tryz.func40, Tryz.ntmps40
  go_wp2_with (first | (go_at_call 60; refine (z_no S 45 rfl HQ.out).mono ?_; rintro e w1 ⟨rfl, v1, ⟨A1, ca1, h1⟩, m1⟩; have S1 := Aside0.mk h1; have M1 := Aside0.mk m1; clear h1 m1))
  refine (z_atom hF hd hd0 ⟨⟨A1, ca1, S1.out⟩⟩ hn).mono ?_
  rw [HM.out]
  rintro e w2 ⟨out, ts2, ns2, c2, rfl, ⟨rfl, rfl, rfl, rfl⟩, v2, ⟨A2, ca2, h2⟩, m2⟩
  have S2 := Aside0.mk h2
  have M2 := Aside0.mk (M1.out.trans m2)
  obtain ⟨_, _, f2, _⟩ := h2.cells
  clear h2 m2
  go_wp2_with (first | (go_at_call 60; refine (z_no ⟨⟨A2, ca2, S2.out⟩⟩ 94 rfl HP.out).mono ?_; rintro e w3 ⟨rfl, v3, ⟨A3, ca3, h3⟩, m3⟩; have S3 := Aside0.mk h3; have M3 := Aside0.mk (M2.out.trans m3); clear h3 m3))
  go_ret
  exact ⟨out, ts2, ns2, 0, rfl, by rw [facF]; dsimp only; rw [HQ.out, if_neg (by decide), HM.out]; dsimp only; rw [HP.out, if_neg (by decide)]; exact ⟨rfl, rfl, rfl, rfl⟩, v3, ⟨A3, ca3, S3.out⟩, M3.out⟩
set_option maxHeartbeats 8000000 in
set_option maxRecDepth 100000 in
theorem z_facP0 {w0 W : World} {g d : Nat} {v : Value} {ts : List S51} {ns : List S49} {deep : Int} (hF : Aside0 (FacC w0 g d)) (hd : deep + 1 + d = 12) (hd0 : 0 ≤ deep) (S : Aside0 (St1 w0 g v ts ns 0 W)) (hn : Aside0 (ns.length + ts.length ≤ 1000000)) (HQ : Aside0 (nx ts (sgn 45) = false)) {p : S51} {n : List S49} {o : Int} (HM : Aside0 (atmF (sumF (facF d)) ts ns = .ok ([p], n, o))) (HP : Aside0 (nx [p] (sgn 94) = true)) :
    Calls Tryz.prog 40 #[.pointer (some ⟨g, 0, none⟩), .int .i64 deep] W (Post w0 g v W (facF (d + 1) ts ns)) := by
  have q1 : decide (deep ≥ 12) = false := decide_eq_false (by omega)
  have q1' : decide (12 ≤ deep) = false := decide_eq_false (by omega)
  go_enter Tryz.func40, Tryz.ntmps40
  go_wp2_with (first | (go_at_call 60; refine (z_no S 45 rfl HQ.out).mono ?_; rintro e w1 ⟨rfl, v1, ⟨A1, ca1, h1⟩, m1⟩; have S1 := Aside0.mk h1; have M1 := Aside0.mk m1; clear h1 m1))
  refine (z_atom hF hd hd0 ⟨⟨A1, ca1, S1.out⟩⟩ hn).mono ?_
  rw [HM.out]
  rintro e w2 ⟨out, ts2, ns2, c2, rfl, ⟨rfl, rfl, rfl, rfl⟩, v2, ⟨A2, ca2, h2⟩, m2⟩
  have S2 := Aside0.mk h2
  have M2 := Aside0.mk (M1.out.trans m2)
  obtain ⟨_, _, f2, _⟩ := h2.cells
  clear h2 m2
  go_wp2_with (first | (go_at_call 60; refine (z_yes ⟨⟨A2, ca2, S2.out⟩⟩ 94 rfl HP.out).mono ?_; rintro e w3 ⟨rfl, v3, ⟨A3, ca3, h3⟩, m3⟩; obtain ⟨f0, _, _, k0, _, _⟩ := h3.cells; have S3 := Aside0.mk h3; have M3 := Aside0.mk (M2.out.trans m3); clear h3 m3) | (go_at_call 59; refine (z_fail (kk := 3) ⟨⟨A3, ca3, S3.out⟩⟩ (by decide)).mono ?_; rintro e w4 ⟨rfl, v4, ⟨A4, ca4, h4⟩, m4⟩; have S4 := Aside0.mk h4; have M4 := Aside0.mk (M3.out.trans m4); clear h4 m4))
  go_ret
  exact ⟨0, _, _, 3, rfl, by rw [facF]; dsimp only; rw [HQ.out, if_neg (by decide), HM.out]; dsimp only; rw [HP.out, if_pos rfl]; exact ⟨rfl, by decide⟩, v4, ⟨A4, ca4, S4.out⟩, M4.out⟩
set_option maxHeartbeats 8000000 in
set_option maxRecDepth 100000 in
theorem z_facP1 {w0 W : World} {g d : Nat} {v : Value} {ts : List S51} {ns : List S49} {deep : Int} (hF : Aside0 (FacC w0 g d)) (hd : deep + 1 + d = 12) (hd0 : 0 ≤ deep) (S : Aside0 (St1 w0 g v ts ns 0 W)) (hn : Aside0 (ns.length + ts.length ≤ 1000000)) (HQ : Aside0 (nx ts (sgn 45) = false)) {p : S51} {r : List S51} {y0 y1 : Int} {y2 : ByteArray} {n : List S49} {o : Int} (HM : Aside0 (atmF (sumF (facF d)) ts ns = .ok (p :: ⟨y0, y1, y2⟩ :: r, n, o))) (HP : Aside0 (nx (p :: ⟨y0, y1, y2⟩ :: r) (sgn 94) = true)) (HY : Aside0 (y0 ≠ 1)) :
    Calls Tryz.prog 40 #[.pointer (some ⟨g, 0, none⟩), .int .i64 deep] W (Post w0 g v W (facF (d + 1) ts ns)) := by
  have q1 : decide (deep ≥ 12) = false := decide_eq_false (by omega)
  have q1' : decide (12 ≤ deep) = false := decide_eq_false (by omega)
  have q0 : (y0 == 1) = false := beq_eq_false_iff_ne.2 HY.out
  have q0n : ¬ y0 = 1 := HY.out
  go_enter Tryz.func40, Tryz.ntmps40
  go_wp2_with (first | (go_at_call 60; refine (z_no S 45 rfl HQ.out).mono ?_; rintro e w1 ⟨rfl, v1, ⟨A1, ca1, h1⟩, m1⟩; have S1 := Aside0.mk h1; have M1 := Aside0.mk m1; clear h1 m1))
  refine (z_atom hF hd hd0 ⟨⟨A1, ca1, S1.out⟩⟩ hn).mono ?_
  rw [HM.out]
  rintro e w2 ⟨out, ts2, ns2, c2, rfl, ⟨rfl, rfl, rfl, rfl⟩, v2, ⟨A2, ca2, h2⟩, m2⟩
  have S2 := Aside0.mk h2
  have M2 := Aside0.mk (M1.out.trans m2)
  obtain ⟨_, _, f2, _⟩ := h2.cells
  clear h2 m2
  go_wp2_with (first | (go_at_call 60; refine (z_yes ⟨⟨A2, ca2, S2.out⟩⟩ 94 rfl HP.out).mono ?_; rintro e w3 ⟨rfl, v3, ⟨A3, ca3, h3⟩, m3⟩; obtain ⟨f0, _, _, k0, _, _⟩ := h3.cells; obtain ⟨ad, rfl, x0, x1, _⟩ := h3.head; have S3 := Aside0.mk h3; have M3 := Aside0.mk (M2.out.trans m3); clear h3 m3) | (go_at_call 59; refine (z_fail (kk := 3) ⟨⟨_, ca3, S3.out⟩⟩ (by decide)).mono ?_; rintro e w4 ⟨rfl, v4, ⟨A4, ca4, h4⟩, m4⟩; have S4 := Aside0.mk h4; have M4 := Aside0.mk (M3.out.trans m4); clear h4 m4))
  go_ret
  exact ⟨0, _, _, 3, rfl, by rw [facF]; dsimp only; rw [HQ.out, if_neg (by decide), HM.out]; dsimp only; rw [HP.out, if_pos rfl]; rw [List.tail_cons, powF, if_neg (fun h => HY.out h.1)]; exact ⟨rfl, by decide⟩, v4, ⟨A4, ca4, S4.out⟩, M4.out⟩
set_option maxHeartbeats 8000000 in
set_option maxRecDepth 100000 in
theorem z_facP2 {w0 W : World} {g d : Nat} {v : Value} {ts : List S51} {ns : List S49} {deep : Int} (hF : Aside0 (FacC w0 g d)) (hd : deep + 1 + d = 12) (hd0 : 0 ≤ deep) (S : Aside0 (St1 w0 g v ts ns 0 W)) (hn : Aside0 (ns.length + ts.length ≤ 1000000)) (HQ : Aside0 (nx ts (sgn 45) = false)) {p : S51} {r : List S51} {y1 : Int} {y2 : ByteArray} {n : List S49} {o : Int} (HM : Aside0 (atmF (sumF (facF d)) ts ns = .ok (p :: ⟨1, y1, y2⟩ :: r, n, o))) (HP : Aside0 (nx (p :: ⟨1, y1, y2⟩ :: r) (sgn 94) = true)) (HY : Aside0 (8 < y1)) :
    Calls Tryz.prog 40 #[.pointer (some ⟨g, 0, none⟩), .int .i64 deep] W (Post w0 g v W (facF (d + 1) ts ns)) := by
  have q1 : decide (deep ≥ 12) = false := decide_eq_false (by omega)
  have q1' : decide (12 ≤ deep) = false := decide_eq_false (by omega)
  have q0 : decide (y1 > 8) = true := decide_eq_true HY.out
  go_enter Tryz.func40, Tryz.ntmps40
  go_wp2_with (first | (go_at_call 60; refine (z_no S 45 rfl HQ.out).mono ?_; rintro e w1 ⟨rfl, v1, ⟨A1, ca1, h1⟩, m1⟩; have S1 := Aside0.mk h1; have M1 := Aside0.mk m1; clear h1 m1))
  refine (z_atom hF hd hd0 ⟨⟨A1, ca1, S1.out⟩⟩ hn).mono ?_
  rw [HM.out]
  rintro e w2 ⟨out, ts2, ns2, c2, rfl, ⟨rfl, rfl, rfl, rfl⟩, v2, ⟨A2, ca2, h2⟩, m2⟩
  have S2 := Aside0.mk h2
  have M2 := Aside0.mk (M1.out.trans m2)
  obtain ⟨_, _, f2, _⟩ := h2.cells
  clear h2 m2
  go_wp2_with (first | (go_at_call 60; refine (z_yes ⟨⟨A2, ca2, S2.out⟩⟩ 94 rfl HP.out).mono ?_; rintro e w3 ⟨rfl, v3, ⟨A3, ca3, h3⟩, m3⟩; obtain ⟨f0, _, _, k0, _, _⟩ := h3.cells; obtain ⟨ad, rfl, x0, x1, _⟩ := h3.head; have S3 := Aside0.mk h3; have M3 := Aside0.mk (M2.out.trans m3); clear h3 m3) | (go_at_call 59; refine (z_fail (kk := 3) ⟨⟨_, ca3, S3.out⟩⟩ (by decide)).mono ?_; rintro e w4 ⟨rfl, v4, ⟨A4, ca4, h4⟩, m4⟩; have S4 := Aside0.mk h4; have M4 := Aside0.mk (M3.out.trans m4); clear h4 m4))
  go_ret
  exact ⟨0, _, _, 3, rfl, by rw [facF]; dsimp only; rw [HQ.out, if_neg (by decide), HM.out]; dsimp only; rw [HP.out, if_pos rfl]; rw [List.tail_cons, powF, if_neg (fun h => Int.not_lt.2 h.2 HY.out)]; exact ⟨rfl, by decide⟩, v4, ⟨A4, ca4, S4.out⟩, M4.out⟩
set_option maxHeartbeats 8000000 in
set_option maxRecDepth 100000 in
theorem z_facP3 {w0 W : World} {g d : Nat} {v : Value} {ts : List S51} {ns : List S49} {deep : Int} (hF : Aside0 (FacC w0 g d)) (hd : deep + 1 + d = 12) (hd0 : 0 ≤ deep) (S : Aside0 (St1 w0 g v ts ns 0 W)) (hn : Aside0 (ns.length + ts.length ≤ 1000000)) (HQ : Aside0 (nx ts (sgn 45) = false)) {p : S51} {r : List S51} {y1 : Int} {y2 : ByteArray} {n : List S49} {o : Int} (HM : Aside0 (atmF (sumF (facF d)) ts ns = .ok (p :: ⟨1, y1, y2⟩ :: r, n, o))) (HP : Aside0 (nx (p :: ⟨1, y1, y2⟩ :: r) (sgn 94) = true)) (HY : Aside0 (¬ 8 < y1)) (HN3 : Aside0 (n.length ≤ 1000000)) :
    Calls Tryz.prog 40 #[.pointer (some ⟨g, 0, none⟩), .int .i64 deep] W (Post w0 g v W (facF (d + 1) ts ns)) := by
  have q1 : decide (deep ≥ 12) = false := decide_eq_false (by omega)
  have q1' : decide (12 ≤ deep) = false := decide_eq_false (by omega)
  have q0 : decide (y1 > 8) = false := decide_eq_false HY.out
  go_enter Tryz.func40, Tryz.ntmps40
  go_wp2_with (first | (go_at_call 60; refine (z_no S 45 rfl HQ.out).mono ?_; rintro e w1 ⟨rfl, v1, ⟨A1, ca1, h1⟩, m1⟩; have S1 := Aside0.mk h1; have M1 := Aside0.mk m1; clear h1 m1))
  refine (z_atom hF hd hd0 ⟨⟨A1, ca1, S1.out⟩⟩ hn).mono ?_
  rw [HM.out]
  rintro e w2 ⟨out, ts2, ns2, c2, rfl, ⟨rfl, rfl, rfl, rfl⟩, v2, ⟨A2, ca2, h2⟩, m2⟩
  have S2 := Aside0.mk h2
  have M2 := Aside0.mk (M1.out.trans m2)
  obtain ⟨_, _, f2, _⟩ := h2.cells
  clear h2 m2
  go_wp2_with (first | (go_at_call 60; refine (z_yes ⟨⟨A2, ca2, S2.out⟩⟩ 94 rfl HP.out).mono ?_; rintro e w3 ⟨rfl, v3, ⟨A3, ca3, h3⟩, m3⟩; obtain ⟨f0, _, _, k0, _, _⟩ := h3.cells; obtain ⟨ad, rfl, x0, x1, _⟩ := h3.head; obtain ⟨A5, hcut, h5, m5⟩ := h3.drop; have S5 := Aside0.mk h5; have M5 := Aside0.mk ((M2.out.trans m3).trans m5); clear h5 m5; have S3 := Aside0.mk h3; have M3 := Aside0.mk (M2.out.trans m3); clear h3 m3) | (go_at_call 58; refine (z_add ⟨⟨A5, ca3 - 1, S5.out⟩⟩ ⟨8, out, 0, y1⟩ HN3).mono ?_; rintro e w4 ⟨rfl, v4, ⟨A4, ca4, h4⟩, m4⟩; have S4 := Aside0.mk h4; have M4 := Aside0.mk (M5.out.trans m4); clear h4 m4))
  go_ret
  exact ⟨ns2.length, _, _, 0, rfl, by rw [facF]; dsimp only; rw [HQ.out, if_neg (by decide), HM.out]; dsimp only; rw [HP.out, if_pos rfl]; rw [List.tail_cons, powF, if_pos ⟨rfl, show y1 ≤ 8 from by have := HY.out; omega⟩]; exact ⟨rfl, rfl, rfl, rfl⟩, v4, ⟨A4, ca4, S4.out⟩, M4.out⟩
theorem z_factor {w0 : World} {g : Nat} : ∀ d, FacC w0 g d
  | 0 => z_fac0
  | d + 1 => by
    have hF : Aside0 (FacC w0 g d) := ⟨z_factor d⟩
    intro W v ts ns deep hd hd0 S hn
    have hd' : deep + 1 + d = 12 := by omega
    cases hq : nx ts (sgn 45) with
    | true => exact z_facN hF hd' hd0 S hn hq
    | false =>
      cases hm : atmF (sumF (facF d)) ts ns with
      | error c => exact z_facE hF hd' hd0 S hn ⟨hq⟩ ⟨hm⟩
      | ok r =>
        obtain ⟨t, n, o⟩ := r
        have HL := atmF_good (sumF_good (facF_good d)) _ _ _ _ _ hm
        cases hp : nx t (sgn 94) with
        | false => exact z_facA hF hd' hd0 S hn ⟨hq⟩ ⟨hm⟩ ⟨hp⟩
        | true =>
          cases t with
          | nil => cases hp
          | cons p t =>
            cases t with
            | nil => exact z_facP0 hF hd' hd0 S hn ⟨hq⟩ ⟨hm⟩ ⟨hp⟩
            | cons y r =>
              obtain ⟨y0, y1, y2⟩ := y
              rcases Decidable.em (y0 = 1) with rfl | hy
              · rcases Decidable.em (8 < y1) with hy | hy
                · exact z_facP2 hF hd' hd0 S hn ⟨hq⟩ ⟨hm⟩ ⟨hp⟩ ⟨hy⟩
                · exact z_facP3 hF hd' hd0 S hn ⟨hq⟩ ⟨hm⟩ ⟨hp⟩ ⟨hy⟩ ⟨by have := hn.out; omega⟩
              · exact z_facP1 hF hd' hd0 S hn ⟨hq⟩ ⟨hm⟩ ⟨hp⟩ ⟨hy⟩
end Go.Proofs.YtbphhccpkngfoaaGreatDoor.Q
