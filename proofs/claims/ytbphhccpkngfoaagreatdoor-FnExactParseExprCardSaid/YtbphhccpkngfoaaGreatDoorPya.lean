-- several texts of this claim in one
import Derived.Test.YtbphhccpkngfoaaGreatDoorPza
import Derived.Test.YtbphhccpkngfoaaGreatDoorQsm
namespace Go.Proofs.YtbphhccpkngfoaaGreatDoor.Q
open Go.RowKit Go.Proofs.YtbphhccpkngfoaaGreatDoorW.PrintWords Go.Proofs.YtbphhccpkngfoaaGreatDoorW.PrintLast Go.Proofs.YtbphhccpkngfoaaGreatDoorW.PrintMore
set_option linter.unusedVariables false
set_option linter.unusedSimpArgs false
/-- The parser in its box g: all tokens, the place of the next one, the nodes (a row v of its own), the code. -/
structure StS (w0 : World) (g : Nat) (A : Option Addr) (ca : Nat) (L : List S51) (v : Value) (at_ : Int) (ns : List S49) (c : Int) (W : World) : Prop where
  bl : Below w0.heap.size w0 W
  lo : w0.heap.size ≤ g
  blk : W.heap[g]? = some (.cells #[.slice A L.length ca, .int .i64 at_, v, .int .i64 c] 38 (0, 0))
  p0 : 0 ≤ at_
  left : Kd.F k51 W (fun k => k ≠ g ∧ some k ≠ v.ownBlock) A L.length L
  nodes : Kd.R k49 49 W w0.heap.size (fun k => k ≠ g) v ns
section
variable {w0 W W1 W2 : World} {g ca : Nat} {A : Option Addr} {v v1 v2 : Value} {L : List S51} {ns : List S49} {at_ c : Int}
theorem StS.below (h : StS w0 g A ca L v at_ ns c W) (hb : Below W.heap.size W W1) : StS w0 g A ca L v at_ ns c W1 :=
  ⟨below_step h.bl hb, h.lo, blk_below h.blk hb, h.p0, Kd.F_below h.left hb, Kd.R_below h.nodes hb⟩
theorem StS.cells (h : StS w0 g A ca L v at_ ns c W) : W.cell? ⟨g, 0, none⟩ = some (.slice A L.length ca) ∧ W.cell? ⟨g, 1, none⟩ = some (.int .i64 at_) ∧ W.cell? ⟨g, 2, none⟩ = some v ∧ W.cell? ⟨g, 3, none⟩ = some (.int .i64 c) ∧ W.frozen? ⟨g, 1, none⟩ = false ∧ W.frozen? ⟨g, 2, none⟩ = false ∧ W.frozen? ⟨g, 3, none⟩ = false :=
  ⟨(blk_cell h.blk 0).trans rfl, (blk_cell h.blk 1).trans rfl, (blk_cell h.blk 2).trans rfl, (blk_cell h.blk 3).trans rfl, blk_frozen h.blk 1, blk_frozen h.blk 2, blk_frozen h.blk 3⟩
/-- The place or the code has been written. -/
theorem StS.put {at' c' : Int} {j : Nat} {u : Value} (h : StS w0 g A ca L v at_ ns c W) (hp : 0 ≤ at') (hb : (W.setCell ⟨g, j, none⟩ u).heap[g]? = some (.cells #[.slice A L.length ca, .int .i64 at', v, .int .i64 c'] 38 (0, 0))) :
    StS w0 g A ca L v at' ns c' (W.setCell ⟨g, j, none⟩ u) ∧ Mv g v v W (W.setCell ⟨g, j, none⟩ u) :=
  ⟨⟨below_set h.bl h.lo, h.lo, hb, hp, Kd.F_far (p := ⟨g, j, none⟩) h.left (fun k hk => hk.1) u, Kd.R_far (p := ⟨g, j, none⟩) h.nodes (fun k hk => hk) u⟩,
    ⟨by simp, fun k _ hg _ => Below.heap_setCell W ⟨g, j, none⟩ u k hg, .inl rfl⟩⟩
theorem StS.adv (h : StS w0 g A ca L v at_ ns c W) : StS w0 g A ca L v (at_ + 1) ns c (W.setCell ⟨g, 1, none⟩ (.int .i64 (at_ + 1))) ∧ Mv g v v W (W.setCell ⟨g, 1, none⟩ (.int .i64 (at_ + 1))) :=
  h.put (by have := h.p0; omega) (blk_put (cs := #[.slice A L.length ca, .int .i64 at_, v, .int .i64 c]) h.blk 1 _ rfl)
theorem StS.code (h : StS w0 g A ca L v at_ ns c W) (c' : Int) : StS w0 g A ca L v at_ ns c' (W.setCell ⟨g, 3, none⟩ (.int .i64 c')) ∧ Mv g v v W (W.setCell ⟨g, 3, none⟩ (.int .i64 c')) :=
  h.put h.p0 (blk_put (cs := #[.slice A L.length ca, .int .i64 at_, v, .int .i64 c]) h.blk 3 _ rfl)
/-- The token at the place. -/
theorem StS.head (h : StS w0 g A ca L v at_ ns c W) (hl : at_ < (L.length : Int)) : ∃ ad, A = some ad ∧ ∃ x, L.drop at_.toNat = x :: L.drop (at_ + 1).toNat ∧ W.cell? (ad.add (at_.toNat * 3)) = some (.int .i64 x.f0) ∧ W.cell? ⟨(ad.add (at_.toNat * 3)).block, (ad.add (at_.toNat * 3)).off + 1, none⟩ = some (.int .i64 x.f1) ∧ W.cell? ⟨(ad.add (at_.toNat * 3)).block, (ad.add (at_.toNat * 3)).off + 2, none⟩ = some (.string x.f2) := by
  have hp := h.p0
  obtain ⟨ad, e, h0, h1, h2⟩ := at_T51 (Kd.F_now h.left) at_ hp hl
  refine ⟨ad, e, rd_T51 L at_, ?_, h0, h1, h2⟩
  rw [List.drop_eq_getElem_cons (by omega), show (at_ + 1).toNat = at_.toNat + 1 from by omega]
  congr 1
  unfold rd_T51
  rw [List.getD_eq_getElem?_getD, List.getElem?_eq_getElem (by omega)]
  rfl
theorem StS.end_ (hl : ¬ at_ < (L.length : Int)) : L.drop at_.toNat = [] := List.drop_eq_nil_of_le (by omega)
end
/-- Whether the next token is the sign s, as the reference asks. -/
def nxs (ts : List S51) (s : ByteArray) : Bool := match ts with
  | [] => false
  | x :: _ => x.f0 == 3 && x.f2.toList == s.toList
set_option maxHeartbeats 4000000 in
set_option maxRecDepth 100000 in
theorem s_is {w0 W : World} {g ca : Nat} {A : Option Addr} {v : Value} {L : List S51} {at_ : Int} {ns : List S49} {c : Int} (S : Aside0 (StS w0 g A ca L v at_ ns c W)) (s : ByteArray) :
    Calls Tryz.prog 27 #[.pointer (some ⟨g, 0, none⟩), .string s] W fun e W' => e = .returned (.bool (nxs (L.drop at_.toNat) s)) ∧ Below W.heap.size W W' := by
  obtain ⟨f0, f1, _⟩ := S.out.cells
  have hp := S.out.p0
  rcases Decidable.em (at_ < (L.length : Int)) with hl | hl
  · obtain ⟨ad, rfl, x, hd, x0, x1, x2⟩ := S.out.head hl
    have q0 : decide (at_ < (L.length : Int)) = true := decide_eq_true hl
    have HD := Aside0.mk hd
    replace hp := eq_true hp
    replace hl := eq_true hl
    clear hd
    rcases Decidable.em (x.f0 = 3) with h3 | h3
    · have q3 : (x.f0 == 3) = true := beq_iff_eq.2 h3
      clear h3
      go_enter Tryz.func27, Tryz.ntmps27
      go_wp2
      repeat (go_quiet (fail); try go_wp2)
      go_ret
      exact ⟨by rw [HD.out, nxs, q3, Bool.true_and]; rfl, by first | exact Below.refl _ _ | exact below_drew (Below.refl _ _) | exact pw_below_drewN (Below.refl _ _) _⟩
    · have q3 : (x.f0 == 3) = false := beq_eq_false_iff_ne.2 h3
      clear h3
      go_enter Tryz.func27, Tryz.ntmps27
      go_wp2
      repeat (go_quiet (fail); try go_wp2)
      go_ret
      exact ⟨by rw [HD.out, nxs, q3, Bool.false_and]; rfl, by first | exact Below.refl _ _ | exact below_drew (Below.refl _ _) | exact pw_below_drewN (Below.refl _ _) _⟩
  · have q0 : decide (at_ < (L.length : Int)) = false := decide_eq_false hl
    have HD := Aside0.mk (StS.end_ hl)
    clear hl hp
    go_enter Tryz.func27, Tryz.ntmps27
    go_wp2
    repeat (go_quiet (fail); try go_wp2)
    go_ret
    exact ⟨by rw [HD.out]; rfl, by first | exact Below.refl _ _ | exact below_drew (Below.refl _ _) | exact pw_below_drewN (Below.refl _ _) _⟩
set_option maxHeartbeats 4000000 in
set_option maxRecDepth 100000 in
theorem s_fail {w0 W : World} {g ca : Nat} {A : Option Addr} {v : Value} {L : List S51} {at_ : Int} {ns : List S49} {c : Int} (S : Aside0 (StS w0 g A ca L v at_ ns c W)) (kk : Int) :
    Calls Tryz.prog 17 #[.pointer (some ⟨g, 0, none⟩), .int .i64 kk] W fun e W' => e = .returned (.tuple #[]) ∧ StS w0 g A ca L v at_ ns (if c = 0 then kk else c) W' ∧ Mv g v v W W' := by
  obtain ⟨_, _, _, f3, _, _, k3⟩ := S.out.cells
  rcases Decidable.em (c = 0) with rfl | hc
  · have R := Aside0.mk (S.out.code kk)
    go_enter Tryz.func17, Tryz.ntmps17
    go_wp2
    first | go_end0 | ((try simp only [Exit.inBlock, Exit.then]); refine bodyPost_ret (results_none rfl _ _ _) rfl ?_)
    exact ⟨rfl, by first | exact R.out.1 | (rw [if_pos rfl]; exact R.out.1), R.out.2⟩
  · have q : (c == 0) = false := beq_eq_false_iff_ne.2 hc
    have HC := Aside0.mk hc
    go_enter Tryz.func17, Tryz.ntmps17
    go_wp2
    first | go_end0 | ((try simp only [Exit.inBlock, Exit.then]); refine bodyPost_ret (results_none rfl _ _ _) rfl ?_)
    exact ⟨rfl, by first | exact S.out | (rw [if_neg HC.out]; exact S.out), Mv.refl _ _ _⟩
theorem bc4s {W : World} {g t : Nat} {v0 v1 v2 v3 : Value} (h : W.heap[g]? = some (.cells #[v0, v1, v2, v3] t (0, 0))) : W.cell? ⟨g, 0, none⟩ = some v0 ∧ W.cell? ⟨g, 1, none⟩ = some v1 ∧ W.cell? ⟨g, 2, none⟩ = some v2 ∧ W.cell? ⟨g, 3, none⟩ = some v3 :=
  ⟨(blk_cell h 0).trans rfl, (blk_cell h 1).trans rfl, (blk_cell h 2).trans rfl, (blk_cell h 3).trans rfl⟩
theorem StS.grow {w0 W W1 : World} {g ca : Nat} {A : Option Addr} {v v1 : Value} {L : List S51} {at_ : Int} {ns ns' : List S49} {c : Int} (h : StS w0 g A ca L v at_ ns c W) (ho : Kd.R k49 49 W1 w0.heap.size (fun k => k ≠ g) v1 ns') (hb : Below w0.heap.size W W1) (hgr : W.grownBy W1 v.ownBlock) (hat : v1.ownBlock = v.ownBlock ∨ ∃ b, v1.ownBlock = some b ∧ W.heap.size ≤ b) :
    W1.cell? ⟨g, 2, none⟩ = some v ∧ W1.frozen? ⟨g, 2, none⟩ = false ∧ StS w0 g A ca L v1 at_ ns' c (W1.setCell ⟨g, 2, none⟩ v1) ∧ Mv g v v1 W (W1.setCell ⟨g, 2, none⟩ v1) := by
  have hne : some g ≠ v.ownBlock := fun e => h.nodes.1 g e.symm rfl
  have hblk := blk_grown h.blk hgr hne
  refine ⟨(blk_cell hblk 2).trans rfl, blk_frozen hblk 2, ⟨below_set (h.bl.trans hb) h.lo, h.lo, blk_put (cs := #[.slice A L.length ca, .int .i64 at_, v, .int .i64 c]) hblk 2 _ rfl, h.p0, ?_, ?_⟩, ?_⟩
  · exact Kd.F_far (p := ⟨g, 2, none⟩) (Kd.F_after h.left hgr hat) (fun k hk => hk.1) v1
  · exact Kd.R_far (p := ⟨g, 2, none⟩) ho (fun k hk => hk) v1
  · exact ⟨by simpa using hb.size, fun k hk hg hv => (Below.heap_setCell W1 ⟨g, 2, none⟩ v1 k hg).trans (hgr.block k hk hv), hat⟩
set_option maxHeartbeats 4000000 in
set_option maxRecDepth 100000 in
theorem s_add {w0 W : World} {g ca : Nat} {A : Option Addr} {v : Value} {L : List S51} {at_ : Int} {ns : List S49} {c : Int} (S : Aside0 (StS w0 g A ca L v at_ ns c W)) (x : S49) (hn : Aside0 (ns.length ≤ 1000000)) :
    Calls Tryz.prog 29 #[.pointer (some ⟨g, 0, none⟩), .agg #[.int .i64 x.f0, .int .i64 x.f1, .int .i64 x.f2, .int .i64 x.f3]] W fun e W' => e = .returned (.int .i64 ns.length) ∧ ∃ v', StS w0 g A ca L v' at_ (ns ++ [x]) c W' ∧ Mv g v v' W W' := by
  have hu22 := Tryz.underlying22
  go_enter Tryz.func29, Tryz.ntmps29
  go_wp2_with (first | ((with_reducible refine gate_dst (N := 3) rfl ?_); refine bx_ (N := 3) (cs := #[.int .i64 x.f0, .int .i64 x.f1, .int .i64 x.f2, .int .i64 x.f3]) (t := 49) ?_; intro gb hg w3 hbox hb; have HB := Aside0.mk hb; have S2 := Aside0.mk (S.out.below hb); obtain ⟨_, _, f1, _, _, k1, _⟩ := S2.out.cells; obtain ⟨b0, b1, b2, b3⟩ := bc4s hbox; clear hbox hb hg))
  have HD := Aside0.mk (S2.out.below (below_drew (Below.refl w3.heap.size w3)))
  have f1a : (w3.alloc (.cells #[.int .i64 x.f0, .int .i64 x.f1, .int .i64 x.f2, .int .i64 x.f3] 49)).cell? ⟨g, 2, none⟩ = some v := ((below_alloc (Below.refl w3.heap.size w3) _).cell (p := ⟨g, 2, none⟩) (blk_lt S2.out.blk)).trans f1
  go_region_law ((refine Kd.R_append_step k49 (w0 := w3.drew) w0.heap.size (by rfl) (.tmp 9) (.tmp 11) 22 49 (.agg #[.int .i64 0, .int .i64 0, .int .i64 0, .int .i64 0]) 32 (by rfl) hu22 info49 rfl (by decide) (by decide) v ns x [.int .i64 x.f0, .int .i64 x.f1, .int .i64 x.f2, .int .i64 x.f3] (fun k => k ≠ g) (fun _ => False) (by rfl) (by rfl) (k49_mkM _ _ _ x) (fun _ h => h.elim) (fun k hk e => Nat.lt_irrefl _ (Nat.lt_of_lt_of_le (e ▸ blk_lt HD.out.blk) hk)) HD.out.nodes (Below.refl _ _) (below_size HD.out.bl) (by have := hn.out; omega) ?_; intro v1 w4 ho hb hgr hat; obtain ⟨A1, c1, rfl⟩ := Kd.R_slice ho; obtain ⟨f4, k4, h5, h6⟩ := HD.out.grow ho hb hgr hat; rw [show (ns ++ [x]).length = ns.length + 1 from by simp] at h5 h6; have R5 := Aside0.mk h5; have R6 := Aside0.mk h6; clear ho hb hgr hat h5 h6))
  all_goals (go_wp2; go_ret; exact ⟨by (have := hn.out; simp only [List.length_append, List.length_cons, List.length_nil, Ending.returned.injEq, Value.int.injEq, true_and]; first | (unfold wrap64; omega) | (simp; unfold wrap64; omega)), _, R5.out, (Mv.of_below g v (below_step HB.out (below_drew (Below.refl _ _)))).trans R6.out⟩)
/-- Tokens as the lexer tells them. -/
def TkL (L : List S51) : Prop := L.length ≤ 1000000 ∧ ∀ x ∈ L, x.f0 = 3 ∨ ((x.f0 = 1 ∨ x.f0 = 2) ∧ x.f2.toList = [])
theorem sgn_list (b : Int) : (sgn b).toList = [b.toNat.toUInt8] := by rw [Lib.toList_data]; rfl
theorem nxs_nx {L : List S51} (hL : TkL L) (n : Nat) (b : Int) : nxs (L.drop n) (sgn b) = nx (L.drop n) (sgn b) := by
  have hm : ∀ x ∈ L.drop n, x ∈ L := fun x h => List.mem_of_mem_drop h
  generalize L.drop n = ts at hm
  cases ts with
  | nil => rfl
  | cons x xs =>
    rcases hL.2 x (hm x (by simp)) with h | ⟨h, h2⟩
    · simp [nxs, nx, h]
    · have h3 : (x.f0 == 3) = false := beq_eq_false_iff_ne.2 (by omega)
      simp only [nxs, nx, h3, h2, sgn_list, Bool.false_and]
      rfl
/-- A state that goes with an answer. -/
def SaysS (m : PRes) (L : List S51) (lim d : Nat) (at_ : Int) (ns : List S49) (c out : Int) : Prop := match m with
  | .error k => c = k ∧ k ≠ 0 ∧ ns.length ≤ lim ∧ at_ ≤ (L.length : Int) + d
  | .ok (t, n, o) => L.drop at_.toNat = t ∧ at_ ≤ (L.length : Int) ∧ ns = n ∧ c = 0 ∧ out = o
/-- What a reading method leaves. -/
def PostS (w0 : World) (g : Nat) (A : Option Addr) (ca : Nat) (L : List S51) (v : Value) (W : World) (lim d : Nat) (m : PRes) (e : Ending) (W' : World) : Prop := ∃ (out at_ : Int) (ns : List S49) (c : Int) (v' : Value), e = .returned (.int .i64 out) ∧ SaysS m L lim d at_ ns c out ∧ StS w0 g A ca L v' at_ ns c W' ∧ Mv g v v' W W'
/-- A method that reads a part. -/
def PartS (w0 : World) (g : Nat) (A : Option Addr) (ca : Nat) (L : List S51) (fid d : Nat) (m : PFun) : Prop :=
  ∀ (W : World) (v : Value) (at_ : Int) (ns : List S49) (room : Int), room = d → Aside0 (StS w0 g A ca L v at_ ns 0 W) → Aside0 (at_ ≤ (L.length : Int)) → Aside0 (ns.length + (L.drop at_.toNat).length ≤ 1000000) → Calls Tryz.prog fid #[.pointer (some ⟨g, 0, none⟩), .int .i64 room] W (PostS w0 g A ca L v W (ns.length + (L.drop at_.toNat).length) d (m (L.drop at_.toNat) ns))
/-- How much the parser still has before it. -/
def zms (g : Nat) (W : World) : Nat := match W.cell? ⟨g, 0, none⟩, W.cell? ⟨g, 1, none⟩, W.cell? ⟨g, 3, none⟩ with
  | some (.slice _ n _), some (.int _ a), some (.int _ c) => if c = 0 then n + 1 - a.toNat else 0
  | _, _, _ => 0
theorem StS.zms {w0 W : World} {g ca : Nat} {A : Option Addr} {v : Value} {L : List S51} {at_ : Int} {ns : List S49} {c : Int} (h : StS w0 g A ca L v at_ ns c W) : zms g W = if c = 0 then L.length + 1 - at_.toNat else 0 := by
  obtain ⟨f0, f1, _, f3, _⟩ := h.cells
  unfold Q.zms
  rw [f0, f1, f3]
/-- Where the loop stands. -/
def ChS (w0 : World) (g : Nat) (A : Option Addr) (ca : Nat) (L : List S51) (v : Value) (W : World) (lim d : Nat) (b0 b1 o0 o1 : Int) (part : PFun) (goal : PRes) (out : Int) (wr : World) : Prop :=
  ∃ (at_ : Int) (ns : List S49) (c : Int) (v' : Value), StS w0 g A ca L v' at_ ns c wr ∧ Mv g v v' W wr ∧ ((c ≠ 0 ∧ goal = .error c ∧ ns.length ≤ lim ∧ at_ ≤ (L.length : Int) + d) ∨ (c = 0 ∧ at_ ≤ (L.length : Int) ∧ ns.length + (L.drop at_.toNat).length ≤ lim ∧ ∃ k, (L.drop at_.toNat).length ≤ k ∧ goal = chLoop b0 b1 o0 o1 part k out (L.drop at_.toNat) ns))
/-- Behind the first part. -/
theorem ChS.start {w0 W w1 : World} {g ca : Nat} {A : Option Addr} {v v1 : Value} {L : List S51} {d : Nat} {b0 b1 o0 o1 : Int} {part : PFun} {ts : List S51} {ns : List S49} (hg : Good part) {out at1 : Int} {ns1 : List S49} {c1 : Int} (hs : SaysS (part ts ns) L (ns.length + ts.length) d at1 ns1 c1 out) (h1 : StS w0 g A ca L v1 at1 ns1 c1 w1) (m1 : Mv g v v1 W w1) :
    ChS w0 g A ca L v W (ns.length + ts.length) d b0 b1 o0 o1 part (chF b0 b1 o0 o1 part ts ns) out w1 := by
  refine ⟨at1, ns1, c1, v1, h1, m1, ?_⟩
  unfold chF
  cases hp : part ts ns with
  | error k =>
    rw [hp] at hs
    obtain ⟨rfl, hk, hl, ha⟩ := hs
    exact .inl ⟨hk, rfl, hl, ha⟩
  | ok r =>
    obtain ⟨t, n, o⟩ := r
    rw [hp] at hs
    obtain ⟨rfl, ha, rfl, rfl, rfl⟩ := hs
    have := hg _ _ _ _ _ hp
    exact .inr ⟨rfl, ha, by omega, _, Nat.le_refl _, rfl⟩
theorem drop_adv {L : List S51} {at_ : Int} (hp : 0 ≤ at_) : L.drop (at_ + 1).toNat = (L.drop at_.toNat).tail := by
  rw [List.tail_drop, show (at_ + 1).toNat = at_.toNat + 1 from by omega]
theorem chLoop_done' {b0 b1 o0 o1 : Int} {part : PFun} {ts : List S51} {ns : List S49} (h0 : nx ts (sgn b0) = false) (h1 : nx ts (sgn b1) = false) (out : Int) : ∀ k, chLoop b0 b1 o0 o1 part k out ts ns = .ok (ts, ns, out)
  | 0 => rfl
  | k + 1 => by
    have hi : idx2 ts b0 b1 = -1 := by unfold idx2; rw [h0, h1]; rfl
    rw [chLoop, hi, if_pos (by decide)]
theorem nx_two {ts : List S51} {b0 b1 : Int} (h : nx ts (sgn b0) = true) (hne : (sgn b0).toList ≠ (sgn b1).toList) : nx ts (sgn b1) = false := by
  cases ts with
  | nil => rfl
  | cons x xs =>
    have h0 : x.f2.toList = (sgn b0).toList := by simpa [nx] using h
    simp only [nx, h0]
    exact beq_eq_false_iff_ne.2 hne
theorem chLoop_yes {b0 b1 o0 o1 out : Int} {part : PFun} {ts : List S51} {ns : List S49} {k : Nat} {i : Int} (hi : idx2 ts b0 b1 = i) (h0 : ¬ i < 0) (hk : ts.length ≤ k) :
    ∃ k', ts.tail.length ≤ k' ∧ chLoop b0 b1 o0 o1 part k out ts ns = (match part ts.tail ns with
      | .error c => .error c
      | .ok (t, n, b) => chLoop b0 b1 o0 o1 part k' n.length t (n ++ [⟨if i = 0 then o0 else o1, out, b, 0⟩])) := by
  have hl := idx2_len (ts := ts) (b0 := b0) (b1 := b1) (by rw [hi]; exact h0)
  cases k with
  | zero => omega
  | succ k => exact ⟨k, by omega, by rw [chLoop, hi, if_neg h0]; rfl⟩
theorem bit_t : spec_l01Bit.f true = some 1 := rfl
theorem bit_f : spec_l01Bit.f false = some 0 := rfl
set_option maxHeartbeats 16000000 in
set_option maxRecDepth 100000 in
theorem s_product {w0 : World} {g ca d : Nat} {A : Option Addr} {L : List S51} {part : PFun} (hpart : Aside0 (PartS w0 g A ca L 47 d part)) (hgood : Aside0 (Good part)) (hL : Aside0 (TkL L)) : PartS w0 g A ca L 26 d (chF 42 47 5 6 part) := by
  intro W v at_ ns room hroom S hat hn
  subst hroom
  go_enter Tryz.func26, Tryz.ntmps26
  go_wp2_with (first | (go_at_call 47; refine (hpart.out _ v at_ ns _ rfl S hat hn).mono ?_; rintro e w1 ⟨out, at1, ns1, c1, v1, rfl, hs, h1, m1⟩; have HC := Aside0.mk (ChS.start (b0 := 42) (b1 := 47) (o0 := 5) (o1 := 6) hgood.out hs h1 m1); clear hs h1 m1))
  go_loopw [5] (fun v5 wr => ∃ out : Int, v5 = .int .i64 out ∧ Aside0 (ChS w0 g A ca L v W (ns.length + (L.drop at_.toNat).length) d 42 47 5 6 part (chF 42 47 5 6 part (L.drop at_.toNat) ns) out wr)) (fun _ wr => zms g wr)
  case atStart => exact ⟨out, rfl, HC⟩
  case round =>
    clear HC
    obtain ⟨out, rfl, hCI⟩ := hrel
    obtain ⟨at1, ns1, c1, v1, hst, hmv, hk⟩ := hCI.out
    obtain ⟨f0, f1, f2, f3, k1, k2, k3⟩ := hst.cells
    have CUR := Aside0.mk hst
    have MV := Aside0.mk hmv
    clear hst hmv hCI
    rcases hk with ⟨hc, hg, hl, ha⟩ | ⟨rfl, ha, hn1, k, hk, hg⟩
    · have q1 : (c1 == 0) = false := beq_eq_false_iff_ne.2 hc
      have HG := Aside0.mk (And.intro hg (And.intro hc (And.intro hl ha)))
      clear hg hl ha
      go_wp2
      go_ret
      refine ⟨out, at1, ns1, c1, v1, rfl, ?_, CUR.out, MV.out⟩
      rw [HG.out.1]
      exact ⟨rfl, HG.out.2.1, HG.out.2.2.1, HG.out.2.2.2⟩
    · have hp0 := CUR.out.p0
      have ZW := Aside0.mk (StS.zms CUR.out)
      rw [if_pos rfl] at ZW
      have hLl := hL.out.1
      have e0 : nxs (L.drop at1.toNat) ⟨#[42]⟩ = nx (L.drop at1.toNat) (sgn 42) := nxs_nx hL.out at1.toNat 42
      have e1 : nxs (L.drop at1.toNat) ⟨#[47]⟩ = nx (L.drop at1.toNat) (sgn 47) := nxs_nx hL.out at1.toNat 47
      have hne : (sgn 42).toList ≠ (sgn 47).toList := by rw [sgn_list, sgn_list]; decide
      rcases Bool.eq_false_or_eq_true (nx (L.drop at1.toNat) (sgn 42)) with h0 | h0
      · have E0 := Aside0.mk (e0.trans h0)
        have E1 := Aside0.mk (e1.trans (nx_two h0 hne))
        have hlt : at1 < (L.length : Int) := by
          rcases Decidable.em (at1 < (L.length : Int)) with h | h
          · exact h
          · rw [StS.end_ h] at h0
            cases h0
        have hi : idx2 (L.drop at1.toNat) 42 47 = 0 := by unfold idx2; rw [h0]; rfl
        obtain ⟨k', hk', hg'⟩ := chLoop_yes (out := out) (o0 := 5) (o1 := 6) (part := part) (ns := ns1) hi (by decide) hk
        have HG := Aside0.mk (hg.trans hg')
        have hl := nx_len h0
        rw [← drop_adv hp0] at hl hk' hg'
        have HD := Aside0.mk (drop_adv (L := L) hp0)
        have HN2 : Aside0 (ns1.length + (L.drop (at1 + 1).toNat).length ≤ 1000000) := ⟨by have := hn.out; omega⟩
        have HN3 : Aside0 (ns1.length + (L.drop (at1 + 1).toNat).length + 1 ≤ ns.length + (L.drop at_.toNat).length) := ⟨by omega⟩
        have HA : Aside0 (at1 + 1 ≤ (L.length : Int)) := ⟨by omega⟩
        have HK := Aside0.mk hk'
        have HZ : Aside0 (L.length + 1 - (at1 + 1).toNat < L.length + 1 - at1.toNat) := ⟨by omega⟩
        have HP := Aside0.mk hp0
        have w1 : wrap64 (at1 + 1) = at1 + 1 := by unfold wrap64; omega
        clear hg hk e0 e1 h0  hne hn1 hp0 hlt hi hk' hg' hl hLl ha
        cases hp : part (L.drop (at1 + 1).toNat) ns1 with
        | error kk =>
          go_wp2_with (first | (go_at_call 27; refine (s_is CUR _).mono ?_; (first | rw [E0.out] | rw [E1.out]); rintro e wi ⟨rfl, hb⟩; replace CUR := Aside0.mk (CUR.out.below hb); replace MV := Aside0.mk (MV.out.trans (Mv.of_below g v1 hb)); clear f0 f1 f2 f3 k1 k2 k3; obtain ⟨f0, f1, f2, f3, k1, k2, k3⟩ := CUR.out.cells; clear hb) | (go_at_call 28; refine (spec_l01Bit.calls _ 0 _ bit_f).mono ?_; rintro e wi ⟨rfl, hb⟩; replace CUR := Aside0.mk (CUR.out.below hb.below); replace MV := Aside0.mk (MV.out.trans (Mv.of_below g v1 hb.below)); clear f0 f1 f2 f3 k1 k2 k3; obtain ⟨f0, f1, f2, f3, k1, k2, k3⟩ := CUR.out.cells; have R1 := Aside0.mk CUR.out.adv.1; have R2 := Aside0.mk (MV.out.trans CUR.out.adv.2); clear hb) | (go_at_call 47; refine (hpart.out _ v1 (at1 + 1) ns1 _ rfl R1 HA HN2).mono ?_; rw [hp]; rintro e w5 ⟨out2, at2, ns2, c2, v2, rfl, ⟨rfl, hc2, hl2, ha2⟩, h2, m2⟩; have S2 := Aside0.mk h2; have M2 := Aside0.mk (R2.out.trans m2); have HC2 := Aside0.mk hc2; have HL2 := Aside0.mk hl2; have HA2 := Aside0.mk ha2; have HN4 : Aside0 (ns2.length ≤ 1000000) := ⟨by have := HN2.out; omega⟩; clear h2 m2 hc2 hl2 ha2) | (go_at_call 29; refine (s_add S2 ⟨_, out, out2, 0⟩ HN4).mono ?_; rintro e w6 ⟨rfl, v3, h3, m3⟩; have S3 := Aside0.mk h3; have M3 := Aside0.mk (M2.out.trans m3); clear h3 m3))
          go_roundw
          case rel =>
            refine ⟨((ns2.length : Nat) : Int), rfl, ⟨at2, _, c2, v3, S3.out, M3.out, .inl ⟨HC2.out, ?_, ?_, HA2.out⟩⟩⟩
            · rw [HG.out, ← HD.out, hp]
            · have h1 := HN3.out
              have h2 := HL2.out
              simp only [List.length_append, List.length_cons, List.length_nil]
              omega
          case measure =>
            rw [StS.zms S3.out, ZW.out, if_neg HC2.out]
            have := HZ.out
            omega
        | ok r =>
          obtain ⟨t2, n2, b2⟩ := r
          have HL := Aside0.mk (hgood.out _ _ _ _ _ hp)
          go_wp2_with (first | (go_at_call 27; refine (s_is CUR _).mono ?_; (first | rw [E0.out] | rw [E1.out]); rintro e wi ⟨rfl, hb⟩; replace CUR := Aside0.mk (CUR.out.below hb); replace MV := Aside0.mk (MV.out.trans (Mv.of_below g v1 hb)); clear f0 f1 f2 f3 k1 k2 k3; obtain ⟨f0, f1, f2, f3, k1, k2, k3⟩ := CUR.out.cells; clear hb) | (go_at_call 28; refine (spec_l01Bit.calls _ 0 _ bit_f).mono ?_; rintro e wi ⟨rfl, hb⟩; replace CUR := Aside0.mk (CUR.out.below hb.below); replace MV := Aside0.mk (MV.out.trans (Mv.of_below g v1 hb.below)); clear f0 f1 f2 f3 k1 k2 k3; obtain ⟨f0, f1, f2, f3, k1, k2, k3⟩ := CUR.out.cells; have R1 := Aside0.mk CUR.out.adv.1; have R2 := Aside0.mk (MV.out.trans CUR.out.adv.2); clear hb) | (go_at_call 47; refine (hpart.out _ v1 (at1 + 1) ns1 _ rfl R1 HA HN2).mono ?_; rw [hp]; rintro e w5 ⟨out2, at2, ns2, c2, v2, rfl, ⟨rfl, ha2, rfl, rfl, rfl⟩, h2, m2⟩; have S2 := Aside0.mk h2; have M2 := Aside0.mk (R2.out.trans m2); have HA2 := Aside0.mk ha2; have HN4 : Aside0 (ns2.length ≤ 1000000) := ⟨by have h1 := HN2.out; have h2 := HL.out.1; omega⟩; clear h2 m2 ha2) | (go_at_call 29; refine (s_add S2 ⟨_, out, out2, 0⟩ HN4).mono ?_; rintro e w6 ⟨rfl, v3, h3, m3⟩; have S3 := Aside0.mk h3; have M3 := Aside0.mk (M2.out.trans m3); clear h3 m3))
          go_roundw
          case rel =>
            refine ⟨((ns2.length : Nat) : Int), rfl, ⟨at2, _, 0, v3, S3.out, M3.out, .inr ⟨rfl, HA2.out, ?_, k', ?_, ?_⟩⟩⟩
            · have h1 := HN3.out
              have h2 := HL.out.1
              simp only [List.length_append, List.length_cons, List.length_nil]
              omega
            · have h1 := HK.out
              have h2 := HL.out.2
              omega
            · rw [HG.out, ← HD.out, hp]
              rfl
          case measure =>
            rw [StS.zms S3.out, ZW.out, if_pos rfl]
            have h1 := HL.out.2
            have h2 := HA2.out
            have h3 := S3.out.p0
            have h4 := HA.out
            have h5 := HP.out
            simp only [List.length_drop] at h1
            omega
      · rcases Bool.eq_false_or_eq_true (nx (L.drop at1.toNat) (sgn 47)) with h1 | h1
        · have E0 := Aside0.mk (e0.trans h0)
          have E1 := Aside0.mk (e1.trans h1)
          have hlt : at1 < (L.length : Int) := by
            rcases Decidable.em (at1 < (L.length : Int)) with h | h
            · exact h
            · rw [StS.end_ h] at h1
              cases h1
          have hi : idx2 (L.drop at1.toNat) 42 47 = 1 := by unfold idx2; rw [h0, h1]; rfl
          obtain ⟨k', hk', hg'⟩ := chLoop_yes (out := out) (o0 := 5) (o1 := 6) (part := part) (ns := ns1) hi (by decide) hk
          have HG := Aside0.mk (hg.trans hg')
          have hl := nx_len h1
          rw [← drop_adv hp0] at hl hk' hg'
          have HD := Aside0.mk (drop_adv (L := L) hp0)
          have HN2 : Aside0 (ns1.length + (L.drop (at1 + 1).toNat).length ≤ 1000000) := ⟨by have := hn.out; omega⟩
          have HN3 : Aside0 (ns1.length + (L.drop (at1 + 1).toNat).length + 1 ≤ ns.length + (L.drop at_.toNat).length) := ⟨by omega⟩
          have HA : Aside0 (at1 + 1 ≤ (L.length : Int)) := ⟨by omega⟩
          have HK := Aside0.mk hk'
          have HZ : Aside0 (L.length + 1 - (at1 + 1).toNat < L.length + 1 - at1.toNat) := ⟨by omega⟩
          have HP := Aside0.mk hp0
          have w1 : wrap64 (at1 + 1) = at1 + 1 := by unfold wrap64; omega
          clear hg hk e0 e1 h0 h1 hne hn1 hp0 hlt hi hk' hg' hl hLl ha
          cases hp : part (L.drop (at1 + 1).toNat) ns1 with
          | error kk =>
            go_wp2_with (first | (go_at_call 27; refine (s_is CUR _).mono ?_; (first | rw [E0.out] | rw [E1.out]); rintro e wi ⟨rfl, hb⟩; replace CUR := Aside0.mk (CUR.out.below hb); replace MV := Aside0.mk (MV.out.trans (Mv.of_below g v1 hb)); clear f0 f1 f2 f3 k1 k2 k3; obtain ⟨f0, f1, f2, f3, k1, k2, k3⟩ := CUR.out.cells; clear hb) | (go_at_call 28; refine (spec_l01Bit.calls _ 1 _ bit_t).mono ?_; rintro e wi ⟨rfl, hb⟩; replace CUR := Aside0.mk (CUR.out.below hb.below); replace MV := Aside0.mk (MV.out.trans (Mv.of_below g v1 hb.below)); clear f0 f1 f2 f3 k1 k2 k3; obtain ⟨f0, f1, f2, f3, k1, k2, k3⟩ := CUR.out.cells; have R1 := Aside0.mk CUR.out.adv.1; have R2 := Aside0.mk (MV.out.trans CUR.out.adv.2); clear hb) | (go_at_call 47; refine (hpart.out _ v1 (at1 + 1) ns1 _ rfl R1 HA HN2).mono ?_; rw [hp]; rintro e w5 ⟨out2, at2, ns2, c2, v2, rfl, ⟨rfl, hc2, hl2, ha2⟩, h2, m2⟩; have S2 := Aside0.mk h2; have M2 := Aside0.mk (R2.out.trans m2); have HC2 := Aside0.mk hc2; have HL2 := Aside0.mk hl2; have HA2 := Aside0.mk ha2; have HN4 : Aside0 (ns2.length ≤ 1000000) := ⟨by have := HN2.out; omega⟩; clear h2 m2 hc2 hl2 ha2) | (go_at_call 29; refine (s_add S2 ⟨_, out, out2, 0⟩ HN4).mono ?_; rintro e w6 ⟨rfl, v3, h3, m3⟩; have S3 := Aside0.mk h3; have M3 := Aside0.mk (M2.out.trans m3); clear h3 m3))
            go_roundw
            case rel =>
              refine ⟨((ns2.length : Nat) : Int), rfl, ⟨at2, _, c2, v3, S3.out, M3.out, .inl ⟨HC2.out, ?_, ?_, HA2.out⟩⟩⟩
              · rw [HG.out, ← HD.out, hp]
              · have h1 := HN3.out
                have h2 := HL2.out
                simp only [List.length_append, List.length_cons, List.length_nil]
                omega
            case measure =>
              rw [StS.zms S3.out, ZW.out, if_neg HC2.out]
              have := HZ.out
              omega
          | ok r =>
            obtain ⟨t2, n2, b2⟩ := r
            have HL := Aside0.mk (hgood.out _ _ _ _ _ hp)
            go_wp2_with (first | (go_at_call 27; refine (s_is CUR _).mono ?_; (first | rw [E0.out] | rw [E1.out]); rintro e wi ⟨rfl, hb⟩; replace CUR := Aside0.mk (CUR.out.below hb); replace MV := Aside0.mk (MV.out.trans (Mv.of_below g v1 hb)); clear f0 f1 f2 f3 k1 k2 k3; obtain ⟨f0, f1, f2, f3, k1, k2, k3⟩ := CUR.out.cells; clear hb) | (go_at_call 28; refine (spec_l01Bit.calls _ 1 _ bit_t).mono ?_; rintro e wi ⟨rfl, hb⟩; replace CUR := Aside0.mk (CUR.out.below hb.below); replace MV := Aside0.mk (MV.out.trans (Mv.of_below g v1 hb.below)); clear f0 f1 f2 f3 k1 k2 k3; obtain ⟨f0, f1, f2, f3, k1, k2, k3⟩ := CUR.out.cells; have R1 := Aside0.mk CUR.out.adv.1; have R2 := Aside0.mk (MV.out.trans CUR.out.adv.2); clear hb) | (go_at_call 47; refine (hpart.out _ v1 (at1 + 1) ns1 _ rfl R1 HA HN2).mono ?_; rw [hp]; rintro e w5 ⟨out2, at2, ns2, c2, v2, rfl, ⟨rfl, ha2, rfl, rfl, rfl⟩, h2, m2⟩; have S2 := Aside0.mk h2; have M2 := Aside0.mk (R2.out.trans m2); have HA2 := Aside0.mk ha2; have HN4 : Aside0 (ns2.length ≤ 1000000) := ⟨by have h1 := HN2.out; have h2 := HL.out.1; omega⟩; clear h2 m2 ha2) | (go_at_call 29; refine (s_add S2 ⟨_, out, out2, 0⟩ HN4).mono ?_; rintro e w6 ⟨rfl, v3, h3, m3⟩; have S3 := Aside0.mk h3; have M3 := Aside0.mk (M2.out.trans m3); clear h3 m3))
            go_roundw
            case rel =>
              refine ⟨((ns2.length : Nat) : Int), rfl, ⟨at2, _, 0, v3, S3.out, M3.out, .inr ⟨rfl, HA2.out, ?_, k', ?_, ?_⟩⟩⟩
              · have h1 := HN3.out
                have h2 := HL.out.1
                simp only [List.length_append, List.length_cons, List.length_nil]
                omega
              · have h1 := HK.out
                have h2 := HL.out.2
                omega
              · rw [HG.out, ← HD.out, hp]
                rfl
            case measure =>
              rw [StS.zms S3.out, ZW.out, if_pos rfl]
              have h1 := HL.out.2
              have h2 := HA2.out
              have h3 := S3.out.p0
              have h4 := HA.out
              have h5 := HP.out
              simp only [List.length_drop] at h1
              omega
        · have E0 := Aside0.mk (e0.trans h0)
          have E1 := Aside0.mk (e1.trans h1)
          have HG := Aside0.mk (hg.trans (chLoop_done' h0 h1 out k))
          clear hg hk e0 e1 h0 h1 hne hn1 hp0 hLl
          have HA := Aside0.mk ha
          clear ha
          go_wp2_with (first | (go_at_call 27; refine (s_is CUR _).mono ?_; (first | rw [E0.out] | rw [E1.out]); rintro e wi ⟨rfl, hb⟩; replace CUR := Aside0.mk (CUR.out.below hb); replace MV := Aside0.mk (MV.out.trans (Mv.of_below g v1 hb)); clear f0 f1 f2 f3 k1 k2 k3; obtain ⟨f0, f1, f2, f3, k1, k2, k3⟩ := CUR.out.cells; clear hb))
          go_ret
          refine ⟨out, at1, ns1, 0, v1, rfl, ?_, CUR.out, MV.out⟩
          rw [HG.out]
          exact ⟨rfl, HA.out, rfl, rfl, rfl⟩
set_option maxHeartbeats 16000000 in
set_option maxRecDepth 100000 in
theorem s_sum {w0 : World} {g ca d : Nat} {A : Option Addr} {L : List S51} {part : PFun} (hpart : Aside0 (PartS w0 g A ca L 26 d part)) (hgood : Aside0 (Good part)) (hL : Aside0 (TkL L)) : PartS w0 g A ca L 16 d (chF 43 45 3 4 part) := by
  intro W v at_ ns room hroom S hat hn
  subst hroom
  go_enter Tryz.func16, Tryz.ntmps16
  go_wp2_with (first | (go_at_call 26; refine (hpart.out _ v at_ ns _ rfl S hat hn).mono ?_; rintro e w1 ⟨out, at1, ns1, c1, v1, rfl, hs, h1, m1⟩; have HC := Aside0.mk (ChS.start (b0 := 43) (b1 := 45) (o0 := 3) (o1 := 4) hgood.out hs h1 m1); clear hs h1 m1))
  go_loopw [5] (fun v5 wr => ∃ out : Int, v5 = .int .i64 out ∧ Aside0 (ChS w0 g A ca L v W (ns.length + (L.drop at_.toNat).length) d 43 45 3 4 part (chF 43 45 3 4 part (L.drop at_.toNat) ns) out wr)) (fun _ wr => zms g wr)
  case atStart => exact ⟨out, rfl, HC⟩
  case round =>
    clear HC
    obtain ⟨out, rfl, hCI⟩ := hrel
    obtain ⟨at1, ns1, c1, v1, hst, hmv, hk⟩ := hCI.out
    obtain ⟨f0, f1, f2, f3, k1, k2, k3⟩ := hst.cells
    have CUR := Aside0.mk hst
    have MV := Aside0.mk hmv
    clear hst hmv hCI
    rcases hk with ⟨hc, hg, hl, ha⟩ | ⟨rfl, ha, hn1, k, hk, hg⟩
    · have q1 : (c1 == 0) = false := beq_eq_false_iff_ne.2 hc
      have HG := Aside0.mk (And.intro hg (And.intro hc (And.intro hl ha)))
      clear hg hl ha
      go_wp2
      go_ret
      refine ⟨out, at1, ns1, c1, v1, rfl, ?_, CUR.out, MV.out⟩
      rw [HG.out.1]
      exact ⟨rfl, HG.out.2.1, HG.out.2.2.1, HG.out.2.2.2⟩
    · have hp0 := CUR.out.p0
      have ZW := Aside0.mk (StS.zms CUR.out)
      rw [if_pos rfl] at ZW
      have hLl := hL.out.1
      have e0 : nxs (L.drop at1.toNat) ⟨#[43]⟩ = nx (L.drop at1.toNat) (sgn 43) := nxs_nx hL.out at1.toNat 43
      have e1 : nxs (L.drop at1.toNat) ⟨#[45]⟩ = nx (L.drop at1.toNat) (sgn 45) := nxs_nx hL.out at1.toNat 45
      have hne : (sgn 43).toList ≠ (sgn 45).toList := by rw [sgn_list, sgn_list]; decide
      rcases Bool.eq_false_or_eq_true (nx (L.drop at1.toNat) (sgn 43)) with h0 | h0
      · have E0 := Aside0.mk (e0.trans h0)
        have E1 := Aside0.mk (e1.trans (nx_two h0 hne))
        have hlt : at1 < (L.length : Int) := by
          rcases Decidable.em (at1 < (L.length : Int)) with h | h
          · exact h
          · rw [StS.end_ h] at h0
            cases h0
        have hi : idx2 (L.drop at1.toNat) 43 45 = 0 := by unfold idx2; rw [h0]; rfl
        obtain ⟨k', hk', hg'⟩ := chLoop_yes (out := out) (o0 := 3) (o1 := 4) (part := part) (ns := ns1) hi (by decide) hk
        have HG := Aside0.mk (hg.trans hg')
        have hl := nx_len h0
        rw [← drop_adv hp0] at hl hk' hg'
        have HD := Aside0.mk (drop_adv (L := L) hp0)
        have HN2 : Aside0 (ns1.length + (L.drop (at1 + 1).toNat).length ≤ 1000000) := ⟨by have := hn.out; omega⟩
        have HN3 : Aside0 (ns1.length + (L.drop (at1 + 1).toNat).length + 1 ≤ ns.length + (L.drop at_.toNat).length) := ⟨by omega⟩
        have HA : Aside0 (at1 + 1 ≤ (L.length : Int)) := ⟨by omega⟩
        have HK := Aside0.mk hk'
        have HZ : Aside0 (L.length + 1 - (at1 + 1).toNat < L.length + 1 - at1.toNat) := ⟨by omega⟩
        have HP := Aside0.mk hp0
        have w1 : wrap64 (at1 + 1) = at1 + 1 := by unfold wrap64; omega
        clear hg hk e0 e1 h0  hne hn1 hp0 hlt hi hk' hg' hl hLl ha
        cases hp : part (L.drop (at1 + 1).toNat) ns1 with
        | error kk =>
          go_wp2_with (first | (go_at_call 27; refine (s_is CUR _).mono ?_; (first | rw [E0.out] | rw [E1.out]); rintro e wi ⟨rfl, hb⟩; replace CUR := Aside0.mk (CUR.out.below hb); replace MV := Aside0.mk (MV.out.trans (Mv.of_below g v1 hb)); clear f0 f1 f2 f3 k1 k2 k3; obtain ⟨f0, f1, f2, f3, k1, k2, k3⟩ := CUR.out.cells; clear hb) | (go_at_call 28; refine (spec_l01Bit.calls _ 0 _ bit_f).mono ?_; rintro e wi ⟨rfl, hb⟩; replace CUR := Aside0.mk (CUR.out.below hb.below); replace MV := Aside0.mk (MV.out.trans (Mv.of_below g v1 hb.below)); clear f0 f1 f2 f3 k1 k2 k3; obtain ⟨f0, f1, f2, f3, k1, k2, k3⟩ := CUR.out.cells; have R1 := Aside0.mk CUR.out.adv.1; have R2 := Aside0.mk (MV.out.trans CUR.out.adv.2); clear hb) | (go_at_call 26; refine (hpart.out _ v1 (at1 + 1) ns1 _ rfl R1 HA HN2).mono ?_; rw [hp]; rintro e w5 ⟨out2, at2, ns2, c2, v2, rfl, ⟨rfl, hc2, hl2, ha2⟩, h2, m2⟩; have S2 := Aside0.mk h2; have M2 := Aside0.mk (R2.out.trans m2); have HC2 := Aside0.mk hc2; have HL2 := Aside0.mk hl2; have HA2 := Aside0.mk ha2; have HN4 : Aside0 (ns2.length ≤ 1000000) := ⟨by have := HN2.out; omega⟩; clear h2 m2 hc2 hl2 ha2) | (go_at_call 29; refine (s_add S2 ⟨_, out, out2, 0⟩ HN4).mono ?_; rintro e w6 ⟨rfl, v3, h3, m3⟩; have S3 := Aside0.mk h3; have M3 := Aside0.mk (M2.out.trans m3); clear h3 m3))
          go_roundw
          case rel =>
            refine ⟨((ns2.length : Nat) : Int), rfl, ⟨at2, _, c2, v3, S3.out, M3.out, .inl ⟨HC2.out, ?_, ?_, HA2.out⟩⟩⟩
            · rw [HG.out, ← HD.out, hp]
            · have h1 := HN3.out
              have h2 := HL2.out
              simp only [List.length_append, List.length_cons, List.length_nil]
              omega
          case measure =>
            rw [StS.zms S3.out, ZW.out, if_neg HC2.out]
            have := HZ.out
            omega
        | ok r =>
          obtain ⟨t2, n2, b2⟩ := r
          have HL := Aside0.mk (hgood.out _ _ _ _ _ hp)
          go_wp2_with (first | (go_at_call 27; refine (s_is CUR _).mono ?_; (first | rw [E0.out] | rw [E1.out]); rintro e wi ⟨rfl, hb⟩; replace CUR := Aside0.mk (CUR.out.below hb); replace MV := Aside0.mk (MV.out.trans (Mv.of_below g v1 hb)); clear f0 f1 f2 f3 k1 k2 k3; obtain ⟨f0, f1, f2, f3, k1, k2, k3⟩ := CUR.out.cells; clear hb) | (go_at_call 28; refine (spec_l01Bit.calls _ 0 _ bit_f).mono ?_; rintro e wi ⟨rfl, hb⟩; replace CUR := Aside0.mk (CUR.out.below hb.below); replace MV := Aside0.mk (MV.out.trans (Mv.of_below g v1 hb.below)); clear f0 f1 f2 f3 k1 k2 k3; obtain ⟨f0, f1, f2, f3, k1, k2, k3⟩ := CUR.out.cells; have R1 := Aside0.mk CUR.out.adv.1; have R2 := Aside0.mk (MV.out.trans CUR.out.adv.2); clear hb) | (go_at_call 26; refine (hpart.out _ v1 (at1 + 1) ns1 _ rfl R1 HA HN2).mono ?_; rw [hp]; rintro e w5 ⟨out2, at2, ns2, c2, v2, rfl, ⟨rfl, ha2, rfl, rfl, rfl⟩, h2, m2⟩; have S2 := Aside0.mk h2; have M2 := Aside0.mk (R2.out.trans m2); have HA2 := Aside0.mk ha2; have HN4 : Aside0 (ns2.length ≤ 1000000) := ⟨by have h1 := HN2.out; have h2 := HL.out.1; omega⟩; clear h2 m2 ha2) | (go_at_call 29; refine (s_add S2 ⟨_, out, out2, 0⟩ HN4).mono ?_; rintro e w6 ⟨rfl, v3, h3, m3⟩; have S3 := Aside0.mk h3; have M3 := Aside0.mk (M2.out.trans m3); clear h3 m3))
          go_roundw
          case rel =>
            refine ⟨((ns2.length : Nat) : Int), rfl, ⟨at2, _, 0, v3, S3.out, M3.out, .inr ⟨rfl, HA2.out, ?_, k', ?_, ?_⟩⟩⟩
            · have h1 := HN3.out
              have h2 := HL.out.1
              simp only [List.length_append, List.length_cons, List.length_nil]
              omega
            · have h1 := HK.out
              have h2 := HL.out.2
              omega
            · rw [HG.out, ← HD.out, hp]
              rfl
          case measure =>
            rw [StS.zms S3.out, ZW.out, if_pos rfl]
            have h1 := HL.out.2
            have h2 := HA2.out
            have h3 := S3.out.p0
            have h4 := HA.out
            have h5 := HP.out
            simp only [List.length_drop] at h1
            omega
      · rcases Bool.eq_false_or_eq_true (nx (L.drop at1.toNat) (sgn 45)) with h1 | h1
        · have E0 := Aside0.mk (e0.trans h0)
          have E1 := Aside0.mk (e1.trans h1)
          have hlt : at1 < (L.length : Int) := by
            rcases Decidable.em (at1 < (L.length : Int)) with h | h
            · exact h
            · rw [StS.end_ h] at h1
              cases h1
          have hi : idx2 (L.drop at1.toNat) 43 45 = 1 := by unfold idx2; rw [h0, h1]; rfl
          obtain ⟨k', hk', hg'⟩ := chLoop_yes (out := out) (o0 := 3) (o1 := 4) (part := part) (ns := ns1) hi (by decide) hk
          have HG := Aside0.mk (hg.trans hg')
          have hl := nx_len h1
          rw [← drop_adv hp0] at hl hk' hg'
          have HD := Aside0.mk (drop_adv (L := L) hp0)
          have HN2 : Aside0 (ns1.length + (L.drop (at1 + 1).toNat).length ≤ 1000000) := ⟨by have := hn.out; omega⟩
          have HN3 : Aside0 (ns1.length + (L.drop (at1 + 1).toNat).length + 1 ≤ ns.length + (L.drop at_.toNat).length) := ⟨by omega⟩
          have HA : Aside0 (at1 + 1 ≤ (L.length : Int)) := ⟨by omega⟩
          have HK := Aside0.mk hk'
          have HZ : Aside0 (L.length + 1 - (at1 + 1).toNat < L.length + 1 - at1.toNat) := ⟨by omega⟩
          have HP := Aside0.mk hp0
          have w1 : wrap64 (at1 + 1) = at1 + 1 := by unfold wrap64; omega
          clear hg hk e0 e1 h0 h1 hne hn1 hp0 hlt hi hk' hg' hl hLl ha
          cases hp : part (L.drop (at1 + 1).toNat) ns1 with
          | error kk =>
            go_wp2_with (first | (go_at_call 27; refine (s_is CUR _).mono ?_; (first | rw [E0.out] | rw [E1.out]); rintro e wi ⟨rfl, hb⟩; replace CUR := Aside0.mk (CUR.out.below hb); replace MV := Aside0.mk (MV.out.trans (Mv.of_below g v1 hb)); clear f0 f1 f2 f3 k1 k2 k3; obtain ⟨f0, f1, f2, f3, k1, k2, k3⟩ := CUR.out.cells; clear hb) | (go_at_call 28; refine (spec_l01Bit.calls _ 1 _ bit_t).mono ?_; rintro e wi ⟨rfl, hb⟩; replace CUR := Aside0.mk (CUR.out.below hb.below); replace MV := Aside0.mk (MV.out.trans (Mv.of_below g v1 hb.below)); clear f0 f1 f2 f3 k1 k2 k3; obtain ⟨f0, f1, f2, f3, k1, k2, k3⟩ := CUR.out.cells; have R1 := Aside0.mk CUR.out.adv.1; have R2 := Aside0.mk (MV.out.trans CUR.out.adv.2); clear hb) | (go_at_call 26; refine (hpart.out _ v1 (at1 + 1) ns1 _ rfl R1 HA HN2).mono ?_; rw [hp]; rintro e w5 ⟨out2, at2, ns2, c2, v2, rfl, ⟨rfl, hc2, hl2, ha2⟩, h2, m2⟩; have S2 := Aside0.mk h2; have M2 := Aside0.mk (R2.out.trans m2); have HC2 := Aside0.mk hc2; have HL2 := Aside0.mk hl2; have HA2 := Aside0.mk ha2; have HN4 : Aside0 (ns2.length ≤ 1000000) := ⟨by have := HN2.out; omega⟩; clear h2 m2 hc2 hl2 ha2) | (go_at_call 29; refine (s_add S2 ⟨_, out, out2, 0⟩ HN4).mono ?_; rintro e w6 ⟨rfl, v3, h3, m3⟩; have S3 := Aside0.mk h3; have M3 := Aside0.mk (M2.out.trans m3); clear h3 m3))
            go_roundw
            case rel =>
              refine ⟨((ns2.length : Nat) : Int), rfl, ⟨at2, _, c2, v3, S3.out, M3.out, .inl ⟨HC2.out, ?_, ?_, HA2.out⟩⟩⟩
              · rw [HG.out, ← HD.out, hp]
              · have h1 := HN3.out
                have h2 := HL2.out
                simp only [List.length_append, List.length_cons, List.length_nil]
                omega
            case measure =>
              rw [StS.zms S3.out, ZW.out, if_neg HC2.out]
              have := HZ.out
              omega
          | ok r =>
            obtain ⟨t2, n2, b2⟩ := r
            have HL := Aside0.mk (hgood.out _ _ _ _ _ hp)
            go_wp2_with (first | (go_at_call 27; refine (s_is CUR _).mono ?_; (first | rw [E0.out] | rw [E1.out]); rintro e wi ⟨rfl, hb⟩; replace CUR := Aside0.mk (CUR.out.below hb); replace MV := Aside0.mk (MV.out.trans (Mv.of_below g v1 hb)); clear f0 f1 f2 f3 k1 k2 k3; obtain ⟨f0, f1, f2, f3, k1, k2, k3⟩ := CUR.out.cells; clear hb) | (go_at_call 28; refine (spec_l01Bit.calls _ 1 _ bit_t).mono ?_; rintro e wi ⟨rfl, hb⟩; replace CUR := Aside0.mk (CUR.out.below hb.below); replace MV := Aside0.mk (MV.out.trans (Mv.of_below g v1 hb.below)); clear f0 f1 f2 f3 k1 k2 k3; obtain ⟨f0, f1, f2, f3, k1, k2, k3⟩ := CUR.out.cells; have R1 := Aside0.mk CUR.out.adv.1; have R2 := Aside0.mk (MV.out.trans CUR.out.adv.2); clear hb) | (go_at_call 26; refine (hpart.out _ v1 (at1 + 1) ns1 _ rfl R1 HA HN2).mono ?_; rw [hp]; rintro e w5 ⟨out2, at2, ns2, c2, v2, rfl, ⟨rfl, ha2, rfl, rfl, rfl⟩, h2, m2⟩; have S2 := Aside0.mk h2; have M2 := Aside0.mk (R2.out.trans m2); have HA2 := Aside0.mk ha2; have HN4 : Aside0 (ns2.length ≤ 1000000) := ⟨by have h1 := HN2.out; have h2 := HL.out.1; omega⟩; clear h2 m2 ha2) | (go_at_call 29; refine (s_add S2 ⟨_, out, out2, 0⟩ HN4).mono ?_; rintro e w6 ⟨rfl, v3, h3, m3⟩; have S3 := Aside0.mk h3; have M3 := Aside0.mk (M2.out.trans m3); clear h3 m3))
            go_roundw
            case rel =>
              refine ⟨((ns2.length : Nat) : Int), rfl, ⟨at2, _, 0, v3, S3.out, M3.out, .inr ⟨rfl, HA2.out, ?_, k', ?_, ?_⟩⟩⟩
              · have h1 := HN3.out
                have h2 := HL.out.1
                simp only [List.length_append, List.length_cons, List.length_nil]
                omega
              · have h1 := HK.out
                have h2 := HL.out.2
                omega
              · rw [HG.out, ← HD.out, hp]
                rfl
            case measure =>
              rw [StS.zms S3.out, ZW.out, if_pos rfl]
              have h1 := HL.out.2
              have h2 := HA2.out
              have h3 := S3.out.p0
              have h4 := HA.out
              have h5 := HP.out
              simp only [List.length_drop] at h1
              omega
        · have E0 := Aside0.mk (e0.trans h0)
          have E1 := Aside0.mk (e1.trans h1)
          have HG := Aside0.mk (hg.trans (chLoop_done' h0 h1 out k))
          clear hg hk e0 e1 h0 h1 hne hn1 hp0 hLl
          have HA := Aside0.mk ha
          clear ha
          go_wp2_with (first | (go_at_call 27; refine (s_is CUR _).mono ?_; (first | rw [E0.out] | rw [E1.out]); rintro e wi ⟨rfl, hb⟩; replace CUR := Aside0.mk (CUR.out.below hb); replace MV := Aside0.mk (MV.out.trans (Mv.of_below g v1 hb)); clear f0 f1 f2 f3 k1 k2 k3; obtain ⟨f0, f1, f2, f3, k1, k2, k3⟩ := CUR.out.cells; clear hb))
          go_ret
          refine ⟨out, at1, ns1, 0, v1, rfl, ?_, CUR.out, MV.out⟩
          rw [HG.out]
          exact ⟨rfl, HA.out, rfl, rfl, rfl⟩
theorem StS.toks {w0 W : World} {g ca : Nat} {ad : Addr} {v : Value} {L : List S51} {ns : List S49} {at_ c : Int} {x : S51} {r : List S51} (h : StS w0 g (some ad) ca L v at_ ns c W) (hd : L.drop at_.toNat = x :: r) : W.cell? (ad.add (at_.toNat * 3)) = some (.int .i64 x.f0) ∧ W.cell? ⟨(ad.add (at_.toNat * 3)).block, (ad.add (at_.toNat * 3)).off + 1, none⟩ = some (.int .i64 x.f1) ∧ W.cell? ⟨(ad.add (at_.toNat * 3)).block, (ad.add (at_.toNat * 3)).off + 2, none⟩ = some (.string x.f2) := by
  rcases Decidable.em (at_ < (L.length : Int)) with hl | hl
  · obtain ⟨ad', e, x', hd', h0, h1, h2⟩ := h.head hl
    cases e
    rw [hd] at hd'
    cases hd'
    exact ⟨h0, h1, h2⟩
  · rw [StS.end_ hl] at hd
    cases hd
theorem bc3s {W : World} {g t : Nat} {v0 v1 v2 : Value} (h : W.heap[g]? = some (.cells #[v0, v1, v2] t (0, 0))) : W.cell? ⟨g, 0, none⟩ = some v0 ∧ W.cell? ⟨g, 1, none⟩ = some v1 ∧ W.cell? ⟨g, 2, none⟩ = some v2 ∧ W.frozen? ⟨g, 0, none⟩ = false ∧ W.frozen? ⟨g, 1, none⟩ = false ∧ W.frozen? ⟨g, 2, none⟩ = false :=
  ⟨(blk_cell h 0).trans rfl, (blk_cell h 1).trans rfl, (blk_cell h 2).trans rfl, blk_frozen h 0, blk_frozen h 1, blk_frozen h 2⟩
theorem nx_none {k z b : Int} {r : List S51} : nx (⟨k, z, ⟨#[]⟩⟩ :: r) (sgn b) = false := by
  rw [nx, sgn_list, Lib.toList_data]
  rfl
theorem nx_txt {k z b : Int} {s : ByteArray} {r : List S51} {q : Bool} (h : nx (⟨k, z, s⟩ :: r) (sgn b) = q) : (s.toList == [b.toNat.toUInt8]) = q := by
  rw [nx, sgn_list] at h
  exact h
set_option maxHeartbeats 8000000 in
set_option maxRecDepth 100000 in
theorem s_atomE {w0 W : World} {g ca d : Nat} {A : Option Addr} {L : List S51} {v : Value} {at_ room : Int} {ns : List S49} {lim : Nat} (sF : PFun) (S : Aside0 (StS w0 g A ca L v at_ ns 0 W)) (HA : Aside0 (at_ ≤ (L.length : Int) + d)) (HL : Aside0 (ns.length ≤ lim)) (hl : ¬ at_ < (L.length : Int)) :
    Calls Tryz.prog 66 #[.pointer (some ⟨g, 0, none⟩), .int .i64 room] W (PostS w0 g A ca L v W lim d (atmF sF (L.drop at_.toNat) ns)) := by
  obtain ⟨f0, f1, f2, f3, k1, k2, k3⟩ := S.out.cells
  have HD := Aside0.mk (StS.end_ hl)
  have q0 : decide (at_ ≥ (L.length : Int)) = true := decide_eq_true (by omega)
  have q1 : decide ((L.length : Int) ≤ at_) = true := decide_eq_true (by omega)
  clear hl
  go_enter Tryz.func66, Tryz.ntmps66
  go_wp2_with (fail)
  go_quiet (fail)
  go_wp2_with (fail)
  have HB := Aside0.mk (pw_below_drewN (Below.refl W.heap.size W) nq)
  have S1 := Aside0.mk (S.out.below HB.out)
  refine (s_fail S1 3).mono ?_
  rw [if_pos rfl]
  rintro e w2 ⟨rfl, h2, m2⟩
  have S2 := Aside0.mk h2
  have M2 := Aside0.mk ((Mv.of_below g v HB.out).trans m2)
  clear h2 m2
  go_wp2
  go_ret
  exact ⟨0, at_, ns, 3, v, rfl, by rw [HD.out]; exact ⟨rfl, by decide, HL.out, HA.out⟩, S2.out, M2.out⟩
set_option maxHeartbeats 8000000 in
set_option maxRecDepth 100000 in
theorem s_atom1 {w0 W : World} {g ca d : Nat} {A : Option Addr} {L : List S51} {v : Value} {at_ room : Int} {ns : List S49} {lim : Nat} {z1 : Int} {sF : PFun} (S : Aside0 (StS w0 g A ca L v at_ ns 0 W)) (hn : Aside0 (ns.length ≤ 1000000)) (hL : Aside0 (TkL L)) (hl : at_ < (L.length : Int)) (HD : Aside0 (L.drop at_.toNat = ⟨1, z1, ⟨#[]⟩⟩ :: L.drop (at_ + 1).toNat)) :
    Calls Tryz.prog 66 #[.pointer (some ⟨g, 0, none⟩), .int .i64 room] W (PostS w0 g A ca L v W lim d (atmF sF (L.drop at_.toNat) ns)) := by
  have S0 := S.out
  obtain ⟨f0, f1, f2, f3, k1, k2, k3⟩ := S0.cells
  have hp := S0.p0
  have HL' := Aside0.mk hl
  obtain ⟨ad, rfl, _⟩ := S0.head hl
  obtain ⟨x0, x1, x2⟩ := S0.toks HD.out
  have q0 : decide (at_ ≥ (L.length : Int)) = false := decide_eq_false (by omega)
  have q1 : decide ((L.length : Int) ≤ at_) = false := decide_eq_false (by omega)
  have w1 : wrap64 (at_ + 1) = at_ + 1 := by have := hL.out.1; unfold wrap64; omega
  replace hp := eq_true hp
  replace hl := eq_true hl
  clear S0
  go_enter Tryz.func66, Tryz.ntmps66
  go_wp2_with (fail)
  go_quiet (fail)
  go_wp2_with (fail)
  generalize hW : W.drewN nq = W1
  have HB := Aside0.mk (show Below W.heap.size W W1 from hW ▸ pw_below_drewN (Below.refl _ _) nq)
  have S1 := Aside0.mk (S.out.below HB.out)
  clear hW f0 f1 f2 f3 k1 k2 k3 x0 x1 x2
  obtain ⟨f0, f1, f2, f3, k1, k2, k3⟩ := S1.out.cells
  have B2 := Aside0.mk (below_alloc (Below.refl W1.heap.size W1) (.cells #[.int .i64 0, .int .i64 0, .string ⟨#[]⟩] 51))
  have S2 := Aside0.mk (S1.out.below B2.out)
  obtain ⟨g0, g1, _⟩ := S2.out.cells
  obtain ⟨x0, x1, x2⟩ := S1.out.toks HD.out
  obtain ⟨y0, y1, y2⟩ := S2.out.toks HD.out
  have nb : (W1.alloc (.cells #[.int .i64 0, .int .i64 0, .string ⟨#[]⟩] 51)).heap[W1.heap.size]? = some (.cells #[.int .i64 0, .int .i64 0, .string ⟨#[]⟩] 51 (0, 0)) := blk_new W1 _
  obtain ⟨n0, n1, n2, m0, m1, m2⟩ := bc3s nb
  clear nb
  go_region
  have HB2 := Aside0.mk (below_drew (below_alloc (Below.refl W1.heap.size W1) (.cells #[.int .i64 1, .int .i64 z1, .string ⟨#[]⟩] 51)))
  have nb2 : (W1.alloc (.cells #[.int .i64 1, .int .i64 z1, .string ⟨#[]⟩] 51)).drew.heap[W1.heap.size]? = some (.cells #[.int .i64 1, .int .i64 z1, .string ⟨#[]⟩] 51 (0, 0)) := blk_new W1 _
  generalize hW2 : (W1.alloc (.cells #[.int .i64 1, .int .i64 z1, .string ⟨#[]⟩] 51)).drew = W2 at HB2 nb2 ⊢
  have NB := S1.out
  have hgb : W1.heap.size ≠ g := by have := blk_lt NB.blk; omega
  clear NB hW2 f0 f1 f2 f3 k1 k2 k3 x0 x1 x2 y0 y1 y2 g0 g1 n0 n1 n2 m0 m1 m2 S2 B2
  have S2 := Aside0.mk (S1.out.below HB2.out)
  have M0 := Aside0.mk ((Mv.of_below g v HB.out).trans (Mv.of_below g v HB2.out))
  clear HB2 S1
  generalize W1.heap.size = gb at nb2 hgb ⊢
  obtain ⟨f0, f1, f2, f3, k1, k2, k3⟩ := S2.out.cells
  have R := S2.out.adv
  have R1 := Aside0.mk R.1
  have MV := Aside0.mk (M0.out.trans R.2)
  obtain ⟨n0, n1, n2, _⟩ := bc3s (blk_far nb2 (p := ⟨g, 1, none⟩) hgb (.int .i64 (at_ + 1)))
  clear R nb2
  go_wp2_with (first | (go_at_call 29; refine (s_add R1 ⟨_, 0, 0, z1⟩ hn).mono ?_; rintro e w4 ⟨rfl, v4, h4, m4⟩; have S4 := Aside0.mk h4; have M4 := Aside0.mk (MV.out.trans m4); clear h4 m4))
  go_ret
  exact ⟨ns.length, at_ + 1, _, 0, v4, rfl, by rw [HD.out, atmF, nx_none, if_neg (by decide)]; exact ⟨rfl, by have := HL'.out; omega, rfl, rfl, rfl⟩, S4.out, M4.out⟩
set_option maxHeartbeats 8000000 in
set_option maxRecDepth 100000 in
theorem s_atom2 {w0 W : World} {g ca d : Nat} {A : Option Addr} {L : List S51} {v : Value} {at_ room : Int} {ns : List S49} {lim : Nat} {z1 : Int} {sF : PFun} (S : Aside0 (StS w0 g A ca L v at_ ns 0 W)) (hn : Aside0 (ns.length ≤ 1000000)) (hL : Aside0 (TkL L)) (hl : at_ < (L.length : Int)) (HD : Aside0 (L.drop at_.toNat = ⟨2, z1, ⟨#[]⟩⟩ :: L.drop (at_ + 1).toNat)) :
    Calls Tryz.prog 66 #[.pointer (some ⟨g, 0, none⟩), .int .i64 room] W (PostS w0 g A ca L v W lim d (atmF sF (L.drop at_.toNat) ns)) := by
  have S0 := S.out
  obtain ⟨f0, f1, f2, f3, k1, k2, k3⟩ := S0.cells
  have hp := S0.p0
  have HL' := Aside0.mk hl
  obtain ⟨ad, rfl, _⟩ := S0.head hl
  obtain ⟨x0, x1, x2⟩ := S0.toks HD.out
  have q0 : decide (at_ ≥ (L.length : Int)) = false := decide_eq_false (by omega)
  have q1 : decide ((L.length : Int) ≤ at_) = false := decide_eq_false (by omega)
  have w1 : wrap64 (at_ + 1) = at_ + 1 := by have := hL.out.1; unfold wrap64; omega
  replace hp := eq_true hp
  replace hl := eq_true hl
  clear S0
  go_enter Tryz.func66, Tryz.ntmps66
  go_wp2_with (fail)
  go_quiet (fail)
  go_wp2_with (fail)
  generalize hW : W.drewN nq = W1
  have HB := Aside0.mk (show Below W.heap.size W W1 from hW ▸ pw_below_drewN (Below.refl _ _) nq)
  have S1 := Aside0.mk (S.out.below HB.out)
  clear hW f0 f1 f2 f3 k1 k2 k3 x0 x1 x2
  obtain ⟨f0, f1, f2, f3, k1, k2, k3⟩ := S1.out.cells
  have B2 := Aside0.mk (below_alloc (Below.refl W1.heap.size W1) (.cells #[.int .i64 0, .int .i64 0, .string ⟨#[]⟩] 51))
  have S2 := Aside0.mk (S1.out.below B2.out)
  obtain ⟨g0, g1, _⟩ := S2.out.cells
  obtain ⟨x0, x1, x2⟩ := S1.out.toks HD.out
  obtain ⟨y0, y1, y2⟩ := S2.out.toks HD.out
  have nb : (W1.alloc (.cells #[.int .i64 0, .int .i64 0, .string ⟨#[]⟩] 51)).heap[W1.heap.size]? = some (.cells #[.int .i64 0, .int .i64 0, .string ⟨#[]⟩] 51 (0, 0)) := blk_new W1 _
  obtain ⟨n0, n1, n2, m0, m1, m2⟩ := bc3s nb
  clear nb
  go_region
  have HB2 := Aside0.mk (below_drew (below_alloc (Below.refl W1.heap.size W1) (.cells #[.int .i64 2, .int .i64 z1, .string ⟨#[]⟩] 51)))
  have nb2 : (W1.alloc (.cells #[.int .i64 2, .int .i64 z1, .string ⟨#[]⟩] 51)).drew.heap[W1.heap.size]? = some (.cells #[.int .i64 2, .int .i64 z1, .string ⟨#[]⟩] 51 (0, 0)) := blk_new W1 _
  generalize hW2 : (W1.alloc (.cells #[.int .i64 2, .int .i64 z1, .string ⟨#[]⟩] 51)).drew = W2 at HB2 nb2 ⊢
  have NB := S1.out
  have hgb : W1.heap.size ≠ g := by have := blk_lt NB.blk; omega
  clear NB hW2 f0 f1 f2 f3 k1 k2 k3 x0 x1 x2 y0 y1 y2 g0 g1 n0 n1 n2 m0 m1 m2 S2 B2
  have S2 := Aside0.mk (S1.out.below HB2.out)
  have M0 := Aside0.mk ((Mv.of_below g v HB.out).trans (Mv.of_below g v HB2.out))
  clear HB2 S1
  generalize W1.heap.size = gb at nb2 hgb ⊢
  obtain ⟨f0, f1, f2, f3, k1, k2, k3⟩ := S2.out.cells
  have R := S2.out.adv
  have R1 := Aside0.mk R.1
  have MV := Aside0.mk (M0.out.trans R.2)
  obtain ⟨n0, n1, n2, _⟩ := bc3s (blk_far nb2 (p := ⟨g, 1, none⟩) hgb (.int .i64 (at_ + 1)))
  clear R nb2
  go_wp2_with (first | (go_at_call 29; refine (s_add R1 ⟨_, 0, 0, z1⟩ hn).mono ?_; rintro e w4 ⟨rfl, v4, h4, m4⟩; have S4 := Aside0.mk h4; have M4 := Aside0.mk (MV.out.trans m4); clear h4 m4))
  go_ret
  exact ⟨ns.length, at_ + 1, _, 0, v4, rfl, by rw [HD.out, atmF, nx_none, if_neg (by decide)]; exact ⟨rfl, by have := HL'.out; omega, rfl, rfl, rfl⟩, S4.out, M4.out⟩
set_option maxHeartbeats 8000000 in
set_option maxRecDepth 100000 in
theorem s_atom3 {w0 W : World} {g ca d : Nat} {A : Option Addr} {L : List S51} {v : Value} {at_ room : Int} {ns : List S49} {lim : Nat} {z1 : Int} {z2 : ByteArray} {sF : PFun} (HQ : Aside0 (nx (⟨3, z1, z2⟩ :: L.drop (at_ + 1).toNat) (sgn 40) = false)) (HN : Aside0 (ns.length ≤ lim)) (S : Aside0 (StS w0 g A ca L v at_ ns 0 W)) (hn : Aside0 (ns.length ≤ 1000000)) (hL : Aside0 (TkL L)) (hl : at_ < (L.length : Int)) (HD : Aside0 (L.drop at_.toNat = ⟨3, z1, z2⟩ :: L.drop (at_ + 1).toNat)) :
    Calls Tryz.prog 66 #[.pointer (some ⟨g, 0, none⟩), .int .i64 room] W (PostS w0 g A ca L v W lim d (atmF sF (L.drop at_.toNat) ns)) := by
  have S0 := S.out
  obtain ⟨f0, f1, f2, f3, k1, k2, k3⟩ := S0.cells
  have hp := S0.p0
  have HL' := Aside0.mk hl
  obtain ⟨ad, rfl, _⟩ := S0.head hl
  obtain ⟨x0, x1, x2⟩ := S0.toks HD.out
  have q0 : decide (at_ ≥ (L.length : Int)) = false := decide_eq_false (by omega)
  have q1 : decide ((L.length : Int) ≤ at_) = false := decide_eq_false (by omega)
  have w1 : wrap64 (at_ + 1) = at_ + 1 := by have := hL.out.1; unfold wrap64; omega
  replace hp := eq_true hp
  replace hl := eq_true hl
  clear S0
  go_enter Tryz.func66, Tryz.ntmps66
  go_wp2_with (fail)
  go_quiet (fail)
  go_wp2_with (fail)
  generalize hW : W.drewN nq = W1
  have HB := Aside0.mk (show Below W.heap.size W W1 from hW ▸ pw_below_drewN (Below.refl _ _) nq)
  have S1 := Aside0.mk (S.out.below HB.out)
  clear hW f0 f1 f2 f3 k1 k2 k3 x0 x1 x2
  obtain ⟨f0, f1, f2, f3, k1, k2, k3⟩ := S1.out.cells
  have B2 := Aside0.mk (below_alloc (Below.refl W1.heap.size W1) (.cells #[.int .i64 0, .int .i64 0, .string ⟨#[]⟩] 51))
  have S2 := Aside0.mk (S1.out.below B2.out)
  obtain ⟨g0, g1, _⟩ := S2.out.cells
  obtain ⟨x0, x1, x2⟩ := S1.out.toks HD.out
  obtain ⟨y0, y1, y2⟩ := S2.out.toks HD.out
  have nb : (W1.alloc (.cells #[.int .i64 0, .int .i64 0, .string ⟨#[]⟩] 51)).heap[W1.heap.size]? = some (.cells #[.int .i64 0, .int .i64 0, .string ⟨#[]⟩] 51 (0, 0)) := blk_new W1 _
  obtain ⟨n0, n1, n2, m0, m1, m2⟩ := bc3s nb
  clear nb
  go_region
  have HB2 := Aside0.mk (below_drew (below_alloc (Below.refl W1.heap.size W1) (.cells #[.int .i64 3, .int .i64 z1, .string z2] 51)))
  have nb2 : (W1.alloc (.cells #[.int .i64 3, .int .i64 z1, .string z2] 51)).drew.heap[W1.heap.size]? = some (.cells #[.int .i64 3, .int .i64 z1, .string z2] 51 (0, 0)) := blk_new W1 _
  generalize hW2 : (W1.alloc (.cells #[.int .i64 3, .int .i64 z1, .string z2] 51)).drew = W2 at HB2 nb2 ⊢
  have NB := S1.out
  have hgb : W1.heap.size ≠ g := by have := blk_lt NB.blk; omega
  clear NB hW2 f0 f1 f2 f3 k1 k2 k3 x0 x1 x2 y0 y1 y2 g0 g1 n0 n1 n2 m0 m1 m2 S2 B2
  have S2 := Aside0.mk (S1.out.below HB2.out)
  have M0 := Aside0.mk ((Mv.of_below g v HB.out).trans (Mv.of_below g v HB2.out))
  clear HB2 S1
  generalize W1.heap.size = gb at nb2 hgb ⊢
  obtain ⟨f0, f1, f2, f3, k1, k2, k3⟩ := S2.out.cells
  have R := S2.out.adv
  have R1 := Aside0.mk R.1
  have MV := Aside0.mk (M0.out.trans R.2)
  obtain ⟨n0, n1, n2, _⟩ := bc3s (blk_far nb2 (p := ⟨g, 1, none⟩) hgb (.int .i64 (at_ + 1)))
  clear R nb2
  have qT : (z2.toList == [40]) = false := nx_txt HQ.out
  go_wp2_with (first | (go_at_call 17; refine (s_fail R1 3).mono ?_; rw [if_pos rfl]; rintro e w4 ⟨rfl, h4, m4⟩; have S4 := Aside0.mk h4; have M4 := Aside0.mk (MV.out.trans m4); clear h4 m4))
  go_ret
  exact ⟨0, at_ + 1, ns, 3, v, rfl, by rw [HD.out, atmF, HQ.out, if_neg (by decide)]; exact ⟨rfl, by decide, HN.out, by have := HL'.out; omega⟩, S4.out, M4.out⟩
set_option maxHeartbeats 8000000 in
set_option maxRecDepth 100000 in
theorem s_atom4e {w0 W : World} {g ca d : Nat} {A : Option Addr} {L : List S51} {v : Value} {at_ : Int} {ns : List S49} {lim : Nat} {z1 : Int} {z2 : ByteArray} {sF : PFun} (hd12 : d ≤ 12) (hsum : Aside0 (PartS w0 g A ca L 16 d sF)) (HQ : Aside0 (nx (⟨3, z1, z2⟩ :: L.drop (at_ + 1).toNat) (sgn 40) = true)) (HN2 : Aside0 (ns.length + (L.drop (at_ + 1).toNat).length ≤ 1000000)) (HL2 : Aside0 (ns.length + (L.drop (at_ + 1).toNat).length ≤ lim)) {c : Int} (HM : Aside0 (sF (L.drop (at_ + 1).toNat) ns = .error c)) (S : Aside0 (StS w0 g A ca L v at_ ns 0 W)) (hn : Aside0 (ns.length ≤ 1000000)) (hL : Aside0 (TkL L)) (hl : at_ < (L.length : Int)) (HD : Aside0 (L.drop at_.toNat = ⟨3, z1, z2⟩ :: L.drop (at_ + 1).toNat)) :
    Calls Tryz.prog 66 #[.pointer (some ⟨g, 0, none⟩), .int .i64 ((d : Int) + 1)] W (PostS w0 g A ca L v W lim (d + 1) (atmF sF (L.drop at_.toNat) ns)) := by
  have S0 := S.out
  obtain ⟨f0, f1, f2, f3, k1, k2, k3⟩ := S0.cells
  have hp := S0.p0
  have HL' := Aside0.mk hl
  obtain ⟨ad, rfl, _⟩ := S0.head hl
  obtain ⟨x0, x1, x2⟩ := S0.toks HD.out
  have q0 : decide (at_ ≥ (L.length : Int)) = false := decide_eq_false (by omega)
  have q1 : decide ((L.length : Int) ≤ at_) = false := decide_eq_false (by omega)
  have w1 : wrap64 (at_ + 1) = at_ + 1 := by have := hL.out.1; unfold wrap64; omega
  replace hp := eq_true hp
  replace hl := eq_true hl
  clear S0
  go_enter Tryz.func66, Tryz.ntmps66
  go_wp2_with (fail)
  go_quiet (fail)
  go_wp2_with (fail)
  generalize hW : W.drewN nq = W1
  have HB := Aside0.mk (show Below W.heap.size W W1 from hW ▸ pw_below_drewN (Below.refl _ _) nq)
  have S1 := Aside0.mk (S.out.below HB.out)
  clear hW f0 f1 f2 f3 k1 k2 k3 x0 x1 x2
  obtain ⟨f0, f1, f2, f3, k1, k2, k3⟩ := S1.out.cells
  have B2 := Aside0.mk (below_alloc (Below.refl W1.heap.size W1) (.cells #[.int .i64 0, .int .i64 0, .string ⟨#[]⟩] 51))
  have S2 := Aside0.mk (S1.out.below B2.out)
  obtain ⟨g0, g1, _⟩ := S2.out.cells
  obtain ⟨x0, x1, x2⟩ := S1.out.toks HD.out
  obtain ⟨y0, y1, y2⟩ := S2.out.toks HD.out
  have nb : (W1.alloc (.cells #[.int .i64 0, .int .i64 0, .string ⟨#[]⟩] 51)).heap[W1.heap.size]? = some (.cells #[.int .i64 0, .int .i64 0, .string ⟨#[]⟩] 51 (0, 0)) := blk_new W1 _
  obtain ⟨n0, n1, n2, m0, m1, m2⟩ := bc3s nb
  clear nb
  go_region
  have HB2 := Aside0.mk (below_drew (below_alloc (Below.refl W1.heap.size W1) (.cells #[.int .i64 3, .int .i64 z1, .string z2] 51)))
  have nb2 : (W1.alloc (.cells #[.int .i64 3, .int .i64 z1, .string z2] 51)).drew.heap[W1.heap.size]? = some (.cells #[.int .i64 3, .int .i64 z1, .string z2] 51 (0, 0)) := blk_new W1 _
  generalize hW2 : (W1.alloc (.cells #[.int .i64 3, .int .i64 z1, .string z2] 51)).drew = W2 at HB2 nb2 ⊢
  have NB := S1.out
  have hgb : W1.heap.size ≠ g := by have := blk_lt NB.blk; omega
  clear NB hW2 f0 f1 f2 f3 k1 k2 k3 x0 x1 x2 y0 y1 y2 g0 g1 n0 n1 n2 m0 m1 m2 S2 B2
  have S2 := Aside0.mk (S1.out.below HB2.out)
  have M0 := Aside0.mk ((Mv.of_below g v HB.out).trans (Mv.of_below g v HB2.out))
  clear HB2 S1
  generalize W1.heap.size = gb at nb2 hgb ⊢
  obtain ⟨f0, f1, f2, f3, k1, k2, k3⟩ := S2.out.cells
  have R := S2.out.adv
  have R1 := Aside0.mk R.1
  have MV := Aside0.mk (M0.out.trans R.2)
  obtain ⟨n0, n1, n2, _⟩ := bc3s (blk_far nb2 (p := ⟨g, 1, none⟩) hgb (.int .i64 (at_ + 1)))
  clear R nb2
  have qT : (z2.toList == [40]) = true := nx_txt HQ.out
  have wr : wrap64 ((d : Int) + 1 - 1) = d := by unfold wrap64; omega
  have wr2 : wrap64 (d : Int) = d := by unfold wrap64; omega
  have hLl := hL.out.1
  have HA1 : Aside0 (at_ + 1 ≤ (L.length : Int)) := ⟨by have := HL'.out; omega⟩
  go_wp2_with (fail)
  refine (hsum.out _ v (at_ + 1) ns _ rfl R1 HA1 HN2).mono ?_
  rw [HM.out]
  rintro e w3 ⟨out, at2, ns2, c2, v3, rfl, ⟨rfl, hc, hl2, ha2⟩, h3, m3⟩
  have S3 := Aside0.mk h3
  have M3 := Aside0.mk (MV.out.trans m3)
  have HC := Aside0.mk hc
  have HE := Aside0.mk (And.intro hl2 ha2)
  have w2 : wrap64 (at2 + 1) = at2 + 1 := by have := h3.p0; unfold wrap64; omega
  clear h3 m3 hc hl2 ha2 hLl
  rcases Bool.eq_false_or_eq_true (nxs (L.drop at2.toNat) ⟨#[41]⟩) with hb2 | hb2
  · have HB2 := Aside0.mk hb2
    clear hb2
    go_wp2_with (first | (go_at_call 27; refine (s_is S3 _).mono ?_; rw [HB2.out]; rintro e wi ⟨rfl, hb⟩; have S4 := Aside0.mk (S3.out.below hb); have M4 := Aside0.mk (M3.out.trans (Mv.of_below g v3 hb)); clear f0 f1 f2 f3 k1 k2 k3 n0 n1 n2; obtain ⟨f0, f1, f2, f3, k1, k2, k3⟩ := S4.out.cells; have R5 := Aside0.mk S4.out.adv.1; have M5 := Aside0.mk (M4.out.trans S4.out.adv.2); clear hb))
    go_ret
    exact ⟨out, at2 + 1, ns2, c2, v3, rfl, by rw [HD.out, atmF, if_pos HQ.out, List.tail_cons, HM.out]; exact ⟨rfl, HC.out, Nat.le_trans HE.out.1 HL2.out, by have := HE.out.2; omega⟩, R5.out, M5.out⟩
  · have HB2 := Aside0.mk hb2
    clear hb2
    go_wp2_with (first | (go_at_call 27; refine (s_is S3 _).mono ?_; rw [HB2.out]; rintro e wi ⟨rfl, hb⟩; have S4 := Aside0.mk (S3.out.below hb); have M4 := Aside0.mk (M3.out.trans (Mv.of_below g v3 hb)); clear f0 f1 f2 f3 k1 k2 k3 n0 n1 n2; clear hb) | (go_at_call 17; refine (s_fail S4 3).mono ?_; rw [if_neg HC.out]; rintro e w6 ⟨rfl, h6, m6⟩; obtain ⟨f0, f1, f2, f3, k1, k2, k3⟩ := h6.cells; have R5 := Aside0.mk h6.adv.1; have M5 := Aside0.mk ((M4.out.trans m6).trans h6.adv.2); clear h6 m6))
    go_ret
    exact ⟨out, at2 + 1, ns2, c2, v3, rfl, by rw [HD.out, atmF, if_pos HQ.out, List.tail_cons, HM.out]; exact ⟨rfl, HC.out, Nat.le_trans HE.out.1 HL2.out, by have := HE.out.2; omega⟩, R5.out, M5.out⟩
set_option maxHeartbeats 8000000 in
set_option maxRecDepth 100000 in
theorem s_atom4o {w0 W : World} {g ca d : Nat} {A : Option Addr} {L : List S51} {v : Value} {at_ : Int} {ns : List S49} {lim : Nat} {z1 : Int} {z2 : ByteArray} {sF : PFun} (hd12 : d ≤ 12) (hsum : Aside0 (PartS w0 g A ca L 16 d sF)) (HQ : Aside0 (nx (⟨3, z1, z2⟩ :: L.drop (at_ + 1).toNat) (sgn 40) = true)) (HN2 : Aside0 (ns.length + (L.drop (at_ + 1).toNat).length ≤ 1000000)) (HL2 : Aside0 (ns.length + (L.drop (at_ + 1).toNat).length ≤ lim)) (hgood : Aside0 (Good sF)) {t : List S51} {n : List S49} {o : Int} (HM : Aside0 (sF (L.drop (at_ + 1).toNat) ns = .ok (t, n, o))) (S : Aside0 (StS w0 g A ca L v at_ ns 0 W)) (hn : Aside0 (ns.length ≤ 1000000)) (hL : Aside0 (TkL L)) (hl : at_ < (L.length : Int)) (HD : Aside0 (L.drop at_.toNat = ⟨3, z1, z2⟩ :: L.drop (at_ + 1).toNat)) :
    Calls Tryz.prog 66 #[.pointer (some ⟨g, 0, none⟩), .int .i64 ((d : Int) + 1)] W (PostS w0 g A ca L v W lim (d + 1) (atmF sF (L.drop at_.toNat) ns)) := by
  have S0 := S.out
  obtain ⟨f0, f1, f2, f3, k1, k2, k3⟩ := S0.cells
  have hp := S0.p0
  have HL' := Aside0.mk hl
  obtain ⟨ad, rfl, _⟩ := S0.head hl
  obtain ⟨x0, x1, x2⟩ := S0.toks HD.out
  have q0 : decide (at_ ≥ (L.length : Int)) = false := decide_eq_false (by omega)
  have q1 : decide ((L.length : Int) ≤ at_) = false := decide_eq_false (by omega)
  have w1 : wrap64 (at_ + 1) = at_ + 1 := by have := hL.out.1; unfold wrap64; omega
  replace hp := eq_true hp
  replace hl := eq_true hl
  clear S0
  go_enter Tryz.func66, Tryz.ntmps66
  go_wp2_with (fail)
  go_quiet (fail)
  go_wp2_with (fail)
  generalize hW : W.drewN nq = W1
  have HB := Aside0.mk (show Below W.heap.size W W1 from hW ▸ pw_below_drewN (Below.refl _ _) nq)
  have S1 := Aside0.mk (S.out.below HB.out)
  clear hW f0 f1 f2 f3 k1 k2 k3 x0 x1 x2
  obtain ⟨f0, f1, f2, f3, k1, k2, k3⟩ := S1.out.cells
  have B2 := Aside0.mk (below_alloc (Below.refl W1.heap.size W1) (.cells #[.int .i64 0, .int .i64 0, .string ⟨#[]⟩] 51))
  have S2 := Aside0.mk (S1.out.below B2.out)
  obtain ⟨g0, g1, _⟩ := S2.out.cells
  obtain ⟨x0, x1, x2⟩ := S1.out.toks HD.out
  obtain ⟨y0, y1, y2⟩ := S2.out.toks HD.out
  have nb : (W1.alloc (.cells #[.int .i64 0, .int .i64 0, .string ⟨#[]⟩] 51)).heap[W1.heap.size]? = some (.cells #[.int .i64 0, .int .i64 0, .string ⟨#[]⟩] 51 (0, 0)) := blk_new W1 _
  obtain ⟨n0, n1, n2, m0, m1, m2⟩ := bc3s nb
  clear nb
  go_region
  have HB2 := Aside0.mk (below_drew (below_alloc (Below.refl W1.heap.size W1) (.cells #[.int .i64 3, .int .i64 z1, .string z2] 51)))
  have nb2 : (W1.alloc (.cells #[.int .i64 3, .int .i64 z1, .string z2] 51)).drew.heap[W1.heap.size]? = some (.cells #[.int .i64 3, .int .i64 z1, .string z2] 51 (0, 0)) := blk_new W1 _
  generalize hW2 : (W1.alloc (.cells #[.int .i64 3, .int .i64 z1, .string z2] 51)).drew = W2 at HB2 nb2 ⊢
  have NB := S1.out
  have hgb : W1.heap.size ≠ g := by have := blk_lt NB.blk; omega
  clear NB hW2 f0 f1 f2 f3 k1 k2 k3 x0 x1 x2 y0 y1 y2 g0 g1 n0 n1 n2 m0 m1 m2 S2 B2
  have S2 := Aside0.mk (S1.out.below HB2.out)
  have M0 := Aside0.mk ((Mv.of_below g v HB.out).trans (Mv.of_below g v HB2.out))
  clear HB2 S1
  generalize W1.heap.size = gb at nb2 hgb ⊢
  obtain ⟨f0, f1, f2, f3, k1, k2, k3⟩ := S2.out.cells
  have R := S2.out.adv
  have R1 := Aside0.mk R.1
  have MV := Aside0.mk (M0.out.trans R.2)
  obtain ⟨n0, n1, n2, _⟩ := bc3s (blk_far nb2 (p := ⟨g, 1, none⟩) hgb (.int .i64 (at_ + 1)))
  clear R nb2
  have qT : (z2.toList == [40]) = true := nx_txt HQ.out
  have wr : wrap64 ((d : Int) + 1 - 1) = d := by unfold wrap64; omega
  have wr2 : wrap64 (d : Int) = d := by unfold wrap64; omega
  have hLl := hL.out.1
  have HA1 : Aside0 (at_ + 1 ≤ (L.length : Int)) := ⟨by have := HL'.out; omega⟩
  go_wp2_with (fail)
  refine (hsum.out _ v (at_ + 1) ns _ rfl R1 HA1 HN2).mono ?_
  rw [HM.out]
  rintro e w3 ⟨out, at2, ns2, c2, v3, rfl, ⟨rfl, ha2, rfl, rfl, rfl⟩, h3, m3⟩
  have S3 := Aside0.mk h3
  have M3 := Aside0.mk (MV.out.trans m3)
  have HE := Aside0.mk ha2
  have w2 : wrap64 (at2 + 1) = at2 + 1 := by have := h3.p0; unfold wrap64; omega
  have e2 : nxs (L.drop at2.toNat) ⟨#[41]⟩ = nx (L.drop at2.toNat) (sgn 41) := nxs_nx hL.out at2.toNat 41
  have HLn : Aside0 (ns2.length ≤ lim) := ⟨by have h1 := (hgood.out _ _ _ _ _ HM.out).1; have h2 := HL2.out; omega⟩
  clear m3 hLl
  rcases Bool.eq_false_or_eq_true (nx (L.drop at2.toNat) (sgn 41)) with hb2 | hb2
  · have HB2 := Aside0.mk (e2.trans hb2)
    have HB3 := Aside0.mk hb2
    have HLt : Aside0 (at2 + 1 ≤ (L.length : Int)) := ⟨by
      rcases Decidable.em (at2 < (L.length : Int)) with h | h
      · omega
      · rw [StS.end_ h] at hb2
        cases hb2⟩
    have HT := Aside0.mk (drop_adv (L := L) h3.p0)
    clear hb2 e2 h3 ha2
    go_wp2_with (first | (go_at_call 27; refine (s_is S3 _).mono ?_; rw [HB2.out]; rintro e wi ⟨rfl, hb⟩; have S4 := Aside0.mk (S3.out.below hb); have M4 := Aside0.mk (M3.out.trans (Mv.of_below g v3 hb)); clear f0 f1 f2 f3 k1 k2 k3 n0 n1 n2; obtain ⟨f0, f1, f2, f3, k1, k2, k3⟩ := S4.out.cells; have R5 := Aside0.mk S4.out.adv.1; have M5 := Aside0.mk (M4.out.trans S4.out.adv.2); clear hb))
    go_ret
    exact ⟨out, at2 + 1, ns2, 0, v3, rfl, by rw [HD.out, atmF, if_pos HQ.out, List.tail_cons, HM.out]; dsimp only; rw [if_pos HB3.out]; exact ⟨HT.out, HLt.out, rfl, rfl, rfl⟩, R5.out, M5.out⟩
  · have HB2 := Aside0.mk (e2.trans hb2)
    have HB3 := Aside0.mk hb2
    clear hb2 e2 h3 ha2
    go_wp2_with (first | (go_at_call 27; refine (s_is S3 _).mono ?_; rw [HB2.out]; rintro e wi ⟨rfl, hb⟩; have S4 := Aside0.mk (S3.out.below hb); have M4 := Aside0.mk (M3.out.trans (Mv.of_below g v3 hb)); clear f0 f1 f2 f3 k1 k2 k3 n0 n1 n2; clear hb) | (go_at_call 17; refine (s_fail S4 3).mono ?_; rw [if_pos rfl]; rintro e w6 ⟨rfl, h6, m6⟩; obtain ⟨f0, f1, f2, f3, k1, k2, k3⟩ := h6.cells; have R5 := Aside0.mk h6.adv.1; have M5 := Aside0.mk ((M4.out.trans m6).trans h6.adv.2); clear h6 m6))
    go_ret
    exact ⟨out, at2 + 1, ns2, 3, v3, rfl, by rw [HD.out, atmF, if_pos HQ.out, List.tail_cons, HM.out]; dsimp only; rw [HB3.out, if_neg (by decide)]; exact ⟨rfl, by decide, HLn.out, by have := HE.out; omega⟩, R5.out, M5.out⟩
theorem txt_none {s : ByteArray} (h : s.toList = []) : s = ⟨#[]⟩ := by
  rw [Lib.toList_data] at h
  obtain ⟨⟨l⟩⟩ := s
  dsimp only at h
  rw [h]
theorem s_atom {w0 : World} {g ca d : Nat} {A : Option Addr} {L : List S51} {sF : PFun} (hd12 : d ≤ 12) (hsum : Aside0 (PartS w0 g A ca L 16 d sF)) (hgood : Aside0 (Good sF)) (hL : Aside0 (TkL L)) : PartS w0 g A ca L 66 (d + 1) (atmF sF) := by
  intro W v at_ ns room hroom S hat hn
  obtain rfl : room = (d : Int) + 1 := by omega
  rcases Decidable.em (at_ < (L.length : Int)) with hl | hl
  · obtain ⟨ad, hA, ⟨k, z1, z2⟩, hd, _⟩ := S.out.head hl
    have hlen : (L.drop at_.toNat).length = (L.drop (at_ + 1).toNat).length + 1 := by rw [hd]; rfl
    have hm : (⟨k, z1, z2⟩ : S51) ∈ L := List.mem_of_mem_drop (hd ▸ List.mem_cons_self)
    have h1 := hn.out
    have hN : Aside0 (ns.length ≤ 1000000) := ⟨by omega⟩
    rcases hL.out.2 _ hm with h3 | ⟨h12, hz⟩
    · dsimp only at h3
      subst h3
      have hN2 : Aside0 (ns.length + (L.drop (at_ + 1).toNat).length ≤ 1000000) := ⟨by omega⟩
      have hN3 : Aside0 (ns.length + (L.drop (at_ + 1).toNat).length ≤ ns.length + (L.drop at_.toNat).length) := ⟨by omega⟩
      rcases Bool.eq_false_or_eq_true (nx (⟨3, z1, z2⟩ :: L.drop (at_ + 1).toNat) (sgn 40)) with hq | hq
      · cases hm' : sF (L.drop (at_ + 1).toNat) ns with
        | error c => exact s_atom4e hd12 hsum ⟨hq⟩ hN2 hN3 ⟨hm'⟩ S hN hL hl ⟨hd⟩
        | ok r =>
          obtain ⟨t, n, o⟩ := r
          exact s_atom4o hd12 hsum ⟨hq⟩ hN2 hN3 hgood ⟨hm'⟩ S hN hL hl ⟨hd⟩
      · exact s_atom3 ⟨hq⟩ ⟨by omega⟩ S hN hL hl ⟨hd⟩
    · dsimp only at h12 hz
      obtain rfl := txt_none hz
      rcases h12 with rfl | rfl
      · exact s_atom1 S hN hL hl ⟨hd⟩
      · exact s_atom2 S hN hL hl ⟨hd⟩
  · exact s_atomE _ S ⟨by have := hat.out; omega⟩ ⟨by omega⟩ hl
set_option maxHeartbeats 8000000 in
set_option maxRecDepth 100000 in
theorem s_fac0 {w0 : World} {g ca : Nat} {A : Option Addr} {L : List S51} : PartS w0 g A ca L 47 0 (facF 0) := by
  intro W v at_ ns room hroom S hat hn
  obtain rfl : room = 0 := hroom
  obtain ⟨f0, f1, f2, f3, k1, k2, k3⟩ := S.out.cells
  have HL : Aside0 (ns.length ≤ ns.length + (L.drop at_.toNat).length) := ⟨by omega⟩
  have HA : Aside0 (at_ ≤ (L.length : Int) + ((0 : Nat) : Int)) := ⟨by have := hat.out; omega⟩
  generalize ns.length + (L.drop at_.toNat).length = lim at HL ⊢
  go_enter Tryz.func47, Tryz.ntmps47
  go_wp2_with (first | (go_at_call 17; refine (s_fail S 12).mono ?_; rw [if_pos rfl]; rintro e w1 ⟨rfl, h1, m1⟩; have S1 := Aside0.mk h1; have M1 := Aside0.mk m1; clear f0 f1 f2 f3 k1 k2 k3; obtain ⟨f0, f1, f2, f3, k1, k2, k3⟩ := h1.cells; clear h1 m1))
  go_ret
  exact ⟨0, at_, ns, 12, v, rfl, ⟨rfl, by decide, HL.out, HA.out⟩, S1.out, M1.out⟩
set_option maxHeartbeats 8000000 in
set_option maxRecDepth 100000 in
theorem s_facNe {w0 W : World} {g ca d : Nat} {A : Option Addr} {L : List S51} {v : Value} {at_ : Int} {ns : List S49} {lim : Nat} (hd12 : d ≤ 12) (hL : Aside0 (TkL L)) (S : Aside0 (StS w0 g A ca L v at_ ns 0 W)) (hat : Aside0 (at_ ≤ (L.length : Int))) (hn : Aside0 (ns.length + (L.drop at_.toNat).length ≤ 1000000)) (hlim : Aside0 (lim = ns.length + (L.drop at_.toNat).length)) (hF : Aside0 (PartS w0 g A ca L 47 d (facF d))) (HQ : Aside0 (nxs (L.drop at_.toNat) ⟨#[45]⟩ = true)) (HX : Aside0 (nx (L.drop at_.toNat) (sgn 45) = true)) {c : Int} (HM : Aside0 (facF d (L.drop (at_ + 1).toNat) ns = .error c)) :
    Calls Tryz.prog 47 #[.pointer (some ⟨g, 0, none⟩), .int .i64 ((d : Int) + 1)] W (PostS w0 g A ca L v W lim (d + 1) (facF (d + 1) (L.drop at_.toNat) ns)) := by
  obtain ⟨f0, f1, f2, f3, k1, k2, k3⟩ := S.out.cells
  have hLl := hL.out.1
  have hp0 := S.out.p0
  have r0 : ((d : Int) + 1 == 0) = false := beq_eq_false_iff_ne.2 (by omega)
  have r1 : ¬ ((d : Int) + 1 = 0) := by omega
  have wr : wrap64 ((d : Int) + 1 - 1) = d := by unfold wrap64; omega
  have wr2 : wrap64 (d : Int) = d := by unfold wrap64; omega
  have hlt : at_ < (L.length : Int) := by
    rcases Decidable.em (at_ < (L.length : Int)) with h | h
    · exact h
    · have := HX.out
      rw [StS.end_ h] at this
      cases this
  have hl := nx_len HX.out
  rw [← drop_adv hp0] at hl
  have HN2 : Aside0 (ns.length + (L.drop (at_ + 1).toNat).length ≤ 1000000) := ⟨by have := hn.out; omega⟩
  have HLM : Aside0 (ns.length + (L.drop (at_ + 1).toNat).length + 1 ≤ lim) := ⟨by have := hlim.out; omega⟩
  have HA : Aside0 (at_ + 1 ≤ (L.length : Int)) := ⟨by omega⟩
  have HT := Aside0.mk (drop_adv (L := L) hp0)
  have w1 : wrap64 (at_ + 1) = at_ + 1 := by unfold wrap64; omega
  clear hl hp0 hLl hlt
  go_enter Tryz.func47, Tryz.ntmps47
  go_wp2_with (first | (go_at_call 27; refine (s_is S _).mono ?_; rw [HQ.out]; rintro e wi ⟨rfl, hb⟩; have SI := Aside0.mk (S.out.below hb); have MI := Aside0.mk (Mv.of_below g v hb); clear f0 f1 f2 f3 k1 k2 k3; obtain ⟨f0, f1, f2, f3, k1, k2, k3⟩ := SI.out.cells; have R1 := Aside0.mk SI.out.adv.1; have R2 := Aside0.mk (MI.out.trans SI.out.adv.2); clear hb))
  refine (hF.out _ v (at_ + 1) ns _ rfl R1 HA HN2).mono ?_
  rw [HM.out]
  rintro e w3 ⟨out, at2, ns2, c2, v3, rfl, ⟨rfl, hc, hl2, ha2⟩, h3, m3⟩
  have S3 := Aside0.mk h3
  have M3 := Aside0.mk (R2.out.trans m3)
  have HC := Aside0.mk hc
  have HE := Aside0.mk (And.intro hl2 ha2)
  have HN4 : Aside0 (ns2.length ≤ 1000000) := ⟨by have := HN2.out; omega⟩
  clear h3 m3 hc hl2 ha2
  go_wp2_with (first | (go_at_call 29; refine (s_add S3 ⟨7, out, 0, 0⟩ HN4).mono ?_; rintro e w6 ⟨rfl, v6, h6, m6⟩; have S6 := Aside0.mk h6; have M6 := Aside0.mk (M3.out.trans m6); clear h6 m6))
  go_ret
  exact ⟨ns2.length, at2, _, c2, v6, rfl, by rw [facF]; dsimp only; rw [if_pos HX.out, ← HT.out, HM.out]; exact ⟨rfl, HC.out, by have h1 := HE.out.1; have h2 := HLM.out; simp only [List.length_append, List.length_cons, List.length_nil]; omega, by have := HE.out.2; omega⟩, S6.out, M6.out⟩
set_option maxHeartbeats 8000000 in
set_option maxRecDepth 100000 in
theorem s_facNo {w0 W : World} {g ca d : Nat} {A : Option Addr} {L : List S51} {v : Value} {at_ : Int} {ns : List S49} {lim : Nat} (hd12 : d ≤ 12) (hL : Aside0 (TkL L)) (S : Aside0 (StS w0 g A ca L v at_ ns 0 W)) (hat : Aside0 (at_ ≤ (L.length : Int))) (hn : Aside0 (ns.length + (L.drop at_.toNat).length ≤ 1000000)) (hlim : Aside0 (lim = ns.length + (L.drop at_.toNat).length)) (hF : Aside0 (PartS w0 g A ca L 47 d (facF d))) (HQ : Aside0 (nxs (L.drop at_.toNat) ⟨#[45]⟩ = true)) (HX : Aside0 (nx (L.drop at_.toNat) (sgn 45) = true)) {t : List S51} {n : List S49} {o : Int} (HM : Aside0 (facF d (L.drop (at_ + 1).toNat) ns = .ok (t, n, o))) :
    Calls Tryz.prog 47 #[.pointer (some ⟨g, 0, none⟩), .int .i64 ((d : Int) + 1)] W (PostS w0 g A ca L v W lim (d + 1) (facF (d + 1) (L.drop at_.toNat) ns)) := by
  obtain ⟨f0, f1, f2, f3, k1, k2, k3⟩ := S.out.cells
  have hLl := hL.out.1
  have hp0 := S.out.p0
  have r0 : ((d : Int) + 1 == 0) = false := beq_eq_false_iff_ne.2 (by omega)
  have r1 : ¬ ((d : Int) + 1 = 0) := by omega
  have wr : wrap64 ((d : Int) + 1 - 1) = d := by unfold wrap64; omega
  have wr2 : wrap64 (d : Int) = d := by unfold wrap64; omega
  have hlt : at_ < (L.length : Int) := by
    rcases Decidable.em (at_ < (L.length : Int)) with h | h
    · exact h
    · have := HX.out
      rw [StS.end_ h] at this
      cases this
  have hl := nx_len HX.out
  rw [← drop_adv hp0] at hl
  have HN2 : Aside0 (ns.length + (L.drop (at_ + 1).toNat).length ≤ 1000000) := ⟨by have := hn.out; omega⟩
  have HLM : Aside0 (ns.length + (L.drop (at_ + 1).toNat).length + 1 ≤ lim) := ⟨by have := hlim.out; omega⟩
  have HA : Aside0 (at_ + 1 ≤ (L.length : Int)) := ⟨by omega⟩
  have HT := Aside0.mk (drop_adv (L := L) hp0)
  have w1 : wrap64 (at_ + 1) = at_ + 1 := by unfold wrap64; omega
  clear hl hp0 hLl hlt
  go_enter Tryz.func47, Tryz.ntmps47
  go_wp2_with (first | (go_at_call 27; refine (s_is S _).mono ?_; rw [HQ.out]; rintro e wi ⟨rfl, hb⟩; have SI := Aside0.mk (S.out.below hb); have MI := Aside0.mk (Mv.of_below g v hb); clear f0 f1 f2 f3 k1 k2 k3; obtain ⟨f0, f1, f2, f3, k1, k2, k3⟩ := SI.out.cells; have R1 := Aside0.mk SI.out.adv.1; have R2 := Aside0.mk (MI.out.trans SI.out.adv.2); clear hb))
  refine (hF.out _ v (at_ + 1) ns _ rfl R1 HA HN2).mono ?_
  rw [HM.out]
  rintro e w3 ⟨out, at2, ns2, c2, v3, rfl, ⟨rfl, ha2, rfl, rfl, rfl⟩, h3, m3⟩
  have S3 := Aside0.mk h3
  have M3 := Aside0.mk (R2.out.trans m3)
  have HE := Aside0.mk ha2
  have HN4 : Aside0 (ns2.length ≤ 1000000) := ⟨by have h1 := (facF_good d _ _ _ _ _ HM.out).1; have := HN2.out; omega⟩
  clear h3 m3 ha2
  go_wp2_with (first | (go_at_call 29; refine (s_add S3 ⟨7, out, 0, 0⟩ HN4).mono ?_; rintro e w6 ⟨rfl, v6, h6, m6⟩; have S6 := Aside0.mk h6; have M6 := Aside0.mk (M3.out.trans m6); clear h6 m6))
  go_ret
  exact ⟨ns2.length, at2, _, 0, v6, rfl, by rw [facF]; dsimp only; rw [if_pos HX.out, ← HT.out, HM.out]; exact ⟨rfl, HE.out, rfl, rfl, rfl⟩, S6.out, M6.out⟩
set_option maxHeartbeats 8000000 in
set_option maxRecDepth 100000 in
theorem s_facE {w0 W : World} {g ca d : Nat} {A : Option Addr} {L : List S51} {v : Value} {at_ : Int} {ns : List S49} {lim : Nat} (hd12 : d ≤ 12) (hL : Aside0 (TkL L)) (S : Aside0 (StS w0 g A ca L v at_ ns 0 W)) (hat : Aside0 (at_ ≤ (L.length : Int))) (hn : Aside0 (ns.length + (L.drop at_.toNat).length ≤ 1000000)) (hlim : Aside0 (lim = ns.length + (L.drop at_.toNat).length)) (hA : Aside0 (PartS w0 g A ca L 66 (d + 1) (atmF (sumF (facF d))))) (HQ : Aside0 (nxs (L.drop at_.toNat) ⟨#[45]⟩ = false)) (HX : Aside0 (nx (L.drop at_.toNat) (sgn 45) = false)) {c : Int} (HM : Aside0 (atmF (sumF (facF d)) (L.drop at_.toNat) ns = .error c)) :
    Calls Tryz.prog 47 #[.pointer (some ⟨g, 0, none⟩), .int .i64 ((d : Int) + 1)] W (PostS w0 g A ca L v W lim (d + 1) (facF (d + 1) (L.drop at_.toNat) ns)) := by
  obtain ⟨f0, f1, f2, f3, k1, k2, k3⟩ := S.out.cells
  have hLl := hL.out.1
  have hp0 := S.out.p0
  have r0 : ((d : Int) + 1 == 0) = false := beq_eq_false_iff_ne.2 (by omega)
  have r1 : ¬ ((d : Int) + 1 = 0) := by omega
  have wr : wrap64 ((d : Int) + 1 - 1) = d := by unfold wrap64; omega
  have wr2 : wrap64 (d : Int) = d := by unfold wrap64; omega
  go_enter Tryz.func47, Tryz.ntmps47
  go_wp2_with (first | (go_at_call 27; refine (s_is S _).mono ?_; rw [HQ.out]; rintro e wi ⟨rfl, hb⟩; have SI := Aside0.mk (S.out.below hb); have MI := Aside0.mk (Mv.of_below g v hb); clear f0 f1 f2 f3 k1 k2 k3; obtain ⟨f0, f1, f2, f3, k1, k2, k3⟩ := SI.out.cells; clear hb))
  refine (hA.out _ v at_ ns ((d : Int) + 1) (by omega) SI hat hn).mono ?_
  rw [HM.out]
  rintro e w3 ⟨out, at2, ns2, c2, v3, rfl, ⟨rfl, hc, hl2, ha2⟩, h3, m3⟩
  have S3 := Aside0.mk h3
  have M3 := Aside0.mk (MI.out.trans m3)
  have HC := Aside0.mk hc
  have HE := Aside0.mk (And.intro hl2 ha2)
  have q2 : (c2 == 0) = false := beq_eq_false_iff_ne.2 hc
  clear f0 f1 f2 f3 k1 k2 k3
  obtain ⟨f0, f1, f2, f3, k1, k2, k3⟩ := h3.cells
  clear h3 m3 hl2 ha2
  go_wp2
  go_ret
  exact ⟨out, at2, ns2, c2, v3, rfl, by rw [facF]; dsimp only; rw [HX.out, if_neg (by decide), HM.out]; exact ⟨rfl, HC.out, by have h1 := HE.out.1; have h2 := hlim.out; omega, by have := HE.out.2; omega⟩, S3.out, M3.out⟩
set_option maxHeartbeats 8000000 in
set_option maxRecDepth 100000 in
theorem s_facA {w0 W : World} {g ca d : Nat} {A : Option Addr} {L : List S51} {v : Value} {at_ : Int} {ns : List S49} {lim : Nat} (hd12 : d ≤ 12) (hL : Aside0 (TkL L)) (S : Aside0 (StS w0 g A ca L v at_ ns 0 W)) (hat : Aside0 (at_ ≤ (L.length : Int))) (hn : Aside0 (ns.length + (L.drop at_.toNat).length ≤ 1000000)) (hlim : Aside0 (lim = ns.length + (L.drop at_.toNat).length)) (hA : Aside0 (PartS w0 g A ca L 66 (d + 1) (atmF (sumF (facF d))))) (HQ : Aside0 (nxs (L.drop at_.toNat) ⟨#[45]⟩ = false)) (HX : Aside0 (nx (L.drop at_.toNat) (sgn 45) = false)) {t : List S51} {n : List S49} {o : Int} (HM : Aside0 (atmF (sumF (facF d)) (L.drop at_.toNat) ns = .ok (t, n, o))) (HP : Aside0 (nx t (sgn 94) = false)) :
    Calls Tryz.prog 47 #[.pointer (some ⟨g, 0, none⟩), .int .i64 ((d : Int) + 1)] W (PostS w0 g A ca L v W lim (d + 1) (facF (d + 1) (L.drop at_.toNat) ns)) := by
  obtain ⟨f0, f1, f2, f3, k1, k2, k3⟩ := S.out.cells
  have hLl := hL.out.1
  have hp0 := S.out.p0
  have r0 : ((d : Int) + 1 == 0) = false := beq_eq_false_iff_ne.2 (by omega)
  have r1 : ¬ ((d : Int) + 1 = 0) := by omega
  have wr : wrap64 ((d : Int) + 1 - 1) = d := by unfold wrap64; omega
  have wr2 : wrap64 (d : Int) = d := by unfold wrap64; omega
  go_enter Tryz.func47, Tryz.ntmps47
  go_wp2_with (first | (go_at_call 27; refine (s_is S _).mono ?_; rw [HQ.out]; rintro e wi ⟨rfl, hb⟩; have SI := Aside0.mk (S.out.below hb); have MI := Aside0.mk (Mv.of_below g v hb); clear f0 f1 f2 f3 k1 k2 k3; obtain ⟨f0, f1, f2, f3, k1, k2, k3⟩ := SI.out.cells; clear hb))
  refine (hA.out _ v at_ ns ((d : Int) + 1) (by omega) SI hat hn).mono ?_
  rw [HM.out]
  rintro e w3 ⟨out, at2, ns2, c2, v3, rfl, ⟨ht, ha2, rfl, rfl, rfl⟩, h3, m3⟩
  have S3 := Aside0.mk h3
  have M3 := Aside0.mk (MI.out.trans m3)
  have HE := Aside0.mk ha2
  have HG := Aside0.mk (atmF_good (sumF_good (facF_good d)) _ _ _ _ _ HM.out)
  have hp2 := h3.p0
  clear f0 f1 f2 f3 k1 k2 k3
  obtain ⟨f0, f1, f2, f3, k1, k2, k3⟩ := h3.cells
  clear h3 m3
  have HP2 := Aside0.mk ((show nxs (L.drop at2.toNat) ⟨#[94]⟩ = nx (L.drop at2.toNat) (sgn 94) from nxs_nx hL.out at2.toNat 94).trans (ht ▸ HP.out))
  have HT := Aside0.mk ht
  clear ht ha2 hp2 SI MI
  go_wp2_with (first | (go_at_call 27; refine (s_is S3 _).mono ?_; rw [HP2.out]; rintro e wi ⟨rfl, hb⟩; have SI := Aside0.mk (S3.out.below hb); have MI := Aside0.mk (M3.out.trans (Mv.of_below g _ hb)); clear f0 f1 f2 f3 k1 k2 k3; obtain ⟨f0, f1, f2, f3, k1, k2, k3⟩ := SI.out.cells; clear hb))
  go_ret
  exact ⟨out, at2, ns2, 0, v3, rfl, by rw [facF]; dsimp only; rw [HX.out, if_neg (by decide), HM.out]; dsimp only; rw [HP.out, if_neg (by decide)]; exact ⟨HT.out, HE.out, rfl, rfl, rfl⟩, SI.out, MI.out⟩
set_option maxHeartbeats 8000000 in
set_option maxRecDepth 100000 in
theorem s_facP0 {w0 W : World} {g ca d : Nat} {A : Option Addr} {L : List S51} {v : Value} {at_ : Int} {ns : List S49} {lim : Nat} (hd12 : d ≤ 12) (hL : Aside0 (TkL L)) (S : Aside0 (StS w0 g A ca L v at_ ns 0 W)) (hat : Aside0 (at_ ≤ (L.length : Int))) (hn : Aside0 (ns.length + (L.drop at_.toNat).length ≤ 1000000)) (hlim : Aside0 (lim = ns.length + (L.drop at_.toNat).length)) (hA : Aside0 (PartS w0 g A ca L 66 (d + 1) (atmF (sumF (facF d))))) (HQ : Aside0 (nxs (L.drop at_.toNat) ⟨#[45]⟩ = false)) (HX : Aside0 (nx (L.drop at_.toNat) (sgn 45) = false)) {p : S51} {n : List S49} {o : Int} (HM : Aside0 (atmF (sumF (facF d)) (L.drop at_.toNat) ns = .ok ([p], n, o))) (HP : Aside0 (nx ([p]) (sgn 94) = true))  :
    Calls Tryz.prog 47 #[.pointer (some ⟨g, 0, none⟩), .int .i64 ((d : Int) + 1)] W (PostS w0 g A ca L v W lim (d + 1) (facF (d + 1) (L.drop at_.toNat) ns)) := by
  obtain ⟨f0, f1, f2, f3, k1, k2, k3⟩ := S.out.cells
  have hLl := hL.out.1
  have hp0 := S.out.p0
  have r0 : ((d : Int) + 1 == 0) = false := beq_eq_false_iff_ne.2 (by omega)
  have r1 : ¬ ((d : Int) + 1 = 0) := by omega
  have wr : wrap64 ((d : Int) + 1 - 1) = d := by unfold wrap64; omega
  have wr2 : wrap64 (d : Int) = d := by unfold wrap64; omega
  go_enter Tryz.func47, Tryz.ntmps47
  go_wp2_with (first | (go_at_call 27; refine (s_is S _).mono ?_; rw [HQ.out]; rintro e wi ⟨rfl, hb⟩; have SI := Aside0.mk (S.out.below hb); have MI := Aside0.mk (Mv.of_below g v hb); clear f0 f1 f2 f3 k1 k2 k3; obtain ⟨f0, f1, f2, f3, k1, k2, k3⟩ := SI.out.cells; clear hb))
  refine (hA.out _ v at_ ns ((d : Int) + 1) (by omega) SI hat hn).mono ?_
  rw [HM.out]
  rintro e w3 ⟨out, at2, ns2, c2, v3, rfl, ⟨ht, ha2, rfl, rfl, rfl⟩, h3, m3⟩
  have S3 := Aside0.mk h3
  have M3 := Aside0.mk (MI.out.trans m3)
  have HE := Aside0.mk ha2
  have HG := Aside0.mk (atmF_good (sumF_good (facF_good d)) _ _ _ _ _ HM.out)
  have hp2 := h3.p0
  clear f0 f1 f2 f3 k1 k2 k3
  obtain ⟨f0, f1, f2, f3, k1, k2, k3⟩ := h3.cells
  clear h3 m3
  have HP2 := Aside0.mk ((show nxs (L.drop at2.toNat) ⟨#[94]⟩ = nx (L.drop at2.toNat) (sgn 94) from nxs_nx hL.out at2.toNat 94).trans (ht ▸ HP.out))
  have HT := Aside0.mk ((drop_adv (L := L) hp2).trans (congrArg List.tail ht))
  have HA2 : Aside0 (at2 + 1 ≤ (L.length : Int)) := ⟨by
    rcases Decidable.em (at2 < (L.length : Int)) with h | h
    · omega
    · rw [StS.end_ h] at ht
      cases ht⟩
  have w2 : wrap64 (at2 + 1) = at2 + 1 := by unfold wrap64; omega
  clear ht ha2 hp2 SI MI
  go_wp2_with (first | (go_at_call 27; refine (s_is S3 _).mono ?_; rw [HP2.out]; rintro e wi ⟨rfl, hb⟩; have SI := Aside0.mk (S3.out.below hb); have MI := Aside0.mk (M3.out.trans (Mv.of_below g _ hb)); clear f0 f1 f2 f3 k1 k2 k3; obtain ⟨f0, f1, f2, f3, k1, k2, k3⟩ := SI.out.cells; have R1 := Aside0.mk SI.out.adv.1; have R2 := Aside0.mk (MI.out.trans SI.out.adv.2); clear hb))
  generalize hWA : wi.setCell ⟨g, 1, none⟩ (.int .i64 (at2 + 1)) = WA at R1 R2 ⊢
  clear hWA f0 f1 f2 f3 k1 k2 k3 SI MI
  obtain ⟨f0, f1, f2, f3, k1, k2, k3⟩ := R1.out.cells
  have hp := R1.out.p0
  have hge : ¬ at2 + 1 < (L.length : Int) := fun h => by
    obtain ⟨_, _, x, hx, _⟩ := R1.out.head h
    rw [HT.out] at hx
    cases hx
  have q0 : decide (at2 + 1 ≥ (L.length : Int)) = true := decide_eq_true (by omega)
  have q1 : decide ((L.length : Int) ≤ at2 + 1) = true := decide_eq_true (by omega)
  clear hge
  go_quiet (fail)
  go_wp2_with (first | (go_at_call 17; refine (s_fail ⟨R1.out.below (pw_below_drewN (Below.refl _ _) nq)⟩ 3).mono ?_; rw [if_pos rfl]; rintro e w6 ⟨rfl, h6, m6⟩; have S6 := Aside0.mk h6; have M6 := Aside0.mk ((R2.out.trans (Mv.of_below g v3 (pw_below_drewN (Below.refl WA.heap.size WA) nq))).trans m6); clear h6 m6))
  go_ret
  exact ⟨0, at2 + 1, ns2, 3, v3, rfl, by rw [facF]; dsimp only; rw [HX.out, if_neg (by decide), HM.out]; dsimp only; rw [HP.out, if_pos rfl, List.tail_cons, powF]; exact ⟨rfl, by decide, by have h1 := HG.out; have h2 := hlim.out; simp only [List.length_cons, List.length_nil] at h1; omega, by have := HA2.out; omega⟩, S6.out, M6.out⟩
set_option maxHeartbeats 8000000 in
set_option maxRecDepth 100000 in
theorem s_facP1 {w0 W : World} {g ca d : Nat} {A : Option Addr} {L : List S51} {v : Value} {at_ : Int} {ns : List S49} {lim : Nat} (hd12 : d ≤ 12) (hL : Aside0 (TkL L)) (S : Aside0 (StS w0 g A ca L v at_ ns 0 W)) (hat : Aside0 (at_ ≤ (L.length : Int))) (hn : Aside0 (ns.length + (L.drop at_.toNat).length ≤ 1000000)) (hlim : Aside0 (lim = ns.length + (L.drop at_.toNat).length)) (hA : Aside0 (PartS w0 g A ca L 66 (d + 1) (atmF (sumF (facF d))))) (HQ : Aside0 (nxs (L.drop at_.toNat) ⟨#[45]⟩ = false)) (HX : Aside0 (nx (L.drop at_.toNat) (sgn 45) = false)) {p : S51} {r : List S51} {y0 y1 : Int} {y2 : ByteArray} {n : List S49} {o : Int} (HM : Aside0 (atmF (sumF (facF d)) (L.drop at_.toNat) ns = .ok (p :: ⟨y0, y1, y2⟩ :: r, n, o))) (HP : Aside0 (nx (p :: ⟨y0, y1, y2⟩ :: r) (sgn 94) = true)) (HY : Aside0 (y0 ≠ 1)) :
    Calls Tryz.prog 47 #[.pointer (some ⟨g, 0, none⟩), .int .i64 ((d : Int) + 1)] W (PostS w0 g A ca L v W lim (d + 1) (facF (d + 1) (L.drop at_.toNat) ns)) := by
  obtain ⟨f0, f1, f2, f3, k1, k2, k3⟩ := S.out.cells
  have hLl := hL.out.1
  have hp0 := S.out.p0
  have r0 : ((d : Int) + 1 == 0) = false := beq_eq_false_iff_ne.2 (by omega)
  have r1 : ¬ ((d : Int) + 1 = 0) := by omega
  have wr : wrap64 ((d : Int) + 1 - 1) = d := by unfold wrap64; omega
  have wr2 : wrap64 (d : Int) = d := by unfold wrap64; omega
  go_enter Tryz.func47, Tryz.ntmps47
  go_wp2_with (first | (go_at_call 27; refine (s_is S _).mono ?_; rw [HQ.out]; rintro e wi ⟨rfl, hb⟩; have SI := Aside0.mk (S.out.below hb); have MI := Aside0.mk (Mv.of_below g v hb); clear f0 f1 f2 f3 k1 k2 k3; obtain ⟨f0, f1, f2, f3, k1, k2, k3⟩ := SI.out.cells; clear hb))
  refine (hA.out _ v at_ ns ((d : Int) + 1) (by omega) SI hat hn).mono ?_
  rw [HM.out]
  rintro e w3 ⟨out, at2, ns2, c2, v3, rfl, ⟨ht, ha2, rfl, rfl, rfl⟩, h3, m3⟩
  have S3 := Aside0.mk h3
  have M3 := Aside0.mk (MI.out.trans m3)
  have HE := Aside0.mk ha2
  have HG := Aside0.mk (atmF_good (sumF_good (facF_good d)) _ _ _ _ _ HM.out)
  have hp2 := h3.p0
  clear f0 f1 f2 f3 k1 k2 k3
  obtain ⟨f0, f1, f2, f3, k1, k2, k3⟩ := h3.cells
  clear h3 m3
  have HP2 := Aside0.mk ((show nxs (L.drop at2.toNat) ⟨#[94]⟩ = nx (L.drop at2.toNat) (sgn 94) from nxs_nx hL.out at2.toNat 94).trans (ht ▸ HP.out))
  have HT := Aside0.mk ((drop_adv (L := L) hp2).trans (congrArg List.tail ht))
  have HA2 : Aside0 (at2 + 1 ≤ (L.length : Int)) := ⟨by
    rcases Decidable.em (at2 < (L.length : Int)) with h | h
    · omega
    · rw [StS.end_ h] at ht
      cases ht⟩
  have w2 : wrap64 (at2 + 1) = at2 + 1 := by unfold wrap64; omega
  clear ht ha2 hp2 SI MI
  go_wp2_with (first | (go_at_call 27; refine (s_is S3 _).mono ?_; rw [HP2.out]; rintro e wi ⟨rfl, hb⟩; have SI := Aside0.mk (S3.out.below hb); have MI := Aside0.mk (M3.out.trans (Mv.of_below g _ hb)); clear f0 f1 f2 f3 k1 k2 k3; obtain ⟨f0, f1, f2, f3, k1, k2, k3⟩ := SI.out.cells; have R1 := Aside0.mk SI.out.adv.1; have R2 := Aside0.mk (MI.out.trans SI.out.adv.2); clear hb))
  generalize hWA : wi.setCell ⟨g, 1, none⟩ (.int .i64 (at2 + 1)) = WA at R1 R2 ⊢
  clear hWA f0 f1 f2 f3 k1 k2 k3 SI MI
  obtain ⟨f0, f1, f2, f3, k1, k2, k3⟩ := R1.out.cells
  have hp := R1.out.p0
  have hlt : at2 + 1 < (L.length : Int) := by
    rcases Decidable.em (at2 + 1 < (L.length : Int)) with h | h
    · exact h
    · have hx := HT.out
      rw [StS.end_ h] at hx
      cases hx
  obtain ⟨ad, rfl, _⟩ := R1.out.head hlt
  obtain ⟨x0, x1, x2⟩ := R1.out.toks HT.out
  have q0 : decide (at2 + 1 ≥ (L.length : Int)) = false := decide_eq_false (by omega)
  have q1 : decide ((L.length : Int) ≤ at2 + 1) = false := decide_eq_false (by omega)
  have HLT := Aside0.mk hlt
  replace hp := eq_true hp
  replace hlt := eq_true hlt
  have q3 : (y0 == 1) = false := beq_eq_false_iff_ne.2 HY.out
  have q3n : ¬ y0 = 1 := HY.out
  go_quiet (fail)
  go_wp2_with (first | (go_at_call 17; refine (s_fail ⟨R1.out.below (pw_below_drewN (Below.refl _ _) nq)⟩ 3).mono ?_; rw [if_pos rfl]; rintro e w6 ⟨rfl, h6, m6⟩; have S6 := Aside0.mk h6; have M6 := Aside0.mk ((R2.out.trans (Mv.of_below g v3 (pw_below_drewN (Below.refl WA.heap.size WA) nq))).trans m6); clear h6 m6))
  go_ret
  exact ⟨0, at2 + 1, ns2, 3, v3, rfl, by rw [facF]; dsimp only; rw [HX.out, if_neg (by decide), HM.out]; dsimp only; rw [HP.out, if_pos rfl, List.tail_cons, powF, if_neg (fun h => HY.out h.1)]; exact ⟨rfl, by decide, by have h1 := HG.out; have h2 := hlim.out; simp only [List.length_cons, List.length_nil] at h1; omega, by have := HA2.out; omega⟩, S6.out, M6.out⟩
set_option maxHeartbeats 8000000 in
set_option maxRecDepth 100000 in
theorem s_facP2 {w0 W : World} {g ca d : Nat} {A : Option Addr} {L : List S51} {v : Value} {at_ : Int} {ns : List S49} {lim : Nat} (hd12 : d ≤ 12) (hL : Aside0 (TkL L)) (S : Aside0 (StS w0 g A ca L v at_ ns 0 W)) (hat : Aside0 (at_ ≤ (L.length : Int))) (hn : Aside0 (ns.length + (L.drop at_.toNat).length ≤ 1000000)) (hlim : Aside0 (lim = ns.length + (L.drop at_.toNat).length)) (hA : Aside0 (PartS w0 g A ca L 66 (d + 1) (atmF (sumF (facF d))))) (HQ : Aside0 (nxs (L.drop at_.toNat) ⟨#[45]⟩ = false)) (HX : Aside0 (nx (L.drop at_.toNat) (sgn 45) = false)) {p : S51} {r : List S51} {y1 : Int} {y2 : ByteArray} {n : List S49} {o : Int} (HM : Aside0 (atmF (sumF (facF d)) (L.drop at_.toNat) ns = .ok (p :: ⟨1, y1, y2⟩ :: r, n, o))) (HP : Aside0 (nx (p :: ⟨1, y1, y2⟩ :: r) (sgn 94) = true)) (HY : Aside0 (8 < y1)) :
    Calls Tryz.prog 47 #[.pointer (some ⟨g, 0, none⟩), .int .i64 ((d : Int) + 1)] W (PostS w0 g A ca L v W lim (d + 1) (facF (d + 1) (L.drop at_.toNat) ns)) := by
  obtain ⟨f0, f1, f2, f3, k1, k2, k3⟩ := S.out.cells
  have hLl := hL.out.1
  have hp0 := S.out.p0
  have r0 : ((d : Int) + 1 == 0) = false := beq_eq_false_iff_ne.2 (by omega)
  have r1 : ¬ ((d : Int) + 1 = 0) := by omega
  have wr : wrap64 ((d : Int) + 1 - 1) = d := by unfold wrap64; omega
  have wr2 : wrap64 (d : Int) = d := by unfold wrap64; omega
  go_enter Tryz.func47, Tryz.ntmps47
  go_wp2_with (first | (go_at_call 27; refine (s_is S _).mono ?_; rw [HQ.out]; rintro e wi ⟨rfl, hb⟩; have SI := Aside0.mk (S.out.below hb); have MI := Aside0.mk (Mv.of_below g v hb); clear f0 f1 f2 f3 k1 k2 k3; obtain ⟨f0, f1, f2, f3, k1, k2, k3⟩ := SI.out.cells; clear hb))
  refine (hA.out _ v at_ ns ((d : Int) + 1) (by omega) SI hat hn).mono ?_
  rw [HM.out]
  rintro e w3 ⟨out, at2, ns2, c2, v3, rfl, ⟨ht, ha2, rfl, rfl, rfl⟩, h3, m3⟩
  have S3 := Aside0.mk h3
  have M3 := Aside0.mk (MI.out.trans m3)
  have HE := Aside0.mk ha2
  have HG := Aside0.mk (atmF_good (sumF_good (facF_good d)) _ _ _ _ _ HM.out)
  have hp2 := h3.p0
  clear f0 f1 f2 f3 k1 k2 k3
  obtain ⟨f0, f1, f2, f3, k1, k2, k3⟩ := h3.cells
  clear h3 m3
  have HP2 := Aside0.mk ((show nxs (L.drop at2.toNat) ⟨#[94]⟩ = nx (L.drop at2.toNat) (sgn 94) from nxs_nx hL.out at2.toNat 94).trans (ht ▸ HP.out))
  have HT := Aside0.mk ((drop_adv (L := L) hp2).trans (congrArg List.tail ht))
  have HA2 : Aside0 (at2 + 1 ≤ (L.length : Int)) := ⟨by
    rcases Decidable.em (at2 < (L.length : Int)) with h | h
    · omega
    · rw [StS.end_ h] at ht
      cases ht⟩
  have w2 : wrap64 (at2 + 1) = at2 + 1 := by unfold wrap64; omega
  clear ht ha2 hp2 SI MI
  go_wp2_with (first | (go_at_call 27; refine (s_is S3 _).mono ?_; rw [HP2.out]; rintro e wi ⟨rfl, hb⟩; have SI := Aside0.mk (S3.out.below hb); have MI := Aside0.mk (M3.out.trans (Mv.of_below g _ hb)); clear f0 f1 f2 f3 k1 k2 k3; obtain ⟨f0, f1, f2, f3, k1, k2, k3⟩ := SI.out.cells; have R1 := Aside0.mk SI.out.adv.1; have R2 := Aside0.mk (MI.out.trans SI.out.adv.2); clear hb))
  generalize hWA : wi.setCell ⟨g, 1, none⟩ (.int .i64 (at2 + 1)) = WA at R1 R2 ⊢
  clear hWA f0 f1 f2 f3 k1 k2 k3 SI MI
  obtain ⟨f0, f1, f2, f3, k1, k2, k3⟩ := R1.out.cells
  have hp := R1.out.p0
  have hlt : at2 + 1 < (L.length : Int) := by
    rcases Decidable.em (at2 + 1 < (L.length : Int)) with h | h
    · exact h
    · have hx := HT.out
      rw [StS.end_ h] at hx
      cases hx
  obtain ⟨ad, rfl, _⟩ := R1.out.head hlt
  obtain ⟨x0, x1, x2⟩ := R1.out.toks HT.out
  have q0 : decide (at2 + 1 ≥ (L.length : Int)) = false := decide_eq_false (by omega)
  have q1 : decide ((L.length : Int) ≤ at2 + 1) = false := decide_eq_false (by omega)
  have HLT := Aside0.mk hlt
  replace hp := eq_true hp
  replace hlt := eq_true hlt
  have q3 : decide (y1 > 8) = true := decide_eq_true HY.out
  go_quiet (fail)
  go_wp2_with (first | (go_at_call 17; refine (s_fail ⟨R1.out.below (pw_below_drewN (Below.refl _ _) nq)⟩ 3).mono ?_; rw [if_pos rfl]; rintro e w6 ⟨rfl, h6, m6⟩; have S6 := Aside0.mk h6; have M6 := Aside0.mk ((R2.out.trans (Mv.of_below g v3 (pw_below_drewN (Below.refl WA.heap.size WA) nq))).trans m6); clear h6 m6))
  go_ret
  exact ⟨0, at2 + 1, ns2, 3, v3, rfl, by rw [facF]; dsimp only; rw [HX.out, if_neg (by decide), HM.out]; dsimp only; rw [HP.out, if_pos rfl, List.tail_cons, powF, if_neg (fun h => Int.not_lt.2 h.2 HY.out)]; exact ⟨rfl, by decide, by have h1 := HG.out; have h2 := hlim.out; simp only [List.length_cons, List.length_nil] at h1; omega, by have := HA2.out; omega⟩, S6.out, M6.out⟩
set_option maxHeartbeats 8000000 in
set_option maxRecDepth 100000 in
theorem s_facP3 {w0 W : World} {g ca d : Nat} {A : Option Addr} {L : List S51} {v : Value} {at_ : Int} {ns : List S49} {lim : Nat} (hd12 : d ≤ 12) (hL : Aside0 (TkL L)) (S : Aside0 (StS w0 g A ca L v at_ ns 0 W)) (hat : Aside0 (at_ ≤ (L.length : Int))) (hn : Aside0 (ns.length + (L.drop at_.toNat).length ≤ 1000000)) (hlim : Aside0 (lim = ns.length + (L.drop at_.toNat).length)) (hA : Aside0 (PartS w0 g A ca L 66 (d + 1) (atmF (sumF (facF d))))) (HQ : Aside0 (nxs (L.drop at_.toNat) ⟨#[45]⟩ = false)) (HX : Aside0 (nx (L.drop at_.toNat) (sgn 45) = false)) {p : S51} {r : List S51} {y1 : Int} {y2 : ByteArray} {n : List S49} {o : Int} (HM : Aside0 (atmF (sumF (facF d)) (L.drop at_.toNat) ns = .ok (p :: ⟨1, y1, y2⟩ :: r, n, o))) (HP : Aside0 (nx (p :: ⟨1, y1, y2⟩ :: r) (sgn 94) = true)) (HY : Aside0 (¬ 8 < y1)) :
    Calls Tryz.prog 47 #[.pointer (some ⟨g, 0, none⟩), .int .i64 ((d : Int) + 1)] W (PostS w0 g A ca L v W lim (d + 1) (facF (d + 1) (L.drop at_.toNat) ns)) := by
  obtain ⟨f0, f1, f2, f3, k1, k2, k3⟩ := S.out.cells
  have hLl := hL.out.1
  have hp0 := S.out.p0
  have r0 : ((d : Int) + 1 == 0) = false := beq_eq_false_iff_ne.2 (by omega)
  have r1 : ¬ ((d : Int) + 1 = 0) := by omega
  have wr : wrap64 ((d : Int) + 1 - 1) = d := by unfold wrap64; omega
  have wr2 : wrap64 (d : Int) = d := by unfold wrap64; omega
  go_enter Tryz.func47, Tryz.ntmps47
  go_wp2_with (first | (go_at_call 27; refine (s_is S _).mono ?_; rw [HQ.out]; rintro e wi ⟨rfl, hb⟩; have SI := Aside0.mk (S.out.below hb); have MI := Aside0.mk (Mv.of_below g v hb); clear f0 f1 f2 f3 k1 k2 k3; obtain ⟨f0, f1, f2, f3, k1, k2, k3⟩ := SI.out.cells; clear hb))
  refine (hA.out _ v at_ ns ((d : Int) + 1) (by omega) SI hat hn).mono ?_
  rw [HM.out]
  rintro e w3 ⟨out, at2, ns2, c2, v3, rfl, ⟨ht, ha2, rfl, rfl, rfl⟩, h3, m3⟩
  have S3 := Aside0.mk h3
  have M3 := Aside0.mk (MI.out.trans m3)
  have HE := Aside0.mk ha2
  have HG := Aside0.mk (atmF_good (sumF_good (facF_good d)) _ _ _ _ _ HM.out)
  have hp2 := h3.p0
  clear f0 f1 f2 f3 k1 k2 k3
  obtain ⟨f0, f1, f2, f3, k1, k2, k3⟩ := h3.cells
  clear h3 m3
  have HP2 := Aside0.mk ((show nxs (L.drop at2.toNat) ⟨#[94]⟩ = nx (L.drop at2.toNat) (sgn 94) from nxs_nx hL.out at2.toNat 94).trans (ht ▸ HP.out))
  have HT := Aside0.mk ((drop_adv (L := L) hp2).trans (congrArg List.tail ht))
  have HA2 : Aside0 (at2 + 1 ≤ (L.length : Int)) := ⟨by
    rcases Decidable.em (at2 < (L.length : Int)) with h | h
    · omega
    · rw [StS.end_ h] at ht
      cases ht⟩
  have w2 : wrap64 (at2 + 1) = at2 + 1 := by unfold wrap64; omega
  clear ht ha2 hp2 SI MI
  go_wp2_with (first | (go_at_call 27; refine (s_is S3 _).mono ?_; rw [HP2.out]; rintro e wi ⟨rfl, hb⟩; have SI := Aside0.mk (S3.out.below hb); have MI := Aside0.mk (M3.out.trans (Mv.of_below g _ hb)); clear f0 f1 f2 f3 k1 k2 k3; obtain ⟨f0, f1, f2, f3, k1, k2, k3⟩ := SI.out.cells; have R1 := Aside0.mk SI.out.adv.1; have R2 := Aside0.mk (MI.out.trans SI.out.adv.2); clear hb))
  generalize hWA : wi.setCell ⟨g, 1, none⟩ (.int .i64 (at2 + 1)) = WA at R1 R2 ⊢
  clear hWA f0 f1 f2 f3 k1 k2 k3 SI MI
  obtain ⟨f0, f1, f2, f3, k1, k2, k3⟩ := R1.out.cells
  have hp := R1.out.p0
  have hlt : at2 + 1 < (L.length : Int) := by
    rcases Decidable.em (at2 + 1 < (L.length : Int)) with h | h
    · exact h
    · have hx := HT.out
      rw [StS.end_ h] at hx
      cases hx
  obtain ⟨ad, rfl, _⟩ := R1.out.head hlt
  obtain ⟨x0, x1, x2⟩ := R1.out.toks HT.out
  have q0 : decide (at2 + 1 ≥ (L.length : Int)) = false := decide_eq_false (by omega)
  have q1 : decide ((L.length : Int) ≤ at2 + 1) = false := decide_eq_false (by omega)
  have HLT := Aside0.mk hlt
  replace hp := eq_true hp
  replace hlt := eq_true hlt
  have q3 : decide (y1 > 8) = false := decide_eq_false (by have := HY.out; omega)
  have w3 : wrap64 (at2 + 1 + 1) = at2 + 1 + 1 := by have := hL.out.1; have := HLT.out; have := of_eq_true hp; unfold wrap64; omega
  have HT2 := Aside0.mk ((drop_adv (L := L) (at_ := at2 + 1) (of_eq_true hp)).trans (congrArg List.tail HT.out))
  have HN4 : Aside0 (ns2.length ≤ 1000000) := ⟨by have h1 := HG.out; have h2 := hn.out; omega⟩
  go_quiet (fail)
  go_wp2_with (fail)
  generalize hWB : WA.drewN nq = WB
  have RB := Aside0.mk (R1.out.below (show Below WA.heap.size WA WB from hWB ▸ pw_below_drewN (Below.refl _ _) nq))
  have MB := Aside0.mk (R2.out.trans (Mv.of_below g v3 (show Below WA.heap.size WA WB from hWB ▸ pw_below_drewN (Below.refl _ _) nq)))
  clear hWB f0 f1 f2 f3 k1 k2 k3 x0 x1 x2
  obtain ⟨f0, f1, f2, f3, k1, k2, k3⟩ := RB.out.cells
  obtain ⟨x0, x1, x2⟩ := RB.out.toks HT.out
  go_quiet (fail)
  go_wp2_with (fail)
  have RD := RB.out.below (pw_below_drewN (Below.refl WB.heap.size WB) nq)
  have R5 := Aside0.mk RD.adv.1
  have M5 := Aside0.mk ((MB.out.trans (Mv.of_below g v3 (pw_below_drewN (Below.refl WB.heap.size WB) nq))).trans RD.adv.2)
  clear RD
  refine (s_add R5 ⟨8, out, 0, y1⟩ HN4).mono ?_
  rintro e w6 ⟨rfl, v6, h6, m6⟩
  have S6 := Aside0.mk h6
  have M6 := Aside0.mk (M5.out.trans m6)
  clear h6 m6
  go_wp2
  go_ret
  exact ⟨ns2.length, at2 + 1 + 1, _, 0, v6, rfl, by rw [facF]; dsimp only; rw [HX.out, if_neg (by decide), HM.out]; dsimp only; rw [HP.out, if_pos rfl, List.tail_cons, powF, if_pos ⟨rfl, show y1 ≤ 8 from by have := HY.out; omega⟩]; exact ⟨HT2.out, by have := HLT.out; omega, rfl, rfl, rfl⟩, S6.out, M6.out⟩
theorem s_factor {w0 : World} {g ca : Nat} {A : Option Addr} {L : List S51} (hL : Aside0 (TkL L)) : ∀ d, d ≤ 12 → PartS w0 g A ca L 47 d (facF d)
  | 0, _ => s_fac0
  | d + 1, hd => by
    have hF : Aside0 (PartS w0 g A ca L 47 d (facF d)) := ⟨s_factor hL d (by omega)⟩
    have hd12 : d ≤ 12 := by omega
    have hg := sumF_good (facF_good d)
    have hS : Aside0 (PartS w0 g A ca L 16 d (sumF (facF d))) := ⟨s_sum ⟨s_product hF ⟨facF_good d⟩ hL⟩ ⟨chF_good (facF_good d)⟩ hL⟩
    have hA : Aside0 (PartS w0 g A ca L 66 (d + 1) (atmF (sumF (facF d)))) := ⟨s_atom hd12 hS ⟨hg⟩ hL⟩
    intro W v at_ ns room hroom S hat hn
    obtain rfl : room = (d : Int) + 1 := by omega
    have hlim : Aside0 (ns.length + (L.drop at_.toNat).length = ns.length + (L.drop at_.toNat).length) := ⟨rfl⟩
    have e5 := nxs_nx hL.out at_.toNat 45
    have hp0 := S.out.p0
    rcases Bool.eq_false_or_eq_true (nx (L.drop at_.toNat) (sgn 45)) with hq | hq
    · cases hm : facF d (L.drop (at_ + 1).toNat) ns with
      | error c => exact s_facNe hd12 hL S hat hn hlim hF ⟨e5.trans hq⟩ ⟨hq⟩ ⟨hm⟩
      | ok r =>
        obtain ⟨t, n, o⟩ := r
        exact s_facNo hd12 hL S hat hn hlim hF ⟨e5.trans hq⟩ ⟨hq⟩ ⟨hm⟩
    · cases hm : atmF (sumF (facF d)) (L.drop at_.toNat) ns with
      | error c => exact s_facE hd12 hL S hat hn hlim hA ⟨e5.trans hq⟩ ⟨hq⟩ ⟨hm⟩
      | ok r =>
        obtain ⟨t, n, o⟩ := r
        rcases Bool.eq_false_or_eq_true (nx t (sgn 94)) with hp | hp
        · cases t with
          | nil => cases hp
          | cons p t =>
            cases t with
            | nil => exact s_facP0 hd12 hL S hat hn hlim hA ⟨e5.trans hq⟩ ⟨hq⟩ ⟨hm⟩ ⟨hp⟩
            | cons y r =>
              obtain ⟨y0, y1, y2⟩ := y
              rcases Decidable.em (y0 = 1) with rfl | hy
              · rcases Decidable.em (8 < y1) with hy | hy
                · exact s_facP2 hd12 hL S hat hn hlim hA ⟨e5.trans hq⟩ ⟨hq⟩ ⟨hm⟩ ⟨hp⟩ ⟨hy⟩
                · exact s_facP3 hd12 hL S hat hn hlim hA ⟨e5.trans hq⟩ ⟨hq⟩ ⟨hm⟩ ⟨hp⟩ ⟨hy⟩
              · exact s_facP1 hd12 hL S hat hn hlim hA ⟨e5.trans hq⟩ ⟨hq⟩ ⟨hm⟩ ⟨hp⟩ ⟨hy⟩
        · exact s_facA hd12 hL S hat hn hlim hA ⟨e5.trans hq⟩ ⟨hq⟩ ⟨hm⟩ ⟨hp⟩
end Go.Proofs.YtbphhccpkngfoaaGreatDoor.Q
