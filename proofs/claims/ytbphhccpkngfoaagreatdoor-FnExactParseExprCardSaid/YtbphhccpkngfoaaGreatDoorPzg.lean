-- several texts of this claim in one
import Derived.Test.YtbphhccpkngfoaaGreatDoorPza
import Derived.Test.YtbphhccpkngfoaaGreatDoorQsm
import Derived.Test.YtbphhccpkngfoaaGreatDoorQxExprOK
namespace Go.Proofs.YtbphhccpkngfoaaGreatDoor.Q
open Go.RowKit Go.Proofs.YtbphhccpkngfoaaGreatDoorW.PrintWords Go.Proofs.YtbphhccpkngfoaaGreatDoorW.PrintLast Go.Proofs.YtbphhccpkngfoaaGreatDoorW.PrintMore
set_option linter.unusedVariables false
set_option linter.unusedSimpArgs false
/-- What a parser answers to tokens: nodes and a code; ok is the test of the whole. -/
def parT (ok : List S49 → Option Bool) (ts : List S51) : Option (List S49 × Int) := match sumF (facF 12) ts [] with
  | .error c => some ([], c)
  | .ok (t, n, _) => if t.length = 0 then (if n.length ≤ 60 then (ok n).bind fun b => (if b = true then some (n, 0) else some ([], 12)) else some ([], 6)) else some ([], 3)
def impl_parse.f (k : Nat) (a0 : ByteArray) : Option (List S49 × Int) := (impl_lex.f k a0).bind fun bt => (if bt.2 = 0 then (if bt.1.length ≤ 1000000 then parT (impl_ExprOK.f k) bt.1 else none) else some ([], bt.2))
/-- What parse leaves. -/
def ParsePost (w : World) (r1 : List S49) (r2 : Int) (e : Ending) (w' : World) : Prop := ∃ v1_ : Value, e = .returned (.tuple #[.agg #[v1_], .int .i64 r2]) ∧ Kd.R k49 49 w' w.heap.size (fun _ => True) v1_ r1 ∧ Below w.heap.size w w'
theorem bc1 {W : World} {g t : Nat} {v0 : Value} (h : W.heap[g]? = some (.cells #[v0] t (0, 0))) : W.cell? ⟨g, 0, none⟩ = some v0 ∧ W.frozen? ⟨g, 0, none⟩ = false := ⟨(blk_cell h 0).trans rfl, blk_frozen h 0⟩
-- WALKS
theorem unless_any (b : Bool) (c : Int) : impl_unless.f b c = some (if b = true then 0 else c) := by
  unfold impl_unless.f
  cases b <;> rfl
theorem lit_3 (W : World) (a b c : Int) : Kd.C (Kd.int .i64) (W.alloc (.cells #[.int .i64 a, .int .i64 b, .int .i64 c] 3)) (some ⟨W.heap.size, 0, none⟩) [a, b, c].length [a, b, c] := by
  have ho := World.ownsRow_lit (base := W.heap.size) (e := 3) (size := 1) W #[.int .i64 a, .int .i64 b, .int .i64 c] 3 (Nat.le_refl _) (by decide) (by simp)
  have hr : Reps ((Kd.int .i64).M (W.alloc (.cells #[.int .i64 a, .int .i64 b, .int .i64 c] 3)) W.heap.size (fun k => True ∧ some k ≠ (Value.slice (some ⟨W.heap.size, 0, none⟩) 3 3).ownBlock)) 1 [a, b, c] [.int .i64 a, .int .i64 b, .int .i64 c] :=
    Reps.one (show (Kd.int .i64).M _ _ _ a [.int .i64 a] from rfl) (Reps.one (show (Kd.int .i64).M _ _ _ b [.int .i64 b] from rfl) (Reps.one (show (Kd.int .i64).M _ _ _ c [.int .i64 c] from rfl) (Reps.none _ _)))
  have R : Kd.R (Kd.int .i64) 3 (W.alloc (.cells #[.int .i64 a, .int .i64 b, .int .i64 c] 3)) W.heap.size (fun _ => True) (.slice (some ⟨W.heap.size, 0, none⟩) 3 3) [a, b, c] := ⟨fun _ _ => trivial, _, ho, hr⟩
  exact (Kd.R_reads' R).2.2
def fst3 (a b c : Int) : Int := if a ≠ 0 then a else if b ≠ 0 then b else c
theorem first_3 (a b c : Int) : impl_first.f 4 [a, b, c] = some (fst3 a b c) := by
  have w1 : wrap64 (0 + 1) = 1 := by unfold wrap64; omega
  have w2 : wrap64 (1 + 1) = 2 := by unfold wrap64; omega
  have w3 : wrap64 (2 + 1) = 3 := by unfold wrap64; omega
  have h0 : impl_first.l0 4 [a, b, c] 3 0 = if a = 0 then impl_first.l0 3 [a, b, c] 3 1 else some a := by
    rw [impl_first.l0, if_pos (by omega), if_pos (by omega), if_pos (by simp), w1]
    rfl
  have h1 : impl_first.l0 3 [a, b, c] 3 1 = if b = 0 then impl_first.l0 2 [a, b, c] 3 2 else some b := by
    rw [impl_first.l0, if_pos (by omega), if_pos (by omega), if_pos (by simp), w2]
    rfl
  have h2 : impl_first.l0 2 [a, b, c] 3 2 = if c = 0 then impl_first.l0 1 [a, b, c] 3 3 else some c := by
    rw [impl_first.l0, if_pos (by omega), if_pos (by omega), if_pos (by simp), w3]
    rfl
  have h3 : impl_first.l0 1 [a, b, c] 3 3 = some 0 := by
    rw [impl_first.l0, if_neg (by omega)]
  show impl_first.l0 4 [a, b, c] 3 0 = _
  rw [h0, h1, h2, h3]
  unfold fst3
  by_cases ha : a = 0
  · by_cases hb : b = 0
    · by_cases hc : c = 0
      · simp [ha, hb, hc]
      · simp [ha, hb, hc]
    · simp [ha, hb]
  · simp [ha]
/-- The parser as it begins. -/
theorem St1.start {w W : World} {B : Nat} {A : Option Addr} {l : List S51} {ca : Nat} (hb : Below w.heap.size w W) (hr : Kd.R k51 51 W B (fun _ => True) (.slice A l.length ca) l) : St1 w W.heap.size (.slice none 0 0) l [] 0 (W.alloc (.cells #[.slice A l.length ca, .slice none 0 0, .int .i64 0] 44)) := by
  have hF := Kd.F_bound (Kd.R_F hr)
  refine ⟨A, ca, below_alloc hb _, hb.size, blk_new W _, (Kd.R_reads' hr).2.1, ?_, Kd.R_nil _ _ _ _ _⟩
  refine Kd.F_mono (Kd.F_alloc hF _) (fun k hk => ⟨by have := hk.2; omega, by simp [Value.ownBlock]⟩)
set_option maxHeartbeats 8000000 in
set_option maxRecDepth 100000 in
theorem z_parseE (k : Nat) (a0 : ByteArray) (l : List S51) (c : Int) (w : World) (hg_ : Aside0 (LxW w)) (h : Aside0 (impl_lex.f k a0 = some (l, c))) (hc : c ≠ 0) : Calls Tryz.prog 11 #[.string a0] w (ParsePost w [] c) := by
  have q1 : (c == 0) = false := beq_eq_false_iff_ne.2 hc
  have q2 : (c != 0) = true := bne_iff_ne.2 hc
  clear hc
  go_enter Tryz.func11, Tryz.ntmps11
  go_wp2_with (first | ((with_reducible refine gate_dst (N := 2) rfl ?_); refine bx_ (N := 2) (cs := #[.slice none 0 0]) (t := 24) ?_; intro gb hg w1 hbox hb; have HB := Aside0.mk hb; have BX := Aside0.mk hbox; have HGB : Aside0 (w.heap.size ≤ gb) := ⟨by omega⟩; have HG := Aside0.mk (lxW_below hg_.out hb (Nat.le_refl _)); clear hg hb hbox) | (go_at_call 19; refine (impl_lex.calls k a0 l c _ HG.out h.out).mono ?_; rintro e w2 ⟨v0, rfl, hr, hb⟩; have BX2 := Aside0.mk (blk_below BX.out hb); have HB2 := Aside0.mk (below_step HB.out hb); obtain ⟨c0, k0⟩ := bc1 BX2.out; clear hr hb))
  (try simp only [Exit.inBlock, Exit.then])
  refine bodyPost_ret (results_ct rfl _ _ gb 24 #[.slice none 0 0] (0, 0) _ rfl (blk_put BX2.out 0 _ rfl) Tryz.underlying24 rfl (by kernel_rfl)) rfl ?_
  exact ⟨_, rfl, Kd.R_nil _ _ _ _ _, below_set HB2.out HGB.out⟩
set_option maxHeartbeats 8000000 in
set_option maxRecDepth 100000 in
theorem z_parseX (k : Nat) (a0 : ByteArray) (l : List S51) (c : Int) (w : World) (hg_ : Aside0 (LxW w)) (h : Aside0 (impl_lex.f k a0 = some (l, 0))) (hlen : Aside0 (l.length ≤ 1000000)) (HM : Aside0 (sumF (facF 12) l [] = .error c)) : Calls Tryz.prog 11 #[.string a0] w (ParsePost w [] c) := by
  go_enter Tryz.func11, Tryz.ntmps11
  go_wp2_with (first | ((with_reducible refine gate_dst (N := 2) rfl ?_); refine bx_ (N := 2) (cs := #[.slice none 0 0]) (t := 24) ?_; intro gb hg w1 hbox hb; have HB := Aside0.mk hb; have BX := Aside0.mk hbox; have HGB : Aside0 (w.heap.size ≤ gb) := ⟨by omega⟩; have HG := Aside0.mk (lxW_below hg_.out hb (Nat.le_refl _)); clear hg hb hbox) | (go_at_call 19; refine (impl_lex.calls k a0 l 0 _ HG.out h.out).mono ?_; rintro e w2 ⟨v0, rfl, hr, hb⟩; have BX2 := Aside0.mk (blk_below BX.out hb); have HB2 := Aside0.mk (below_step HB.out hb); obtain ⟨A, ca, rfl⟩ := Kd.R_slice hr; have HR := Aside0.mk hr; have NW := blk_lt BX2.out; clear hr hb))
  have HP := Aside0.mk (St1.start HB2.out HR.out)
  have BX3 := Aside0.mk (blk_alloc BX2.out (.cells #[.slice A l.length ca, .slice none 0 0, .int .i64 0] 44))
  have NG : gb ≠ w2.heap.size := by omega
  have HN : Aside0 (([] : List S49).length + l.length ≤ 1000000) := ⟨by have := hlen.out; simp only [List.length_nil]; omega⟩
  clear NW
  refine (z_sum (d := 12) (deep := 0) ⟨z_factor 12⟩ rfl (by decide) HP HN).mono ?_
  rw [HM.out]
  rintro e w4 ⟨out, ts, ns, c4, rfl, ⟨rfl, hc⟩, v4, ⟨A4, ca4, h4⟩, m4⟩
  have q1 : (c4 == 0) = false := beq_eq_false_iff_ne.2 hc
  have q2 : (c4 != 0) = true := bne_iff_ne.2 hc
  have BX4 := Aside0.mk (m4.blk BX3.out NG (by simp [Value.ownBlock])).1
  have S4 := Aside0.mk h4
  obtain ⟨f0, f1, f2, _⟩ := h4.cells
  generalize hG : w2.heap.size = g at NG S4 f0 f1 f2 ⊢
  clear hG h4 m4 BX2 BX3 HP HR BX
  have HC := Aside0.mk hc
  clear hc
  obtain ⟨An, cn, rfl⟩ := Kd.R_slice S4.out.nodes
  obtain ⟨b1, e1⟩ : ∃ b, ((ts.length : Int) == 0) = b := ⟨_, rfl⟩
  obtain ⟨b2, e2⟩ : ∃ b, decide ((ns.length : Int) ≤ 60) = b := ⟨_, rfl⟩
  obtain ⟨u1, hu1⟩ : ∃ u, impl_unless.f b1 3 = some u := ⟨_, unless_any b1 3⟩
  obtain ⟨u2, hu2⟩ : ∃ u, impl_unless.f b2 6 = some u := ⟨_, unless_any b2 6⟩
  obtain ⟨r, hr⟩ : ∃ r, impl_first.f 4 [c4, u1, u2] = some r := ⟨_, first_3 _ _ _⟩
  have HU1 := Aside0.mk hu1
  have HU2 := Aside0.mk hu2
  have HR1 := Aside0.mk hr
  have E1 := Aside0.mk e1
  have E2 := Aside0.mk e2
  obtain rfl : r = c4 := by rw [first_3, fst3, if_pos HC.out] at hr; exact (Option.some.inj hr).symm
  clear hu1 hu2 hr
  have HF : ∀ n, Calls Tryz.prog 21 #[.slice (some ⟨w4.heap.size, 0, none⟩) 3 3] ((w4.drewN n).alloc (.cells #[.int .i64 r, .int .i64 u1, .int .i64 u2] 3)) (fun e w' => e = .returned (.int .i64 r) ∧ Drawn0 ((w4.drewN n).alloc (.cells #[.int .i64 r, .int .i64 u1, .int .i64 u2] 3)) w') := fun n => impl_first.calls 4 _ _ [r, u1, u2] r _ (lit_3 (w4.drewN n) _ _ _) (Nat.le_refl 3) HR1.out
  go_wp2_with (fail)
  refine start_ (n := 15) (S := fun w' => w'.cell? ⟨g, 2, none⟩ = some (.int .i64 r) ∧ w'.cell? ⟨g, 0, none⟩ = some (.slice A4 ts.length ca4) ∧ w'.cell? ⟨g, 1, none⟩ = some (.slice An ns.length cn)) (ds := [12, 13]) #[false, false, false, false, false, false, false, false, false, false, false, false, false, false, false] (by kernel_rfl) rfl rfl ⟨f2, f0, f1⟩ (fun hHeld => ?_)
  refine pure_ (i := 0) (N := some 20) (v := ?_) (a' := ?_) #[true, false, false, false, false, false, false, false, false, false, false, false, false, false, false] rfl rfl (by kernel_rfl) (fun _ _ _ h => h) (Or.inl ⟨by rfl, ?_⟩) ?_ ?_
  rotate_left
  · intro w'
    go_simp
    with_reducible rfl
  rotate_left
  · simp only [Act.put, List.setIfInBounds_toArray, List.set_cons_zero, List.set_cons_succ, i64_w, i32_w]
    rfl
  refine pure_ (i := 2) (N := some 22) (v := ?_) (a' := ?_) #[true, false, true, false, false, false, false, false, false, false, false, false, false, false, false] rfl rfl (by kernel_rfl) (fun _ _ _ h => h) (Or.inl ⟨by rfl, ?_⟩) ?_ ?_
  rotate_left
  · intro w'
    go_simp
    with_reducible rfl
  rotate_left
  · simp only [Act.put, List.setIfInBounds_toArray, List.set_cons_zero, List.set_cons_succ, i64_w, i32_w]
    rfl
  refine pure_ (i := 7) (N := some 27) (v := ?_) (a' := ?_) #[true, false, true, false, false, false, false, true, false, false, false, false, false, false, false] rfl rfl (by kernel_rfl) (fun _ _ _ h => h) (Or.inl ⟨by rfl, ?_⟩) ?_ ?_
  rotate_left
  · intro w'
    go_simp
    with_reducible rfl
  rotate_left
  · simp only [Act.put, List.setIfInBounds_toArray, List.set_cons_zero, List.set_cons_succ, i64_w, i32_w]
    rfl
  refine take_ (i := 1) (N := some 21) (v := ?_) (a' := ?_) #[true, true, true, false, false, false, false, true, false, false, false, false, false, false, false] rfl rfl (by kernel_rfl) (fun _ _ _ h => h) (Or.inl ⟨by rfl, ?_⟩) hHeld ?_ ?_
  rotate_left
  · rintro w' ⟨s0, s1, s2⟩
    go_simp
    with_reducible rfl
  rotate_left
  · simp only [Act.put, List.setIfInBounds_toArray, List.set_cons_zero, List.set_cons_succ, i64_w, i32_w]
    rfl
  refine take_ (i := 3) (N := some 23) (v := ?_) (a' := ?_) #[true, true, true, true, false, false, false, true, false, false, false, false, false, false, false] rfl rfl (by kernel_rfl) (fun _ _ _ h => h) (Or.inl ⟨by rfl, ?_⟩) hHeld ?_ ?_
  rotate_left
  · rintro w' ⟨s0, s1, s2⟩
    go_simp
    with_reducible rfl
  rotate_left
  · simp only [Act.put, List.setIfInBounds_toArray, List.set_cons_zero, List.set_cons_succ, i64_w, i32_w]
    rfl
  refine pure_ (i := 4) (N := some 24) (v := ?_) (a' := ?_) #[true, true, true, true, true, false, false, true, false, false, false, false, false, false, false] rfl rfl (by kernel_rfl) (fun _ _ _ h => h) (Or.inl ⟨by rfl, ?_⟩) ?_ ?_
  rotate_left
  · intro w'
    go_simp
    with_reducible rfl
  rotate_left
  · simp only [Act.put, List.setIfInBounds_toArray, List.set_cons_zero, List.set_cons_succ, i64_w, i32_w]
    rfl
  refine pure_ (i := 5) (N := some 25) (v := ?_) (a' := ?_) #[true, true, true, true, true, true, false, true, false, false, false, false, false, false, false] rfl rfl (by kernel_rfl) (fun _ _ _ h => h) (Or.inl ⟨by rfl, ?_⟩) ?_ ?_
  rotate_left
  · intro w'
    go_simp
    with_reducible rfl
  rotate_left
  · simp only [Act.put, List.setIfInBounds_toArray, List.set_cons_zero, List.set_cons_succ, i64_w, i32_w]
    rfl
  refine take_ (i := 8) (N := some 28) (v := ?_) (a' := ?_) #[true, true, true, true, true, true, false, true, true, false, false, false, false, false, false] rfl rfl (by kernel_rfl) (fun _ _ _ h => h) (Or.inl ⟨by rfl, ?_⟩) hHeld ?_ ?_
  rotate_left
  · rintro w' ⟨s0, s1, s2⟩
    go_simp
    with_reducible rfl
  rotate_left
  · simp only [Act.put, List.setIfInBounds_toArray, List.set_cons_zero, List.set_cons_succ, i64_w, i32_w]
    rfl
  refine pure_ (i := 9) (N := some 29) (v := ?_) (a' := ?_) #[true, true, true, true, true, true, false, true, true, true, false, false, false, false, false] rfl rfl (by kernel_rfl) (fun _ _ _ h => h) (Or.inl ⟨by rfl, ?_⟩) ?_ ?_
  rotate_left
  · intro w'
    go_simp
    with_reducible rfl
  rotate_left
  · simp only [Act.put, List.setIfInBounds_toArray, List.set_cons_zero, List.set_cons_succ, i64_w, i32_w]
    rfl
  refine pure_ (i := 10) (N := some 30) (v := ?_) (a' := ?_) #[true, true, true, true, true, true, false, true, true, true, true, false, false, false, false] rfl rfl (by kernel_rfl) (fun _ _ _ h => h) (Or.inl ⟨by rfl, ?_⟩) ?_ ?_
  rotate_left
  · intro w'
    go_simp
    with_reducible rfl
  rotate_left
  · simp only [Act.put, List.setIfInBounds_toArray, List.set_cons_zero, List.set_cons_succ, i64_w, i32_w]
    rfl
  refine one_ (i := 6) (N := some 26) #[true, true, true, true, true, true, true, true, true, true, true, false, false, false, false] rfl rfl (by kernel_rfl) (by decide) (fun K hK => ?_)
  refine goes_ Tryz.func22 (by kernel_rfl) rfl #[.bool b1, .int .i64 3] (by rfl) rfl rfl (by simp only [List.map_toArray, List.map_cons, List.map_nil]; rfl) ?_
  with_reducible refine (impl_unless.calls b1 3 u1 _ HU1.out).mono ?_
  rintro e w5 ⟨rfl, ⟨⟨m1, rfl⟩⟩⟩
  refine ⟨_, rfl, ?_⟩
  refine hK.out _ _ ⟨hHeld.1, hHeld.2.1, hHeld.2.2⟩ (fun hHeld => ?_)
  clear hK K
  refine norm_ (a' := ?_) ?_ ?_
  rotate_left
  · show Act.put _ (some 26) _ = _
    simp only [Act.put, List.setIfInBounds_toArray, List.set_cons_zero, List.set_cons_succ, i64_w, i32_w]
    rfl
  refine one_ (i := 11) (N := some 31) #[true, true, true, true, true, true, true, true, true, true, true, true, false, false, false] rfl rfl (by kernel_rfl) (by decide) (fun K hK => ?_)
  refine goes_ Tryz.func22 (by kernel_rfl) rfl #[.bool b2, .int .i64 6] (by rfl) rfl rfl (by simp only [List.map_toArray, List.map_cons, List.map_nil]; rfl) ?_
  with_reducible refine (impl_unless.calls b2 6 u2 _ HU2.out).mono ?_
  rintro e w6 ⟨rfl, ⟨⟨m2, rfl⟩⟩⟩
  refine ⟨_, rfl, ?_⟩
  refine hK.out _ _ ⟨hHeld.1, hHeld.2.1, hHeld.2.2⟩ (fun hHeld => ?_)
  clear hK K
  refine norm_ (a' := ?_) ?_ ?_
  rotate_left
  · show Act.put _ (some 31) _ = _
    simp only [Act.put, List.setIfInBounds_toArray, List.set_cons_zero, List.set_cons_succ, i64_w, i32_w]
    rfl
  refine last_ (i := 12) (N := some 32) #[true, true, true, true, true, true, true, true, true, true, true, true, true, false, false] rfl rfl (by kernel_rfl) (by decide) (fun K hK => ?_)
  refine value_ (w1 := ?_) (v := ?_) (by rfl) rfl ?_ ?_
  rotate_left 2
  · go_simp
    constructor
    · rfl
    · rfl
  refine hK.out _ _ ?_
  clear hK K
  refine norm_ (a' := ?_) ?_ ?_
  rotate_left
  · show Act.put _ (some 32) _ = _
    simp only [Act.put, List.setIfInBounds_toArray, List.set_cons_zero, List.set_cons_succ, i64_w, i32_w]
    rfl
  refine last_ (i := 13) (N := some 33) #[true, true, true, true, true, true, true, true, true, true, true, true, true, true, false] rfl rfl (by kernel_rfl) (by decide) (fun K hK => ?_)
  refine goes_ Tryz.func21 (by kernel_rfl) rfl #[.slice (some ⟨w4.heap.size, 0, none⟩) 3 3] (by rfl) rfl rfl (by simp only [List.map_toArray, List.map_cons, List.map_nil]; rfl) ?_
  with_reducible refine (HF _).mono ?_
  rintro e w7 ⟨rfl, ⟨⟨m3, rfl⟩⟩⟩
  refine ⟨_, rfl, ?_⟩
  refine hK.out _ _ ?_
  clear hK K
  refine norm_ (a' := ?_) ?_ ?_
  rotate_left
  · show Act.put _ (some 33) _ = _
    simp only [Act.put, List.setIfInBounds_toArray, List.set_cons_zero, List.set_cons_succ, i64_w, i32_w]
    rfl
  refine pure_ (i := 14) (N := some 5) (v := ?_) (a' := ?_) #[true, true, true, true, true, true, true, true, true, true, true, true, true, true, true] rfl rfl (by kernel_rfl) (fun _ _ _ h => h) (Or.inl ⟨by rfl, ?_⟩) ?_ ?_
  rotate_left
  · intro w'
    go_simp
    with_reducible rfl
  rotate_left
  · simp only [Act.put, List.setIfInBounds_toArray, List.set_cons_zero, List.set_cons_succ, i64_w, i32_w]
    rfl
  refine done_ (by kernel_rfl) ?_
  have HB7 := Aside0.mk (pw_below_drewN (below_alloc (pw_below_drewN (Below.refl w4.heap.size w4) (1 + m1 + m2)) (.cells #[.int .i64 r, .int .i64 u1, .int .i64 u2] 3)) m3)
  generalize hW7 : ((w4.drewN (1 + m1 + m2)).alloc (.cells #[.int .i64 r, .int .i64 u1, .int .i64 u2] 3)).drewN m3 = W7 at HB7 ⊢
  have S7 := Aside0.mk (S4.out.below HB7.out)
  have BX7 := Aside0.mk (blk_below BX4.out HB7.out)
  clear hW7 hHeld f0 f1 f2 HF e1 e2
  obtain ⟨f0, f1, f2, _⟩ := S7.out.cells
  obtain ⟨c0, k0⟩ := bc1 BX7.out
  go_wp2
  (try simp only [Exit.inBlock, Exit.then])
  refine bodyPost_ret (results_ct rfl _ _ gb 24 #[.slice none 0 0] (0, 0) _ rfl (blk_put BX7.out 0 _ rfl) Tryz.underlying24 rfl (by kernel_rfl)) rfl ?_
  exact ⟨_, rfl, Kd.R_nil _ _ _ _ _, below_set S7.out.bl HGB.out⟩
set_option maxHeartbeats 8000000 in
set_option maxRecDepth 100000 in
theorem z_parseT (k : Nat) (a0 : ByteArray) (l : List S51) (w : World) (hg_ : Aside0 (LxW w)) (h : Aside0 (impl_lex.f k a0 = some (l, 0))) {t : List S51} {n : List S49} {o : Int} (hlen : Aside0 (l.length ≤ 1000000)) (HM : Aside0 (sumF (facF 12) l [] = .ok (t, n, o))) (HT : Aside0 (t.length ≠ 0)) : Calls Tryz.prog 11 #[.string a0] w (ParsePost w [] 3) := by
  go_enter Tryz.func11, Tryz.ntmps11
  go_wp2_with (first | ((with_reducible refine gate_dst (N := 2) rfl ?_); refine bx_ (N := 2) (cs := #[.slice none 0 0]) (t := 24) ?_; intro gb hg w1 hbox hb; have HB := Aside0.mk hb; have BX := Aside0.mk hbox; have HGB : Aside0 (w.heap.size ≤ gb) := ⟨by omega⟩; have HG := Aside0.mk (lxW_below hg_.out hb (Nat.le_refl _)); clear hg hb hbox) | (go_at_call 19; refine (impl_lex.calls k a0 l 0 _ HG.out h.out).mono ?_; rintro e w2 ⟨v0, rfl, hr, hb⟩; have BX2 := Aside0.mk (blk_below BX.out hb); have HB2 := Aside0.mk (below_step HB.out hb); obtain ⟨A, ca, rfl⟩ := Kd.R_slice hr; have HR := Aside0.mk hr; have NW := blk_lt BX2.out; clear hr hb))
  have HP := Aside0.mk (St1.start HB2.out HR.out)
  have BX3 := Aside0.mk (blk_alloc BX2.out (.cells #[.slice A l.length ca, .slice none 0 0, .int .i64 0] 44))
  have NG : gb ≠ w2.heap.size := by omega
  have HN : Aside0 (([] : List S49).length + l.length ≤ 1000000) := ⟨by have := hlen.out; simp only [List.length_nil]; omega⟩
  clear NW
  refine (z_sum (d := 12) (deep := 0) ⟨z_factor 12⟩ rfl (by decide) HP HN).mono ?_
  rw [HM.out]
  rintro e w4 ⟨out, ts, ns, c4, rfl, ⟨rfl, rfl, rfl, rfl⟩, v4, ⟨A4, ca4, h4⟩, m4⟩
  have BX4 := Aside0.mk (m4.blk BX3.out NG (by simp [Value.ownBlock])).1
  have S4 := Aside0.mk h4
  obtain ⟨f0, f1, f2, _⟩ := h4.cells
  generalize hG : w2.heap.size = g at NG S4 f0 f1 f2 ⊢
  clear hG h4 m4 BX2 BX3 HP HR BX
  obtain ⟨An, cn, rfl⟩ := Kd.R_slice S4.out.nodes
  obtain ⟨b1, e1⟩ : ∃ b, ((ts.length : Int) == 0) = b := ⟨_, rfl⟩
  obtain ⟨b2, e2⟩ : ∃ b, decide ((ns.length : Int) ≤ 60) = b := ⟨_, rfl⟩
  obtain ⟨u1, hu1⟩ : ∃ u, impl_unless.f b1 3 = some u := ⟨_, unless_any b1 3⟩
  obtain ⟨u2, hu2⟩ : ∃ u, impl_unless.f b2 6 = some u := ⟨_, unless_any b2 6⟩
  obtain ⟨r, hr⟩ : ∃ r, impl_first.f 4 [0, u1, u2] = some r := ⟨_, first_3 _ _ _⟩
  have HU1 := Aside0.mk hu1
  have HU2 := Aside0.mk hu2
  have HR1 := Aside0.mk hr
  have E1 := Aside0.mk e1
  have E2 := Aside0.mk e2
  obtain rfl : r = 3 := by rw [first_3, fst3, if_neg (fun h => h rfl)] at hr; rw [unless_any] at hu1 hu2; rw [← Option.some.inj hr, ← Option.some.inj hu1, ← Option.some.inj hu2, ← e1, ← e2]; have := HT.out; rw [if_neg (show ¬ (((ts.length : Int) == 0) = true) from fun h => this (by have := beq_iff_eq.1 h; omega))]; rfl
  clear hu1 hu2 hr
  have HF : ∀ n, Calls Tryz.prog 21 #[.slice (some ⟨w4.heap.size, 0, none⟩) 3 3] ((w4.drewN n).alloc (.cells #[.int .i64 0, .int .i64 u1, .int .i64 u2] 3)) (fun e w' => e = .returned (.int .i64 3) ∧ Drawn0 ((w4.drewN n).alloc (.cells #[.int .i64 0, .int .i64 u1, .int .i64 u2] 3)) w') := fun n => impl_first.calls 4 _ _ [0, u1, u2] 3 _ (lit_3 (w4.drewN n) _ _ _) (Nat.le_refl 3) HR1.out
  go_wp2_with (fail)
  refine start_ (n := 15) (S := fun w' => w'.cell? ⟨g, 2, none⟩ = some (.int .i64 0) ∧ w'.cell? ⟨g, 0, none⟩ = some (.slice A4 ts.length ca4) ∧ w'.cell? ⟨g, 1, none⟩ = some (.slice An ns.length cn)) (ds := [12, 13]) #[false, false, false, false, false, false, false, false, false, false, false, false, false, false, false] (by kernel_rfl) rfl rfl ⟨f2, f0, f1⟩ (fun hHeld => ?_)
  refine pure_ (i := 0) (N := some 20) (v := ?_) (a' := ?_) #[true, false, false, false, false, false, false, false, false, false, false, false, false, false, false] rfl rfl (by kernel_rfl) (fun _ _ _ h => h) (Or.inl ⟨by rfl, ?_⟩) ?_ ?_
  rotate_left
  · intro w'
    go_simp
    with_reducible rfl
  rotate_left
  · simp only [Act.put, List.setIfInBounds_toArray, List.set_cons_zero, List.set_cons_succ, i64_w, i32_w]
    rfl
  refine pure_ (i := 2) (N := some 22) (v := ?_) (a' := ?_) #[true, false, true, false, false, false, false, false, false, false, false, false, false, false, false] rfl rfl (by kernel_rfl) (fun _ _ _ h => h) (Or.inl ⟨by rfl, ?_⟩) ?_ ?_
  rotate_left
  · intro w'
    go_simp
    with_reducible rfl
  rotate_left
  · simp only [Act.put, List.setIfInBounds_toArray, List.set_cons_zero, List.set_cons_succ, i64_w, i32_w]
    rfl
  refine pure_ (i := 7) (N := some 27) (v := ?_) (a' := ?_) #[true, false, true, false, false, false, false, true, false, false, false, false, false, false, false] rfl rfl (by kernel_rfl) (fun _ _ _ h => h) (Or.inl ⟨by rfl, ?_⟩) ?_ ?_
  rotate_left
  · intro w'
    go_simp
    with_reducible rfl
  rotate_left
  · simp only [Act.put, List.setIfInBounds_toArray, List.set_cons_zero, List.set_cons_succ, i64_w, i32_w]
    rfl
  refine take_ (i := 1) (N := some 21) (v := ?_) (a' := ?_) #[true, true, true, false, false, false, false, true, false, false, false, false, false, false, false] rfl rfl (by kernel_rfl) (fun _ _ _ h => h) (Or.inl ⟨by rfl, ?_⟩) hHeld ?_ ?_
  rotate_left
  · rintro w' ⟨s0, s1, s2⟩
    go_simp
    with_reducible rfl
  rotate_left
  · simp only [Act.put, List.setIfInBounds_toArray, List.set_cons_zero, List.set_cons_succ, i64_w, i32_w]
    rfl
  refine take_ (i := 3) (N := some 23) (v := ?_) (a' := ?_) #[true, true, true, true, false, false, false, true, false, false, false, false, false, false, false] rfl rfl (by kernel_rfl) (fun _ _ _ h => h) (Or.inl ⟨by rfl, ?_⟩) hHeld ?_ ?_
  rotate_left
  · rintro w' ⟨s0, s1, s2⟩
    go_simp
    with_reducible rfl
  rotate_left
  · simp only [Act.put, List.setIfInBounds_toArray, List.set_cons_zero, List.set_cons_succ, i64_w, i32_w]
    rfl
  refine pure_ (i := 4) (N := some 24) (v := ?_) (a' := ?_) #[true, true, true, true, true, false, false, true, false, false, false, false, false, false, false] rfl rfl (by kernel_rfl) (fun _ _ _ h => h) (Or.inl ⟨by rfl, ?_⟩) ?_ ?_
  rotate_left
  · intro w'
    go_simp
    with_reducible rfl
  rotate_left
  · simp only [Act.put, List.setIfInBounds_toArray, List.set_cons_zero, List.set_cons_succ, i64_w, i32_w]
    rfl
  refine pure_ (i := 5) (N := some 25) (v := ?_) (a' := ?_) #[true, true, true, true, true, true, false, true, false, false, false, false, false, false, false] rfl rfl (by kernel_rfl) (fun _ _ _ h => h) (Or.inl ⟨by rfl, ?_⟩) ?_ ?_
  rotate_left
  · intro w'
    go_simp
    with_reducible rfl
  rotate_left
  · simp only [Act.put, List.setIfInBounds_toArray, List.set_cons_zero, List.set_cons_succ, i64_w, i32_w]
    rfl
  refine take_ (i := 8) (N := some 28) (v := ?_) (a' := ?_) #[true, true, true, true, true, true, false, true, true, false, false, false, false, false, false] rfl rfl (by kernel_rfl) (fun _ _ _ h => h) (Or.inl ⟨by rfl, ?_⟩) hHeld ?_ ?_
  rotate_left
  · rintro w' ⟨s0, s1, s2⟩
    go_simp
    with_reducible rfl
  rotate_left
  · simp only [Act.put, List.setIfInBounds_toArray, List.set_cons_zero, List.set_cons_succ, i64_w, i32_w]
    rfl
  refine pure_ (i := 9) (N := some 29) (v := ?_) (a' := ?_) #[true, true, true, true, true, true, false, true, true, true, false, false, false, false, false] rfl rfl (by kernel_rfl) (fun _ _ _ h => h) (Or.inl ⟨by rfl, ?_⟩) ?_ ?_
  rotate_left
  · intro w'
    go_simp
    with_reducible rfl
  rotate_left
  · simp only [Act.put, List.setIfInBounds_toArray, List.set_cons_zero, List.set_cons_succ, i64_w, i32_w]
    rfl
  refine pure_ (i := 10) (N := some 30) (v := ?_) (a' := ?_) #[true, true, true, true, true, true, false, true, true, true, true, false, false, false, false] rfl rfl (by kernel_rfl) (fun _ _ _ h => h) (Or.inl ⟨by rfl, ?_⟩) ?_ ?_
  rotate_left
  · intro w'
    go_simp
    with_reducible rfl
  rotate_left
  · simp only [Act.put, List.setIfInBounds_toArray, List.set_cons_zero, List.set_cons_succ, i64_w, i32_w]
    rfl
  refine one_ (i := 6) (N := some 26) #[true, true, true, true, true, true, true, true, true, true, true, false, false, false, false] rfl rfl (by kernel_rfl) (by decide) (fun K hK => ?_)
  refine goes_ Tryz.func22 (by kernel_rfl) rfl #[.bool b1, .int .i64 3] (by rfl) rfl rfl (by simp only [List.map_toArray, List.map_cons, List.map_nil]; rfl) ?_
  with_reducible refine (impl_unless.calls b1 3 u1 _ HU1.out).mono ?_
  rintro e w5 ⟨rfl, ⟨⟨m1, rfl⟩⟩⟩
  refine ⟨_, rfl, ?_⟩
  refine hK.out _ _ ⟨hHeld.1, hHeld.2.1, hHeld.2.2⟩ (fun hHeld => ?_)
  clear hK K
  refine norm_ (a' := ?_) ?_ ?_
  rotate_left
  · show Act.put _ (some 26) _ = _
    simp only [Act.put, List.setIfInBounds_toArray, List.set_cons_zero, List.set_cons_succ, i64_w, i32_w]
    rfl
  refine one_ (i := 11) (N := some 31) #[true, true, true, true, true, true, true, true, true, true, true, true, false, false, false] rfl rfl (by kernel_rfl) (by decide) (fun K hK => ?_)
  refine goes_ Tryz.func22 (by kernel_rfl) rfl #[.bool b2, .int .i64 6] (by rfl) rfl rfl (by simp only [List.map_toArray, List.map_cons, List.map_nil]; rfl) ?_
  with_reducible refine (impl_unless.calls b2 6 u2 _ HU2.out).mono ?_
  rintro e w6 ⟨rfl, ⟨⟨m2, rfl⟩⟩⟩
  refine ⟨_, rfl, ?_⟩
  refine hK.out _ _ ⟨hHeld.1, hHeld.2.1, hHeld.2.2⟩ (fun hHeld => ?_)
  clear hK K
  refine norm_ (a' := ?_) ?_ ?_
  rotate_left
  · show Act.put _ (some 31) _ = _
    simp only [Act.put, List.setIfInBounds_toArray, List.set_cons_zero, List.set_cons_succ, i64_w, i32_w]
    rfl
  refine last_ (i := 12) (N := some 32) #[true, true, true, true, true, true, true, true, true, true, true, true, true, false, false] rfl rfl (by kernel_rfl) (by decide) (fun K hK => ?_)
  refine value_ (w1 := ?_) (v := ?_) (by rfl) rfl ?_ ?_
  rotate_left 2
  · go_simp
    constructor
    · rfl
    · rfl
  refine hK.out _ _ ?_
  clear hK K
  refine norm_ (a' := ?_) ?_ ?_
  rotate_left
  · show Act.put _ (some 32) _ = _
    simp only [Act.put, List.setIfInBounds_toArray, List.set_cons_zero, List.set_cons_succ, i64_w, i32_w]
    rfl
  refine last_ (i := 13) (N := some 33) #[true, true, true, true, true, true, true, true, true, true, true, true, true, true, false] rfl rfl (by kernel_rfl) (by decide) (fun K hK => ?_)
  refine goes_ Tryz.func21 (by kernel_rfl) rfl #[.slice (some ⟨w4.heap.size, 0, none⟩) 3 3] (by rfl) rfl rfl (by simp only [List.map_toArray, List.map_cons, List.map_nil]; rfl) ?_
  with_reducible refine (HF _).mono ?_
  rintro e w7 ⟨rfl, ⟨⟨m3, rfl⟩⟩⟩
  refine ⟨_, rfl, ?_⟩
  refine hK.out _ _ ?_
  clear hK K
  refine norm_ (a' := ?_) ?_ ?_
  rotate_left
  · show Act.put _ (some 33) _ = _
    simp only [Act.put, List.setIfInBounds_toArray, List.set_cons_zero, List.set_cons_succ, i64_w, i32_w]
    rfl
  refine pure_ (i := 14) (N := some 5) (v := ?_) (a' := ?_) #[true, true, true, true, true, true, true, true, true, true, true, true, true, true, true] rfl rfl (by kernel_rfl) (fun _ _ _ h => h) (Or.inl ⟨by rfl, ?_⟩) ?_ ?_
  rotate_left
  · intro w'
    go_simp
    with_reducible rfl
  rotate_left
  · simp only [Act.put, List.setIfInBounds_toArray, List.set_cons_zero, List.set_cons_succ, i64_w, i32_w]
    rfl
  refine done_ (by kernel_rfl) ?_
  have HB7 := Aside0.mk (pw_below_drewN (below_alloc (pw_below_drewN (Below.refl w4.heap.size w4) (1 + m1 + m2)) (.cells #[.int .i64 0, .int .i64 u1, .int .i64 u2] 3)) m3)
  generalize hW7 : ((w4.drewN (1 + m1 + m2)).alloc (.cells #[.int .i64 0, .int .i64 u1, .int .i64 u2] 3)).drewN m3 = W7 at HB7 ⊢
  have S7 := Aside0.mk (S4.out.below HB7.out)
  have BX7 := Aside0.mk (blk_below BX4.out HB7.out)
  clear hW7 hHeld f0 f1 f2 HF e1 e2
  obtain ⟨f0, f1, f2, _⟩ := S7.out.cells
  obtain ⟨c0, k0⟩ := bc1 BX7.out
  go_wp2
  (try simp only [Exit.inBlock, Exit.then])
  refine bodyPost_ret (results_ct rfl _ _ gb 24 #[.slice none 0 0] (0, 0) _ rfl (blk_put BX7.out 0 _ rfl) Tryz.underlying24 rfl (by kernel_rfl)) rfl ?_
  exact ⟨_, rfl, Kd.R_nil _ _ _ _ _, below_set S7.out.bl HGB.out⟩
set_option maxHeartbeats 8000000 in
set_option maxRecDepth 100000 in
theorem z_parseM (k : Nat) (a0 : ByteArray) (l : List S51) (w : World) (hg_ : Aside0 (LxW w)) (h : Aside0 (impl_lex.f k a0 = some (l, 0))) {t : List S51} {n : List S49} {o : Int} (hlen : Aside0 (l.length ≤ 1000000)) (HM : Aside0 (sumF (facF 12) l [] = .ok (t, n, o))) (HT : Aside0 (t.length = 0)) (HL : Aside0 (¬ n.length ≤ 60)) : Calls Tryz.prog 11 #[.string a0] w (ParsePost w [] 6) := by
  go_enter Tryz.func11, Tryz.ntmps11
  go_wp2_with (first | ((with_reducible refine gate_dst (N := 2) rfl ?_); refine bx_ (N := 2) (cs := #[.slice none 0 0]) (t := 24) ?_; intro gb hg w1 hbox hb; have HB := Aside0.mk hb; have BX := Aside0.mk hbox; have HGB : Aside0 (w.heap.size ≤ gb) := ⟨by omega⟩; have HG := Aside0.mk (lxW_below hg_.out hb (Nat.le_refl _)); clear hg hb hbox) | (go_at_call 19; refine (impl_lex.calls k a0 l 0 _ HG.out h.out).mono ?_; rintro e w2 ⟨v0, rfl, hr, hb⟩; have BX2 := Aside0.mk (blk_below BX.out hb); have HB2 := Aside0.mk (below_step HB.out hb); obtain ⟨A, ca, rfl⟩ := Kd.R_slice hr; have HR := Aside0.mk hr; have NW := blk_lt BX2.out; clear hr hb))
  have HP := Aside0.mk (St1.start HB2.out HR.out)
  have BX3 := Aside0.mk (blk_alloc BX2.out (.cells #[.slice A l.length ca, .slice none 0 0, .int .i64 0] 44))
  have NG : gb ≠ w2.heap.size := by omega
  have HN : Aside0 (([] : List S49).length + l.length ≤ 1000000) := ⟨by have := hlen.out; simp only [List.length_nil]; omega⟩
  clear NW
  refine (z_sum (d := 12) (deep := 0) ⟨z_factor 12⟩ rfl (by decide) HP HN).mono ?_
  rw [HM.out]
  rintro e w4 ⟨out, ts, ns, c4, rfl, ⟨rfl, rfl, rfl, rfl⟩, v4, ⟨A4, ca4, h4⟩, m4⟩
  have BX4 := Aside0.mk (m4.blk BX3.out NG (by simp [Value.ownBlock])).1
  have S4 := Aside0.mk h4
  obtain ⟨f0, f1, f2, _⟩ := h4.cells
  generalize hG : w2.heap.size = g at NG S4 f0 f1 f2 ⊢
  clear hG h4 m4 BX2 BX3 HP HR BX
  obtain ⟨An, cn, rfl⟩ := Kd.R_slice S4.out.nodes
  obtain ⟨b1, e1⟩ : ∃ b, ((ts.length : Int) == 0) = b := ⟨_, rfl⟩
  obtain ⟨b2, e2⟩ : ∃ b, decide ((ns.length : Int) ≤ 60) = b := ⟨_, rfl⟩
  obtain ⟨u1, hu1⟩ : ∃ u, impl_unless.f b1 3 = some u := ⟨_, unless_any b1 3⟩
  obtain ⟨u2, hu2⟩ : ∃ u, impl_unless.f b2 6 = some u := ⟨_, unless_any b2 6⟩
  obtain ⟨r, hr⟩ : ∃ r, impl_first.f 4 [0, u1, u2] = some r := ⟨_, first_3 _ _ _⟩
  have HU1 := Aside0.mk hu1
  have HU2 := Aside0.mk hu2
  have HR1 := Aside0.mk hr
  have E1 := Aside0.mk e1
  have E2 := Aside0.mk e2
  obtain rfl : r = 6 := by rw [first_3, fst3, if_neg (fun h => h rfl)] at hr; rw [unless_any] at hu1 hu2; rw [← Option.some.inj hr, ← Option.some.inj hu1, ← Option.some.inj hu2, ← e1, ← e2]; have h1 := HT.out; have h2 := HL.out; rw [if_pos (show ((ts.length : Int) == 0) = true from beq_iff_eq.2 (by omega)), if_neg (show ¬ (decide ((ns.length : Int) ≤ 60) = true) from fun h => h2 (by have := of_decide_eq_true h; omega))]; rfl
  clear hu1 hu2 hr
  have HF : ∀ n, Calls Tryz.prog 21 #[.slice (some ⟨w4.heap.size, 0, none⟩) 3 3] ((w4.drewN n).alloc (.cells #[.int .i64 0, .int .i64 u1, .int .i64 u2] 3)) (fun e w' => e = .returned (.int .i64 6) ∧ Drawn0 ((w4.drewN n).alloc (.cells #[.int .i64 0, .int .i64 u1, .int .i64 u2] 3)) w') := fun n => impl_first.calls 4 _ _ [0, u1, u2] 6 _ (lit_3 (w4.drewN n) _ _ _) (Nat.le_refl 3) HR1.out
  go_wp2_with (fail)
  refine start_ (n := 15) (S := fun w' => w'.cell? ⟨g, 2, none⟩ = some (.int .i64 0) ∧ w'.cell? ⟨g, 0, none⟩ = some (.slice A4 ts.length ca4) ∧ w'.cell? ⟨g, 1, none⟩ = some (.slice An ns.length cn)) (ds := [12, 13]) #[false, false, false, false, false, false, false, false, false, false, false, false, false, false, false] (by kernel_rfl) rfl rfl ⟨f2, f0, f1⟩ (fun hHeld => ?_)
  refine pure_ (i := 0) (N := some 20) (v := ?_) (a' := ?_) #[true, false, false, false, false, false, false, false, false, false, false, false, false, false, false] rfl rfl (by kernel_rfl) (fun _ _ _ h => h) (Or.inl ⟨by rfl, ?_⟩) ?_ ?_
  rotate_left
  · intro w'
    go_simp
    with_reducible rfl
  rotate_left
  · simp only [Act.put, List.setIfInBounds_toArray, List.set_cons_zero, List.set_cons_succ, i64_w, i32_w]
    rfl
  refine pure_ (i := 2) (N := some 22) (v := ?_) (a' := ?_) #[true, false, true, false, false, false, false, false, false, false, false, false, false, false, false] rfl rfl (by kernel_rfl) (fun _ _ _ h => h) (Or.inl ⟨by rfl, ?_⟩) ?_ ?_
  rotate_left
  · intro w'
    go_simp
    with_reducible rfl
  rotate_left
  · simp only [Act.put, List.setIfInBounds_toArray, List.set_cons_zero, List.set_cons_succ, i64_w, i32_w]
    rfl
  refine pure_ (i := 7) (N := some 27) (v := ?_) (a' := ?_) #[true, false, true, false, false, false, false, true, false, false, false, false, false, false, false] rfl rfl (by kernel_rfl) (fun _ _ _ h => h) (Or.inl ⟨by rfl, ?_⟩) ?_ ?_
  rotate_left
  · intro w'
    go_simp
    with_reducible rfl
  rotate_left
  · simp only [Act.put, List.setIfInBounds_toArray, List.set_cons_zero, List.set_cons_succ, i64_w, i32_w]
    rfl
  refine take_ (i := 1) (N := some 21) (v := ?_) (a' := ?_) #[true, true, true, false, false, false, false, true, false, false, false, false, false, false, false] rfl rfl (by kernel_rfl) (fun _ _ _ h => h) (Or.inl ⟨by rfl, ?_⟩) hHeld ?_ ?_
  rotate_left
  · rintro w' ⟨s0, s1, s2⟩
    go_simp
    with_reducible rfl
  rotate_left
  · simp only [Act.put, List.setIfInBounds_toArray, List.set_cons_zero, List.set_cons_succ, i64_w, i32_w]
    rfl
  refine take_ (i := 3) (N := some 23) (v := ?_) (a' := ?_) #[true, true, true, true, false, false, false, true, false, false, false, false, false, false, false] rfl rfl (by kernel_rfl) (fun _ _ _ h => h) (Or.inl ⟨by rfl, ?_⟩) hHeld ?_ ?_
  rotate_left
  · rintro w' ⟨s0, s1, s2⟩
    go_simp
    with_reducible rfl
  rotate_left
  · simp only [Act.put, List.setIfInBounds_toArray, List.set_cons_zero, List.set_cons_succ, i64_w, i32_w]
    rfl
  refine pure_ (i := 4) (N := some 24) (v := ?_) (a' := ?_) #[true, true, true, true, true, false, false, true, false, false, false, false, false, false, false] rfl rfl (by kernel_rfl) (fun _ _ _ h => h) (Or.inl ⟨by rfl, ?_⟩) ?_ ?_
  rotate_left
  · intro w'
    go_simp
    with_reducible rfl
  rotate_left
  · simp only [Act.put, List.setIfInBounds_toArray, List.set_cons_zero, List.set_cons_succ, i64_w, i32_w]
    rfl
  refine pure_ (i := 5) (N := some 25) (v := ?_) (a' := ?_) #[true, true, true, true, true, true, false, true, false, false, false, false, false, false, false] rfl rfl (by kernel_rfl) (fun _ _ _ h => h) (Or.inl ⟨by rfl, ?_⟩) ?_ ?_
  rotate_left
  · intro w'
    go_simp
    with_reducible rfl
  rotate_left
  · simp only [Act.put, List.setIfInBounds_toArray, List.set_cons_zero, List.set_cons_succ, i64_w, i32_w]
    rfl
  refine take_ (i := 8) (N := some 28) (v := ?_) (a' := ?_) #[true, true, true, true, true, true, false, true, true, false, false, false, false, false, false] rfl rfl (by kernel_rfl) (fun _ _ _ h => h) (Or.inl ⟨by rfl, ?_⟩) hHeld ?_ ?_
  rotate_left
  · rintro w' ⟨s0, s1, s2⟩
    go_simp
    with_reducible rfl
  rotate_left
  · simp only [Act.put, List.setIfInBounds_toArray, List.set_cons_zero, List.set_cons_succ, i64_w, i32_w]
    rfl
  refine pure_ (i := 9) (N := some 29) (v := ?_) (a' := ?_) #[true, true, true, true, true, true, false, true, true, true, false, false, false, false, false] rfl rfl (by kernel_rfl) (fun _ _ _ h => h) (Or.inl ⟨by rfl, ?_⟩) ?_ ?_
  rotate_left
  · intro w'
    go_simp
    with_reducible rfl
  rotate_left
  · simp only [Act.put, List.setIfInBounds_toArray, List.set_cons_zero, List.set_cons_succ, i64_w, i32_w]
    rfl
  refine pure_ (i := 10) (N := some 30) (v := ?_) (a' := ?_) #[true, true, true, true, true, true, false, true, true, true, true, false, false, false, false] rfl rfl (by kernel_rfl) (fun _ _ _ h => h) (Or.inl ⟨by rfl, ?_⟩) ?_ ?_
  rotate_left
  · intro w'
    go_simp
    with_reducible rfl
  rotate_left
  · simp only [Act.put, List.setIfInBounds_toArray, List.set_cons_zero, List.set_cons_succ, i64_w, i32_w]
    rfl
  refine one_ (i := 6) (N := some 26) #[true, true, true, true, true, true, true, true, true, true, true, false, false, false, false] rfl rfl (by kernel_rfl) (by decide) (fun K hK => ?_)
  refine goes_ Tryz.func22 (by kernel_rfl) rfl #[.bool b1, .int .i64 3] (by rfl) rfl rfl (by simp only [List.map_toArray, List.map_cons, List.map_nil]; rfl) ?_
  with_reducible refine (impl_unless.calls b1 3 u1 _ HU1.out).mono ?_
  rintro e w5 ⟨rfl, ⟨⟨m1, rfl⟩⟩⟩
  refine ⟨_, rfl, ?_⟩
  refine hK.out _ _ ⟨hHeld.1, hHeld.2.1, hHeld.2.2⟩ (fun hHeld => ?_)
  clear hK K
  refine norm_ (a' := ?_) ?_ ?_
  rotate_left
  · show Act.put _ (some 26) _ = _
    simp only [Act.put, List.setIfInBounds_toArray, List.set_cons_zero, List.set_cons_succ, i64_w, i32_w]
    rfl
  refine one_ (i := 11) (N := some 31) #[true, true, true, true, true, true, true, true, true, true, true, true, false, false, false] rfl rfl (by kernel_rfl) (by decide) (fun K hK => ?_)
  refine goes_ Tryz.func22 (by kernel_rfl) rfl #[.bool b2, .int .i64 6] (by rfl) rfl rfl (by simp only [List.map_toArray, List.map_cons, List.map_nil]; rfl) ?_
  with_reducible refine (impl_unless.calls b2 6 u2 _ HU2.out).mono ?_
  rintro e w6 ⟨rfl, ⟨⟨m2, rfl⟩⟩⟩
  refine ⟨_, rfl, ?_⟩
  refine hK.out _ _ ⟨hHeld.1, hHeld.2.1, hHeld.2.2⟩ (fun hHeld => ?_)
  clear hK K
  refine norm_ (a' := ?_) ?_ ?_
  rotate_left
  · show Act.put _ (some 31) _ = _
    simp only [Act.put, List.setIfInBounds_toArray, List.set_cons_zero, List.set_cons_succ, i64_w, i32_w]
    rfl
  refine last_ (i := 12) (N := some 32) #[true, true, true, true, true, true, true, true, true, true, true, true, true, false, false] rfl rfl (by kernel_rfl) (by decide) (fun K hK => ?_)
  refine value_ (w1 := ?_) (v := ?_) (by rfl) rfl ?_ ?_
  rotate_left 2
  · go_simp
    constructor
    · rfl
    · rfl
  refine hK.out _ _ ?_
  clear hK K
  refine norm_ (a' := ?_) ?_ ?_
  rotate_left
  · show Act.put _ (some 32) _ = _
    simp only [Act.put, List.setIfInBounds_toArray, List.set_cons_zero, List.set_cons_succ, i64_w, i32_w]
    rfl
  refine last_ (i := 13) (N := some 33) #[true, true, true, true, true, true, true, true, true, true, true, true, true, true, false] rfl rfl (by kernel_rfl) (by decide) (fun K hK => ?_)
  refine goes_ Tryz.func21 (by kernel_rfl) rfl #[.slice (some ⟨w4.heap.size, 0, none⟩) 3 3] (by rfl) rfl rfl (by simp only [List.map_toArray, List.map_cons, List.map_nil]; rfl) ?_
  with_reducible refine (HF _).mono ?_
  rintro e w7 ⟨rfl, ⟨⟨m3, rfl⟩⟩⟩
  refine ⟨_, rfl, ?_⟩
  refine hK.out _ _ ?_
  clear hK K
  refine norm_ (a' := ?_) ?_ ?_
  rotate_left
  · show Act.put _ (some 33) _ = _
    simp only [Act.put, List.setIfInBounds_toArray, List.set_cons_zero, List.set_cons_succ, i64_w, i32_w]
    rfl
  refine pure_ (i := 14) (N := some 5) (v := ?_) (a' := ?_) #[true, true, true, true, true, true, true, true, true, true, true, true, true, true, true] rfl rfl (by kernel_rfl) (fun _ _ _ h => h) (Or.inl ⟨by rfl, ?_⟩) ?_ ?_
  rotate_left
  · intro w'
    go_simp
    with_reducible rfl
  rotate_left
  · simp only [Act.put, List.setIfInBounds_toArray, List.set_cons_zero, List.set_cons_succ, i64_w, i32_w]
    rfl
  refine done_ (by kernel_rfl) ?_
  have HB7 := Aside0.mk (pw_below_drewN (below_alloc (pw_below_drewN (Below.refl w4.heap.size w4) (1 + m1 + m2)) (.cells #[.int .i64 0, .int .i64 u1, .int .i64 u2] 3)) m3)
  generalize hW7 : ((w4.drewN (1 + m1 + m2)).alloc (.cells #[.int .i64 0, .int .i64 u1, .int .i64 u2] 3)).drewN m3 = W7 at HB7 ⊢
  have S7 := Aside0.mk (S4.out.below HB7.out)
  have BX7 := Aside0.mk (blk_below BX4.out HB7.out)
  clear hW7 hHeld f0 f1 f2 HF e1 e2
  obtain ⟨f0, f1, f2, _⟩ := S7.out.cells
  obtain ⟨c0, k0⟩ := bc1 BX7.out
  go_wp2
  (try simp only [Exit.inBlock, Exit.then])
  refine bodyPost_ret (results_ct rfl _ _ gb 24 #[.slice none 0 0] (0, 0) _ rfl (blk_put BX7.out 0 _ rfl) Tryz.underlying24 rfl (by kernel_rfl)) rfl ?_
  exact ⟨_, rfl, Kd.R_nil _ _ _ _ _, below_set S7.out.bl HGB.out⟩
set_option maxHeartbeats 8000000 in
set_option maxRecDepth 100000 in
theorem z_parseN (k : Nat) (a0 : ByteArray) (l : List S51) (w : World) (hg_ : Aside0 (LxW w)) (h : Aside0 (impl_lex.f k a0 = some (l, 0))) {t : List S51} {n : List S49} {o : Int} (hlen : Aside0 (l.length ≤ 1000000)) (HM : Aside0 (sumF (facF 12) l [] = .ok (t, n, o))) (HT : Aside0 (t.length = 0)) (HL : Aside0 (n.length ≤ 60)) (HO : Aside0 (impl_ExprOK.f k n = some false)) : Calls Tryz.prog 11 #[.string a0] w (ParsePost w [] 12) := by
  go_enter Tryz.func11, Tryz.ntmps11
  go_wp2_with (first | ((with_reducible refine gate_dst (N := 2) rfl ?_); refine bx_ (N := 2) (cs := #[.slice none 0 0]) (t := 24) ?_; intro gb hg w1 hbox hb; have HB := Aside0.mk hb; have BX := Aside0.mk hbox; have HGB : Aside0 (w.heap.size ≤ gb) := ⟨by omega⟩; have HG := Aside0.mk (lxW_below hg_.out hb (Nat.le_refl _)); clear hg hb hbox) | (go_at_call 19; refine (impl_lex.calls k a0 l 0 _ HG.out h.out).mono ?_; rintro e w2 ⟨v0, rfl, hr, hb⟩; have BX2 := Aside0.mk (blk_below BX.out hb); have HB2 := Aside0.mk (below_step HB.out hb); obtain ⟨A, ca, rfl⟩ := Kd.R_slice hr; have HR := Aside0.mk hr; have NW := blk_lt BX2.out; clear hr hb))
  have HP := Aside0.mk (St1.start HB2.out HR.out)
  have BX3 := Aside0.mk (blk_alloc BX2.out (.cells #[.slice A l.length ca, .slice none 0 0, .int .i64 0] 44))
  have NG : gb ≠ w2.heap.size := by omega
  have HN : Aside0 (([] : List S49).length + l.length ≤ 1000000) := ⟨by have := hlen.out; simp only [List.length_nil]; omega⟩
  clear NW
  refine (z_sum (d := 12) (deep := 0) ⟨z_factor 12⟩ rfl (by decide) HP HN).mono ?_
  rw [HM.out]
  rintro e w4 ⟨out, ts, ns, c4, rfl, ⟨rfl, rfl, rfl, rfl⟩, v4, ⟨A4, ca4, h4⟩, m4⟩
  have BX4 := Aside0.mk (m4.blk BX3.out NG (by simp [Value.ownBlock])).1
  have S4 := Aside0.mk h4
  obtain ⟨f0, f1, f2, _⟩ := h4.cells
  generalize hG : w2.heap.size = g at NG S4 f0 f1 f2 ⊢
  clear hG h4 m4 BX2 BX3 HP HR BX
  obtain ⟨An, cn, rfl⟩ := Kd.R_slice S4.out.nodes
  obtain ⟨b1, e1⟩ : ∃ b, ((ts.length : Int) == 0) = b := ⟨_, rfl⟩
  obtain ⟨b2, e2⟩ : ∃ b, decide ((ns.length : Int) ≤ 60) = b := ⟨_, rfl⟩
  obtain ⟨u1, hu1⟩ : ∃ u, impl_unless.f b1 3 = some u := ⟨_, unless_any b1 3⟩
  obtain ⟨u2, hu2⟩ : ∃ u, impl_unless.f b2 6 = some u := ⟨_, unless_any b2 6⟩
  obtain ⟨r, hr⟩ : ∃ r, impl_first.f 4 [0, u1, u2] = some r := ⟨_, first_3 _ _ _⟩
  have HU1 := Aside0.mk hu1
  have HU2 := Aside0.mk hu2
  have HR1 := Aside0.mk hr
  have E1 := Aside0.mk e1
  have E2 := Aside0.mk e2
  obtain rfl : r = 0 := by rw [first_3, fst3, if_neg (fun h => h rfl)] at hr; rw [unless_any] at hu1 hu2; rw [← Option.some.inj hr, ← Option.some.inj hu1, ← Option.some.inj hu2, ← e1, ← e2]; have h1 := HT.out; have h2 := HL.out; rw [if_pos (show ((ts.length : Int) == 0) = true from beq_iff_eq.2 (by omega)), if_pos (show decide ((ns.length : Int) ≤ 60) = true from decide_eq_true (by omega))]; rfl
  clear hu1 hu2 hr
  have HF : ∀ n, Calls Tryz.prog 21 #[.slice (some ⟨w4.heap.size, 0, none⟩) 3 3] ((w4.drewN n).alloc (.cells #[.int .i64 0, .int .i64 u1, .int .i64 u2] 3)) (fun e w' => e = .returned (.int .i64 0) ∧ Drawn0 ((w4.drewN n).alloc (.cells #[.int .i64 0, .int .i64 u1, .int .i64 u2] 3)) w') := fun n => impl_first.calls 4 _ _ [0, u1, u2] 0 _ (lit_3 (w4.drewN n) _ _ _) (Nat.le_refl 3) HR1.out
  go_wp2_with (fail)
  refine start_ (n := 15) (S := fun w' => w'.cell? ⟨g, 2, none⟩ = some (.int .i64 0) ∧ w'.cell? ⟨g, 0, none⟩ = some (.slice A4 ts.length ca4) ∧ w'.cell? ⟨g, 1, none⟩ = some (.slice An ns.length cn)) (ds := [12, 13]) #[false, false, false, false, false, false, false, false, false, false, false, false, false, false, false] (by kernel_rfl) rfl rfl ⟨f2, f0, f1⟩ (fun hHeld => ?_)
  refine pure_ (i := 0) (N := some 20) (v := ?_) (a' := ?_) #[true, false, false, false, false, false, false, false, false, false, false, false, false, false, false] rfl rfl (by kernel_rfl) (fun _ _ _ h => h) (Or.inl ⟨by rfl, ?_⟩) ?_ ?_
  rotate_left
  · intro w'
    go_simp
    with_reducible rfl
  rotate_left
  · simp only [Act.put, List.setIfInBounds_toArray, List.set_cons_zero, List.set_cons_succ, i64_w, i32_w]
    rfl
  refine pure_ (i := 2) (N := some 22) (v := ?_) (a' := ?_) #[true, false, true, false, false, false, false, false, false, false, false, false, false, false, false] rfl rfl (by kernel_rfl) (fun _ _ _ h => h) (Or.inl ⟨by rfl, ?_⟩) ?_ ?_
  rotate_left
  · intro w'
    go_simp
    with_reducible rfl
  rotate_left
  · simp only [Act.put, List.setIfInBounds_toArray, List.set_cons_zero, List.set_cons_succ, i64_w, i32_w]
    rfl
  refine pure_ (i := 7) (N := some 27) (v := ?_) (a' := ?_) #[true, false, true, false, false, false, false, true, false, false, false, false, false, false, false] rfl rfl (by kernel_rfl) (fun _ _ _ h => h) (Or.inl ⟨by rfl, ?_⟩) ?_ ?_
  rotate_left
  · intro w'
    go_simp
    with_reducible rfl
  rotate_left
  · simp only [Act.put, List.setIfInBounds_toArray, List.set_cons_zero, List.set_cons_succ, i64_w, i32_w]
    rfl
  refine take_ (i := 1) (N := some 21) (v := ?_) (a' := ?_) #[true, true, true, false, false, false, false, true, false, false, false, false, false, false, false] rfl rfl (by kernel_rfl) (fun _ _ _ h => h) (Or.inl ⟨by rfl, ?_⟩) hHeld ?_ ?_
  rotate_left
  · rintro w' ⟨s0, s1, s2⟩
    go_simp
    with_reducible rfl
  rotate_left
  · simp only [Act.put, List.setIfInBounds_toArray, List.set_cons_zero, List.set_cons_succ, i64_w, i32_w]
    rfl
  refine take_ (i := 3) (N := some 23) (v := ?_) (a' := ?_) #[true, true, true, true, false, false, false, true, false, false, false, false, false, false, false] rfl rfl (by kernel_rfl) (fun _ _ _ h => h) (Or.inl ⟨by rfl, ?_⟩) hHeld ?_ ?_
  rotate_left
  · rintro w' ⟨s0, s1, s2⟩
    go_simp
    with_reducible rfl
  rotate_left
  · simp only [Act.put, List.setIfInBounds_toArray, List.set_cons_zero, List.set_cons_succ, i64_w, i32_w]
    rfl
  refine pure_ (i := 4) (N := some 24) (v := ?_) (a' := ?_) #[true, true, true, true, true, false, false, true, false, false, false, false, false, false, false] rfl rfl (by kernel_rfl) (fun _ _ _ h => h) (Or.inl ⟨by rfl, ?_⟩) ?_ ?_
  rotate_left
  · intro w'
    go_simp
    with_reducible rfl
  rotate_left
  · simp only [Act.put, List.setIfInBounds_toArray, List.set_cons_zero, List.set_cons_succ, i64_w, i32_w]
    rfl
  refine pure_ (i := 5) (N := some 25) (v := ?_) (a' := ?_) #[true, true, true, true, true, true, false, true, false, false, false, false, false, false, false] rfl rfl (by kernel_rfl) (fun _ _ _ h => h) (Or.inl ⟨by rfl, ?_⟩) ?_ ?_
  rotate_left
  · intro w'
    go_simp
    with_reducible rfl
  rotate_left
  · simp only [Act.put, List.setIfInBounds_toArray, List.set_cons_zero, List.set_cons_succ, i64_w, i32_w]
    rfl
  refine take_ (i := 8) (N := some 28) (v := ?_) (a' := ?_) #[true, true, true, true, true, true, false, true, true, false, false, false, false, false, false] rfl rfl (by kernel_rfl) (fun _ _ _ h => h) (Or.inl ⟨by rfl, ?_⟩) hHeld ?_ ?_
  rotate_left
  · rintro w' ⟨s0, s1, s2⟩
    go_simp
    with_reducible rfl
  rotate_left
  · simp only [Act.put, List.setIfInBounds_toArray, List.set_cons_zero, List.set_cons_succ, i64_w, i32_w]
    rfl
  refine pure_ (i := 9) (N := some 29) (v := ?_) (a' := ?_) #[true, true, true, true, true, true, false, true, true, true, false, false, false, false, false] rfl rfl (by kernel_rfl) (fun _ _ _ h => h) (Or.inl ⟨by rfl, ?_⟩) ?_ ?_
  rotate_left
  · intro w'
    go_simp
    with_reducible rfl
  rotate_left
  · simp only [Act.put, List.setIfInBounds_toArray, List.set_cons_zero, List.set_cons_succ, i64_w, i32_w]
    rfl
  refine pure_ (i := 10) (N := some 30) (v := ?_) (a' := ?_) #[true, true, true, true, true, true, false, true, true, true, true, false, false, false, false] rfl rfl (by kernel_rfl) (fun _ _ _ h => h) (Or.inl ⟨by rfl, ?_⟩) ?_ ?_
  rotate_left
  · intro w'
    go_simp
    with_reducible rfl
  rotate_left
  · simp only [Act.put, List.setIfInBounds_toArray, List.set_cons_zero, List.set_cons_succ, i64_w, i32_w]
    rfl
  refine one_ (i := 6) (N := some 26) #[true, true, true, true, true, true, true, true, true, true, true, false, false, false, false] rfl rfl (by kernel_rfl) (by decide) (fun K hK => ?_)
  refine goes_ Tryz.func22 (by kernel_rfl) rfl #[.bool b1, .int .i64 3] (by rfl) rfl rfl (by simp only [List.map_toArray, List.map_cons, List.map_nil]; rfl) ?_
  with_reducible refine (impl_unless.calls b1 3 u1 _ HU1.out).mono ?_
  rintro e w5 ⟨rfl, ⟨⟨m1, rfl⟩⟩⟩
  refine ⟨_, rfl, ?_⟩
  refine hK.out _ _ ⟨hHeld.1, hHeld.2.1, hHeld.2.2⟩ (fun hHeld => ?_)
  clear hK K
  refine norm_ (a' := ?_) ?_ ?_
  rotate_left
  · show Act.put _ (some 26) _ = _
    simp only [Act.put, List.setIfInBounds_toArray, List.set_cons_zero, List.set_cons_succ, i64_w, i32_w]
    rfl
  refine one_ (i := 11) (N := some 31) #[true, true, true, true, true, true, true, true, true, true, true, true, false, false, false] rfl rfl (by kernel_rfl) (by decide) (fun K hK => ?_)
  refine goes_ Tryz.func22 (by kernel_rfl) rfl #[.bool b2, .int .i64 6] (by rfl) rfl rfl (by simp only [List.map_toArray, List.map_cons, List.map_nil]; rfl) ?_
  with_reducible refine (impl_unless.calls b2 6 u2 _ HU2.out).mono ?_
  rintro e w6 ⟨rfl, ⟨⟨m2, rfl⟩⟩⟩
  refine ⟨_, rfl, ?_⟩
  refine hK.out _ _ ⟨hHeld.1, hHeld.2.1, hHeld.2.2⟩ (fun hHeld => ?_)
  clear hK K
  refine norm_ (a' := ?_) ?_ ?_
  rotate_left
  · show Act.put _ (some 31) _ = _
    simp only [Act.put, List.setIfInBounds_toArray, List.set_cons_zero, List.set_cons_succ, i64_w, i32_w]
    rfl
  refine last_ (i := 12) (N := some 32) #[true, true, true, true, true, true, true, true, true, true, true, true, true, false, false] rfl rfl (by kernel_rfl) (by decide) (fun K hK => ?_)
  refine value_ (w1 := ?_) (v := ?_) (by rfl) rfl ?_ ?_
  rotate_left 2
  · go_simp
    constructor
    · rfl
    · rfl
  refine hK.out _ _ ?_
  clear hK K
  refine norm_ (a' := ?_) ?_ ?_
  rotate_left
  · show Act.put _ (some 32) _ = _
    simp only [Act.put, List.setIfInBounds_toArray, List.set_cons_zero, List.set_cons_succ, i64_w, i32_w]
    rfl
  refine last_ (i := 13) (N := some 33) #[true, true, true, true, true, true, true, true, true, true, true, true, true, true, false] rfl rfl (by kernel_rfl) (by decide) (fun K hK => ?_)
  refine goes_ Tryz.func21 (by kernel_rfl) rfl #[.slice (some ⟨w4.heap.size, 0, none⟩) 3 3] (by rfl) rfl rfl (by simp only [List.map_toArray, List.map_cons, List.map_nil]; rfl) ?_
  with_reducible refine (HF _).mono ?_
  rintro e w7 ⟨rfl, ⟨⟨m3, rfl⟩⟩⟩
  refine ⟨_, rfl, ?_⟩
  refine hK.out _ _ ?_
  clear hK K
  refine norm_ (a' := ?_) ?_ ?_
  rotate_left
  · show Act.put _ (some 33) _ = _
    simp only [Act.put, List.setIfInBounds_toArray, List.set_cons_zero, List.set_cons_succ, i64_w, i32_w]
    rfl
  refine pure_ (i := 14) (N := some 5) (v := ?_) (a' := ?_) #[true, true, true, true, true, true, true, true, true, true, true, true, true, true, true] rfl rfl (by kernel_rfl) (fun _ _ _ h => h) (Or.inl ⟨by rfl, ?_⟩) ?_ ?_
  rotate_left
  · intro w'
    go_simp
    with_reducible rfl
  rotate_left
  · simp only [Act.put, List.setIfInBounds_toArray, List.set_cons_zero, List.set_cons_succ, i64_w, i32_w]
    rfl
  refine done_ (by kernel_rfl) ?_
  have HB7 := Aside0.mk (pw_below_drewN (below_alloc (pw_below_drewN (Below.refl w4.heap.size w4) (1 + m1 + m2)) (.cells #[.int .i64 0, .int .i64 u1, .int .i64 u2] 3)) m3)
  generalize hW7 : ((w4.drewN (1 + m1 + m2)).alloc (.cells #[.int .i64 0, .int .i64 u1, .int .i64 u2] 3)).drewN m3 = W7 at HB7 ⊢
  have S7 := Aside0.mk (S4.out.below HB7.out)
  have BX7 := Aside0.mk (blk_below BX4.out HB7.out)
  clear hW7 hHeld f0 f1 f2 HF e1 e2
  obtain ⟨f0, f1, f2, _⟩ := S7.out.cells
  obtain ⟨c0, k0⟩ := bc1 BX7.out
  have RW := Aside0.mk (Kd.R_below S7.out.nodes (below_alloc (Below.refl W7.heap.size W7) (.cells #[.slice An ns.length cn] 24)))
  have CX := (Kd.R_reads' RW.out).2.2
  have CN := (Kd.R_reads' RW.out).2.1
  have NX := Aside0.mk (blk_new W7 (.cells #[.slice An ns.length cn] 24))
  have BX8 := Aside0.mk (blk_alloc BX7.out (.cells #[.slice An ns.length cn] 24))
  have HB8 := Aside0.mk (below_alloc S7.out.bl (.cells #[.slice An ns.length cn] 24))
  obtain ⟨x0, _⟩ := bc1 NX.out
  go_wp2_with (first | (go_at_call 23; refine (impl_ExprOK.calls k An cn ns _ _ CX CN HO.out).mono ?_; rintro e w9 ⟨rfl, hb⟩; have BX9 := Aside0.mk (blk_below BX8.out hb); have NX9 := Aside0.mk (blk_below NX.out hb); have RW9 := Aside0.mk (Kd.R_below RW.out hb); have HB9 := Aside0.mk (below_step HB8.out hb); clear CX x0 c0 k0; obtain ⟨x0, _⟩ := bc1 NX9.out; obtain ⟨c0, k0⟩ := bc1 BX9.out; clear hb))
  (try simp only [Exit.inBlock, Exit.then])
  refine bodyPost_ret (results_ct rfl _ _ gb 24 #[.slice none 0 0] (0, 0) _ rfl (blk_put BX9.out 0 _ rfl) Tryz.underlying24 rfl (by kernel_rfl)) rfl ?_
  exact ⟨_, rfl, Kd.R_nil _ _ _ _ _, below_set HB9.out HGB.out⟩
set_option maxHeartbeats 8000000 in
set_option maxRecDepth 100000 in
theorem z_parseY (k : Nat) (a0 : ByteArray) (l : List S51) (w : World) (hg_ : Aside0 (LxW w)) (h : Aside0 (impl_lex.f k a0 = some (l, 0))) {t : List S51} {n : List S49} {o : Int} (hlen : Aside0 (l.length ≤ 1000000)) (HM : Aside0 (sumF (facF 12) l [] = .ok (t, n, o))) (HT : Aside0 (t.length = 0)) (HL : Aside0 (n.length ≤ 60)) (HO : Aside0 (impl_ExprOK.f k n = some true)) : Calls Tryz.prog 11 #[.string a0] w (ParsePost w n 0) := by
  go_enter Tryz.func11, Tryz.ntmps11
  go_wp2_with (first | ((with_reducible refine gate_dst (N := 2) rfl ?_); refine bx_ (N := 2) (cs := #[.slice none 0 0]) (t := 24) ?_; intro gb hg w1 hbox hb; have HB := Aside0.mk hb; have BX := Aside0.mk hbox; have HGB : Aside0 (w.heap.size ≤ gb) := ⟨by omega⟩; have HG := Aside0.mk (lxW_below hg_.out hb (Nat.le_refl _)); clear hg hb hbox) | (go_at_call 19; refine (impl_lex.calls k a0 l 0 _ HG.out h.out).mono ?_; rintro e w2 ⟨v0, rfl, hr, hb⟩; have BX2 := Aside0.mk (blk_below BX.out hb); have HB2 := Aside0.mk (below_step HB.out hb); obtain ⟨A, ca, rfl⟩ := Kd.R_slice hr; have HR := Aside0.mk hr; have NW := blk_lt BX2.out; clear hr hb))
  have HP := Aside0.mk (St1.start HB2.out HR.out)
  have BX3 := Aside0.mk (blk_alloc BX2.out (.cells #[.slice A l.length ca, .slice none 0 0, .int .i64 0] 44))
  have NG : gb ≠ w2.heap.size := by omega
  have HN : Aside0 (([] : List S49).length + l.length ≤ 1000000) := ⟨by have := hlen.out; simp only [List.length_nil]; omega⟩
  clear NW
  refine (z_sum (d := 12) (deep := 0) ⟨z_factor 12⟩ rfl (by decide) HP HN).mono ?_
  rw [HM.out]
  rintro e w4 ⟨out, ts, ns, c4, rfl, ⟨rfl, rfl, rfl, rfl⟩, v4, ⟨A4, ca4, h4⟩, m4⟩
  have BX4 := Aside0.mk (m4.blk BX3.out NG (by simp [Value.ownBlock])).1
  have S4 := Aside0.mk h4
  obtain ⟨f0, f1, f2, _⟩ := h4.cells
  generalize hG : w2.heap.size = g at NG S4 f0 f1 f2 ⊢
  clear hG h4 m4 BX2 BX3 HP HR BX
  obtain ⟨An, cn, rfl⟩ := Kd.R_slice S4.out.nodes
  obtain ⟨b1, e1⟩ : ∃ b, ((ts.length : Int) == 0) = b := ⟨_, rfl⟩
  obtain ⟨b2, e2⟩ : ∃ b, decide ((ns.length : Int) ≤ 60) = b := ⟨_, rfl⟩
  obtain ⟨u1, hu1⟩ : ∃ u, impl_unless.f b1 3 = some u := ⟨_, unless_any b1 3⟩
  obtain ⟨u2, hu2⟩ : ∃ u, impl_unless.f b2 6 = some u := ⟨_, unless_any b2 6⟩
  obtain ⟨r, hr⟩ : ∃ r, impl_first.f 4 [0, u1, u2] = some r := ⟨_, first_3 _ _ _⟩
  have HU1 := Aside0.mk hu1
  have HU2 := Aside0.mk hu2
  have HR1 := Aside0.mk hr
  have E1 := Aside0.mk e1
  have E2 := Aside0.mk e2
  obtain rfl : r = 0 := by rw [first_3, fst3, if_neg (fun h => h rfl)] at hr; rw [unless_any] at hu1 hu2; rw [← Option.some.inj hr, ← Option.some.inj hu1, ← Option.some.inj hu2, ← e1, ← e2]; have h1 := HT.out; have h2 := HL.out; rw [if_pos (show ((ts.length : Int) == 0) = true from beq_iff_eq.2 (by omega)), if_pos (show decide ((ns.length : Int) ≤ 60) = true from decide_eq_true (by omega))]; rfl
  clear hu1 hu2 hr
  have HF : ∀ n, Calls Tryz.prog 21 #[.slice (some ⟨w4.heap.size, 0, none⟩) 3 3] ((w4.drewN n).alloc (.cells #[.int .i64 0, .int .i64 u1, .int .i64 u2] 3)) (fun e w' => e = .returned (.int .i64 0) ∧ Drawn0 ((w4.drewN n).alloc (.cells #[.int .i64 0, .int .i64 u1, .int .i64 u2] 3)) w') := fun n => impl_first.calls 4 _ _ [0, u1, u2] 0 _ (lit_3 (w4.drewN n) _ _ _) (Nat.le_refl 3) HR1.out
  go_wp2_with (fail)
  refine start_ (n := 15) (S := fun w' => w'.cell? ⟨g, 2, none⟩ = some (.int .i64 0) ∧ w'.cell? ⟨g, 0, none⟩ = some (.slice A4 ts.length ca4) ∧ w'.cell? ⟨g, 1, none⟩ = some (.slice An ns.length cn)) (ds := [12, 13]) #[false, false, false, false, false, false, false, false, false, false, false, false, false, false, false] (by kernel_rfl) rfl rfl ⟨f2, f0, f1⟩ (fun hHeld => ?_)
  refine pure_ (i := 0) (N := some 20) (v := ?_) (a' := ?_) #[true, false, false, false, false, false, false, false, false, false, false, false, false, false, false] rfl rfl (by kernel_rfl) (fun _ _ _ h => h) (Or.inl ⟨by rfl, ?_⟩) ?_ ?_
  rotate_left
  · intro w'
    go_simp
    with_reducible rfl
  rotate_left
  · simp only [Act.put, List.setIfInBounds_toArray, List.set_cons_zero, List.set_cons_succ, i64_w, i32_w]
    rfl
  refine pure_ (i := 2) (N := some 22) (v := ?_) (a' := ?_) #[true, false, true, false, false, false, false, false, false, false, false, false, false, false, false] rfl rfl (by kernel_rfl) (fun _ _ _ h => h) (Or.inl ⟨by rfl, ?_⟩) ?_ ?_
  rotate_left
  · intro w'
    go_simp
    with_reducible rfl
  rotate_left
  · simp only [Act.put, List.setIfInBounds_toArray, List.set_cons_zero, List.set_cons_succ, i64_w, i32_w]
    rfl
  refine pure_ (i := 7) (N := some 27) (v := ?_) (a' := ?_) #[true, false, true, false, false, false, false, true, false, false, false, false, false, false, false] rfl rfl (by kernel_rfl) (fun _ _ _ h => h) (Or.inl ⟨by rfl, ?_⟩) ?_ ?_
  rotate_left
  · intro w'
    go_simp
    with_reducible rfl
  rotate_left
  · simp only [Act.put, List.setIfInBounds_toArray, List.set_cons_zero, List.set_cons_succ, i64_w, i32_w]
    rfl
  refine take_ (i := 1) (N := some 21) (v := ?_) (a' := ?_) #[true, true, true, false, false, false, false, true, false, false, false, false, false, false, false] rfl rfl (by kernel_rfl) (fun _ _ _ h => h) (Or.inl ⟨by rfl, ?_⟩) hHeld ?_ ?_
  rotate_left
  · rintro w' ⟨s0, s1, s2⟩
    go_simp
    with_reducible rfl
  rotate_left
  · simp only [Act.put, List.setIfInBounds_toArray, List.set_cons_zero, List.set_cons_succ, i64_w, i32_w]
    rfl
  refine take_ (i := 3) (N := some 23) (v := ?_) (a' := ?_) #[true, true, true, true, false, false, false, true, false, false, false, false, false, false, false] rfl rfl (by kernel_rfl) (fun _ _ _ h => h) (Or.inl ⟨by rfl, ?_⟩) hHeld ?_ ?_
  rotate_left
  · rintro w' ⟨s0, s1, s2⟩
    go_simp
    with_reducible rfl
  rotate_left
  · simp only [Act.put, List.setIfInBounds_toArray, List.set_cons_zero, List.set_cons_succ, i64_w, i32_w]
    rfl
  refine pure_ (i := 4) (N := some 24) (v := ?_) (a' := ?_) #[true, true, true, true, true, false, false, true, false, false, false, false, false, false, false] rfl rfl (by kernel_rfl) (fun _ _ _ h => h) (Or.inl ⟨by rfl, ?_⟩) ?_ ?_
  rotate_left
  · intro w'
    go_simp
    with_reducible rfl
  rotate_left
  · simp only [Act.put, List.setIfInBounds_toArray, List.set_cons_zero, List.set_cons_succ, i64_w, i32_w]
    rfl
  refine pure_ (i := 5) (N := some 25) (v := ?_) (a' := ?_) #[true, true, true, true, true, true, false, true, false, false, false, false, false, false, false] rfl rfl (by kernel_rfl) (fun _ _ _ h => h) (Or.inl ⟨by rfl, ?_⟩) ?_ ?_
  rotate_left
  · intro w'
    go_simp
    with_reducible rfl
  rotate_left
  · simp only [Act.put, List.setIfInBounds_toArray, List.set_cons_zero, List.set_cons_succ, i64_w, i32_w]
    rfl
  refine take_ (i := 8) (N := some 28) (v := ?_) (a' := ?_) #[true, true, true, true, true, true, false, true, true, false, false, false, false, false, false] rfl rfl (by kernel_rfl) (fun _ _ _ h => h) (Or.inl ⟨by rfl, ?_⟩) hHeld ?_ ?_
  rotate_left
  · rintro w' ⟨s0, s1, s2⟩
    go_simp
    with_reducible rfl
  rotate_left
  · simp only [Act.put, List.setIfInBounds_toArray, List.set_cons_zero, List.set_cons_succ, i64_w, i32_w]
    rfl
  refine pure_ (i := 9) (N := some 29) (v := ?_) (a' := ?_) #[true, true, true, true, true, true, false, true, true, true, false, false, false, false, false] rfl rfl (by kernel_rfl) (fun _ _ _ h => h) (Or.inl ⟨by rfl, ?_⟩) ?_ ?_
  rotate_left
  · intro w'
    go_simp
    with_reducible rfl
  rotate_left
  · simp only [Act.put, List.setIfInBounds_toArray, List.set_cons_zero, List.set_cons_succ, i64_w, i32_w]
    rfl
  refine pure_ (i := 10) (N := some 30) (v := ?_) (a' := ?_) #[true, true, true, true, true, true, false, true, true, true, true, false, false, false, false] rfl rfl (by kernel_rfl) (fun _ _ _ h => h) (Or.inl ⟨by rfl, ?_⟩) ?_ ?_
  rotate_left
  · intro w'
    go_simp
    with_reducible rfl
  rotate_left
  · simp only [Act.put, List.setIfInBounds_toArray, List.set_cons_zero, List.set_cons_succ, i64_w, i32_w]
    rfl
  refine one_ (i := 6) (N := some 26) #[true, true, true, true, true, true, true, true, true, true, true, false, false, false, false] rfl rfl (by kernel_rfl) (by decide) (fun K hK => ?_)
  refine goes_ Tryz.func22 (by kernel_rfl) rfl #[.bool b1, .int .i64 3] (by rfl) rfl rfl (by simp only [List.map_toArray, List.map_cons, List.map_nil]; rfl) ?_
  with_reducible refine (impl_unless.calls b1 3 u1 _ HU1.out).mono ?_
  rintro e w5 ⟨rfl, ⟨⟨m1, rfl⟩⟩⟩
  refine ⟨_, rfl, ?_⟩
  refine hK.out _ _ ⟨hHeld.1, hHeld.2.1, hHeld.2.2⟩ (fun hHeld => ?_)
  clear hK K
  refine norm_ (a' := ?_) ?_ ?_
  rotate_left
  · show Act.put _ (some 26) _ = _
    simp only [Act.put, List.setIfInBounds_toArray, List.set_cons_zero, List.set_cons_succ, i64_w, i32_w]
    rfl
  refine one_ (i := 11) (N := some 31) #[true, true, true, true, true, true, true, true, true, true, true, true, false, false, false] rfl rfl (by kernel_rfl) (by decide) (fun K hK => ?_)
  refine goes_ Tryz.func22 (by kernel_rfl) rfl #[.bool b2, .int .i64 6] (by rfl) rfl rfl (by simp only [List.map_toArray, List.map_cons, List.map_nil]; rfl) ?_
  with_reducible refine (impl_unless.calls b2 6 u2 _ HU2.out).mono ?_
  rintro e w6 ⟨rfl, ⟨⟨m2, rfl⟩⟩⟩
  refine ⟨_, rfl, ?_⟩
  refine hK.out _ _ ⟨hHeld.1, hHeld.2.1, hHeld.2.2⟩ (fun hHeld => ?_)
  clear hK K
  refine norm_ (a' := ?_) ?_ ?_
  rotate_left
  · show Act.put _ (some 31) _ = _
    simp only [Act.put, List.setIfInBounds_toArray, List.set_cons_zero, List.set_cons_succ, i64_w, i32_w]
    rfl
  refine last_ (i := 12) (N := some 32) #[true, true, true, true, true, true, true, true, true, true, true, true, true, false, false] rfl rfl (by kernel_rfl) (by decide) (fun K hK => ?_)
  refine value_ (w1 := ?_) (v := ?_) (by rfl) rfl ?_ ?_
  rotate_left 2
  · go_simp
    constructor
    · rfl
    · rfl
  refine hK.out _ _ ?_
  clear hK K
  refine norm_ (a' := ?_) ?_ ?_
  rotate_left
  · show Act.put _ (some 32) _ = _
    simp only [Act.put, List.setIfInBounds_toArray, List.set_cons_zero, List.set_cons_succ, i64_w, i32_w]
    rfl
  refine last_ (i := 13) (N := some 33) #[true, true, true, true, true, true, true, true, true, true, true, true, true, true, false] rfl rfl (by kernel_rfl) (by decide) (fun K hK => ?_)
  refine goes_ Tryz.func21 (by kernel_rfl) rfl #[.slice (some ⟨w4.heap.size, 0, none⟩) 3 3] (by rfl) rfl rfl (by simp only [List.map_toArray, List.map_cons, List.map_nil]; rfl) ?_
  with_reducible refine (HF _).mono ?_
  rintro e w7 ⟨rfl, ⟨⟨m3, rfl⟩⟩⟩
  refine ⟨_, rfl, ?_⟩
  refine hK.out _ _ ?_
  clear hK K
  refine norm_ (a' := ?_) ?_ ?_
  rotate_left
  · show Act.put _ (some 33) _ = _
    simp only [Act.put, List.setIfInBounds_toArray, List.set_cons_zero, List.set_cons_succ, i64_w, i32_w]
    rfl
  refine pure_ (i := 14) (N := some 5) (v := ?_) (a' := ?_) #[true, true, true, true, true, true, true, true, true, true, true, true, true, true, true] rfl rfl (by kernel_rfl) (fun _ _ _ h => h) (Or.inl ⟨by rfl, ?_⟩) ?_ ?_
  rotate_left
  · intro w'
    go_simp
    with_reducible rfl
  rotate_left
  · simp only [Act.put, List.setIfInBounds_toArray, List.set_cons_zero, List.set_cons_succ, i64_w, i32_w]
    rfl
  refine done_ (by kernel_rfl) ?_
  have HB7 := Aside0.mk (pw_below_drewN (below_alloc (pw_below_drewN (Below.refl w4.heap.size w4) (1 + m1 + m2)) (.cells #[.int .i64 0, .int .i64 u1, .int .i64 u2] 3)) m3)
  generalize hW7 : ((w4.drewN (1 + m1 + m2)).alloc (.cells #[.int .i64 0, .int .i64 u1, .int .i64 u2] 3)).drewN m3 = W7 at HB7 ⊢
  have S7 := Aside0.mk (S4.out.below HB7.out)
  have BX7 := Aside0.mk (blk_below BX4.out HB7.out)
  clear hW7 hHeld f0 f1 f2 HF e1 e2
  obtain ⟨f0, f1, f2, _⟩ := S7.out.cells
  obtain ⟨c0, k0⟩ := bc1 BX7.out
  have RW := Aside0.mk (Kd.R_below S7.out.nodes (below_alloc (Below.refl W7.heap.size W7) (.cells #[.slice An ns.length cn] 24)))
  have CX := (Kd.R_reads' RW.out).2.2
  have CN := (Kd.R_reads' RW.out).2.1
  have NX := Aside0.mk (blk_new W7 (.cells #[.slice An ns.length cn] 24))
  have BX8 := Aside0.mk (blk_alloc BX7.out (.cells #[.slice An ns.length cn] 24))
  have HB8 := Aside0.mk (below_alloc S7.out.bl (.cells #[.slice An ns.length cn] 24))
  obtain ⟨x0, _⟩ := bc1 NX.out
  go_wp2_with (first | (go_at_call 23; refine (impl_ExprOK.calls k An cn ns _ _ CX CN HO.out).mono ?_; rintro e w9 ⟨rfl, hb⟩; have BX9 := Aside0.mk (blk_below BX8.out hb); have NX9 := Aside0.mk (blk_below NX.out hb); have RW9 := Aside0.mk (Kd.R_below RW.out hb); have HB9 := Aside0.mk (below_step HB8.out hb); clear CX x0 c0 k0; obtain ⟨x0, _⟩ := bc1 NX9.out; obtain ⟨c0, k0⟩ := bc1 BX9.out; clear hb))
  (try simp only [Exit.inBlock, Exit.then])
  refine bodyPost_ret (results_ct rfl _ _ gb 24 #[.slice An ns.length cn] (0, 0) _ rfl (blk_put BX9.out 0 _ rfl) Tryz.underlying24 rfl (by kernel_rfl)) rfl ?_
  exact ⟨_, rfl, Kd.R_mono (Kd.R_far (p := ⟨gb, 0, none⟩) (Kd.R_types RW9.out BX9.out (by decide)) (fun _ hk => hk.2) _) (fun _ _ => trivial), below_set HB9.out HGB.out⟩
theorem z_parse (k : Nat) (a0 : ByteArray) (r1 : List S49) (r2 : Int) (w : World) (hg_ : LxW w) (h : impl_parse.f k a0 = some (r1, r2)) : Calls Tryz.prog 11 #[.string a0] w (ParsePost w r1 r2) := by
  unfold impl_parse.f at h
  obtain ⟨⟨l, c⟩, hl, h⟩ := Option.bind_eq_some_iff.1 h
  dsimp only at h
  by_cases hc : c = 0
  · subst hc
    rw [if_pos rfl] at h
    by_cases hn : l.length ≤ 1000000
    · rw [if_pos hn] at h
      unfold parT at h
      cases hm : sumF (facF 12) l [] with
      | error c =>
        rw [hm] at h
        cases h
        exact z_parseX k a0 l _ w ⟨hg_⟩ ⟨hl⟩ ⟨hn⟩ ⟨hm⟩
      | ok r =>
        obtain ⟨t, n, o⟩ := r
        rw [hm] at h
        dsimp only at h
        by_cases ht : t.length = 0
        · rw [if_pos ht] at h
          by_cases hq : n.length ≤ 60
          · rw [if_pos hq] at h
            obtain ⟨b, hb, h⟩ := Option.bind_eq_some_iff.1 h
            cases b with
            | true =>
              cases h
              exact z_parseY k a0 l w ⟨hg_⟩ ⟨hl⟩ ⟨hn⟩ ⟨hm⟩ ⟨ht⟩ ⟨hq⟩ ⟨hb⟩
            | false =>
              cases h
              exact z_parseN k a0 l w ⟨hg_⟩ ⟨hl⟩ ⟨hn⟩ ⟨hm⟩ ⟨ht⟩ ⟨hq⟩ ⟨hb⟩
          · rw [if_neg hq] at h
            cases h
            exact z_parseM k a0 l w ⟨hg_⟩ ⟨hl⟩ ⟨hn⟩ ⟨hm⟩ ⟨ht⟩ ⟨hq⟩
        · rw [if_neg ht] at h
          cases h
          exact z_parseT k a0 l w ⟨hg_⟩ ⟨hl⟩ ⟨hn⟩ ⟨hm⟩ ⟨ht⟩
    · rw [if_neg hn] at h
      cases h
  · rw [if_neg hc] at h
    cases h
    exact z_parseE k a0 l _ w ⟨hg_⟩ ⟨hl⟩ hc
end Go.Proofs.YtbphhccpkngfoaaGreatDoor.Q
