/-
The reference's parse. Conditions: those of the theorems.
-/
import Derived.Test.YtbphhccpkngfoaaGreatDoorPya
import Derived.Test.YtbphhccpkngfoaaGreatDoorPzg
import Derived.Test.YtbphhccpkngfoaaGreatDoorQsm
namespace Go.Proofs.YtbphhccpkngfoaaGreatDoor.Q
open Go.RowKit Go.Proofs.YtbphhccpkngfoaaGreatDoorW.PrintWords Go.Proofs.YtbphhccpkngfoaaGreatDoorW.PrintLast Go.Proofs.YtbphhccpkngfoaaGreatDoorW.PrintMore
set_option linter.unusedVariables false
set_option linter.unusedSimpArgs false

def tkb (L : List S51) : Bool := decide (L.length ≤ 1000000) && L.all fun x => x.f0 == 3 || ((x.f0 == 1 || x.f0 == 2) && x.f2.toList == [])
theorem tkb_ok {L : List S51} (h : tkb L = true) : TkL L := by
  simp only [tkb, Bool.and_eq_true, List.all_eq_true, Bool.or_eq_true, beq_iff_eq] at h
  exact ⟨of_decide_eq_true h.1, h.2⟩
def spec_l05Parse.f (k : Nat) (a0 : ByteArray) : Option (List S49 × Int) := (spec_l04Lex.f k a0).bind fun bt => (if bt.2 = 0 then (if tkb bt.1 = true then parT (spec_ExprOK.f k) bt.1 else none) else some ([], bt.2))
/-- The parser as it begins. -/
theorem StS.start {w w2 w3 w4 : World} {B g : Nat} {A : Option Addr} {l : List S51} {ca : Nat} {v : Value} (hr : Kd.R k51 51 w2 B (fun _ => True) (.slice A l.length ca) l) (hv : Kd.R k49 49 w3 w.heap.size (fun _ => True) v []) (hb3 : Below w.heap.size w w3) (hg3 : w2.grownBy w3 none) (hown : ∃ b, v.ownBlock = some b ∧ w2.heap.size ≤ b) (hbox : w4.heap[g]? = some (.cells #[.slice A l.length ca, .int .i64 0, v, .int .i64 0] 38 (0, 0))) (hg : g = w3.heap.size) (hb4 : Below w3.heap.size w3 w4) : StS w g A ca l v 0 [] 0 w4 := by
  have hF := Kd.F_bound (Kd.R_F hr)
  obtain ⟨b, e, hb⟩ := hown
  have hsz := hg3.size
  subst hg
  refine ⟨below_step hb3 hb4, hb3.size, hbox, Int.le_refl 0, ?_, Kd.R_below (Kd.R_mono (Kd.R_bound hv) (fun k hk => by have := hk.2.2.1; omega)) hb4⟩
  refine Kd.F_below (Kd.F_mono (Kd.F_grown hF hg3 (fun k _ => by simp)) (fun k hk => ⟨by have := hk.2; omega, fun h => ?_⟩)) hb4
  rw [e] at h
  injection h with h
  have := hk.2
  omega
theorem s_top {w0 : World} {g ca : Nat} {A : Option Addr} {L : List S51} (hL : Aside0 (TkL L)) : PartS w0 g A ca L 16 12 (sumF (facF 12)) := s_sum ⟨s_product ⟨s_factor hL 12 (by decide)⟩ ⟨facF_good 12⟩ hL⟩ ⟨chF_good (facF_good 12)⟩ hL
set_option maxHeartbeats 8000000 in
set_option maxRecDepth 100000 in
theorem s_parseE (k : Nat) (a0 : ByteArray) (l : List S51) (c : Int) (w : World) (h : Aside0 (spec_l04Lex.f k a0 = some (l, c))) (hc : c ≠ 0) : Calls Tryz.prog 9 #[.string a0] w (ParsePost w [] c) := by
  have q1 : (c == 0) = false := beq_eq_false_iff_ne.2 hc
  have q2 : (c != 0) = true := bne_iff_ne.2 hc
  clear hc
  go_enter Tryz.func9, Tryz.ntmps9
  go_wp2_with (first | ((with_reducible refine gate_dst (N := 2) rfl ?_); refine bx_ (N := 2) (cs := #[.slice none 0 0]) (t := 24) ?_; intro gb hg w1 hbox hb; have HB := Aside0.mk hb; have BX := Aside0.mk hbox; have HGB : Aside0 (w.heap.size ≤ gb) := ⟨by omega⟩; clear hg hb hbox) | (go_at_call 15; refine (spec_l04Lex.calls k a0 l c _ h.out).mono ?_; rintro e w2 ⟨v0, rfl, hr, hb⟩; have BX2 := Aside0.mk (blk_below BX.out hb); have HB2 := Aside0.mk (below_step HB.out hb); obtain ⟨c0, k0⟩ := bc1 BX2.out; clear hr hb))
  (try simp only [Exit.inBlock, Exit.then])
  refine bodyPost_ret (results_ct rfl _ _ gb 24 #[.slice none 0 0] (0, 0) _ rfl (blk_put BX2.out 0 _ rfl) Tryz.underlying24 rfl (by kernel_rfl)) rfl ?_
  exact ⟨_, rfl, Kd.R_nil _ _ _ _ _, below_set HB2.out HGB.out⟩
set_option maxHeartbeats 8000000 in
set_option maxRecDepth 100000 in
theorem s_parseX (k : Nat) (a0 : ByteArray) (l : List S51) (c : Int) (w : World) (h : Aside0 (spec_l04Lex.f k a0 = some (l, 0))) (hL : Aside0 (TkL l)) (HM : Aside0 (sumF (facF 12) l [] = .error c)) : Calls Tryz.prog 9 #[.string a0] w (ParsePost w [] c) := by
  go_enter Tryz.func9, Tryz.ntmps9
  go_wp2_with (first | ((with_reducible refine gate_dst (N := 2) rfl ?_); refine bx_ (N := 2) (cs := #[.slice none 0 0]) (t := 24) ?_; intro gb hg w1 hbox hb; have HB := Aside0.mk hb; have BX := Aside0.mk hbox; have HGB : Aside0 (w.heap.size ≤ gb) := ⟨by omega⟩; clear hg hb hbox) | (go_at_call 15; refine (spec_l04Lex.calls k a0 l 0 _ h.out).mono ?_; rintro e w2 ⟨v0, rfl, hr, hb⟩; have BX2 := Aside0.mk (blk_below BX.out hb); have HB2 := Aside0.mk (below_step HB.out hb); obtain ⟨A, ca, rfl⟩ := Kd.R_slice hr; have HR := Aside0.mk hr; clear hr hb) | ((with_reducible refine gate_dst (N := 18) rfl ?_); refine Kd.R_lit k49 w.heap.size 49 ?hg (N := 18) ?hd (xs := ([] : List S49)) (inner := []) (ok := fun _ => True) (okp := fun _ => True) ?hr ?hp (fun _ hk => hk) trivial HB2.out HB2.out.size (by simp) ?_; (case hd => rfl); (case hg => rfl); (case hr => first | (go_simp; done) | (go_simp; rfl)); (case hp => exact (Reps.none _ _)); intro v3 w3 ho3 hb3 hg3 hn3; obtain ⟨A3, c3, e3⟩ := Kd.R_slice ho3; change v3 = .slice A3 0 c3 at e3; subst e3; have HV3 := Aside0.mk ho3; have HB3 := Aside0.mk hb3; have HG3 := Aside0.mk hg3; have HN3 := Aside0.mk hn3; clear ho3 hb3 hg3 hn3) | ((with_reducible refine gate_dst (N := 20) rfl ?_); refine bx_ (N := 20) (cs := #[.slice A l.length ca, .int .i64 0, .slice A3 0 c3, .int .i64 0]) (t := 38) ?_; intro g hg w4 hbox hb4; have HP := Aside0.mk (StS.start HR.out HV3.out HB3.out HG3.out HN3.out hbox hg hb4); have BX4 := Aside0.mk (blk_below (blk_grown BX2.out HG3.out (by simp)) hb4); have NG : Aside0 (gb ≠ g) := ⟨by have h1 := blk_lt BX2.out; have h2 := HG3.out.size; omega⟩; have NV : Aside0 (some gb ≠ (Value.slice A3 0 c3).ownBlock) := ⟨fun e => by obtain ⟨b, e2, h2⟩ := HN3.out; rw [e2] at e; injection e with e; have h1 := blk_lt BX2.out; omega⟩; clear hg hbox hb4))
  have HA : Aside0 ((0 : Int) ≤ (l.length : Int)) := ⟨by omega⟩
  have HN : Aside0 (([] : List S49).length + (l.drop (0 : Int).toNat).length ≤ 1000000) := ⟨by have := hL.out.1; simp only [List.length_nil, Int.toNat_zero, List.drop_zero]; omega⟩
  refine (s_top hL _ (.slice A3 0 c3) 0 [] 12 rfl HP HA HN).mono ?_
  rw [show l.drop (0 : Int).toNat = l from rfl, HM.out]
  rintro e w5 ⟨out, at5, ns, c5, v5, rfl, ⟨rfl, hc, _, _⟩, h5, m5⟩
  have q1 : (c5 == 0) = false := beq_eq_false_iff_ne.2 hc
  have q2 : (c5 != 0) = true := bne_iff_ne.2 hc
  clear hc
  have BX5 := Aside0.mk (m5.blk BX4.out NG.out NV.out).1
  have NV5 := Aside0.mk (m5.blk BX4.out NG.out NV.out).2
  have S5 := Aside0.mk h5
  obtain ⟨A5, c5n, rfl⟩ := Kd.R_slice h5.nodes
  obtain ⟨f0, f1, f2, f3, k1, k2, k3⟩ := h5.cells
  obtain ⟨c0, k0⟩ := bc1 BX5.out
  clear h5 m5 BX2 BX4 HP HR BX
  go_wp2_with (fail)
  go_region
  go_wp2_with (fail)
  (try simp only [Exit.inBlock, Exit.then])
  refine bodyPost_ret (results_ct rfl _ _ gb 24 #[.slice none 0 0] (0, 0) _ rfl (blk_put BX5.out 0 _ rfl) Tryz.underlying24 rfl (by kernel_rfl)) rfl ?_
  exact ⟨_, rfl, Kd.R_nil _ _ _ _ _, below_drew (below_set S5.out.bl HGB.out)⟩
set_option maxHeartbeats 8000000 in
set_option maxRecDepth 100000 in
theorem s_parseT (k : Nat) (a0 : ByteArray) (l : List S51) (w : World) (h : Aside0 (spec_l04Lex.f k a0 = some (l, 0))) (hL : Aside0 (TkL l)) {t : List S51} {n : List S49} {o : Int} (HM : Aside0 (sumF (facF 12) l [] = .ok (t, n, o))) (HT : Aside0 (t.length ≠ 0)) : Calls Tryz.prog 9 #[.string a0] w (ParsePost w [] 3) := by
  go_enter Tryz.func9, Tryz.ntmps9
  go_wp2_with (first | ((with_reducible refine gate_dst (N := 2) rfl ?_); refine bx_ (N := 2) (cs := #[.slice none 0 0]) (t := 24) ?_; intro gb hg w1 hbox hb; have HB := Aside0.mk hb; have BX := Aside0.mk hbox; have HGB : Aside0 (w.heap.size ≤ gb) := ⟨by omega⟩; clear hg hb hbox) | (go_at_call 15; refine (spec_l04Lex.calls k a0 l 0 _ h.out).mono ?_; rintro e w2 ⟨v0, rfl, hr, hb⟩; have BX2 := Aside0.mk (blk_below BX.out hb); have HB2 := Aside0.mk (below_step HB.out hb); obtain ⟨A, ca, rfl⟩ := Kd.R_slice hr; have HR := Aside0.mk hr; clear hr hb) | ((with_reducible refine gate_dst (N := 18) rfl ?_); refine Kd.R_lit k49 w.heap.size 49 ?hg (N := 18) ?hd (xs := ([] : List S49)) (inner := []) (ok := fun _ => True) (okp := fun _ => True) ?hr ?hp (fun _ hk => hk) trivial HB2.out HB2.out.size (by simp) ?_; (case hd => rfl); (case hg => rfl); (case hr => first | (go_simp; done) | (go_simp; rfl)); (case hp => exact (Reps.none _ _)); intro v3 w3 ho3 hb3 hg3 hn3; obtain ⟨A3, c3, e3⟩ := Kd.R_slice ho3; change v3 = .slice A3 0 c3 at e3; subst e3; have HV3 := Aside0.mk ho3; have HB3 := Aside0.mk hb3; have HG3 := Aside0.mk hg3; have HN3 := Aside0.mk hn3; clear ho3 hb3 hg3 hn3) | ((with_reducible refine gate_dst (N := 20) rfl ?_); refine bx_ (N := 20) (cs := #[.slice A l.length ca, .int .i64 0, .slice A3 0 c3, .int .i64 0]) (t := 38) ?_; intro g hg w4 hbox hb4; have HP := Aside0.mk (StS.start HR.out HV3.out HB3.out HG3.out HN3.out hbox hg hb4); have BX4 := Aside0.mk (blk_below (blk_grown BX2.out HG3.out (by simp)) hb4); have NG : Aside0 (gb ≠ g) := ⟨by have h1 := blk_lt BX2.out; have h2 := HG3.out.size; omega⟩; have NV : Aside0 (some gb ≠ (Value.slice A3 0 c3).ownBlock) := ⟨fun e => by obtain ⟨b, e2, h2⟩ := HN3.out; rw [e2] at e; injection e with e; have h1 := blk_lt BX2.out; omega⟩; clear hg hbox hb4))
  have HA : Aside0 ((0 : Int) ≤ (l.length : Int)) := ⟨by omega⟩
  have HN : Aside0 (([] : List S49).length + (l.drop (0 : Int).toNat).length ≤ 1000000) := ⟨by have := hL.out.1; simp only [List.length_nil, Int.toNat_zero, List.drop_zero]; omega⟩
  refine (s_top hL _ (.slice A3 0 c3) 0 [] 12 rfl HP HA HN).mono ?_
  rw [show l.drop (0 : Int).toNat = l from rfl, HM.out]
  rintro e w5 ⟨out, at5, ns, c5, v5, rfl, ⟨ht, ha, rfl, rfl, rfl⟩, h5, m5⟩
  have hlt : at5 < (l.length : Int) := by
    have h1 := congrArg List.length ht
    have h2 := h5.p0
    have h3 := HT.out
    rw [List.length_drop] at h1
    omega
  have BX5 := Aside0.mk (m5.blk BX4.out NG.out NV.out).1
  have NV5 := Aside0.mk (m5.blk BX4.out NG.out NV.out).2
  have S5 := Aside0.mk h5
  obtain ⟨A5, c5n, rfl⟩ := Kd.R_slice h5.nodes
  obtain ⟨f0, f1, f2, f3, k1, k2, k3⟩ := h5.cells
  obtain ⟨c0, k0⟩ := bc1 BX5.out
  clear h5 m5 BX2 BX4 HP HR BX
  have q5 : decide (at5 < (l.length : Int)) = true := decide_eq_true hlt
  clear ht ha hlt
  go_wp2_with (first | (go_at_call 17; refine (s_fail S5 3).mono ?_; rw [if_pos rfl]; rintro e w6 ⟨rfl, h6, m6⟩; have BX6 := Aside0.mk (m6.blk BX5.out NG.out NV5.out).1; have S6 := Aside0.mk h6; clear f0 f1 f2 f3 k1 k2 k3 c0 k0; obtain ⟨f0, f1, f2, f3, k1, k2, k3⟩ := h6.cells; obtain ⟨c0, k0⟩ := bc1 BX6.out; clear h6 m6))
  go_region
  go_wp2_with (fail)
  (try simp only [Exit.inBlock, Exit.then])
  refine bodyPost_ret (results_ct rfl _ _ gb 24 #[.slice none 0 0] (0, 0) _ rfl (blk_put BX6.out 0 _ rfl) Tryz.underlying24 rfl (by kernel_rfl)) rfl ?_
  exact ⟨_, rfl, Kd.R_nil _ _ _ _ _, below_drew (below_set S6.out.bl HGB.out)⟩
set_option maxHeartbeats 8000000 in
set_option maxRecDepth 100000 in
theorem s_parseM (k : Nat) (a0 : ByteArray) (l : List S51) (w : World) (h : Aside0 (spec_l04Lex.f k a0 = some (l, 0))) (hL : Aside0 (TkL l)) {t : List S51} {n : List S49} {o : Int} (HM : Aside0 (sumF (facF 12) l [] = .ok (t, n, o))) (HT : Aside0 (t.length = 0)) (HL : Aside0 (¬ n.length ≤ 60)) : Calls Tryz.prog 9 #[.string a0] w (ParsePost w [] 6) := by
  go_enter Tryz.func9, Tryz.ntmps9
  go_wp2_with (first | ((with_reducible refine gate_dst (N := 2) rfl ?_); refine bx_ (N := 2) (cs := #[.slice none 0 0]) (t := 24) ?_; intro gb hg w1 hbox hb; have HB := Aside0.mk hb; have BX := Aside0.mk hbox; have HGB : Aside0 (w.heap.size ≤ gb) := ⟨by omega⟩; clear hg hb hbox) | (go_at_call 15; refine (spec_l04Lex.calls k a0 l 0 _ h.out).mono ?_; rintro e w2 ⟨v0, rfl, hr, hb⟩; have BX2 := Aside0.mk (blk_below BX.out hb); have HB2 := Aside0.mk (below_step HB.out hb); obtain ⟨A, ca, rfl⟩ := Kd.R_slice hr; have HR := Aside0.mk hr; clear hr hb) | ((with_reducible refine gate_dst (N := 18) rfl ?_); refine Kd.R_lit k49 w.heap.size 49 ?hg (N := 18) ?hd (xs := ([] : List S49)) (inner := []) (ok := fun _ => True) (okp := fun _ => True) ?hr ?hp (fun _ hk => hk) trivial HB2.out HB2.out.size (by simp) ?_; (case hd => rfl); (case hg => rfl); (case hr => first | (go_simp; done) | (go_simp; rfl)); (case hp => exact (Reps.none _ _)); intro v3 w3 ho3 hb3 hg3 hn3; obtain ⟨A3, c3, e3⟩ := Kd.R_slice ho3; change v3 = .slice A3 0 c3 at e3; subst e3; have HV3 := Aside0.mk ho3; have HB3 := Aside0.mk hb3; have HG3 := Aside0.mk hg3; have HN3 := Aside0.mk hn3; clear ho3 hb3 hg3 hn3) | ((with_reducible refine gate_dst (N := 20) rfl ?_); refine bx_ (N := 20) (cs := #[.slice A l.length ca, .int .i64 0, .slice A3 0 c3, .int .i64 0]) (t := 38) ?_; intro g hg w4 hbox hb4; have HP := Aside0.mk (StS.start HR.out HV3.out HB3.out HG3.out HN3.out hbox hg hb4); have BX4 := Aside0.mk (blk_below (blk_grown BX2.out HG3.out (by simp)) hb4); have NG : Aside0 (gb ≠ g) := ⟨by have h1 := blk_lt BX2.out; have h2 := HG3.out.size; omega⟩; have NV : Aside0 (some gb ≠ (Value.slice A3 0 c3).ownBlock) := ⟨fun e => by obtain ⟨b, e2, h2⟩ := HN3.out; rw [e2] at e; injection e with e; have h1 := blk_lt BX2.out; omega⟩; clear hg hbox hb4))
  have HA : Aside0 ((0 : Int) ≤ (l.length : Int)) := ⟨by omega⟩
  have HN : Aside0 (([] : List S49).length + (l.drop (0 : Int).toNat).length ≤ 1000000) := ⟨by have := hL.out.1; simp only [List.length_nil, Int.toNat_zero, List.drop_zero]; omega⟩
  refine (s_top hL _ (.slice A3 0 c3) 0 [] 12 rfl HP HA HN).mono ?_
  rw [show l.drop (0 : Int).toNat = l from rfl, HM.out]
  rintro e w5 ⟨out, at5, ns, c5, v5, rfl, ⟨ht, ha, rfl, rfl, rfl⟩, h5, m5⟩
  have hlt : ¬ at5 < (l.length : Int) := by
    have h1 := congrArg List.length ht
    have h2 := h5.p0
    have h3 := HT.out
    rw [List.length_drop] at h1
    omega
  have BX5 := Aside0.mk (m5.blk BX4.out NG.out NV.out).1
  have NV5 := Aside0.mk (m5.blk BX4.out NG.out NV.out).2
  have S5 := Aside0.mk h5
  obtain ⟨A5, c5n, rfl⟩ := Kd.R_slice h5.nodes
  obtain ⟨f0, f1, f2, f3, k1, k2, k3⟩ := h5.cells
  obtain ⟨c0, k0⟩ := bc1 BX5.out
  clear h5 m5 BX2 BX4 HP HR BX
  have q5 : decide (at5 < (l.length : Int)) = false := decide_eq_false hlt
  clear ht ha hlt
  have RW := Aside0.mk (Kd.R_below S5.out.nodes (below_alloc (Below.refl w5.heap.size w5) (.cells #[.slice A5 ns.length c5n] 24)))
  have NX := Aside0.mk (blk_new w5 (.cells #[.slice A5 ns.length c5n] 24))
  have BX8 := Aside0.mk (blk_alloc BX5.out (.cells #[.slice A5 ns.length c5n] 24))
  have HB8 := Aside0.mk (below_alloc S5.out.bl (.cells #[.slice A5 ns.length c5n] 24))
  obtain ⟨x0, _⟩ := bc1 NX.out
  obtain ⟨d0, l0⟩ := bc1 BX8.out
  have q6 : decide ((ns.length : Int) > 60) = true := decide_eq_true (by have := HL.out; omega)
  have q6' : decide (60 < (ns.length : Int)) = true := decide_eq_true (by have := HL.out; omega)
  go_wp2_with (fail)
  (try simp only [Exit.inBlock, Exit.then])
  refine bodyPost_ret (results_ct rfl _ _ gb 24 #[.slice none 0 0] (0, 0) _ rfl (blk_put BX8.out 0 _ rfl) Tryz.underlying24 rfl (by kernel_rfl)) rfl ?_
  exact ⟨_, rfl, Kd.R_nil _ _ _ _ _, below_set HB8.out HGB.out⟩
set_option maxHeartbeats 8000000 in
set_option maxRecDepth 100000 in
theorem s_parseN (k : Nat) (a0 : ByteArray) (l : List S51) (w : World) (h : Aside0 (spec_l04Lex.f k a0 = some (l, 0))) (hL : Aside0 (TkL l)) {t : List S51} {n : List S49} {o : Int} (HM : Aside0 (sumF (facF 12) l [] = .ok (t, n, o))) (HT : Aside0 (t.length = 0)) (HL : Aside0 (n.length ≤ 60)) (HO : Aside0 (spec_ExprOK.f k n = some false)) : Calls Tryz.prog 9 #[.string a0] w (ParsePost w [] 12) := by
  go_enter Tryz.func9, Tryz.ntmps9
  go_wp2_with (first | ((with_reducible refine gate_dst (N := 2) rfl ?_); refine bx_ (N := 2) (cs := #[.slice none 0 0]) (t := 24) ?_; intro gb hg w1 hbox hb; have HB := Aside0.mk hb; have BX := Aside0.mk hbox; have HGB : Aside0 (w.heap.size ≤ gb) := ⟨by omega⟩; clear hg hb hbox) | (go_at_call 15; refine (spec_l04Lex.calls k a0 l 0 _ h.out).mono ?_; rintro e w2 ⟨v0, rfl, hr, hb⟩; have BX2 := Aside0.mk (blk_below BX.out hb); have HB2 := Aside0.mk (below_step HB.out hb); obtain ⟨A, ca, rfl⟩ := Kd.R_slice hr; have HR := Aside0.mk hr; clear hr hb) | ((with_reducible refine gate_dst (N := 18) rfl ?_); refine Kd.R_lit k49 w.heap.size 49 ?hg (N := 18) ?hd (xs := ([] : List S49)) (inner := []) (ok := fun _ => True) (okp := fun _ => True) ?hr ?hp (fun _ hk => hk) trivial HB2.out HB2.out.size (by simp) ?_; (case hd => rfl); (case hg => rfl); (case hr => first | (go_simp; done) | (go_simp; rfl)); (case hp => exact (Reps.none _ _)); intro v3 w3 ho3 hb3 hg3 hn3; obtain ⟨A3, c3, e3⟩ := Kd.R_slice ho3; change v3 = .slice A3 0 c3 at e3; subst e3; have HV3 := Aside0.mk ho3; have HB3 := Aside0.mk hb3; have HG3 := Aside0.mk hg3; have HN3 := Aside0.mk hn3; clear ho3 hb3 hg3 hn3) | ((with_reducible refine gate_dst (N := 20) rfl ?_); refine bx_ (N := 20) (cs := #[.slice A l.length ca, .int .i64 0, .slice A3 0 c3, .int .i64 0]) (t := 38) ?_; intro g hg w4 hbox hb4; have HP := Aside0.mk (StS.start HR.out HV3.out HB3.out HG3.out HN3.out hbox hg hb4); have BX4 := Aside0.mk (blk_below (blk_grown BX2.out HG3.out (by simp)) hb4); have NG : Aside0 (gb ≠ g) := ⟨by have h1 := blk_lt BX2.out; have h2 := HG3.out.size; omega⟩; have NV : Aside0 (some gb ≠ (Value.slice A3 0 c3).ownBlock) := ⟨fun e => by obtain ⟨b, e2, h2⟩ := HN3.out; rw [e2] at e; injection e with e; have h1 := blk_lt BX2.out; omega⟩; clear hg hbox hb4))
  have HA : Aside0 ((0 : Int) ≤ (l.length : Int)) := ⟨by omega⟩
  have HN : Aside0 (([] : List S49).length + (l.drop (0 : Int).toNat).length ≤ 1000000) := ⟨by have := hL.out.1; simp only [List.length_nil, Int.toNat_zero, List.drop_zero]; omega⟩
  refine (s_top hL _ (.slice A3 0 c3) 0 [] 12 rfl HP HA HN).mono ?_
  rw [show l.drop (0 : Int).toNat = l from rfl, HM.out]
  rintro e w5 ⟨out, at5, ns, c5, v5, rfl, ⟨ht, ha, rfl, rfl, rfl⟩, h5, m5⟩
  have hlt : ¬ at5 < (l.length : Int) := by
    have h1 := congrArg List.length ht
    have h2 := h5.p0
    have h3 := HT.out
    rw [List.length_drop] at h1
    omega
  have BX5 := Aside0.mk (m5.blk BX4.out NG.out NV.out).1
  have NV5 := Aside0.mk (m5.blk BX4.out NG.out NV.out).2
  have S5 := Aside0.mk h5
  obtain ⟨A5, c5n, rfl⟩ := Kd.R_slice h5.nodes
  obtain ⟨f0, f1, f2, f3, k1, k2, k3⟩ := h5.cells
  obtain ⟨c0, k0⟩ := bc1 BX5.out
  clear h5 m5 BX2 BX4 HP HR BX
  have q5 : decide (at5 < (l.length : Int)) = false := decide_eq_false hlt
  clear ht ha hlt
  have RW := Aside0.mk (Kd.R_below S5.out.nodes (below_alloc (Below.refl w5.heap.size w5) (.cells #[.slice A5 ns.length c5n] 24)))
  have NX := Aside0.mk (blk_new w5 (.cells #[.slice A5 ns.length c5n] 24))
  have BX8 := Aside0.mk (blk_alloc BX5.out (.cells #[.slice A5 ns.length c5n] 24))
  have HB8 := Aside0.mk (below_alloc S5.out.bl (.cells #[.slice A5 ns.length c5n] 24))
  obtain ⟨x0, _⟩ := bc1 NX.out
  obtain ⟨d0, l0⟩ := bc1 BX8.out
  have q6 : decide ((ns.length : Int) > 60) = false := decide_eq_false (by have := HL.out; omega)
  have q6' : decide (60 < (ns.length : Int)) = false := decide_eq_false (by have := HL.out; omega)
  have CX := (Kd.R_reads' RW.out).2.2
  have CN := (Kd.R_reads' RW.out).2.1
  go_wp2_with (first | (go_at_call 18; refine (spec_ExprOK.calls k A5 c5n ns _ _ CX CN HO.out).mono ?_; rintro e w9 ⟨rfl, hb⟩; have BX9 := Aside0.mk (blk_below BX8.out hb); have NX9 := Aside0.mk (blk_below NX.out hb); have RW9 := Aside0.mk (Kd.R_below RW.out hb); have HB9 := Aside0.mk (below_step HB8.out hb); clear CX x0 c0 k0 d0 l0; obtain ⟨x0, _⟩ := bc1 NX9.out; obtain ⟨c0, k0⟩ := bc1 BX9.out; clear hb))
  (try simp only [Exit.inBlock, Exit.then])
  refine bodyPost_ret (results_ct rfl _ _ gb 24 #[.slice none 0 0] (0, 0) _ rfl (blk_put BX9.out 0 _ rfl) Tryz.underlying24 rfl (by kernel_rfl)) rfl ?_
  exact ⟨_, rfl, Kd.R_nil _ _ _ _ _, below_set HB9.out HGB.out⟩
set_option maxHeartbeats 8000000 in
set_option maxRecDepth 100000 in
theorem s_parseY (k : Nat) (a0 : ByteArray) (l : List S51) (w : World) (h : Aside0 (spec_l04Lex.f k a0 = some (l, 0))) (hL : Aside0 (TkL l)) {t : List S51} {n : List S49} {o : Int} (HM : Aside0 (sumF (facF 12) l [] = .ok (t, n, o))) (HT : Aside0 (t.length = 0)) (HL : Aside0 (n.length ≤ 60)) (HO : Aside0 (spec_ExprOK.f k n = some true)) : Calls Tryz.prog 9 #[.string a0] w (ParsePost w n 0) := by
  go_enter Tryz.func9, Tryz.ntmps9
  go_wp2_with (first | ((with_reducible refine gate_dst (N := 2) rfl ?_); refine bx_ (N := 2) (cs := #[.slice none 0 0]) (t := 24) ?_; intro gb hg w1 hbox hb; have HB := Aside0.mk hb; have BX := Aside0.mk hbox; have HGB : Aside0 (w.heap.size ≤ gb) := ⟨by omega⟩; clear hg hb hbox) | (go_at_call 15; refine (spec_l04Lex.calls k a0 l 0 _ h.out).mono ?_; rintro e w2 ⟨v0, rfl, hr, hb⟩; have BX2 := Aside0.mk (blk_below BX.out hb); have HB2 := Aside0.mk (below_step HB.out hb); obtain ⟨A, ca, rfl⟩ := Kd.R_slice hr; have HR := Aside0.mk hr; clear hr hb) | ((with_reducible refine gate_dst (N := 18) rfl ?_); refine Kd.R_lit k49 w.heap.size 49 ?hg (N := 18) ?hd (xs := ([] : List S49)) (inner := []) (ok := fun _ => True) (okp := fun _ => True) ?hr ?hp (fun _ hk => hk) trivial HB2.out HB2.out.size (by simp) ?_; (case hd => rfl); (case hg => rfl); (case hr => first | (go_simp; done) | (go_simp; rfl)); (case hp => exact (Reps.none _ _)); intro v3 w3 ho3 hb3 hg3 hn3; obtain ⟨A3, c3, e3⟩ := Kd.R_slice ho3; change v3 = .slice A3 0 c3 at e3; subst e3; have HV3 := Aside0.mk ho3; have HB3 := Aside0.mk hb3; have HG3 := Aside0.mk hg3; have HN3 := Aside0.mk hn3; clear ho3 hb3 hg3 hn3) | ((with_reducible refine gate_dst (N := 20) rfl ?_); refine bx_ (N := 20) (cs := #[.slice A l.length ca, .int .i64 0, .slice A3 0 c3, .int .i64 0]) (t := 38) ?_; intro g hg w4 hbox hb4; have HP := Aside0.mk (StS.start HR.out HV3.out HB3.out HG3.out HN3.out hbox hg hb4); have BX4 := Aside0.mk (blk_below (blk_grown BX2.out HG3.out (by simp)) hb4); have NG : Aside0 (gb ≠ g) := ⟨by have h1 := blk_lt BX2.out; have h2 := HG3.out.size; omega⟩; have NV : Aside0 (some gb ≠ (Value.slice A3 0 c3).ownBlock) := ⟨fun e => by obtain ⟨b, e2, h2⟩ := HN3.out; rw [e2] at e; injection e with e; have h1 := blk_lt BX2.out; omega⟩; clear hg hbox hb4))
  have HA : Aside0 ((0 : Int) ≤ (l.length : Int)) := ⟨by omega⟩
  have HN : Aside0 (([] : List S49).length + (l.drop (0 : Int).toNat).length ≤ 1000000) := ⟨by have := hL.out.1; simp only [List.length_nil, Int.toNat_zero, List.drop_zero]; omega⟩
  refine (s_top hL _ (.slice A3 0 c3) 0 [] 12 rfl HP HA HN).mono ?_
  rw [show l.drop (0 : Int).toNat = l from rfl, HM.out]
  rintro e w5 ⟨out, at5, ns, c5, v5, rfl, ⟨ht, ha, rfl, rfl, rfl⟩, h5, m5⟩
  have hlt : ¬ at5 < (l.length : Int) := by
    have h1 := congrArg List.length ht
    have h2 := h5.p0
    have h3 := HT.out
    rw [List.length_drop] at h1
    omega
  have BX5 := Aside0.mk (m5.blk BX4.out NG.out NV.out).1
  have NV5 := Aside0.mk (m5.blk BX4.out NG.out NV.out).2
  have S5 := Aside0.mk h5
  obtain ⟨A5, c5n, rfl⟩ := Kd.R_slice h5.nodes
  obtain ⟨f0, f1, f2, f3, k1, k2, k3⟩ := h5.cells
  obtain ⟨c0, k0⟩ := bc1 BX5.out
  clear h5 m5 BX2 BX4 HP HR BX
  have q5 : decide (at5 < (l.length : Int)) = false := decide_eq_false hlt
  clear ht ha hlt
  have RW := Aside0.mk (Kd.R_below S5.out.nodes (below_alloc (Below.refl w5.heap.size w5) (.cells #[.slice A5 ns.length c5n] 24)))
  have NX := Aside0.mk (blk_new w5 (.cells #[.slice A5 ns.length c5n] 24))
  have BX8 := Aside0.mk (blk_alloc BX5.out (.cells #[.slice A5 ns.length c5n] 24))
  have HB8 := Aside0.mk (below_alloc S5.out.bl (.cells #[.slice A5 ns.length c5n] 24))
  obtain ⟨x0, _⟩ := bc1 NX.out
  obtain ⟨d0, l0⟩ := bc1 BX8.out
  have q6 : decide ((ns.length : Int) > 60) = false := decide_eq_false (by have := HL.out; omega)
  have q6' : decide (60 < (ns.length : Int)) = false := decide_eq_false (by have := HL.out; omega)
  have CX := (Kd.R_reads' RW.out).2.2
  have CN := (Kd.R_reads' RW.out).2.1
  go_wp2_with (first | (go_at_call 18; refine (spec_ExprOK.calls k A5 c5n ns _ _ CX CN HO.out).mono ?_; rintro e w9 ⟨rfl, hb⟩; have BX9 := Aside0.mk (blk_below BX8.out hb); have NX9 := Aside0.mk (blk_below NX.out hb); have RW9 := Aside0.mk (Kd.R_below RW.out hb); have HB9 := Aside0.mk (below_step HB8.out hb); clear CX x0 c0 k0 d0 l0; obtain ⟨x0, _⟩ := bc1 NX9.out; obtain ⟨c0, k0⟩ := bc1 BX9.out; clear hb))
  (try simp only [Exit.inBlock, Exit.then])
  refine bodyPost_ret (results_ct rfl _ _ gb 24 #[.slice A5 ns.length c5n] (0, 0) _ rfl (blk_put BX9.out 0 _ rfl) Tryz.underlying24 rfl (by kernel_rfl)) rfl ?_
  exact ⟨_, rfl, Kd.R_mono (Kd.R_far (p := ⟨gb, 0, none⟩) (Kd.R_types RW9.out BX9.out (by decide)) (fun _ hk => hk.2) _) (fun _ _ => trivial), below_set HB9.out HGB.out⟩
theorem s_parse (k : Nat) (a0 : ByteArray) (r1 : List S49) (r2 : Int) (w : World) (h : spec_l05Parse.f k a0 = some (r1, r2)) : Calls Tryz.prog 9 #[.string a0] w (ParsePost w r1 r2) := by
  unfold spec_l05Parse.f at h
  obtain ⟨⟨l, c⟩, hl, h⟩ := Option.bind_eq_some_iff.1 h
  dsimp only at h
  by_cases hc : c = 0
  · subst hc
    rw [if_pos rfl] at h
    by_cases hn : tkb l = true
    · rw [if_pos hn] at h
      have hL : Aside0 (TkL l) := ⟨tkb_ok hn⟩
      unfold parT at h
      cases hm : sumF (facF 12) l [] with
      | error c =>
        rw [hm] at h
        cases h
        exact s_parseX k a0 l _ w ⟨hl⟩ hL ⟨hm⟩
      | ok r =>
        obtain ⟨t, n, o⟩ := r
        rw [hm] at h
        dsimp only at h
        by_cases ht : t.length = 0
        · rw [if_pos ht] at h
          by_cases hq : n.length ≤ 60
          · rw [if_pos hq] at h
            obtain ⟨b, hb, h⟩ := Option.bind_eq_some_iff.1 h
            cases b with
            | true =>
              cases h
              exact s_parseY k a0 l w ⟨hl⟩ hL ⟨hm⟩ ⟨ht⟩ ⟨hq⟩ ⟨hb⟩
            | false =>
              cases h
              exact s_parseN k a0 l w ⟨hl⟩ hL ⟨hm⟩ ⟨ht⟩ ⟨hq⟩ ⟨hb⟩
          · rw [if_neg hq] at h
            cases h
            exact s_parseM k a0 l w ⟨hl⟩ hL ⟨hm⟩ ⟨ht⟩ ⟨hq⟩
        · rw [if_neg ht] at h
          cases h
          exact s_parseT k a0 l w ⟨hl⟩ hL ⟨hm⟩ ⟨ht⟩
    · rw [if_neg hn] at h
      cases h
  · rw [if_neg hc] at h
    cases h
    exact s_parseE k a0 l _ w ⟨hl⟩ hc
end Go.Proofs.YtbphhccpkngfoaaGreatDoor.Q
