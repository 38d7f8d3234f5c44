-- written by a program of this claim's session (myprint.py) out of the translation; Lean checks it.
import Derived.Test.YtbphhccpkngfoaaGreatDoorQx0
import Derived.Test.YtbphhccpkngfoaaGreatDoorWords
import Derived.Test.YtbphhccpkngfoaaGreatDoorQsm
namespace Go.Proofs.YtbphhccpkngfoaaGreatDoor.Q
open Go.RowKit Go.Proofs.YtbphhccpkngfoaaGreatDoorW.PrintWords Go.Proofs.YtbphhccpkngfoaaGreatDoorW.PrintLast Go.Proofs.YtbphhccpkngfoaaGreatDoorW.PrintMore
attribute [local go_sem] max2_int min2_int max_two min_two max_three min_three max_four min_four   -- for this text's walks alone
set_option linter.unusedVariables false
set_option linter.unusedSimpArgs false

theorem goesK_ {P : Program} {ops : Array Oper} {Q : Exit → Act → World → Prop} {oi : Oper} {N : Option Tmp} {a : Act} {w : World} {K : Act → World → Prop} {f : FuncId} {fn : Func} {t : Operand} {ax : Array Operand} {ts : Array TypeId} (hf : P.funcs[f]? = some fn) (hname : (fn.name == "runtime.NumGoroutine") = false) (hb : fn.body.isSome = true) (args all : Array Value) {cs : Array Value} (hall : args ++ cs = all)
  (hw : Region.wanted oi (yielded ops a.tmps) = true) (hN : oi.dst = N) (hop : oi.op = .call { callee := .value t, args := ax, argTypes := ts }) (hv : a.eval t = .func (.func f) #[] cs) (hargs : ax.map a.eval = args)
  (h : Calls P f all w fun e w' => ∃ v, e = .returned v ∧ K (a.put N v) w') : if Region.wanted oi (yielded ops a.tmps) = true then Oper.wp P oi a w K Q else K (a.put N undef) w := by
 subst hall
 refine call_ f (args ++ cs) hw hN ?_ h
 have he := enters_ hf hname hb (args ++ cs) w
 unfold execOp
 simp [hop, resolve, Deferred.ofValue, invoke, hv, hargs, he]
/-- What plainOk asks of a child. -/
def impl_Node_child.f (h : Bool) (x p : Int) : Option (Bool) := if h = true then impl_between.f x 0 (wrap64 (p - 1)) else some (x == 0)
set_option maxHeartbeats 8000000 in
set_option maxRecDepth 100000 in
theorem impl_Node_child.calls (h : Bool) (x p : Int) (q : Addr) (r : Bool) (w : World) (hq : w.cell? q = some (.int .i64 p)) (e : impl_Node_child.f h x p = some r) :
  Calls Tryz.prog 75 #[.bool h, .int .i64 x, .pointer (some q)] w fun e w' => e = .returned (.bool r) ∧ Drawn0 w w' := by
 cases h with
 | true =>
  have H : impl_between.f x 0 (wrap64 (p - 1)) = some r := e
  have A3 := Aside0.mk H
  clear H e
  cases r with
  | true =>
   go_enter Tryz.func75, Tryz.ntmps75
   go_wp2_with ((with_reducible refine gate_callee (f := 41) rfl ?_); (try (refine gate_guard (by rfl) ?_; dsimp only)); refine goesL_ (some 11) rfl rfl Tryz.func41 (by kernel_rfl) rfl #[.int .i64 x, .int .i64 0, .int .i64 (wrap64 (p - 1))] rfl (by (try simp only [List.map_toArray, List.map_cons, List.map_nil]); first | done | rfl) ?_; (with_reducible refine (impl_between.calls x 0 (wrap64 (p - 1)) true _ A3.out).mono ?_); rintro e w' ⟨rfl, ⟨nd, rfl⟩⟩; refine ⟨_, rfl, ?_⟩)
   go_ret
   exact ⟨by first | rfl | (simp; done), by repeat (first | exact Drawn0.refl _ | apply Drawn0.step)⟩
  | false =>
   go_enter Tryz.func75, Tryz.ntmps75
   go_wp2_with ((with_reducible refine gate_callee (f := 41) rfl ?_); (try (refine gate_guard (by rfl) ?_; dsimp only)); refine goesL_ (some 11) rfl rfl Tryz.func41 (by kernel_rfl) rfl #[.int .i64 x, .int .i64 0, .int .i64 (wrap64 (p - 1))] rfl (by (try simp only [List.map_toArray, List.map_cons, List.map_nil]); first | done | rfl) ?_; (with_reducible refine (impl_between.calls x 0 (wrap64 (p - 1)) false _ A3.out).mono ?_); rintro e w' ⟨rfl, ⟨nd, rfl⟩⟩; refine ⟨_, rfl, ?_⟩)
   go_ret
   exact ⟨by first | rfl | (simp; done), by repeat (first | exact Drawn0.refl _ | apply Drawn0.step)⟩
 | false =>
  obtain rfl : (x == 0) = r := Option.some.inj e
  clear e
  go_enter Tryz.func75, Tryz.ntmps75
  go_wp2
  go_ret
  exact ⟨by first | rfl | (simp; done), by repeat (first | exact Drawn0.refl _ | apply Drawn0.step)⟩
def impl_Node_plainOk.f (k : Nat) (a0_0 : Int) (a0_1 : Int) (a0_2 : Int) (a0_3 : Int) (a1 : Int) : Option (Bool) :=
 (impl_between.f a0_0 1 8).bind fun t1 => if t1 = true then ((impl_Node_numberOk.f a0_0 a0_1 a0_2 a0_3).bind fun t2 => if t2 = true then ((impl_Node_kids.f k a0_0 a0_1 a0_2 a0_3).bind fun t3 => (impl_Node_child.f (decide (0 < t3)) a0_1 a1).bind fun t4 => if t4 = true then (impl_Node_child.f (decide (1 < t3)) a0_2 a1) else (some false)) else (some false)) else (some false)
set_option maxHeartbeats 8000000 in
set_option maxRecDepth 100000 in
theorem impl_Node_plainOk.calls (k : Nat) (a0_0 : Int) (a0_1 : Int) (a0_2 : Int) (a0_3 : Int) (a1 : Int) (r : Bool) (w : World) (h : impl_Node_plainOk.f k a0_0 a0_1 a0_2 a0_3 a1 = some r) :
  Calls Tryz.prog 62 #[.agg #[.int .i64 a0_0, .int .i64 a0_1, .int .i64 a0_2, .int .i64 a0_3], .int .i64 a1] w fun e w' => e = .returned (.bool r) ∧ Below w.heap.size w w' := by
 have hu46 := Tryz.underlying49
 have HB := Aside0.mk (Below.refl w.heap.size w)
 have H : (impl_between.f a0_0 1 8).bind (fun t1 => (if t1 = true then ((impl_Node_numberOk.f a0_0 a0_1 a0_2 a0_3).bind fun t2 => (if t2 = true then ((impl_Node_kids.f k a0_0 a0_1 a0_2 a0_3).bind fun t3 => ((impl_Node_child.f (decide (0 < t3)) a0_1 a1).bind fun t4 => if t4 = true then (impl_Node_child.f (decide (1 < t3)) a0_2 a1) else (some false))) else (some false))) else (some false))) = some r := h
 clear h
 replace H := Option.bind_eq_some_iff.mp H
 obtain ⟨t1, A10, H⟩ := H
 replace H : (if t1 = true then ((impl_Node_numberOk.f a0_0 a0_1 a0_2 a0_3).bind fun t2 => (if t2 = true then ((impl_Node_kids.f k a0_0 a0_1 a0_2 a0_3).bind fun t3 => ((impl_Node_child.f (decide (0 < t3)) a0_1 a1).bind fun t4 => if t4 = true then (impl_Node_child.f (decide (1 < t3)) a0_2 a1) else (some false))) else (some false))) else (some false)) = some r := H
 have A1 := Aside0.mk A10
 clear A10
 cases t1 with
 | false =>
  obtain rfl := Option.some.inj H
  go_enter Tryz.func62, Tryz.ntmps62
  go_wp2_with (first | ((with_reducible refine gate_dst (N := 2) rfl ?_); refine bx_ (N := 2) (cs := #[.int .i64 a0_0, .int .i64 a0_1, .int .i64 a0_2, .int .i64 a0_3]) (t := 49) ?_; intro gA hg wgA hbox hb; have n0_ := bst HB hb; have BKgA := Aside0.mk hbox; clear HB; have HB := n0_; clear n0_; clear hb hbox hg; have hcgA_0 : wgA.cell? ⟨gA, 0, none⟩ = some (.int .i64 a0_0) := (blk_cell BKgA.out 0).trans rfl; have hcgA_1 : wgA.cell? ⟨gA, 1, none⟩ = some (.int .i64 a0_1) := (blk_cell BKgA.out 1).trans rfl; have hcgA_2 : wgA.cell? ⟨gA, 2, none⟩ = some (.int .i64 a0_2) := (blk_cell BKgA.out 2).trans rfl; have hcgA_3 : wgA.cell? ⟨gA, 3, none⟩ = some (.int .i64 a0_3) := (blk_cell BKgA.out 3).trans rfl) | ((with_reducible refine gate_dst (N := 3) rfl ?_); refine bx_ (N := 3) (cs := #[.int .i64 a1]) (t := 3) ?_; intro gB hg wgB hbox hb; have n0_ := bst HB hb; have BKgB := Aside0.mk hbox; have mgA_ := Aside0.mk (blk_below (crb BKgA) hb); clear BKgA; have BKgA := mgA_; clear mgA_; clear HB; have HB := n0_; clear n0_; clear hb hbox hg; have hcgA_0 : wgB.cell? ⟨gA, 0, none⟩ = some (.int .i64 a0_0) := (blk_cell BKgA.out 0).trans rfl; have hcgA_1 : wgB.cell? ⟨gA, 1, none⟩ = some (.int .i64 a0_1) := (blk_cell BKgA.out 1).trans rfl; have hcgA_2 : wgB.cell? ⟨gA, 2, none⟩ = some (.int .i64 a0_2) := (blk_cell BKgA.out 2).trans rfl; have hcgA_3 : wgB.cell? ⟨gA, 3, none⟩ = some (.int .i64 a0_3) := (blk_cell BKgA.out 3).trans rfl; have hcgB_0 : wgB.cell? ⟨gB, 0, none⟩ = some (.int .i64 a1) := (blk_cell BKgB.out 0).trans rfl) | ((with_reducible refine gate_callee (f := 41) rfl ?_); (try (refine gate_guard (by rfl) ?_; dsimp only)); refine goesL_ (some 8) rfl rfl Tryz.func41 (by kernel_rfl) rfl #[.int .i64 a0_0, .int .i64 1, .int .i64 8] rfl (by (try simp only [List.map_toArray, List.map_cons, List.map_nil]); first | done | rfl) ?_; (with_reducible refine (impl_between.calls a0_0 1 8 _ _ A1.out).mono ?_); rintro e w' ⟨rfl, ⟨nd, rfl⟩⟩; refine ⟨_, rfl, ?_⟩))
  go_ret
  exact ⟨by first | rfl | (simp; done) | (simp [*]; done), (blw HB)⟩
 | true =>
  replace H : ((impl_Node_numberOk.f a0_0 a0_1 a0_2 a0_3).bind fun t2 => (if t2 = true then ((impl_Node_kids.f k a0_0 a0_1 a0_2 a0_3).bind fun t3 => ((impl_Node_child.f (decide (0 < t3)) a0_1 a1).bind fun t4 => if t4 = true then (impl_Node_child.f (decide (1 < t3)) a0_2 a1) else (some false))) else (some false))) = some r := H
  replace H := Option.bind_eq_some_iff.mp H
  obtain ⟨t2, A20, H⟩ := H
  replace H : (if t2 = true then ((impl_Node_kids.f k a0_0 a0_1 a0_2 a0_3).bind fun t3 => ((impl_Node_child.f (decide (0 < t3)) a0_1 a1).bind fun t4 => if t4 = true then (impl_Node_child.f (decide (1 < t3)) a0_2 a1) else (some false))) else (some false)) = some r := H
  have A2 := Aside0.mk A20
  clear A20
  cases t2 with
  | false =>
   obtain rfl := Option.some.inj H
   go_enter Tryz.func62, Tryz.ntmps62
   go_wp2_with (first | ((with_reducible refine gate_dst (N := 2) rfl ?_); refine bx_ (N := 2) (cs := #[.int .i64 a0_0, .int .i64 a0_1, .int .i64 a0_2, .int .i64 a0_3]) (t := 49) ?_; intro gA hg wgA hbox hb; have n0_ := bst HB hb; have BKgA := Aside0.mk hbox; clear HB; have HB := n0_; clear n0_; clear hb hbox hg; have hcgA_0 : wgA.cell? ⟨gA, 0, none⟩ = some (.int .i64 a0_0) := (blk_cell BKgA.out 0).trans rfl; have hcgA_1 : wgA.cell? ⟨gA, 1, none⟩ = some (.int .i64 a0_1) := (blk_cell BKgA.out 1).trans rfl; have hcgA_2 : wgA.cell? ⟨gA, 2, none⟩ = some (.int .i64 a0_2) := (blk_cell BKgA.out 2).trans rfl; have hcgA_3 : wgA.cell? ⟨gA, 3, none⟩ = some (.int .i64 a0_3) := (blk_cell BKgA.out 3).trans rfl) | ((with_reducible refine gate_dst (N := 3) rfl ?_); refine bx_ (N := 3) (cs := #[.int .i64 a1]) (t := 3) ?_; intro gB hg wgB hbox hb; have n0_ := bst HB hb; have BKgB := Aside0.mk hbox; have mgA_ := Aside0.mk (blk_below (crb BKgA) hb); clear BKgA; have BKgA := mgA_; clear mgA_; clear HB; have HB := n0_; clear n0_; clear hb hbox hg; have hcgA_0 : wgB.cell? ⟨gA, 0, none⟩ = some (.int .i64 a0_0) := (blk_cell BKgA.out 0).trans rfl; have hcgA_1 : wgB.cell? ⟨gA, 1, none⟩ = some (.int .i64 a0_1) := (blk_cell BKgA.out 1).trans rfl; have hcgA_2 : wgB.cell? ⟨gA, 2, none⟩ = some (.int .i64 a0_2) := (blk_cell BKgA.out 2).trans rfl; have hcgA_3 : wgB.cell? ⟨gA, 3, none⟩ = some (.int .i64 a0_3) := (blk_cell BKgA.out 3).trans rfl; have hcgB_0 : wgB.cell? ⟨gB, 0, none⟩ = some (.int .i64 a1) := (blk_cell BKgB.out 0).trans rfl) | ((with_reducible refine gate_callee (f := 41) rfl ?_); (try (refine gate_guard (by rfl) ?_; dsimp only)); refine goesL_ (some 8) rfl rfl Tryz.func41 (by kernel_rfl) rfl #[.int .i64 a0_0, .int .i64 1, .int .i64 8] rfl (by (try simp only [List.map_toArray, List.map_cons, List.map_nil]); first | done | rfl) ?_; (with_reducible refine (impl_between.calls a0_0 1 8 _ _ A1.out).mono ?_); rintro e w' ⟨rfl, ⟨nd, rfl⟩⟩; refine ⟨_, rfl, ?_⟩) | ((with_reducible refine gate_callee (f := 74) rfl ?_); (try (refine gate_guard (by rfl) ?_; dsimp only)); refine goesL_ (some 12) rfl rfl Tryz.func74 (by kernel_rfl) rfl #[.agg #[.int .i64 a0_0, .int .i64 a0_1, .int .i64 a0_2, .int .i64 a0_3]] rfl (by (try simp only [List.map_toArray, List.map_cons, List.map_nil]); first | done | rfl) ?_; (with_reducible refine (impl_Node_numberOk.calls a0_0 a0_1 a0_2 a0_3 _ _ A2.out).mono ?_); rintro e w2 ⟨rfl, hb⟩; have n0_ := bst HB hb; have mgA_ := Aside0.mk (blk_below (crb BKgA) hb); have mgB_ := Aside0.mk (blk_below (crb BKgB) hb); clear BKgA; have BKgA := mgA_; clear mgA_; clear BKgB; have BKgB := mgB_; clear mgB_; clear HB; have HB := n0_; clear n0_; clear hb; have hcgA_0 : w2.cell? ⟨gA, 0, none⟩ = some (.int .i64 a0_0) := (blk_cell BKgA.out 0).trans rfl; have hcgA_1 : w2.cell? ⟨gA, 1, none⟩ = some (.int .i64 a0_1) := (blk_cell BKgA.out 1).trans rfl; have hcgA_2 : w2.cell? ⟨gA, 2, none⟩ = some (.int .i64 a0_2) := (blk_cell BKgA.out 2).trans rfl; have hcgA_3 : w2.cell? ⟨gA, 3, none⟩ = some (.int .i64 a0_3) := (blk_cell BKgA.out 3).trans rfl; have hcgB_0 : w2.cell? ⟨gB, 0, none⟩ = some (.int .i64 a1) := (blk_cell BKgB.out 0).trans rfl; refine ⟨_, rfl, ?_⟩))
   go_ret
   exact ⟨by first | rfl | (simp; done) | (simp [*]; done), (blw HB)⟩
  | true =>
   replace H : ((impl_Node_kids.f k a0_0 a0_1 a0_2 a0_3).bind fun t3 => ((impl_Node_child.f (decide (0 < t3)) a0_1 a1).bind fun t4 => if t4 = true then (impl_Node_child.f (decide (1 < t3)) a0_2 a1) else (some false))) = some r := H
   replace H := Option.bind_eq_some_iff.mp H
   obtain ⟨t3, A30, H⟩ := H
   replace H : ((impl_Node_child.f (decide (0 < t3)) a0_1 a1).bind fun t4 => if t4 = true then (impl_Node_child.f (decide (1 < t3)) a0_2 a1) else (some false)) = some r := H
   have A3 := Aside0.mk A30
   clear A30
   replace H := Option.bind_eq_some_iff.mp H
   obtain ⟨t4, A40, H⟩ := H
   replace H : (if t4 = true then (impl_Node_child.f (decide (1 < t3)) a0_2 a1) else (some false)) = some r := H
   have A4 := Aside0.mk A40
   clear A40
   cases t4 with
   | false =>
    obtain rfl := Option.some.inj H
    go_enter Tryz.func62, Tryz.ntmps62
    go_wp2_with (first | ((with_reducible refine gate_dst (N := 2) rfl ?_); refine bx_ (N := 2) (cs := #[.int .i64 a0_0, .int .i64 a0_1, .int .i64 a0_2, .int .i64 a0_3]) (t := 49) ?_; intro gA hg wgA hbox hb; have n0_ := bst HB hb; have BKgA := Aside0.mk hbox; clear HB; have HB := n0_; clear n0_; clear hb hbox hg; have hcgA_0 : wgA.cell? ⟨gA, 0, none⟩ = some (.int .i64 a0_0) := (blk_cell BKgA.out 0).trans rfl; have hcgA_1 : wgA.cell? ⟨gA, 1, none⟩ = some (.int .i64 a0_1) := (blk_cell BKgA.out 1).trans rfl; have hcgA_2 : wgA.cell? ⟨gA, 2, none⟩ = some (.int .i64 a0_2) := (blk_cell BKgA.out 2).trans rfl; have hcgA_3 : wgA.cell? ⟨gA, 3, none⟩ = some (.int .i64 a0_3) := (blk_cell BKgA.out 3).trans rfl) | ((with_reducible refine gate_dst (N := 3) rfl ?_); refine bx_ (N := 3) (cs := #[.int .i64 a1]) (t := 3) ?_; intro gB hg wgB hbox hb; have n0_ := bst HB hb; have BKgB := Aside0.mk hbox; have mgA_ := Aside0.mk (blk_below (crb BKgA) hb); clear BKgA; have BKgA := mgA_; clear mgA_; clear HB; have HB := n0_; clear n0_; clear hb hbox hg; have hcgA_0 : wgB.cell? ⟨gA, 0, none⟩ = some (.int .i64 a0_0) := (blk_cell BKgA.out 0).trans rfl; have hcgA_1 : wgB.cell? ⟨gA, 1, none⟩ = some (.int .i64 a0_1) := (blk_cell BKgA.out 1).trans rfl; have hcgA_2 : wgB.cell? ⟨gA, 2, none⟩ = some (.int .i64 a0_2) := (blk_cell BKgA.out 2).trans rfl; have hcgA_3 : wgB.cell? ⟨gA, 3, none⟩ = some (.int .i64 a0_3) := (blk_cell BKgA.out 3).trans rfl; have hcgB_0 : wgB.cell? ⟨gB, 0, none⟩ = some (.int .i64 a1) := (blk_cell BKgB.out 0).trans rfl) | ((with_reducible refine gate_callee (f := 41) rfl ?_); (try (refine gate_guard (by rfl) ?_; dsimp only)); refine goesL_ (some 8) rfl rfl Tryz.func41 (by kernel_rfl) rfl #[.int .i64 a0_0, .int .i64 1, .int .i64 8] rfl (by (try simp only [List.map_toArray, List.map_cons, List.map_nil]); first | done | rfl) ?_; (with_reducible refine (impl_between.calls a0_0 1 8 _ _ A1.out).mono ?_); rintro e w' ⟨rfl, ⟨nd, rfl⟩⟩; refine ⟨_, rfl, ?_⟩) | ((with_reducible refine gate_callee (f := 74) rfl ?_); (try (refine gate_guard (by rfl) ?_; dsimp only)); refine goesL_ (some 12) rfl rfl Tryz.func74 (by kernel_rfl) rfl #[.agg #[.int .i64 a0_0, .int .i64 a0_1, .int .i64 a0_2, .int .i64 a0_3]] rfl (by (try simp only [List.map_toArray, List.map_cons, List.map_nil]); first | done | rfl) ?_; (with_reducible refine (impl_Node_numberOk.calls a0_0 a0_1 a0_2 a0_3 _ _ A2.out).mono ?_); rintro e w2 ⟨rfl, hb⟩; have n0_ := bst HB hb; have mgA_ := Aside0.mk (blk_below (crb BKgA) hb); have mgB_ := Aside0.mk (blk_below (crb BKgB) hb); clear BKgA; have BKgA := mgA_; clear mgA_; clear BKgB; have BKgB := mgB_; clear mgB_; clear HB; have HB := n0_; clear n0_; clear hb; have hcgA_0 : w2.cell? ⟨gA, 0, none⟩ = some (.int .i64 a0_0) := (blk_cell BKgA.out 0).trans rfl; have hcgA_1 : w2.cell? ⟨gA, 1, none⟩ = some (.int .i64 a0_1) := (blk_cell BKgA.out 1).trans rfl; have hcgA_2 : w2.cell? ⟨gA, 2, none⟩ = some (.int .i64 a0_2) := (blk_cell BKgA.out 2).trans rfl; have hcgA_3 : w2.cell? ⟨gA, 3, none⟩ = some (.int .i64 a0_3) := (blk_cell BKgA.out 3).trans rfl; have hcgB_0 : w2.cell? ⟨gB, 0, none⟩ = some (.int .i64 a1) := (blk_cell BKgB.out 0).trans rfl; refine ⟨_, rfl, ?_⟩))
    refine start_ (n := 17) (S := fun w' => w'.cell? ⟨gA, 0, none⟩ = some (.int .i64 a0_0) ∧ w'.cell? ⟨gA, 1, none⟩ = some (.int .i64 a0_1) ∧ w'.cell? ⟨gA, 2, none⟩ = some (.int .i64 a0_2) ∧ w'.cell? ⟨gA, 3, none⟩ = some (.int .i64 a0_3) ∧ w'.cell? ⟨gB, 0, none⟩ = some (.int .i64 a1) ∧ w'.heap[gA]? = some (.cells #[.int .i64 a0_0, .int .i64 a0_1, .int .i64 a0_2, .int .i64 a0_3] 49 (0, 0)) ∧ w'.heap[gB]? = some (.cells #[.int .i64 a1] 3 (0, 0)) ∧ Below w.heap.size w w') (ds := []) (bm 17 0) (by kernel_rfl) rfl rfl ⟨(blk_cell (blk_drew (crb BKgA)) 0).trans rfl, (blk_cell (blk_drew (crb BKgA)) 1).trans rfl, (blk_cell (blk_drew (crb BKgA)) 2).trans rfl, (blk_cell (blk_drew (crb BKgA)) 3).trans rfl, (blk_cell (blk_drew (crb BKgB)) 0).trans rfl, (blk_drew (crb BKgA)), (blk_drew (crb BKgB)), (below_drew1 (blw HB))⟩ (fun hHeld => ?_)
    refine pure_ (i := 0) (N := some 16) (v := ?_) (a' := ?_) (bm 17 1) rfl rfl (by kernel_rfl) (fun _ _ _ h => h) (Or.inl ⟨by rfl, ?_⟩) ?_ ?_
    rotate_left
    ·
     intro w'
     go_simp
     with_reducible rfl
    rotate_left
    ·
     simp only [Act.put, List.setIfInBounds_toArray, List.set_cons_zero, List.set_cons_succ, i64_w, i32_w]
     rfl
    refine pure_ (i := 4) (N := some 20) (v := ?_) (a' := ?_) (bm 17 17) rfl rfl (by kernel_rfl) (fun _ _ _ h => h) (Or.inl ⟨by rfl, ?_⟩) ?_ ?_
    rotate_left
    ·
     intro w'
     go_simp
     with_reducible rfl
    rotate_left
    ·
     simp only [Act.put, List.setIfInBounds_toArray, List.set_cons_zero, List.set_cons_succ, i64_w, i32_w]
     rfl
    refine take_ (i := 1) (N := some 17) (v := ?_) (a' := ?_) (bm 17 19) rfl rfl (by kernel_rfl) (fun _ _ _ h => h) (Or.inl ⟨by rfl, ?_⟩) hHeld ?_ ?_
    rotate_left
    ·
     rintro w' ⟨s0, s1, s2, s3, s4, s5, s6, s7⟩
     go_simp
     with_reducible rfl
    rotate_left
    ·
     simp only [Act.put, List.setIfInBounds_toArray, List.set_cons_zero, List.set_cons_succ, i64_w, i32_w]
     rfl
    refine take_ (i := 5) (N := some 21) (v := ?_) (a' := ?_) (bm 17 51) rfl rfl (by kernel_rfl) (fun _ _ _ h => h) (Or.inl ⟨by rfl, ?_⟩) hHeld ?_ ?_
    rotate_left
    ·
     rintro w' ⟨s0, s1, s2, s3, s4, s5, s6, s7⟩
     go_simp
     with_reducible rfl
    rotate_left
    ·
     simp only [Act.put, List.setIfInBounds_toArray, List.set_cons_zero, List.set_cons_succ, i64_w, i32_w]
     rfl
    refine one_ (i := 2) (N := some 18) (bm 17 55) rfl rfl (by kernel_rfl) (by decide) (fun K hK => ?_)
    refine goes_ Tryz.func63 (by kernel_rfl) rfl #[.agg #[.int .i64 a0_0, .int .i64 a0_1, .int .i64 a0_2, .int .i64 a0_3]] (by rfl) rfl rfl (by simp only [List.map_toArray, List.map_cons, List.map_nil]; rfl) ?_
    with_reducible refine (impl_Node_kids.calls k a0_0 a0_1 a0_2 a0_3 _ _ A3.out).mono ?_
    rintro e w3 ⟨rfl, hb⟩
    refine ⟨_, rfl, ?_⟩
    refine hK.out _ _ ⟨(blk_cell (blk_below hHeld.2.2.2.2.2.1 hb) 0).trans rfl, (blk_cell (blk_below hHeld.2.2.2.2.2.1 hb) 1).trans rfl, (blk_cell (blk_below hHeld.2.2.2.2.2.1 hb) 2).trans rfl, (blk_cell (blk_below hHeld.2.2.2.2.2.1 hb) 3).trans rfl, (blk_cell (blk_below hHeld.2.2.2.2.2.2.1 hb) 0).trans rfl, (blk_below hHeld.2.2.2.2.2.1 hb), (blk_below hHeld.2.2.2.2.2.2.1 hb), (below_step hHeld.2.2.2.2.2.2.2 hb)⟩ (fun hHeld => ?_)
    clear hK K
    refine nm_ 18 ?_
    refine pure_ (i := 3) (N := some 19) (v := ?_) (a' := ?_) (bm 17 63) rfl rfl (by kernel_rfl) (fun _ _ _ h => h) (Or.inl ⟨by rfl, ?_⟩) ?_ ?_
    rotate_left
    ·
     intro w'
     go_simp
     with_reducible rfl
    rotate_left
    ·
     simp only [Act.put, List.setIfInBounds_toArray, List.set_cons_zero, List.set_cons_succ, i64_w, i32_w]
     rfl
    refine one_ (i := 6) (N := some 22) (bm 17 127) rfl rfl (by kernel_rfl) (by decide) (fun K hK => ?_)
    refine goesK_ (f := 75) Tryz.func75 (by kernel_rfl) rfl #[.bool (decide (0 < t3)), .int .i64 a0_1] #[.bool (decide (0 < t3)), .int .i64 a0_1, .pointer (some ⟨gB, 0, none⟩)] (cs := #[.pointer (some ⟨gB, 0, none⟩)]) rfl (by rfl) rfl rfl rfl (by simp only [List.map_toArray, List.map_cons, List.map_nil]; rfl) ?_
    with_reducible refine (impl_Node_child.calls (decide (0 < t3)) a0_1 a1 ⟨gB, 0, none⟩ _ _ hHeld.2.2.2.2.1 A4.out).mono ?_
    rintro e w3 ⟨rfl, ⟨nd, rfl⟩⟩
    refine ⟨_, rfl, ?_⟩
    refine hK.out _ _ ⟨(blk_cell (blk_drewN hHeld.2.2.2.2.2.1 _) 0).trans rfl, (blk_cell (blk_drewN hHeld.2.2.2.2.2.1 _) 1).trans rfl, (blk_cell (blk_drewN hHeld.2.2.2.2.2.1 _) 2).trans rfl, (blk_cell (blk_drewN hHeld.2.2.2.2.2.1 _) 3).trans rfl, (blk_cell (blk_drewN hHeld.2.2.2.2.2.2.1 _) 0).trans rfl, (blk_drewN hHeld.2.2.2.2.2.1 _), (blk_drewN hHeld.2.2.2.2.2.2.1 _), (pw_below_drewN hHeld.2.2.2.2.2.2.2 _)⟩ (fun hHeld => ?_)
    clear hK K
    refine nm_ 22 ?_
    refine pure_ (i := 7) (N := some 23) (v := ?_) (a' := ?_) (bm 17 255) rfl rfl (by kernel_rfl) (fun _ _ _ h => h) (Or.inl ⟨by rfl, ?_⟩) ?_ ?_
    rotate_left
    ·
     intro w'
     go_simp
     with_reducible rfl
    rotate_left
    ·
     simp only [Act.put, List.setIfInBounds_toArray, List.set_cons_zero, List.set_cons_succ, i64_w, i32_w]
     rfl
    refine pure_ (i := 8) (N := some 24) (v := undef) (a' := ?_) (bm 17 511) rfl rfl (by kernel_rfl) (fun _ _ _ h => h) (Or.inr ⟨by rfl, rfl⟩) ?_ ?_
    rotate_left
    ·
     simp only [Act.put, List.setIfInBounds_toArray, List.set_cons_zero, List.set_cons_succ, i64_w, i32_w]
     rfl
    refine pure_ (i := 9) (N := some 25) (v := undef) (a' := ?_) (bm 17 1023) rfl rfl (by kernel_rfl) (fun _ _ _ h => h) (Or.inr ⟨by rfl, rfl⟩) ?_ ?_
    rotate_left
    ·
     simp only [Act.put, List.setIfInBounds_toArray, List.set_cons_zero, List.set_cons_succ, i64_w, i32_w]
     rfl
    refine pure_ (i := 10) (N := some 26) (v := undef) (a' := ?_) (bm 17 2047) rfl rfl (by kernel_rfl) (fun _ _ _ h => h) (Or.inr ⟨by rfl, rfl⟩) ?_ ?_
    rotate_left
    ·
     simp only [Act.put, List.setIfInBounds_toArray, List.set_cons_zero, List.set_cons_succ, i64_w, i32_w]
     rfl
    refine pure_ (i := 11) (N := some 27) (v := undef) (a' := ?_) (bm 17 4095) rfl rfl (by kernel_rfl) (fun _ _ _ h => h) (Or.inr ⟨by rfl, rfl⟩) ?_ ?_
    rotate_left
    ·
     simp only [Act.put, List.setIfInBounds_toArray, List.set_cons_zero, List.set_cons_succ, i64_w, i32_w]
     rfl
    refine pure_ (i := 12) (N := some 28) (v := undef) (a' := ?_) (bm 17 8191) rfl rfl (by kernel_rfl) (fun _ _ _ h => h) (Or.inr ⟨by rfl, rfl⟩) ?_ ?_
    rotate_left
    ·
     simp only [Act.put, List.setIfInBounds_toArray, List.set_cons_zero, List.set_cons_succ, i64_w, i32_w]
     rfl
    refine pure_ (i := 13) (N := some 29) (v := undef) (a' := ?_) (bm 17 16383) rfl rfl (by kernel_rfl) (fun _ _ _ h => h) (Or.inr ⟨by rfl, rfl⟩) ?_ ?_
    rotate_left
    ·
     simp only [Act.put, List.setIfInBounds_toArray, List.set_cons_zero, List.set_cons_succ, i64_w, i32_w]
     rfl
    refine pure_ (i := 14) (N := some 30) (v := undef) (a' := ?_) (bm 17 32767) rfl rfl (by kernel_rfl) (fun _ _ _ h => h) (Or.inr ⟨by rfl, rfl⟩) ?_ ?_
    rotate_left
    ·
     simp only [Act.put, List.setIfInBounds_toArray, List.set_cons_zero, List.set_cons_succ, i64_w, i32_w]
     rfl
    refine pure_ (i := 15) (N := some 31) (v := ?_) (a' := ?_) (bm 17 65535) rfl rfl (by kernel_rfl) (fun _ _ _ h => h) (Or.inl ⟨by rfl, ?_⟩) ?_ ?_
    rotate_left
    ·
     intro w'
     go_simp
     with_reducible rfl
    rotate_left
    ·
     simp only [Act.put, List.setIfInBounds_toArray, List.set_cons_zero, List.set_cons_succ, i64_w, i32_w]
     rfl
    refine pure_ (i := 16) (N := some 4) (v := ?_) (a' := ?_) (bm 17 131071) rfl rfl (by kernel_rfl) (fun _ _ _ h => h) (Or.inl ⟨by rfl, ?_⟩) ?_ ?_
    rotate_left
    ·
     intro w'
     go_simp
     with_reducible rfl
    rotate_left
    ·
     simp only [Act.put, List.setIfInBounds_toArray, List.set_cons_zero, List.set_cons_succ, i64_w, i32_w]
     rfl
    refine done_ (by kernel_rfl) ?_
    have HB := Aside0.mk hHeld.2.2.2.2.2.2.2
    go_wp2
    go_ret
    exact ⟨by first | rfl | (simp; done) | (simp [*]; done), (blw HB)⟩
   | true =>
    have A5 := Aside0.mk (show impl_Node_child.f (decide (1 < t3)) a0_2 a1 = some r from H)
    clear H
    go_enter Tryz.func62, Tryz.ntmps62
    go_wp2_with (first | ((with_reducible refine gate_dst (N := 2) rfl ?_); refine bx_ (N := 2) (cs := #[.int .i64 a0_0, .int .i64 a0_1, .int .i64 a0_2, .int .i64 a0_3]) (t := 49) ?_; intro gA hg wgA hbox hb; have n0_ := bst HB hb; have BKgA := Aside0.mk hbox; clear HB; have HB := n0_; clear n0_; clear hb hbox hg; have hcgA_0 : wgA.cell? ⟨gA, 0, none⟩ = some (.int .i64 a0_0) := (blk_cell BKgA.out 0).trans rfl; have hcgA_1 : wgA.cell? ⟨gA, 1, none⟩ = some (.int .i64 a0_1) := (blk_cell BKgA.out 1).trans rfl; have hcgA_2 : wgA.cell? ⟨gA, 2, none⟩ = some (.int .i64 a0_2) := (blk_cell BKgA.out 2).trans rfl; have hcgA_3 : wgA.cell? ⟨gA, 3, none⟩ = some (.int .i64 a0_3) := (blk_cell BKgA.out 3).trans rfl) | ((with_reducible refine gate_dst (N := 3) rfl ?_); refine bx_ (N := 3) (cs := #[.int .i64 a1]) (t := 3) ?_; intro gB hg wgB hbox hb; have n0_ := bst HB hb; have BKgB := Aside0.mk hbox; have mgA_ := Aside0.mk (blk_below (crb BKgA) hb); clear BKgA; have BKgA := mgA_; clear mgA_; clear HB; have HB := n0_; clear n0_; clear hb hbox hg; have hcgA_0 : wgB.cell? ⟨gA, 0, none⟩ = some (.int .i64 a0_0) := (blk_cell BKgA.out 0).trans rfl; have hcgA_1 : wgB.cell? ⟨gA, 1, none⟩ = some (.int .i64 a0_1) := (blk_cell BKgA.out 1).trans rfl; have hcgA_2 : wgB.cell? ⟨gA, 2, none⟩ = some (.int .i64 a0_2) := (blk_cell BKgA.out 2).trans rfl; have hcgA_3 : wgB.cell? ⟨gA, 3, none⟩ = some (.int .i64 a0_3) := (blk_cell BKgA.out 3).trans rfl; have hcgB_0 : wgB.cell? ⟨gB, 0, none⟩ = some (.int .i64 a1) := (blk_cell BKgB.out 0).trans rfl) | ((with_reducible refine gate_callee (f := 41) rfl ?_); (try (refine gate_guard (by rfl) ?_; dsimp only)); refine goesL_ (some 8) rfl rfl Tryz.func41 (by kernel_rfl) rfl #[.int .i64 a0_0, .int .i64 1, .int .i64 8] rfl (by (try simp only [List.map_toArray, List.map_cons, List.map_nil]); first | done | rfl) ?_; (with_reducible refine (impl_between.calls a0_0 1 8 _ _ A1.out).mono ?_); rintro e w' ⟨rfl, ⟨nd, rfl⟩⟩; refine ⟨_, rfl, ?_⟩) | ((with_reducible refine gate_callee (f := 74) rfl ?_); (try (refine gate_guard (by rfl) ?_; dsimp only)); refine goesL_ (some 12) rfl rfl Tryz.func74 (by kernel_rfl) rfl #[.agg #[.int .i64 a0_0, .int .i64 a0_1, .int .i64 a0_2, .int .i64 a0_3]] rfl (by (try simp only [List.map_toArray, List.map_cons, List.map_nil]); first | done | rfl) ?_; (with_reducible refine (impl_Node_numberOk.calls a0_0 a0_1 a0_2 a0_3 _ _ A2.out).mono ?_); rintro e w2 ⟨rfl, hb⟩; have n0_ := bst HB hb; have mgA_ := Aside0.mk (blk_below (crb BKgA) hb); have mgB_ := Aside0.mk (blk_below (crb BKgB) hb); clear BKgA; have BKgA := mgA_; clear mgA_; clear BKgB; have BKgB := mgB_; clear mgB_; clear HB; have HB := n0_; clear n0_; clear hb; have hcgA_0 : w2.cell? ⟨gA, 0, none⟩ = some (.int .i64 a0_0) := (blk_cell BKgA.out 0).trans rfl; have hcgA_1 : w2.cell? ⟨gA, 1, none⟩ = some (.int .i64 a0_1) := (blk_cell BKgA.out 1).trans rfl; have hcgA_2 : w2.cell? ⟨gA, 2, none⟩ = some (.int .i64 a0_2) := (blk_cell BKgA.out 2).trans rfl; have hcgA_3 : w2.cell? ⟨gA, 3, none⟩ = some (.int .i64 a0_3) := (blk_cell BKgA.out 3).trans rfl; have hcgB_0 : w2.cell? ⟨gB, 0, none⟩ = some (.int .i64 a1) := (blk_cell BKgB.out 0).trans rfl; refine ⟨_, rfl, ?_⟩))
    refine start_ (n := 17) (S := fun w' => w'.cell? ⟨gA, 0, none⟩ = some (.int .i64 a0_0) ∧ w'.cell? ⟨gA, 1, none⟩ = some (.int .i64 a0_1) ∧ w'.cell? ⟨gA, 2, none⟩ = some (.int .i64 a0_2) ∧ w'.cell? ⟨gA, 3, none⟩ = some (.int .i64 a0_3) ∧ w'.cell? ⟨gB, 0, none⟩ = some (.int .i64 a1) ∧ w'.heap[gA]? = some (.cells #[.int .i64 a0_0, .int .i64 a0_1, .int .i64 a0_2, .int .i64 a0_3] 49 (0, 0)) ∧ w'.heap[gB]? = some (.cells #[.int .i64 a1] 3 (0, 0)) ∧ Below w.heap.size w w') (ds := []) (bm 17 0) (by kernel_rfl) rfl rfl ⟨(blk_cell (blk_drew (crb BKgA)) 0).trans rfl, (blk_cell (blk_drew (crb BKgA)) 1).trans rfl, (blk_cell (blk_drew (crb BKgA)) 2).trans rfl, (blk_cell (blk_drew (crb BKgA)) 3).trans rfl, (blk_cell (blk_drew (crb BKgB)) 0).trans rfl, (blk_drew (crb BKgA)), (blk_drew (crb BKgB)), (below_drew1 (blw HB))⟩ (fun hHeld => ?_)
    refine pure_ (i := 0) (N := some 16) (v := ?_) (a' := ?_) (bm 17 1) rfl rfl (by kernel_rfl) (fun _ _ _ h => h) (Or.inl ⟨by rfl, ?_⟩) ?_ ?_
    rotate_left
    ·
     intro w'
     go_simp
     with_reducible rfl
    rotate_left
    ·
     simp only [Act.put, List.setIfInBounds_toArray, List.set_cons_zero, List.set_cons_succ, i64_w, i32_w]
     rfl
    refine pure_ (i := 4) (N := some 20) (v := ?_) (a' := ?_) (bm 17 17) rfl rfl (by kernel_rfl) (fun _ _ _ h => h) (Or.inl ⟨by rfl, ?_⟩) ?_ ?_
    rotate_left
    ·
     intro w'
     go_simp
     with_reducible rfl
    rotate_left
    ·
     simp only [Act.put, List.setIfInBounds_toArray, List.set_cons_zero, List.set_cons_succ, i64_w, i32_w]
     rfl
    refine take_ (i := 1) (N := some 17) (v := ?_) (a' := ?_) (bm 17 19) rfl rfl (by kernel_rfl) (fun _ _ _ h => h) (Or.inl ⟨by rfl, ?_⟩) hHeld ?_ ?_
    rotate_left
    ·
     rintro w' ⟨s0, s1, s2, s3, s4, s5, s6, s7⟩
     go_simp
     with_reducible rfl
    rotate_left
    ·
     simp only [Act.put, List.setIfInBounds_toArray, List.set_cons_zero, List.set_cons_succ, i64_w, i32_w]
     rfl
    refine take_ (i := 5) (N := some 21) (v := ?_) (a' := ?_) (bm 17 51) rfl rfl (by kernel_rfl) (fun _ _ _ h => h) (Or.inl ⟨by rfl, ?_⟩) hHeld ?_ ?_
    rotate_left
    ·
     rintro w' ⟨s0, s1, s2, s3, s4, s5, s6, s7⟩
     go_simp
     with_reducible rfl
    rotate_left
    ·
     simp only [Act.put, List.setIfInBounds_toArray, List.set_cons_zero, List.set_cons_succ, i64_w, i32_w]
     rfl
    refine one_ (i := 2) (N := some 18) (bm 17 55) rfl rfl (by kernel_rfl) (by decide) (fun K hK => ?_)
    refine goes_ Tryz.func63 (by kernel_rfl) rfl #[.agg #[.int .i64 a0_0, .int .i64 a0_1, .int .i64 a0_2, .int .i64 a0_3]] (by rfl) rfl rfl (by simp only [List.map_toArray, List.map_cons, List.map_nil]; rfl) ?_
    with_reducible refine (impl_Node_kids.calls k a0_0 a0_1 a0_2 a0_3 _ _ A3.out).mono ?_
    rintro e w3 ⟨rfl, hb⟩
    refine ⟨_, rfl, ?_⟩
    refine hK.out _ _ ⟨(blk_cell (blk_below hHeld.2.2.2.2.2.1 hb) 0).trans rfl, (blk_cell (blk_below hHeld.2.2.2.2.2.1 hb) 1).trans rfl, (blk_cell (blk_below hHeld.2.2.2.2.2.1 hb) 2).trans rfl, (blk_cell (blk_below hHeld.2.2.2.2.2.1 hb) 3).trans rfl, (blk_cell (blk_below hHeld.2.2.2.2.2.2.1 hb) 0).trans rfl, (blk_below hHeld.2.2.2.2.2.1 hb), (blk_below hHeld.2.2.2.2.2.2.1 hb), (below_step hHeld.2.2.2.2.2.2.2 hb)⟩ (fun hHeld => ?_)
    clear hK K
    refine nm_ 18 ?_
    refine pure_ (i := 3) (N := some 19) (v := ?_) (a' := ?_) (bm 17 63) rfl rfl (by kernel_rfl) (fun _ _ _ h => h) (Or.inl ⟨by rfl, ?_⟩) ?_ ?_
    rotate_left
    ·
     intro w'
     go_simp
     with_reducible rfl
    rotate_left
    ·
     simp only [Act.put, List.setIfInBounds_toArray, List.set_cons_zero, List.set_cons_succ, i64_w, i32_w]
     rfl
    refine one_ (i := 6) (N := some 22) (bm 17 127) rfl rfl (by kernel_rfl) (by decide) (fun K hK => ?_)
    refine goesK_ (f := 75) Tryz.func75 (by kernel_rfl) rfl #[.bool (decide (0 < t3)), .int .i64 a0_1] #[.bool (decide (0 < t3)), .int .i64 a0_1, .pointer (some ⟨gB, 0, none⟩)] (cs := #[.pointer (some ⟨gB, 0, none⟩)]) rfl (by rfl) rfl rfl rfl (by simp only [List.map_toArray, List.map_cons, List.map_nil]; rfl) ?_
    with_reducible refine (impl_Node_child.calls (decide (0 < t3)) a0_1 a1 ⟨gB, 0, none⟩ _ _ hHeld.2.2.2.2.1 A4.out).mono ?_
    rintro e w3 ⟨rfl, ⟨nd, rfl⟩⟩
    refine ⟨_, rfl, ?_⟩
    refine hK.out _ _ ⟨(blk_cell (blk_drewN hHeld.2.2.2.2.2.1 _) 0).trans rfl, (blk_cell (blk_drewN hHeld.2.2.2.2.2.1 _) 1).trans rfl, (blk_cell (blk_drewN hHeld.2.2.2.2.2.1 _) 2).trans rfl, (blk_cell (blk_drewN hHeld.2.2.2.2.2.1 _) 3).trans rfl, (blk_cell (blk_drewN hHeld.2.2.2.2.2.2.1 _) 0).trans rfl, (blk_drewN hHeld.2.2.2.2.2.1 _), (blk_drewN hHeld.2.2.2.2.2.2.1 _), (pw_below_drewN hHeld.2.2.2.2.2.2.2 _)⟩ (fun hHeld => ?_)
    clear hK K
    refine nm_ 22 ?_
    refine pure_ (i := 7) (N := some 23) (v := ?_) (a' := ?_) (bm 17 255) rfl rfl (by kernel_rfl) (fun _ _ _ h => h) (Or.inl ⟨by rfl, ?_⟩) ?_ ?_
    rotate_left
    ·
     intro w'
     go_simp
     with_reducible rfl
    rotate_left
    ·
     simp only [Act.put, List.setIfInBounds_toArray, List.set_cons_zero, List.set_cons_succ, i64_w, i32_w]
     rfl
    refine pure_ (i := 8) (N := some 24) (v := ?_) (a' := ?_) (bm 17 511) rfl rfl (by kernel_rfl) (fun _ _ _ h => h) (Or.inl ⟨by rfl, ?_⟩) ?_ ?_
    rotate_left
    ·
     intro w'
     go_simp
     with_reducible rfl
    rotate_left
    ·
     simp only [Act.put, List.setIfInBounds_toArray, List.set_cons_zero, List.set_cons_succ, i64_w, i32_w]
     rfl
    refine pure_ (i := 12) (N := some 28) (v := ?_) (a' := ?_) (bm 17 4607) rfl rfl (by kernel_rfl) (fun _ _ _ h => h) (Or.inl ⟨by rfl, ?_⟩) ?_ ?_
    rotate_left
    ·
     intro w'
     go_simp
     with_reducible rfl
    rotate_left
    ·
     simp only [Act.put, List.setIfInBounds_toArray, List.set_cons_zero, List.set_cons_succ, i64_w, i32_w]
     rfl
    refine take_ (i := 9) (N := some 25) (v := ?_) (a' := ?_) (bm 17 5119) rfl rfl (by kernel_rfl) (fun _ _ _ h => h) (Or.inl ⟨by rfl, ?_⟩) hHeld ?_ ?_
    rotate_left
    ·
     rintro w' ⟨s0, s1, s2, s3, s4, s5, s6, s7⟩
     go_simp
     with_reducible rfl
    rotate_left
    ·
     simp only [Act.put, List.setIfInBounds_toArray, List.set_cons_zero, List.set_cons_succ, i64_w, i32_w]
     rfl
    refine take_ (i := 13) (N := some 29) (v := ?_) (a' := ?_) (bm 17 13311) rfl rfl (by kernel_rfl) (fun _ _ _ h => h) (Or.inl ⟨by rfl, ?_⟩) hHeld ?_ ?_
    rotate_left
    ·
     rintro w' ⟨s0, s1, s2, s3, s4, s5, s6, s7⟩
     go_simp
     with_reducible rfl
    rotate_left
    ·
     simp only [Act.put, List.setIfInBounds_toArray, List.set_cons_zero, List.set_cons_succ, i64_w, i32_w]
     rfl
    refine one_ (i := 10) (N := some 26) (bm 17 14335) rfl rfl (by kernel_rfl) (by decide) (fun K hK => ?_)
    refine goes_ Tryz.func63 (by kernel_rfl) rfl #[.agg #[.int .i64 a0_0, .int .i64 a0_1, .int .i64 a0_2, .int .i64 a0_3]] (by rfl) rfl rfl (by simp only [List.map_toArray, List.map_cons, List.map_nil]; rfl) ?_
    with_reducible refine (impl_Node_kids.calls k a0_0 a0_1 a0_2 a0_3 _ _ A3.out).mono ?_
    rintro e w3 ⟨rfl, hb⟩
    refine ⟨_, rfl, ?_⟩
    refine hK.out _ _ ⟨(blk_cell (blk_below hHeld.2.2.2.2.2.1 hb) 0).trans rfl, (blk_cell (blk_below hHeld.2.2.2.2.2.1 hb) 1).trans rfl, (blk_cell (blk_below hHeld.2.2.2.2.2.1 hb) 2).trans rfl, (blk_cell (blk_below hHeld.2.2.2.2.2.1 hb) 3).trans rfl, (blk_cell (blk_below hHeld.2.2.2.2.2.2.1 hb) 0).trans rfl, (blk_below hHeld.2.2.2.2.2.1 hb), (blk_below hHeld.2.2.2.2.2.2.1 hb), (below_step hHeld.2.2.2.2.2.2.2 hb)⟩ (fun hHeld => ?_)
    clear hK K
    refine nm_ 26 ?_
    refine pure_ (i := 11) (N := some 27) (v := ?_) (a' := ?_) (bm 17 16383) rfl rfl (by kernel_rfl) (fun _ _ _ h => h) (Or.inl ⟨by rfl, ?_⟩) ?_ ?_
    rotate_left
    ·
     intro w'
     go_simp
     with_reducible rfl
    rotate_left
    ·
     simp only [Act.put, List.setIfInBounds_toArray, List.set_cons_zero, List.set_cons_succ, i64_w, i32_w]
     rfl
    refine one_ (i := 14) (N := some 30) (bm 17 32767) rfl rfl (by kernel_rfl) (by decide) (fun K hK => ?_)
    refine goesK_ (f := 75) Tryz.func75 (by kernel_rfl) rfl #[.bool (decide (1 < t3)), .int .i64 a0_2] #[.bool (decide (1 < t3)), .int .i64 a0_2, .pointer (some ⟨gB, 0, none⟩)] (cs := #[.pointer (some ⟨gB, 0, none⟩)]) rfl (by rfl) rfl rfl rfl (by simp only [List.map_toArray, List.map_cons, List.map_nil]; rfl) ?_
    with_reducible refine (impl_Node_child.calls (decide (1 < t3)) a0_2 a1 ⟨gB, 0, none⟩ _ _ hHeld.2.2.2.2.1 A5.out).mono ?_
    rintro e w3 ⟨rfl, ⟨nd, rfl⟩⟩
    refine ⟨_, rfl, ?_⟩
    refine hK.out _ _ ⟨(blk_cell (blk_drewN hHeld.2.2.2.2.2.1 _) 0).trans rfl, (blk_cell (blk_drewN hHeld.2.2.2.2.2.1 _) 1).trans rfl, (blk_cell (blk_drewN hHeld.2.2.2.2.2.1 _) 2).trans rfl, (blk_cell (blk_drewN hHeld.2.2.2.2.2.1 _) 3).trans rfl, (blk_cell (blk_drewN hHeld.2.2.2.2.2.2.1 _) 0).trans rfl, (blk_drewN hHeld.2.2.2.2.2.1 _), (blk_drewN hHeld.2.2.2.2.2.2.1 _), (pw_below_drewN hHeld.2.2.2.2.2.2.2 _)⟩ (fun hHeld => ?_)
    clear hK K
    refine nm_ 30 ?_
    refine pure_ (i := 15) (N := some 31) (v := ?_) (a' := ?_) (bm 17 65535) rfl rfl (by kernel_rfl) (fun _ _ _ h => h) (Or.inl ⟨by rfl, ?_⟩) ?_ ?_
    rotate_left
    ·
     intro w'
     go_simp
     with_reducible rfl
    rotate_left
    ·
     simp only [Act.put, List.setIfInBounds_toArray, List.set_cons_zero, List.set_cons_succ, i64_w, i32_w]
     rfl
    refine pure_ (i := 16) (N := some 4) (v := ?_) (a' := ?_) (bm 17 131071) rfl rfl (by kernel_rfl) (fun _ _ _ h => h) (Or.inl ⟨by rfl, ?_⟩) ?_ ?_
    rotate_left
    ·
     intro w'
     go_simp
     with_reducible rfl
    rotate_left
    ·
     simp only [Act.put, List.setIfInBounds_toArray, List.set_cons_zero, List.set_cons_succ, i64_w, i32_w]
     rfl
    refine done_ (by kernel_rfl) ?_
    have HB := Aside0.mk hHeld.2.2.2.2.2.2.2
    go_wp2
    go_ret
    exact ⟨by first | rfl | (simp; done) | (simp [*]; done), (blw HB)⟩

end Go.Proofs.YtbphhccpkngfoaaGreatDoor.Q
