-- written by a program of this claim's session (myprint.py) out of the translation; Lean checks it.
import Derived.Test.YtacdaijalkkogaaQx0
import Derived.Test.YtacdaijalkkogaaWords
import Derived.Test.YtacdaijalkkogaaQxrk
import Derived.Test.YtacdaijalkkogaaQxsub
import Derived.Test.YtacdaijalkkogaaQxmul
import Derived.Test.YtacdaijalkkogaaQxrmk
namespace Go.Proofs.Ytacdaijalkkogaa.Q
open Go.RowKit Go.Proofs.YtacdaijalkkogaaW.PrintWords Go.Proofs.YtacdaijalkkogaaW.PrintLast Go.Proofs.YtacdaijalkkogaaW.PrintMore
attribute [local go_sem] max2_int min2_int max_two min_two max_three min_three max_four min_four   -- for this text's walks alone
set_option linter.unusedVariables false
set_option linter.unusedSimpArgs false

def impl_unless.f (a0 : Bool) (a1 : Int) : Option (Int) := if a0 = true then (some 0) else (some a1)
set_option maxHeartbeats 8000000 in
set_option maxRecDepth 100000 in
theorem impl_unless.calls (a0 : Bool) (a1 : Int) (r : Int) (w : World) (h : impl_unless.f a0 a1 = some r) :
  Calls Try.prog 81 #[.bool a0, .int .i64 a1] w fun e w' => e = .returned (.int .i64 r) ∧ Drawn0 w w' := by
 have H : (if a0 = true then (some 0) else (some a1)) = some r := h
 clear h
 by_cases c3 : a0 = true
 ·
  subst c3
  have H1 : (some 0) = some r := by rw [if_pos rfl] at H; exact H
  clear H
  have H := H1
  clear H1
  obtain rfl := Option.some.inj H
  go_enter Try.func81, Try.ntmps81
  go_wp2
  go_ret
  exact ⟨by first | rfl | (simp; done) | (simp [*]; done), by repeat (first | exact Drawn0.refl _ | apply Drawn0.step)⟩
 ·
  replace c3 := Bool.eq_false_iff.mpr c3
  subst c3
  have H1 : (some a1) = some r := by rw [if_neg (show ¬ (false = true) by decide)] at H; exact H
  clear H
  have H := H1
  clear H1
  obtain rfl := Option.some.inj H
  go_enter Try.func81, Try.ntmps81
  go_wp2
  go_ret
  exact ⟨by first | rfl | (simp; done) | (simp [*]; done), by repeat (first | exact Drawn0.refl _ | apply Drawn0.step)⟩

theorem goesD_ {P : Program} {ops : Array Oper} {Q : Exit → Act → World → Prop} {rest : List Oper} {oi : Oper} {a : Act} {w : World} (N : Option Tmp) (hd : oi.dst = N) (hg : oi.guard = none) {f : FuncId} {fn : Func} {t : Operand} {ax : Array Operand} {ts : Array TypeId} (hf : P.funcs[f]? = some fn) (hname : (fn.name == "runtime.NumGoroutine") = false) (hb : fn.body.isSome = true) (args : Array Value)
  (hop : oi.op = .call { callee := .value t, args := ax, argTypes := ts }) (hv : a.eval t = .func (.func f) #[] #[]) (hargs : ax.map a.eval = args)
  (h : Calls P f args w fun e w' => ∃ v, e = .returned v ∧ wpList P ops Q rest (a.put N v) w') : wpList P ops Q (oi :: rest) a w := by
 refine wpList_plain hg fun K hK => ?_
 have he := enters_ hf hname hb args w
 have hrun : (execOp a.eval oi).run P w = .ok (.enter f args) w := by
  unfold execOp
  simp [hop, resolve, Deferred.ofValue, invoke, hv, hargs, he]
 unfold Oper.wp
 rw [hrun, Oper.upon_enter]
 refine h.mono fun e w'' hh => ?_
 obtain ⟨v, rfl, hk⟩ := hh
 subst hd
 exact hK _ _ hk
/-- An operation that yields a value (and may make memory). -/
def impl_Rat_119.l0 : Nat → List (S24) → Int → Int → Option (Int)
 | 0, _, _, _ => none
 | k + 1, x0, x7, x8 => if x8 < x7 then (if 0 ≤ x8 then (if x8 < (x0.length : Int) then ((impl_ratsCode_1.f k ((rd_T24 x0 x8).f0) ((rd_T24 x0 x8).f1) ((rd_T24 x0 x8).f2)).bind fun tE0 => (if tE0 = true then (some x8) else (impl_Rat_119.l0 k x0 x7 (wrap64 (x8 + 1))))) else (none)) else (none)) else (some (-1))
def impl_Rat_119.f (k : Nat) (l0 : List (S24)) : Option (Int) := impl_Rat_119.l0 k l0 (l0.length : Int) 0
theorem impl_Rat_119.mono_l : ∀ k, (∀ y0 y1 y2, LeO (impl_Rat_119.l0 k y0 y1 y2) (impl_Rat_119.l0 (k + 1) y0 y1 y2))
 | 0 => fun _ _ _ r h => by simp [impl_Rat_119.l0] at h
 | k + 1 => by
  have ih0 := impl_Rat_119.mono_l k
  ·
   intro y0 y1 y2
   unfold impl_Rat_119.l0
   repeat' first
   | (with_reducible exact ih0 _ _ _)
   | (with_reducible exact impl_ratsCode_1.mono _ _ _ _)
   | (with_reducible exact LeO.refl _)
   | (with_reducible exact LeO.none _)
   | (with_reducible refine LeO.ite ?_ ?_)
   | (with_reducible refine LeO.bind ?_ (fun _ => ?_))
   | exact ih0 _ _ _
   | exact impl_ratsCode_1.mono _ _ _ _
   | exact LeO.none _
   | refine LeO.ite ?_ ?_
   | refine LeO.bind ?_ (fun _ => ?_)
theorem impl_Rat_119.mono : ∀ a0 k, LeO (impl_Rat_119.f k a0) (impl_Rat_119.f (k + 1) a0) := by
 intro a0 k
 have ih0 := impl_Rat_119.mono_l k
 unfold impl_Rat_119.f
 repeat' first
   | (with_reducible exact ih0 _ _ _)
   | (with_reducible exact impl_ratsCode_1.mono _ _ _ _)
   | (with_reducible exact LeO.refl _)
   | (with_reducible exact LeO.none _)
   | (with_reducible refine LeO.ite ?_ ?_)
   | (with_reducible refine LeO.bind ?_ (fun _ => ?_))
   | exact ih0 _ _ _
   | exact impl_ratsCode_1.mono _ _ _ _
   | exact LeO.none _
   | refine LeO.ite ?_ ?_
   | refine LeO.bind ?_ (fun _ => ?_)
set_option maxHeartbeats 8000000 in
set_option maxRecDepth 100000 in
theorem impl_Rat_119.calls (k : Nat) (A0 : Option Addr) (c0 : Nat) (l0 : List (S24)) (r : Int) (w : World) (hr0 : Kd.C k24 w A0 l0.length l0) (hc0 : l0.length ≤ c0) (h : impl_Rat_119.f k l0 = some r) :
  Calls Try.prog 119 #[.slice A0 l0.length c0, .func (.func 101) #[] #[]] w fun e w' => e = .returned (.int .i64 r) ∧ Below w.heap.size w w' := by
 have hu24 := Try.underlying24
 have HR0 := Aside0.mk hr0
 have HC0 := Aside0.mk hc0
 clear hr0 hc0
 have HB := Aside0.mk (Below.refl w.heap.size w)
 have H : (impl_Rat_119.l0 k l0 (l0.length : Int) 0) = some r := h
 clear h
 have H' := Aside0.mk H
 clear H
 go_enter Try.func119, Try.ntmps119
 go_wp2
 go_loopg [8] k (fun kq v8 w' => ∃ (x8_1 : Int), v8 = .int .i64 x8_1 ∧ Aside0 (impl_Rat_119.l0 kq l0 (l0.length : Int) x8_1 = some r) ∧ Aside0 (kq ≤ k) ∧ Aside0 (Below w.heap.size w w'))
 case atStart => exact ⟨(0), rs_, H', ⟨Nat.le_refl _⟩, ⟨blw HB⟩⟩
 case round =>
  clear H'
  try clear c1
  obtain ⟨x8_1, rfl, HA, HK1, HB⟩ := hrel
  cases gk with
  | zero => exact absurd HA.out (by simp [impl_Rat_119.l0])
  | succ k1 =>
   have H := HA.out
   clear HA
   simp only [impl_Rat_119.l0] at H
   by_cases c2 : x8_1 < (l0.length : Int)
   ·
    rw [if_pos c2] at H
    have c2b0 : decide (x8_1 < (l0.length : Int)) = true := decide_eq_true c2
    clear c2
    by_cases c3 : 0 ≤ x8_1
    ·
     rw [if_pos c3] at H
     have c3b0 : decide (0 ≤ x8_1) = true := decide_eq_true c3
     clear c3
     by_cases c4 : x8_1 < (l0.length : Int)
     ·
      rw [if_pos c4] at H
      have c4b0 : decide (x8_1 < (l0.length : Int)) = true := decide_eq_true c4
      clear c4
      replace H := Option.bind_eq_some_iff.mp H
      obtain ⟨tE0, A50, H⟩ := H
      replace H : (if tE0 = true then (some x8_1) else (impl_Rat_119.l0 k1 l0 (l0.length : Int) (wrap64 (x8_1 + 1)))) = some r := H
      have A5 := Aside0.mk A50
      clear A50
      by_cases c6 : tE0 = true
      ·
       subst c6
       have H1 : (some x8_1) = some r := by rw [if_pos rfl] at H; exact H
       clear H
       have H := H1
       clear H1
       obtain rfl := Option.some.inj H
       have pA2 : 0 ≤ (x8_1 : Int) := of_decide_eq_true (by first | (with_reducible assumption) | assumption)
       have qA2 : x8_1 < (l0.length : Int) := of_decide_eq_true (by first | (with_reducible assumption) | assumption)
       obtain ⟨adA2, AA2_1, cA2_1, AA2_2, cA2_2, eA2, hxA2_0, hxA2_1, hxA2_2, hlA2_1, hiA2_1, hlA2_2, hiA2_2⟩ := at_T24 HR0.out x8_1 pA2 qA2
       cases eA2
       replace hxA2_0 := (HB.out.cell (World.block_lt_of_cell? w _ hxA2_0)).trans hxA2_0
       replace hxA2_1 := (HB.out.cell (World.block_lt_of_cell? w _ hxA2_1)).trans hxA2_1
       replace hxA2_2 := (HB.out.cell (World.block_lt_of_cell? w _ hxA2_2)).trans hxA2_2
       have HRA2_1 := Aside0.mk hiA2_1
       have HCA2_1 := Aside0.mk hlA2_1
       clear hiA2_1 hlA2_1
       have HRA2_2 := Aside0.mk hiA2_2
       have HCA2_2 := Aside0.mk hlA2_2
       clear hiA2_2 hlA2_2
       replace pA2 := eq_true pA2
       replace qA2 := eq_true qA2
       go_wp2_with (first | (refine goesD_ (some 16) rfl rfl Try.func101 (by kernel_rfl) rfl #[.agg #[.bool ((rd_T24 l0 x8_1).f0), .slice AA2_1 ((rd_T24 l0 x8_1).f1).length cA2_1, .slice AA2_2 ((rd_T24 l0 x8_1).f2).length cA2_2]] rfl rfl (by (try simp only [List.map_toArray, List.map_cons, List.map_nil]); first | done | rfl | (simp only [List.length_drop, List.length_take]; rfl)) ?_; (with_reducible refine (impl_ratsCode_1.calls k1 ((rd_T24 l0 x8_1).f0) _ _ ((rd_T24 l0 x8_1).f1) _ _ ((rd_T24 l0 x8_1).f2) true _ ?side1 ?side2 ?side3 ?side4 A5.out).mono ?_); (case side1 => exact crC (Kd.C_below HRA2_1.out HB.out)); (case side2 => exact HCA2_1.out); (case side3 => exact crC (Kd.C_below HRA2_2.out HB.out)); (case side4 => exact HCA2_2.out); rintro e w7 ⟨rfl, hb⟩; refine ⟨_, rfl, ?_⟩; replace HB := bst HB hb; (try clear hb); (try clear hb2); (try clear hk); (try clear hi)))
       go_ret
       exact ⟨er_, blw HB⟩
      ·
       replace c6 := Bool.eq_false_iff.mpr c6
       subst c6
       have H1 : (impl_Rat_119.l0 k1 l0 (l0.length : Int) (wrap64 (x8_1 + 1))) = some r := by rw [if_neg (show ¬ (false = true) by decide)] at H; exact H
       clear H
       have H := H1
       clear H1
       have H' := Aside0.mk H
       clear H
       have pA2 : 0 ≤ (x8_1 : Int) := of_decide_eq_true (by first | (with_reducible assumption) | assumption)
       have qA2 : x8_1 < (l0.length : Int) := of_decide_eq_true (by first | (with_reducible assumption) | assumption)
       obtain ⟨adA2, AA2_1, cA2_1, AA2_2, cA2_2, eA2, hxA2_0, hxA2_1, hxA2_2, hlA2_1, hiA2_1, hlA2_2, hiA2_2⟩ := at_T24 HR0.out x8_1 pA2 qA2
       cases eA2
       replace hxA2_0 := (HB.out.cell (World.block_lt_of_cell? w _ hxA2_0)).trans hxA2_0
       replace hxA2_1 := (HB.out.cell (World.block_lt_of_cell? w _ hxA2_1)).trans hxA2_1
       replace hxA2_2 := (HB.out.cell (World.block_lt_of_cell? w _ hxA2_2)).trans hxA2_2
       have HRA2_1 := Aside0.mk hiA2_1
       have HCA2_1 := Aside0.mk hlA2_1
       clear hiA2_1 hlA2_1
       have HRA2_2 := Aside0.mk hiA2_2
       have HCA2_2 := Aside0.mk hlA2_2
       clear hiA2_2 hlA2_2
       replace pA2 := eq_true pA2
       replace qA2 := eq_true qA2
       go_wp2_with (first | (refine goesD_ (some 16) rfl rfl Try.func101 (by kernel_rfl) rfl #[.agg #[.bool ((rd_T24 l0 x8_1).f0), .slice AA2_1 ((rd_T24 l0 x8_1).f1).length cA2_1, .slice AA2_2 ((rd_T24 l0 x8_1).f2).length cA2_2]] rfl rfl (by (try simp only [List.map_toArray, List.map_cons, List.map_nil]); first | done | rfl | (simp only [List.length_drop, List.length_take]; rfl)) ?_; (with_reducible refine (impl_ratsCode_1.calls k1 ((rd_T24 l0 x8_1).f0) _ _ ((rd_T24 l0 x8_1).f1) _ _ ((rd_T24 l0 x8_1).f2) false _ ?side1 ?side2 ?side3 ?side4 A5.out).mono ?_); (case side1 => exact crC (Kd.C_below HRA2_1.out HB.out)); (case side2 => exact HCA2_1.out); (case side3 => exact crC (Kd.C_below HRA2_2.out HB.out)); (case side4 => exact HCA2_2.out); rintro e w8 ⟨rfl, hb⟩; refine ⟨_, rfl, ?_⟩; replace HB := bst HB hb; (try clear hb); (try clear hb2); (try clear hk); (try clear hi)))
       go_roundg k1
       case measure => have := HK1.out; omega
       case rel => exact ⟨(wrap64 (x8_1 + 1)), rs_, H', ⟨by have := HK1.out; omega⟩, ⟨blw HB⟩⟩
     ·
      rw [if_neg c4] at H
      exact absurd H (by simp)
    ·
     rw [if_neg c3] at H
     exact absurd H (by simp)
   ·
    rw [if_neg c2] at H
    have c2b0 : decide (x8_1 < (l0.length : Int)) = false := decide_eq_false c2
    clear c2
    obtain rfl := Option.some.inj H
    go_wp2
    go_ret
    exact ⟨er_, blw HB⟩
def impl_Rat_100.f (k : Nat) (l0 : List (S24)) : Option (Bool) := (impl_Rat_119.f k l0).bind fun tD4 => (some (decide (tD4 ≥ 0)))
theorem impl_Rat_100.mono : ∀ a0 k, LeO (impl_Rat_100.f k a0) (impl_Rat_100.f (k + 1) a0) := by
 intro a0 k
 unfold impl_Rat_100.f
 repeat' first
   | (with_reducible exact impl_Rat_119.mono _ _)
   | (with_reducible exact LeO.refl _)
   | (with_reducible exact LeO.none _)
   | (with_reducible refine LeO.ite ?_ ?_)
   | (with_reducible refine LeO.bind ?_ (fun _ => ?_))
   | exact impl_Rat_119.mono _ _
   | exact LeO.none _
   | refine LeO.ite ?_ ?_
   | refine LeO.bind ?_ (fun _ => ?_)
set_option maxHeartbeats 8000000 in
set_option maxRecDepth 100000 in
theorem impl_Rat_100.calls (k : Nat) (A0 : Option Addr) (c0 : Nat) (l0 : List (S24)) (r : Bool) (w : World) (hr0 : Kd.C k24 w A0 l0.length l0) (hc0 : l0.length ≤ c0) (h : impl_Rat_100.f k l0 = some r) :
  Calls Try.prog 100 #[.slice A0 l0.length c0, .func (.func 101) #[] #[]] w fun e w' => e = .returned (.bool r) ∧ Below w.heap.size w w' := by
 have HR0 := Aside0.mk hr0
 have HC0 := Aside0.mk hc0
 clear hr0 hc0
 have HB := Aside0.mk (Below.refl w.heap.size w)
 have H : ((impl_Rat_119.f k l0).bind fun tD4 => (some (decide (tD4 ≥ 0)))) = some r := h
 clear h
 replace H := Option.bind_eq_some_iff.mp H
 obtain ⟨tD4, A20, H⟩ := H
 replace H : (some (decide (tD4 ≥ 0))) = some r := H
 have A2 := Aside0.mk A20
 clear A20
 obtain rfl := Option.some.inj H
 go_enter Try.func100, Try.ntmps100
 go_wp2_with (first | ((with_reducible refine gate_callee (f := 119) rfl ?_); refine gL_ (some 7) Try.func119 #[.slice A0 l0.length c0, .func (.func 101) #[] #[]] ?_; (with_reducible refine (impl_Rat_119.calls k _ _ l0 tD4 _ ?side1 ?side2 A2.out).mono ?_); (case side1 => repeat (first | exact HR0.out | (with_reducible refine Kd.C_alloc ?_ _) | (with_reducible refine Kd.C_drewN ?_ _) | (with_reducible refine Kd.C_drew ?_))); (case side2 => exact HC0.out); rintro e w3 ⟨rfl, hb⟩; refine ⟨_, rfl, ?_⟩; replace HB := bst HB hb; (try clear hb); (try clear hb2); (try clear hk); (try clear hi)))
 go_ret
 exact ⟨er_, blw HB⟩
def impl_ratsCode.f (k : Nat) (l0 : List (S24)) : Option (Int) := (impl_Rat_100.f k l0).bind fun tC9 => ((impl_unless.f (!tC9) 1).bind fun tD0 => (some tD0))
theorem impl_ratsCode.mono : ∀ a0 k, LeO (impl_ratsCode.f k a0) (impl_ratsCode.f (k + 1) a0) := by
 intro a0 k
 unfold impl_ratsCode.f
 repeat' first
   | (with_reducible exact impl_Rat_100.mono _ _)
   | (with_reducible exact LeO.refl _)
   | (with_reducible exact LeO.none _)
   | (with_reducible refine LeO.ite ?_ ?_)
   | (with_reducible refine LeO.bind ?_ (fun _ => ?_))
   | exact impl_Rat_100.mono _ _
   | exact LeO.none _
   | refine LeO.ite ?_ ?_
   | refine LeO.bind ?_ (fun _ => ?_)
set_option maxHeartbeats 8000000 in
set_option maxRecDepth 100000 in
theorem impl_ratsCode.calls (k : Nat) (A0 : Option Addr) (c0 : Nat) (l0 : List (S24)) (r : Int) (w : World) (hr0 : Kd.C k24 w A0 l0.length l0) (hc0 : l0.length ≤ c0) (h : impl_ratsCode.f k l0 = some r) :
  Calls Try.prog 65 #[.slice A0 l0.length c0] w fun e w' => e = .returned (.int .i64 r) ∧ Below w.heap.size w w' := by
 have HR0 := Aside0.mk hr0
 have HC0 := Aside0.mk hc0
 clear hr0 hc0
 have HB := Aside0.mk (Below.refl w.heap.size w)
 have H : ((impl_Rat_100.f k l0).bind fun tC9 => ((impl_unless.f (!tC9) 1).bind fun tD0 => (some tD0))) = some r := h
 clear h
 replace H := Option.bind_eq_some_iff.mp H
 obtain ⟨tC9, A20, H⟩ := H
 replace H : ((impl_unless.f (!tC9) 1).bind fun tD0 => (some tD0)) = some r := H
 have A2 := Aside0.mk A20
 clear A20
 replace H := Option.bind_eq_some_iff.mp H
 obtain ⟨tD0, A30, H⟩ := H
 replace H : (some tD0) = some r := H
 have A3 := Aside0.mk A30
 clear A30
 obtain rfl := Option.some.inj H
 go_enter Try.func65, Try.ntmps65
 go_wp2_with (first | ((with_reducible refine gate_callee (f := 100) rfl ?_); refine gL_ (some 4) Try.func100 #[.slice A0 l0.length c0, .func (.func 101) #[] #[]] ?_; (with_reducible refine (impl_Rat_100.calls k _ _ l0 tC9 _ ?side1 ?side2 A2.out).mono ?_); (case side1 => repeat (first | exact HR0.out | (with_reducible refine Kd.C_alloc ?_ _) | (with_reducible refine Kd.C_drewN ?_ _) | (with_reducible refine Kd.C_drew ?_))); (case side2 => exact HC0.out); rintro e w4 ⟨rfl, hb⟩; refine ⟨_, rfl, ?_⟩; replace HB := bst HB hb; (try clear hb); (try clear hb2); (try clear hk); (try clear hi)) | ((with_reducible refine gate_callee (f := 81) rfl ?_); refine gL_ (some 6) Try.func81 #[.bool (!tC9), .int .i64 1] ?_; (with_reducible refine (impl_unless.calls (!tC9) 1 tD0 _ A3.out).mono ?_); rintro e w' ⟨rfl, ⟨nd, rfl⟩⟩; refine ⟨_, rfl, ?_⟩))
 go_ret
 exact ⟨er_, blw HB⟩

def impl_Rat_neg.f (a0_0 : Bool) (l0_1 : List Int) (l0_2 : List Int) : Option (Bool × List Int × List Int) := if a0_0 = true then ((slices_Clone_int_int.f l0_1).bind fun tC2 => ((slices_Clone_int_int.f l0_2).bind fun tC0 => (some (false, tC2, tC0)))) else ((impl_Rat_isZero.f a0_0 l0_1 l0_2).bind fun tC1 => ((slices_Clone_int_int.f l0_1).bind fun tB9 => ((slices_Clone_int_int.f l0_2).bind fun tB8 => (some (!tC1, tB9, tB8)))))
def impl_Rat_neg.T1 : Bool × List (List Nat × List Nat) := (true, [([], []), ([0], [0]), ([1], [1]), ([2], [2]), ([3], [3]), ([4, 3, 3], [3, 4]), ([5, 3], [3, 5]), ([3, 6], [3, 6]), ([], []), ([8], [8]), ([9, 5], [9]), ([], []), ([11], [11]), ([12, 10], [12]), ([7, 10, 13], [7, 10, 13]), ([14, 13, 0, 1, 2, 3, 4, 5, 6, 7, 8, 9, 10, 11, 12, 13, 14], [14])])
def impl_Rat_neg.B1 : List Nat := [0, 1, 3, 7, 15, 31, 63, 127, 0, 256, 831, 0, 2048, 7999, 16383, 32767]
theorem impl_Rat_neg.tab1 : rtab .any (opsOf Try.f66 1) = impl_Rat_neg.T1 := by kernel_rfl
theorem impl_Rat_neg.bits1 : waitsOk impl_Rat_neg.T1.2 impl_Rat_neg.B1 = true := by kernel_rfl
set_option maxHeartbeats 8000000 in
set_option maxRecDepth 100000 in
theorem impl_Rat_neg.calls (a0_0 : Bool) (A0_1 : Option Addr) (c0_1 : Nat) (l0_1 : List Int) (A0_2 : Option Addr) (c0_2 : Nat) (l0_2 : List Int) (r1 : Bool) (r2 : List Int) (r3 : List Int) (w : World) (hr0_1 : Kd.C (Kd.int .i64) w A0_1 l0_1.length l0_1) (hc0_1 : l0_1.length ≤ c0_1) (hr0_2 : Kd.C (Kd.int .i64) w A0_2 l0_2.length l0_2) (hc0_2 : l0_2.length ≤ c0_2) (h : impl_Rat_neg.f a0_0 l0_1 l0_2 = some (r1, r2, r3)) :
  Calls Try.prog 66 #[.agg #[.bool a0_0, .slice A0_1 l0_1.length c0_1, .slice A0_2 l0_2.length c0_2]] w fun e w' => ∃ v1_ v2_ : Value, e = .returned (.agg #[.bool r1, v1_, v2_]) ∧ Kd.R (Kd.int .i64) 3 w' w.heap.size (fun k_ => nO k_ v2_) v1_ r2 ∧ Kd.R (Kd.int .i64) 3 w' w.heap.size (fun k_ => nO k_ v1_) v2_ r3 ∧ Below w.heap.size w w' := by
 have hu24 := Try.underlying24
 have HR0_1 := Aside0.mk hr0_1
 have HC0_1 := Aside0.mk hc0_1
 clear hr0_1 hc0_1
 have HR0_2 := Aside0.mk hr0_2
 have HC0_2 := Aside0.mk hc0_2
 clear hr0_2 hc0_2
 have HB := Aside0.mk (Below.refl w.heap.size w)
 have H : (if a0_0 = true then ((slices_Clone_int_int.f l0_1).bind fun tC2 => ((slices_Clone_int_int.f l0_2).bind fun tC0 => (some (false, tC2, tC0)))) else ((impl_Rat_isZero.f a0_0 l0_1 l0_2).bind fun tC1 => ((slices_Clone_int_int.f l0_1).bind fun tB9 => ((slices_Clone_int_int.f l0_2).bind fun tB8 => (some (!tC1, tB9, tB8)))))) = some (r1, r2, r3) := h
 clear h
 by_cases c2 : a0_0 = true
 ·
  subst c2
  have H1 : ((slices_Clone_int_int.f l0_1).bind fun tC2 => ((slices_Clone_int_int.f l0_2).bind fun tC0 => (some (false, tC2, tC0)))) = some (r1, r2, r3) := by rw [if_pos rfl] at H; exact H
  clear H
  have H := H1
  clear H1
  replace H := Option.bind_eq_some_iff.mp H
  obtain ⟨tC2, A30, H⟩ := H
  replace H : ((slices_Clone_int_int.f l0_2).bind fun tC0 => (some (false, tC2, tC0))) = some (r1, r2, r3) := H
  have A3 := Aside0.mk A30
  clear A30
  replace H := Option.bind_eq_some_iff.mp H
  obtain ⟨tC0, A40, H⟩ := H
  replace H : (some (false, tC2, tC0)) = some (r1, r2, r3) := H
  have A4 := Aside0.mk A40
  clear A40
  simp only [Option.some.injEq, Prod.mk.injEq] at H
  obtain ⟨rfl, rfl, rfl⟩ := H
  go_enter Try.func66, Try.ntmps66
  try go_wp2_with (first | ((with_reducible refine gate_dst (N := 1) rfl ?_); refine bx_ (N := 1) (cs := #[.bool true, .slice A0_1 l0_1.length c0_1, .slice A0_2 l0_2.length c0_2]) (t := 24) ?_; intro gbA5 hg w5 hbox hb; have BKA5 := Aside0.mk (hbox); have GWA5 := geh hg HB; have GEA5 := geh hg HB; replace HB := bst HB hb; clear hb hbox hg) | ((with_reducible refine gate_dst (N := 2) rfl ?_); refine bx_ (N := 2) (cs := #[.bool false, .slice none 0 0, .slice none 0 0]) (t := 24) ?_; intro gbA3 hg w6 hbox hb; have BKA3 := Aside0.mk (hbox); have GWA3 := geh hg HB; have GEA3 := geh hg HB; replace HB := bst HB hb; have NBA5_A3 := nlt hg BKA5; have NBA3_A5 := ngt hg BKA5; replace BKA5 := bkb BKA5 hb; clear hb hbox hg))
  replace BKA5 := Aside0.mk (blk_drew BKA5.out)
  replace BKA3 := Aside0.mk (blk_drew BKA3.out)
  replace HB := Aside0.mk (below_drew1 HB.out)
  refine start_ (n := 16) (S := fun w' => w'.cell? ⟨gbA5, 0, none⟩ = some (.bool true) ∧ w'.cell? ⟨gbA5, 1, none⟩ = some (.slice A0_1 l0_1.length c0_1) ∧ w'.cell? ⟨gbA5, 2, none⟩ = some (.slice A0_2 l0_2.length c0_2)) (ds := []) (bm 16 0) (by kernel_rfl) rfl rfl ⟨bce BKA5 0 _, bce BKA5 1 _, bce BKA5 2 _⟩ (fun hHeld => ?_); refine with_tabW impl_Rat_neg.tab1 impl_Rat_neg.bits1 (fun HT_ HW_ => ?_)
  generalize w6.drew = w7 at BKA5 BKA3 HB hHeld ⊢
  refine pu_ 0 (some 3) (bm 16 1) HT_.out ?_
  refine pu_ 8 (some 11) (bm 16 257) HT_.out ?_
  refine pu_ 11 (some 14) (bm 16 2305) HT_.out ?_
  refine tk_ 1 (some 4) (bm 16 2307) HT_.out HW_.out hHeld ?_
  refine pu_ 2 (some 5) (bm 16 2311) HT_.out ?_
  refine pu_ 3 (some 6) (bm 16 2319) HT_.out ?_
  refine pure_ (i := 4) (N := some 7) (v := undef) (a' := ?_) (bm 16 2335) rfl rfl (any_of HT_.out (by kernel_rfl)) (fun _ _ _ h => h) (Or.inr ⟨by rfl, rfl⟩) ?_ ?_
  rotate_left
  ·
   simp only [Act.put, List.setIfInBounds_toArray, List.set_cons_zero, List.set_cons_succ, i64_w, i32_w]
   rfl
  refine pure_ (i := 5) (N := some 8) (v := undef) (a' := ?_) (bm 16 2367) rfl rfl (any_of HT_.out (by kernel_rfl)) (fun _ _ _ h => h) (Or.inr ⟨by rfl, rfl⟩) ?_ ?_
  rotate_left
  ·
   simp only [Act.put, List.setIfInBounds_toArray, List.set_cons_zero, List.set_cons_succ, i64_w, i32_w]
   rfl
  refine pure_ (i := 6) (N := some 9) (v := undef) (a' := ?_) (bm 16 2431) rfl rfl (any_of HT_.out (by kernel_rfl)) (fun _ _ _ h => h) (Or.inr ⟨by rfl, rfl⟩) ?_ ?_
  rotate_left
  ·
   simp only [Act.put, List.setIfInBounds_toArray, List.set_cons_zero, List.set_cons_succ, i64_w, i32_w]
   rfl
  refine pu_ 7 (some 10) (bm 16 2559) HT_.out ?_
  refine tk_ 9 (some 12) (bm 16 3071) HT_.out HW_.out hHeld ?_
  refine tk_ 12 (some 15) (bm 16 7167) HT_.out HW_.out hHeld ?_
  refine one_ (i := 10) (N := some 13) (bm 16 8191) rfl rfl (one_of HT_.out (by kernel_rfl)) (by decide) (fun K hK => ?_)
  refine g_ Try.func102 #[.slice A0_1 l0_1.length c0_1] ?_
  with_reducible refine (slices_Clone_int_int.calls _ _ l0_1 tC2 _ ?side1 ?side2 A3.out).mono ?_
  (case side1 => exact crC (Kd.C_below HR0_1.out HB.out))
  (case side2 => exact HC0_1.out)
  rintro e w8 ⟨vF4, rfl, ho0, hb⟩
  refine ⟨_, rfl, ?_⟩
  have HOD6 := lwR ho0 HB
  replace BKA5 := bkb BKA5 hb
  replace BKA3 := bkb BKA3 hb
  replace HB := bst HB hb
  (try clear hb)
  (try clear hb2)
  (try clear hk)
  (try clear hi)
  (try clear ho0)
  refine hK.out _ _ ⟨bce BKA5 0 _, bce BKA5 1 _, bce BKA5 2 _⟩ (fun hHeld => ?_)
  clear hK K
  refine nm_ 13 ?_
  refine one_ (i := 13) (N := some 16) (bm 16 16383) rfl rfl (one_of HT_.out (by kernel_rfl)) (by decide) (fun K hK => ?_)
  refine g_ Try.func102 #[.slice A0_2 l0_2.length c0_2] ?_
  with_reducible refine (slices_Clone_int_int.calls _ _ l0_2 tC0 _ ?side1 ?side2 A4.out).mono ?_
  (case side1 => exact crC (Kd.C_below HR0_2.out HB.out))
  (case side2 => exact HC0_2.out)
  rintro e w9 ⟨vF5, rfl, ho0, hb⟩
  refine ⟨_, rfl, ?_⟩
  have HOE3 := lwR (nwR ho0 HOD6) HB
  replace HOD6 := eldR HOD6 (Kd.R_base ho0) hb
  replace BKA5 := bkb BKA5 hb
  replace BKA3 := bkb BKA3 hb
  replace HB := bst HB hb
  (try clear hb)
  (try clear hb2)
  (try clear hk)
  (try clear hi)
  (try clear ho0)
  obtain ⟨Ao10, co10, eo10⟩ := Kd.R_slice HOE3.out
  (first | subst eo10 | (injection eo10 with f1_ f2_ f3_; have f4_ := f1_.symm; have f5_ := f3_.symm; clear f1_ f2_ f3_; subst f4_; subst f5_))
  obtain ⟨Ao11, co11, eo11⟩ := Kd.R_slice HOD6.out
  (first | subst eo11 | (injection eo11 with f1_ f2_ f3_; have f4_ := f1_.symm; have f5_ := f3_.symm; clear f1_ f2_ f3_; subst f4_; subst f5_))
  refine hK.out _ _ ⟨bce BKA5 0 _, bce BKA5 1 _, bce BKA5 2 _⟩ (fun hHeld => ?_)
  clear hK K
  refine nm_ 16 ?_
  refine pu_ 14 (some 17) (bm 16 32767) HT_.out ?_
  refine one_ (i := 15) (N := none) (bm 16 65535) rfl rfl (one_of HT_.out (by kernel_rfl)) (by decide) (fun K hK => ?_)
  have hs12 : w9.cell? ⟨gbA3, 0, none⟩ = some (.bool false) := bce BKA3 0 _
  have hfs12 := blk_frozen BKA3.out 0
  have hns12_0 := NBA5_A3.out
  have hms12_0 := NBA3_A5.out
  have hs13 : w9.cell? ⟨gbA3, 1, none⟩ = some (.slice none 0 0) := bce BKA3 1 _
  have hfs13 := blk_frozen BKA3.out 1
  have hns13_0 := NBA5_A3.out
  have hms13_0 := NBA3_A5.out
  have hs14 : w9.cell? ⟨gbA3, 2, none⟩ = some (.slice none 0 0) := bce BKA3 2 _
  have hfs14 := blk_frozen BKA3.out 2
  have hns14_0 := NBA5_A3.out
  have hms14_0 := NBA3_A5.out
  refine skip_ (w1 := ?_) (by rfl) rfl ?_ ?_
  rotate_left
  ·
   go_simp
   rfl
  refine hK.out _ _ ⟨((cell_far (p := ⟨gbA3, _, none⟩) NBA5_A3.out _).trans (((cell_far (p := ⟨gbA3, _, none⟩) NBA5_A3.out _).trans (((cell_far (p := ⟨gbA3, _, none⟩) NBA5_A3.out _).trans (hHeld.1)))))), ((cell_far (p := ⟨gbA3, _, none⟩) NBA5_A3.out _).trans (((cell_far (p := ⟨gbA3, _, none⟩) NBA5_A3.out _).trans (((cell_far (p := ⟨gbA3, _, none⟩) NBA5_A3.out _).trans (hHeld.2.1)))))), ((cell_far (p := ⟨gbA3, _, none⟩) NBA5_A3.out _).trans (((cell_far (p := ⟨gbA3, _, none⟩) NBA5_A3.out _).trans (((cell_far (p := ⟨gbA3, _, none⟩) NBA5_A3.out _).trans (hHeld.2.2))))))⟩ (fun hHeld => ?_)
  clear hK K
  refine done_ (done_of HT_.out (by kernel_rfl)) ?_
  try go_wp2
  refine bodyPost_ret (results_cell_row rfl _ _ gbA3 24 #[.bool false, .slice Ao11 tC2.length co11, .slice Ao10 tC0.length co10] (0, 0) _ rfl (bp3 BKA3 _ _ _) Try.underlying24 rfl (by kernel_rfl)) rfl ?_
  exact ⟨_, _, er_, (crN HOD6 BKA3 fun _ hk => hk.1.2), (crN HOE3 BKA3 fun _ hk => hk.1.2), blw HB⟩
 ·
  replace c2 := Bool.eq_false_iff.mpr c2
  subst c2
  have H1 : ((impl_Rat_isZero.f false l0_1 l0_2).bind fun tC1 => ((slices_Clone_int_int.f l0_1).bind fun tB9 => ((slices_Clone_int_int.f l0_2).bind fun tB8 => (some (!tC1, tB9, tB8))))) = some (r1, r2, r3) := by rw [if_neg (show ¬ (false = true) by decide)] at H; exact H
  clear H
  have H := H1
  clear H1
  replace H := Option.bind_eq_some_iff.mp H
  obtain ⟨tC1, AE4, H⟩ := H
  replace H : ((slices_Clone_int_int.f l0_1).bind fun tB9 => ((slices_Clone_int_int.f l0_2).bind fun tB8 => (some (!tC1, tB9, tB8)))) = some (r1, r2, r3) := H
  have A15 := Aside0.mk AE4
  clear AE4
  replace H := Option.bind_eq_some_iff.mp H
  obtain ⟨tB9, AE5, H⟩ := H
  replace H : ((slices_Clone_int_int.f l0_2).bind fun tB8 => (some (!tC1, tB9, tB8))) = some (r1, r2, r3) := H
  have A16 := Aside0.mk AE5
  clear AE5
  replace H := Option.bind_eq_some_iff.mp H
  obtain ⟨tB8, AE6, H⟩ := H
  replace H : (some (!tC1, tB9, tB8)) = some (r1, r2, r3) := H
  have A17 := Aside0.mk AE6
  clear AE6
  simp only [Option.some.injEq, Prod.mk.injEq] at H
  obtain ⟨rfl, rfl, rfl⟩ := H
  go_enter Try.func66, Try.ntmps66
  try go_wp2_with (first | ((with_reducible refine gate_dst (N := 1) rfl ?_); refine bx_ (N := 1) (cs := #[.bool false, .slice A0_1 l0_1.length c0_1, .slice A0_2 l0_2.length c0_2]) (t := 24) ?_; intro gbA5 hg w18 hbox hb; have BKA5 := Aside0.mk (hbox); have GWA5 := geh hg HB; have GEA5 := geh hg HB; replace HB := bst HB hb; clear hb hbox hg) | ((with_reducible refine gate_dst (N := 2) rfl ?_); refine bx_ (N := 2) (cs := #[.bool false, .slice none 0 0, .slice none 0 0]) (t := 24) ?_; intro gbA3 hg w19 hbox hb; have BKA3 := Aside0.mk (hbox); have GWA3 := geh hg HB; have GEA3 := geh hg HB; replace HB := bst HB hb; have NBA5_A3 := nlt hg BKA5; have NBA3_A5 := ngt hg BKA5; replace BKA5 := bkb BKA5 hb; clear hb hbox hg))
  replace BKA5 := Aside0.mk (blk_drew BKA5.out)
  replace BKA3 := Aside0.mk (blk_drew BKA3.out)
  replace HB := Aside0.mk (below_drew1 HB.out)
  refine start_ (n := 16) (S := fun w' => w'.cell? ⟨gbA5, 0, none⟩ = some (.bool false) ∧ w'.cell? ⟨gbA5, 1, none⟩ = some (.slice A0_1 l0_1.length c0_1) ∧ w'.cell? ⟨gbA5, 2, none⟩ = some (.slice A0_2 l0_2.length c0_2)) (ds := []) (bm 16 0) (by kernel_rfl) rfl rfl ⟨bce BKA5 0 _, bce BKA5 1 _, bce BKA5 2 _⟩ (fun hHeld => ?_); refine with_tabW impl_Rat_neg.tab1 impl_Rat_neg.bits1 (fun HT_ HW_ => ?_)
  generalize w19.drew = w20 at BKA5 BKA3 HB hHeld ⊢
  refine pu_ 0 (some 3) (bm 16 1) HT_.out ?_
  refine pu_ 8 (some 11) (bm 16 257) HT_.out ?_
  refine pu_ 11 (some 14) (bm 16 2305) HT_.out ?_
  refine tk_ 1 (some 4) (bm 16 2307) HT_.out HW_.out hHeld ?_
  refine pu_ 2 (some 5) (bm 16 2311) HT_.out ?_
  refine pu_ 3 (some 6) (bm 16 2319) HT_.out ?_
  refine tk_ 4 (some 7) (bm 16 2335) HT_.out HW_.out hHeld ?_
  refine tk_ 9 (some 12) (bm 16 2847) HT_.out HW_.out hHeld ?_
  refine tk_ 12 (some 15) (bm 16 6943) HT_.out HW_.out hHeld ?_
  refine one_ (i := 5) (N := some 8) (bm 16 6975) rfl rfl (one_of HT_.out (by kernel_rfl)) (by decide) (fun K hK => ?_)
  refine g_ Try.func59 #[.agg #[.bool false, .slice A0_1 l0_1.length c0_1, .slice A0_2 l0_2.length c0_2]] ?_
  with_reducible refine (impl_Rat_isZero.calls false _ _ l0_1 _ _ l0_2 tC1 _ ?side1 ?side2 ?side3 ?side4 A15.out).mono ?_
  (case side1 => exact crC (Kd.C_below HR0_1.out HB.out))
  (case side2 => exact HC0_1.out)
  (case side3 => exact crC (Kd.C_below HR0_2.out HB.out))
  (case side4 => exact HC0_2.out)
  rintro e w21 ⟨rfl, hb⟩
  refine ⟨_, rfl, ?_⟩
  replace BKA5 := bkb BKA5 hb
  replace BKA3 := bkb BKA3 hb
  replace HB := bst HB hb
  (try clear hb)
  (try clear hb2)
  (try clear hk)
  (try clear hi)
  refine hK.out _ _ ⟨bce BKA5 0 _, bce BKA5 1 _, bce BKA5 2 _⟩ (fun hHeld => ?_)
  clear hK K
  refine nm_ 8 ?_
  refine pu_ 6 (some 9) (bm 16 7039) HT_.out ?_
  refine pu_ 7 (some 10) (bm 16 7167) HT_.out ?_
  refine one_ (i := 10) (N := some 13) (bm 16 8191) rfl rfl (one_of HT_.out (by kernel_rfl)) (by decide) (fun K hK => ?_)
  refine g_ Try.func102 #[.slice A0_1 l0_1.length c0_1] ?_
  with_reducible refine (slices_Clone_int_int.calls _ _ l0_1 tB9 _ ?side1 ?side2 A16.out).mono ?_
  (case side1 => exact crC (Kd.C_below HR0_1.out HB.out))
  (case side2 => exact HC0_1.out)
  rintro e w22 ⟨vF6, rfl, ho0, hb⟩
  refine ⟨_, rfl, ?_⟩
  have HOD7 := lwR ho0 HB
  replace BKA5 := bkb BKA5 hb
  replace BKA3 := bkb BKA3 hb
  replace HB := bst HB hb
  (try clear hb)
  (try clear hb2)
  (try clear hk)
  (try clear hi)
  (try clear ho0)
  refine hK.out _ _ ⟨bce BKA5 0 _, bce BKA5 1 _, bce BKA5 2 _⟩ (fun hHeld => ?_)
  clear hK K
  refine nm_ 13 ?_
  refine one_ (i := 13) (N := some 16) (bm 16 16383) rfl rfl (one_of HT_.out (by kernel_rfl)) (by decide) (fun K hK => ?_)
  refine g_ Try.func102 #[.slice A0_2 l0_2.length c0_2] ?_
  with_reducible refine (slices_Clone_int_int.calls _ _ l0_2 tB8 _ ?side1 ?side2 A17.out).mono ?_
  (case side1 => exact crC (Kd.C_below HR0_2.out HB.out))
  (case side2 => exact HC0_2.out)
  rintro e w23 ⟨vF7, rfl, ho0, hb⟩
  refine ⟨_, rfl, ?_⟩
  have HOE7 := lwR (nwR ho0 HOD7) HB
  replace HOD7 := eldR HOD7 (Kd.R_base ho0) hb
  replace BKA5 := bkb BKA5 hb
  replace BKA3 := bkb BKA3 hb
  replace HB := bst HB hb
  (try clear hb)
  (try clear hb2)
  (try clear hk)
  (try clear hi)
  (try clear ho0)
  obtain ⟨Ao24, co24, eo24⟩ := Kd.R_slice HOE7.out
  (first | subst eo24 | (injection eo24 with f1_ f2_ f3_; have f4_ := f1_.symm; have f5_ := f3_.symm; clear f1_ f2_ f3_; subst f4_; subst f5_))
  obtain ⟨Ao25, co25, eo25⟩ := Kd.R_slice HOD7.out
  (first | subst eo25 | (injection eo25 with f1_ f2_ f3_; have f4_ := f1_.symm; have f5_ := f3_.symm; clear f1_ f2_ f3_; subst f4_; subst f5_))
  refine hK.out _ _ ⟨bce BKA5 0 _, bce BKA5 1 _, bce BKA5 2 _⟩ (fun hHeld => ?_)
  clear hK K
  refine nm_ 16 ?_
  refine pu_ 14 (some 17) (bm 16 32767) HT_.out ?_
  refine one_ (i := 15) (N := none) (bm 16 65535) rfl rfl (one_of HT_.out (by kernel_rfl)) (by decide) (fun K hK => ?_)
  have hs26 : w23.cell? ⟨gbA3, 0, none⟩ = some (.bool false) := bce BKA3 0 _
  have hfs26 := blk_frozen BKA3.out 0
  have hns26_0 := NBA5_A3.out
  have hms26_0 := NBA3_A5.out
  have hs27 : w23.cell? ⟨gbA3, 1, none⟩ = some (.slice none 0 0) := bce BKA3 1 _
  have hfs27 := blk_frozen BKA3.out 1
  have hns27_0 := NBA5_A3.out
  have hms27_0 := NBA3_A5.out
  have hs28 : w23.cell? ⟨gbA3, 2, none⟩ = some (.slice none 0 0) := bce BKA3 2 _
  have hfs28 := blk_frozen BKA3.out 2
  have hns28_0 := NBA5_A3.out
  have hms28_0 := NBA3_A5.out
  refine skip_ (w1 := ?_) (by rfl) rfl ?_ ?_
  rotate_left
  ·
   go_simp
   rfl
  refine hK.out _ _ ⟨((cell_far (p := ⟨gbA3, _, none⟩) NBA5_A3.out _).trans (((cell_far (p := ⟨gbA3, _, none⟩) NBA5_A3.out _).trans (((cell_far (p := ⟨gbA3, _, none⟩) NBA5_A3.out _).trans (hHeld.1)))))), ((cell_far (p := ⟨gbA3, _, none⟩) NBA5_A3.out _).trans (((cell_far (p := ⟨gbA3, _, none⟩) NBA5_A3.out _).trans (((cell_far (p := ⟨gbA3, _, none⟩) NBA5_A3.out _).trans (hHeld.2.1)))))), ((cell_far (p := ⟨gbA3, _, none⟩) NBA5_A3.out _).trans (((cell_far (p := ⟨gbA3, _, none⟩) NBA5_A3.out _).trans (((cell_far (p := ⟨gbA3, _, none⟩) NBA5_A3.out _).trans (hHeld.2.2))))))⟩ (fun hHeld => ?_)
  clear hK K
  refine done_ (done_of HT_.out (by kernel_rfl)) ?_
  try go_wp2
  refine bodyPost_ret (results_cell_row rfl _ _ gbA3 24 #[.bool (!tC1), .slice Ao25 tB9.length co25, .slice Ao24 tB8.length co24] (0, 0) _ rfl (bp3 BKA3 _ _ _) Try.underlying24 rfl (by kernel_rfl)) rfl ?_
  exact ⟨_, _, er_, (crN HOD7 BKA3 fun _ hk => hk.1.2), (crN HOE7 BKA3 fun _ hk => hk.1.2), blw HB⟩

def impl_Rat_fits.f (a0_0 : Bool) (l0_1 : List Int) (l0_2 : List Int) : Option (Bool) := if (l0_1.length : Int) ≤ 40 then (some (decide ((l0_2.length : Int) ≤ 40))) else (some false)
set_option maxHeartbeats 8000000 in
set_option maxRecDepth 100000 in
theorem impl_Rat_fits.calls (a0_0 : Bool) (A0_1 : Option Addr) (c0_1 : Nat) (l0_1 : List Int) (A0_2 : Option Addr) (c0_2 : Nat) (l0_2 : List Int) (r : Bool) (w : World) (hr0_1 : Kd.C (Kd.int .i64) w A0_1 l0_1.length l0_1) (hc0_1 : l0_1.length ≤ c0_1) (hr0_2 : Kd.C (Kd.int .i64) w A0_2 l0_2.length l0_2) (hc0_2 : l0_2.length ≤ c0_2) (h : impl_Rat_fits.f a0_0 l0_1 l0_2 = some r) :
  Calls Try.prog 110 #[.agg #[.bool a0_0, .slice A0_1 l0_1.length c0_1, .slice A0_2 l0_2.length c0_2]] w fun e w' => e = .returned (.bool r) ∧ Below w.heap.size w w' := by
 have hu24 := Try.underlying24
 have HR0_1 := Aside0.mk hr0_1
 have HC0_1 := Aside0.mk hc0_1
 clear hr0_1 hc0_1
 have HR0_2 := Aside0.mk hr0_2
 have HC0_2 := Aside0.mk hc0_2
 clear hr0_2 hc0_2
 have HB := Aside0.mk (Below.refl w.heap.size w)
 have H : (if (l0_1.length : Int) ≤ 40 then (some (decide ((l0_2.length : Int) ≤ 40))) else (some false)) = some r := h
 clear h
 by_cases c2 : (l0_1.length : Int) ≤ 40
 ·
  rw [if_pos c2] at H
  have c2b0 : decide ((l0_1.length : Int) ≤ 40) = true := decide_eq_true c2
  have c2b1 : decide (l0_1.length ≤ 40) = true := decide_eq_true (by omega)
  clear c2
  obtain rfl := Option.some.inj H
  go_enter Try.func110, Try.ntmps110
  go_wp2_with (first | ((with_reducible refine gate_dst (N := 1) rfl ?_); (try (refine gate_guard (by rfl) ?_; dsimp only)); refine bx_ (N := 1) (cs := #[.bool a0_0, .slice A0_1 l0_1.length c0_1, .slice A0_2 l0_2.length c0_2]) (t := 24) ?_; intro gbC5 hg w3 hbox hb; have BKC5 := Aside0.mk (hbox); have GWC5 := geh hg HB; have GEC5 := geh hg HB; replace HB := bst HB hb; clear hb hbox hg; obtain ⟨hcz4_0, hcz4_1, hcz4_2, hfz4_0, hfz4_1, hfz4_2⟩ := bc3 BKC5))
  go_ret
  exact ⟨er_, blw HB⟩
 ·
  rw [if_neg c2] at H
  have c2b0 : decide ((l0_1.length : Int) ≤ 40) = false := decide_eq_false c2
  have c2b1 : decide (l0_1.length ≤ 40) = false := decide_eq_false (by omega)
  clear c2
  obtain rfl := Option.some.inj H
  go_enter Try.func110, Try.ntmps110
  go_wp2_with (first | ((with_reducible refine gate_dst (N := 1) rfl ?_); (try (refine gate_guard (by rfl) ?_; dsimp only)); refine bx_ (N := 1) (cs := #[.bool a0_0, .slice A0_1 l0_1.length c0_1, .slice A0_2 l0_2.length c0_2]) (t := 24) ?_; intro gbC5 hg w5 hbox hb; have BKC5 := Aside0.mk (hbox); have GWC5 := geh hg HB; have GEC5 := geh hg HB; replace HB := bst HB hb; clear hb hbox hg; obtain ⟨hcz6_0, hcz6_1, hcz6_2, hfz6_0, hfz6_1, hfz6_2⟩ := bc3 BKC5))
  go_ret
  exact ⟨er_, blw HB⟩

def impl_fullRat.f (a0_0 : Bool) (l0_1 : List Int) (l0_2 : List Int) : Option (Bool × List Int × List Int × Int) := (impl_Rat_fits.f a0_0 l0_1 l0_2).bind fun tD5 => (if tD5 = true then (some (a0_0, l0_1, l0_2, 0)) else (some (false, ([] : List Int), ([] : List Int), 7)))
set_option maxHeartbeats 8000000 in
set_option maxRecDepth 100000 in
theorem impl_fullRat.calls (a0_0 : Bool) (P0_1_ : Nat → Prop) (uC6_ : Value) (l0_1 : List Int) (P0_2_ : Nat → Prop) (uC7_ : Value) (l0_2 : List Int) (r1 : Bool) (r2 : List Int) (r3 : List Int) (r4 : Int) (w0 w : World) (hB : Below w0.heap.size w0 w) (ho0_1 : Kd.R (Kd.int .i64) 3 w w0.heap.size P0_1_ uC6_ l0_1) (hp0_1_0_2 : ∀ k_, P0_1_ k_ → ¬ P0_2_ k_) (ho0_2 : Kd.R (Kd.int .i64) 3 w w0.heap.size P0_2_ uC7_ l0_2) (hp0_2_0_1 : ∀ k_, P0_2_ k_ → ¬ P0_1_ k_) (h : impl_fullRat.f a0_0 l0_1 l0_2 = some (r1, r2, r3, r4)) :
  Calls Try.prog 77 #[.agg #[.bool a0_0, uC6_, uC7_]] w fun e w' => ∃ v1_ v2_ : Value, e = .returned (.tuple #[.agg #[.bool r1, v1_, v2_], .int .i64 r4]) ∧ Kd.R (Kd.int .i64) 3 w' w0.heap.size (fun k_ => ((P0_1_ k_ ∨ P0_2_ k_) ∨ w.heap.size ≤ k_) ∧ nO k_ v2_) v1_ r2 ∧ Kd.R (Kd.int .i64) 3 w' w0.heap.size (fun k_ => ((P0_1_ k_ ∨ P0_2_ k_) ∨ w.heap.size ≤ k_) ∧ nO k_ v1_) v2_ r3 ∧ Below w0.heap.size w0 w' ∧ Kept w w' (fun k_ => P0_1_ k_ ∨ P0_2_ k_) := by
 have hu24 := Try.underlying24
 have HO0_1 := Aside0.mk (show Kd.R (Kd.int .i64) 3 w w0.heap.size (fun k_ => ((P0_1_ k_ ∨ P0_2_ k_) ∨ w.heap.size ≤ k_) ∧ nO k_ uC7_) uC6_ l0_1 from Kd.R_mono ho0_1 (fun k_ hk => ⟨(.inl (.inl hk)), fun e_ => hp0_1_0_2 k_ hk (ho0_2.1 k_ e_.symm)⟩))
 have HO0_2 := Aside0.mk (show Kd.R (Kd.int .i64) 3 w w0.heap.size (fun k_ => ((P0_1_ k_ ∨ P0_2_ k_) ∨ w.heap.size ≤ k_) ∧ nO k_ uC6_) uC7_ l0_2 from Kd.R_mono ho0_2 (fun k_ hk => ⟨(.inl (.inr hk)), fun e_ => hp0_2_0_1 k_ hk (ho0_1.1 k_ e_.symm)⟩))
 have HK := Aside0.mk (Kept.refl w (fun k_ => P0_1_ k_ ∨ P0_2_ k_))
 have HW0 := Aside0.mk hB.size
 have HB := Aside0.mk hB
 clear hB
 have H : ((impl_Rat_fits.f a0_0 l0_1 l0_2).bind fun tD5 => (if tD5 = true then (some (a0_0, l0_1, l0_2, 0)) else (some (false, ([] : List Int), ([] : List Int), 7)))) = some (r1, r2, r3, r4) := h
 clear h
 replace H := Option.bind_eq_some_iff.mp H
 obtain ⟨tD5, A20, H⟩ := H
 replace H : (if tD5 = true then (some (a0_0, l0_1, l0_2, 0)) else (some (false, ([] : List Int), ([] : List Int), 7))) = some (r1, r2, r3, r4) := H
 have A2 := Aside0.mk A20
 clear A20
 by_cases c3 : tD5 = true
 ·
  subst c3
  have H1 : (some (a0_0, l0_1, l0_2, 0)) = some (r1, r2, r3, r4) := by rw [if_pos rfl] at H; exact H
  clear H
  have H := H1
  clear H1
  simp only [Option.some.injEq, Prod.mk.injEq] at H
  obtain ⟨rfl, rfl, rfl, rfl⟩ := H
  obtain ⟨Ao4, co4, eo4⟩ := Kd.R_slice HO0_1.out
  subst eo4
  obtain ⟨Ao5, co5, eo5⟩ := Kd.R_slice HO0_2.out
  subst eo5
  go_enter Try.func77, Try.ntmps77
  go_wp2_with (first | ((with_reducible refine gate_dst (N := 1) rfl ?_); refine bx_ (N := 1) (cs := #[.bool a0_0, .slice Ao4 l0_1.length co4, .slice Ao5 l0_2.length co5]) (t := 24) ?_; intro gbA9 hg w6 hbox hb; replace HO0_1 := rblR HO0_1 hb; replace HO0_2 := rblR HO0_2 hb; have BKA9 := Aside0.mk (hbox); have GWA9 := Aside0.mk ((by rw [hg]; exact (by first | exact HK.out.1 | exact (show Kept w _ (fun k_ => P0_1_ k_ ∨ P0_2_ k_) from by repeat (first | (with_reducible first | exact HK.out | apply Kept.alloc | apply Kept.drewN | apply Kept.drew) | exact HK.out)).1) : w.heap.size ≤ gbA9)); replace HK := Aside0.mk (Kept.below (S := (fun k_ => P0_1_ k_ ∨ P0_2_ k_)) (by repeat (first | (with_reducible first | exact HK.out | apply Kept.alloc | apply Kept.drewN | apply Kept.drew) | exact HK.out)) hb); have GEA9 := geh hg HB; replace HB := bst HB hb; clear hb hbox hg) | ((with_reducible refine gate_dst (N := 2) rfl ?_); refine bx_ (N := 2) (cs := #[.bool false, .slice none 0 0, .slice none 0 0]) (t := 24) ?_; intro gbB1 hg w7 hbox hb; replace HO0_1 := rblR HO0_1 hb; replace HO0_2 := rblR HO0_2 hb; have BKB1 := Aside0.mk (hbox); have GWB1 := Aside0.mk ((by rw [hg]; exact (by first | exact HK.out.1 | exact (show Kept w _ (fun k_ => P0_1_ k_ ∨ P0_2_ k_) from by repeat (first | (with_reducible first | exact HK.out | apply Kept.alloc | apply Kept.drewN | apply Kept.drew | refine Kept.setCell ?_ (.inr GWA9.out) _) | exact HK.out)).1) : w.heap.size ≤ gbB1)); replace HK := Aside0.mk (Kept.below (S := (fun k_ => P0_1_ k_ ∨ P0_2_ k_)) (by repeat (first | (with_reducible first | exact HK.out | apply Kept.alloc | apply Kept.drewN | apply Kept.drew | refine Kept.setCell ?_ (.inr GWA9.out) _) | exact HK.out)) hb); have GEB1 := geh hg HB; replace HB := bst HB hb; have NBA9_B1 := nlt hg BKA9; have NBB1_A9 := ngt hg BKA9; replace BKA9 := bkb BKA9 hb; clear hb hbox hg; have hnb8 := NBA9_B1.out; have hnc8 := NBB1_A9.out; obtain ⟨hcz9_0, hcz9_1, hcz9_2, hfz9_0, hfz9_1, hfz9_2⟩ := bc3 BKA9) | ((with_reducible refine gate_callee (f := 110) rfl ?_); refine gL_ (some 5) Try.func110 #[.agg #[.bool a0_0, .slice Ao4 l0_1.length co4, .slice Ao5 l0_2.length co5]] ?_; (with_reducible refine (impl_Rat_fits.calls a0_0 _ _ l0_1 _ _ l0_2 true _ ?side1 ?side2 ?side3 ?side4 A2.out).mono ?_); (case side1 => exact crC (Kd.R_reads' HO0_1.out).2.2); (case side2 => exact (Kd.R_reads' HO0_1.out).2.1); (case side3 => exact crC (Kd.R_reads' HO0_2.out).2.2); (case side4 => exact (Kd.R_reads' HO0_2.out).2.1); rintro e w10 ⟨rfl, hb⟩; refine ⟨_, rfl, ?_⟩; replace HO0_1 := rblR HO0_1 hb; replace HO0_2 := rblR HO0_2 hb; replace BKA9 := bkb BKA9 hb; replace BKB1 := bkb BKB1 hb; replace HK := Aside0.mk (Kept.below (S := (fun k_ => P0_1_ k_ ∨ P0_2_ k_)) (by repeat (first | (with_reducible first | exact HK.out | apply Kept.alloc | apply Kept.drewN | apply Kept.drew | refine Kept.setCell ?_ (.inr GWA9.out) _ | refine Kept.setCell ?_ (.inr GWB1.out) _) | exact HK.out)) hb); replace HB := bst HB hb; (try clear hb); (try clear hb2); (try clear hk); (try clear hi); obtain ⟨hcz11_0, hcz11_1, hcz11_2, hfz11_0, hfz11_1, hfz11_2⟩ := bc3 BKA9; obtain ⟨hcz12_0, hcz12_1, hcz12_2, hfz12_0, hfz12_1, hfz12_2⟩ := bc3 BKB1))
  refine bodyPost_ret (results_ct rfl _ _ gbB1 24 #[.bool a0_0, .slice Ao4 l0_1.length co4, .slice Ao5 l0_2.length co5] (0, 0) _ rfl (bp3 BKB1 _ _ _) Try.underlying24 rfl (by kernel_rfl)) rfl ?_
  exact ⟨_, _, er_, (crN HO0_1 BKB1 fun _ hk => ⟨hk.1.1, hk.1.2⟩), (crN HO0_2 BKB1 fun _ hk => ⟨hk.1.1, hk.1.2⟩), by repeat (first | (with_reducible first | exact HB.out | apply below_alloc | apply pw_below_drewN | apply below_drew1 | refine below_set ?_ GEA9.out | refine below_set ?_ GEB1.out) | exact HB.out), by repeat (first | (with_reducible first | exact HK.out | apply Kept.alloc | apply Kept.drewN | apply Kept.drew | refine Kept.setCell ?_ (.inr GWA9.out) _ | refine Kept.setCell ?_ (.inr GWB1.out) _) | exact HK.out)⟩
 ·
  replace c3 := Bool.eq_false_iff.mpr c3
  subst c3
  have H1 : (some (false, ([] : List Int), ([] : List Int), 7)) = some (r1, r2, r3, r4) := by rw [if_neg (show ¬ (false = true) by decide)] at H; exact H
  clear H
  have H := H1
  clear H1
  simp only [Option.some.injEq, Prod.mk.injEq] at H
  obtain ⟨rfl, rfl, rfl, rfl⟩ := H
  obtain ⟨Ao13, co13, eo13⟩ := Kd.R_slice HO0_1.out
  subst eo13
  obtain ⟨Ao14, co14, eo14⟩ := Kd.R_slice HO0_2.out
  subst eo14
  go_enter Try.func77, Try.ntmps77
  go_wp2_with (first | ((with_reducible refine gate_dst (N := 1) rfl ?_); refine bx_ (N := 1) (cs := #[.bool a0_0, .slice Ao13 l0_1.length co13, .slice Ao14 l0_2.length co14]) (t := 24) ?_; intro gbA9 hg w15 hbox hb; replace HO0_1 := rblR HO0_1 hb; replace HO0_2 := rblR HO0_2 hb; have BKA9 := Aside0.mk (hbox); have GWA9 := Aside0.mk ((by rw [hg]; exact (by first | exact HK.out.1 | exact (show Kept w _ (fun k_ => P0_1_ k_ ∨ P0_2_ k_) from by repeat (first | (with_reducible first | exact HK.out | apply Kept.alloc | apply Kept.drewN | apply Kept.drew) | exact HK.out)).1) : w.heap.size ≤ gbA9)); replace HK := Aside0.mk (Kept.below (S := (fun k_ => P0_1_ k_ ∨ P0_2_ k_)) (by repeat (first | (with_reducible first | exact HK.out | apply Kept.alloc | apply Kept.drewN | apply Kept.drew) | exact HK.out)) hb); have GEA9 := geh hg HB; replace HB := bst HB hb; clear hb hbox hg) | ((with_reducible refine gate_dst (N := 2) rfl ?_); refine bx_ (N := 2) (cs := #[.bool false, .slice none 0 0, .slice none 0 0]) (t := 24) ?_; intro gbB1 hg w16 hbox hb; replace HO0_1 := rblR HO0_1 hb; replace HO0_2 := rblR HO0_2 hb; have BKB1 := Aside0.mk (hbox); have GWB1 := Aside0.mk ((by rw [hg]; exact (by first | exact HK.out.1 | exact (show Kept w _ (fun k_ => P0_1_ k_ ∨ P0_2_ k_) from by repeat (first | (with_reducible first | exact HK.out | apply Kept.alloc | apply Kept.drewN | apply Kept.drew | refine Kept.setCell ?_ (.inr GWA9.out) _) | exact HK.out)).1) : w.heap.size ≤ gbB1)); replace HK := Aside0.mk (Kept.below (S := (fun k_ => P0_1_ k_ ∨ P0_2_ k_)) (by repeat (first | (with_reducible first | exact HK.out | apply Kept.alloc | apply Kept.drewN | apply Kept.drew | refine Kept.setCell ?_ (.inr GWA9.out) _) | exact HK.out)) hb); have GEB1 := geh hg HB; replace HB := bst HB hb; have NBA9_B1 := nlt hg BKA9; have NBB1_A9 := ngt hg BKA9; replace BKA9 := bkb BKA9 hb; clear hb hbox hg; have hnb17 := NBA9_B1.out; have hnc17 := NBB1_A9.out; obtain ⟨hcz18_0, hcz18_1, hcz18_2, hfz18_0, hfz18_1, hfz18_2⟩ := bc3 BKA9) | ((with_reducible refine gate_callee (f := 110) rfl ?_); refine gL_ (some 5) Try.func110 #[.agg #[.bool a0_0, .slice Ao13 l0_1.length co13, .slice Ao14 l0_2.length co14]] ?_; (with_reducible refine (impl_Rat_fits.calls a0_0 _ _ l0_1 _ _ l0_2 false _ ?side1 ?side2 ?side3 ?side4 A2.out).mono ?_); (case side1 => exact crC (Kd.R_reads' HO0_1.out).2.2); (case side2 => exact (Kd.R_reads' HO0_1.out).2.1); (case side3 => exact crC (Kd.R_reads' HO0_2.out).2.2); (case side4 => exact (Kd.R_reads' HO0_2.out).2.1); rintro e w19 ⟨rfl, hb⟩; refine ⟨_, rfl, ?_⟩; replace HO0_1 := rblR HO0_1 hb; replace HO0_2 := rblR HO0_2 hb; replace BKA9 := bkb BKA9 hb; replace BKB1 := bkb BKB1 hb; replace HK := Aside0.mk (Kept.below (S := (fun k_ => P0_1_ k_ ∨ P0_2_ k_)) (by repeat (first | (with_reducible first | exact HK.out | apply Kept.alloc | apply Kept.drewN | apply Kept.drew | refine Kept.setCell ?_ (.inr GWA9.out) _ | refine Kept.setCell ?_ (.inr GWB1.out) _) | exact HK.out)) hb); replace HB := bst HB hb; (try clear hb); (try clear hb2); (try clear hk); (try clear hi); obtain ⟨hcz20_0, hcz20_1, hcz20_2, hfz20_0, hfz20_1, hfz20_2⟩ := bc3 BKB1))
  refine bodyPost_ret (results_ct rfl _ _ gbB1 24 #[.bool false, .slice none 0 0, .slice none 0 0] (0, 0) _ rfl (bp3 BKB1 _ _ _) Try.underlying24 rfl (by kernel_rfl)) rfl ?_
  exact ⟨_, _, er_, by first | exact Kd.R_nil _ _ _ _ _ | exact Kd.N_nil _ _ _ _ _ | exact Kd.V_nil _ _ _ _ _ | exact Kd.Q_nil _ _ _ _ _ | exact Kd.S_nil _ _ _ _ _, by first | exact Kd.R_nil _ _ _ _ _ | exact Kd.N_nil _ _ _ _ _ | exact Kd.V_nil _ _ _ _ _ | exact Kd.Q_nil _ _ _ _ _ | exact Kd.S_nil _ _ _ _ _, by repeat (first | (with_reducible first | exact HB.out | apply below_alloc | apply pw_below_drewN | apply below_drew1 | refine below_set ?_ GEA9.out | refine below_set ?_ GEB1.out) | exact HB.out), by repeat (first | (with_reducible first | exact HK.out | apply Kept.alloc | apply Kept.drewN | apply Kept.drew | refine Kept.setCell ?_ (.inr GWA9.out) _ | refine Kept.setCell ?_ (.inr GWB1.out) _) | exact HK.out)⟩

def impl_Rat_over.f (k : Nat) (a0_0 : Bool) (l0_1 : List Int) (l0_2 : List Int) (a1_0 : Bool) (l1_1 : List Int) (l1_2 : List Int) : Option (Bool × List Int × List Int) := (impl_natMul.f k l0_1 l1_2).bind fun tC8 => ((impl_natMul.f k l0_2 l1_1).bind fun tC3 => ((impl_lowest.f k (a0_0 != a1_0) tC8 tC3).bind fun btB5 => (some (btB5.1, btB5.2.1, btB5.2.2))))
theorem impl_Rat_over.mono : ∀ a0 a1 a2 a3 a4 a5 k, LeO (impl_Rat_over.f k a0 a1 a2 a3 a4 a5) (impl_Rat_over.f (k + 1) a0 a1 a2 a3 a4 a5) := by
 intro a0 a1 a2 a3 a4 a5 k
 unfold impl_Rat_over.f
 repeat' first
   | (with_reducible exact impl_lowest.mono _ _ _ _)
   | (with_reducible exact impl_natMul.mono _ _ _)
   | (with_reducible exact LeO.refl _)
   | (with_reducible exact LeO.none _)
   | (with_reducible refine LeO.ite ?_ ?_)
   | (with_reducible refine LeO.bind ?_ (fun _ => ?_))
   | exact impl_lowest.mono _ _ _ _
   | exact impl_natMul.mono _ _ _
   | exact LeO.none _
   | refine LeO.ite ?_ ?_
   | refine LeO.bind ?_ (fun _ => ?_)
def impl_Rat_over.T1 : Bool × List (List Nat × List Nat) := (true, [([], []), ([0], [0]), ([], []), ([2], [2]), ([1, 3], [1, 3]), ([], []), ([5], [5]), ([], []), ([7], [7]), ([6, 8], [6, 8]), ([], []), ([10], [10]), ([], []), ([12], [12]), ([11, 13, 9], [11, 13]), ([4, 9, 14, 14], [4, 9, 14]), ([15, 15, 0, 1, 2, 3, 4, 5, 6, 7, 8, 9, 10, 11, 12, 13, 14, 15], [15])])
def impl_Rat_over.B1 : List Nat := [0, 1, 0, 4, 15, 0, 32, 0, 128, 480, 0, 1024, 0, 4096, 16352, 32767, 65535]
theorem impl_Rat_over.tab1 : rtab .any (opsOf Try.f49 1) = impl_Rat_over.T1 := by kernel_rfl
theorem impl_Rat_over.bits1 : waitsOk impl_Rat_over.T1.2 impl_Rat_over.B1 = true := by kernel_rfl
set_option maxHeartbeats 8000000 in
set_option maxRecDepth 100000 in
theorem impl_Rat_over.calls (k : Nat) (a0_0 : Bool) (A0_1 : Option Addr) (c0_1 : Nat) (l0_1 : List Int) (A0_2 : Option Addr) (c0_2 : Nat) (l0_2 : List Int) (a1_0 : Bool) (A1_1 : Option Addr) (c1_1 : Nat) (l1_1 : List Int) (A1_2 : Option Addr) (c1_2 : Nat) (l1_2 : List Int) (r1 : Bool) (r2 : List Int) (r3 : List Int) (w : World) (hr0_1 : Kd.C (Kd.int .i64) w A0_1 l0_1.length l0_1) (hc0_1 : l0_1.length ≤ c0_1) (hr0_2 : Kd.C (Kd.int .i64) w A0_2 l0_2.length l0_2) (hc0_2 : l0_2.length ≤ c0_2) (hr1_1 : Kd.C (Kd.int .i64) w A1_1 l1_1.length l1_1) (hc1_1 : l1_1.length ≤ c1_1) (hr1_2 : Kd.C (Kd.int .i64) w A1_2 l1_2.length l1_2) (hc1_2 : l1_2.length ≤ c1_2) (h : impl_Rat_over.f k a0_0 l0_1 l0_2 a1_0 l1_1 l1_2 = some (r1, r2, r3)) :
  Calls Try.prog 49 #[.agg #[.bool a0_0, .slice A0_1 l0_1.length c0_1, .slice A0_2 l0_2.length c0_2], .agg #[.bool a1_0, .slice A1_1 l1_1.length c1_1, .slice A1_2 l1_2.length c1_2]] w fun e w' => ∃ v1_ v2_ : Value, e = .returned (.agg #[.bool r1, v1_, v2_]) ∧ Kd.R (Kd.int .i64) 3 w' w.heap.size (fun k_ => nO k_ v2_) v1_ r2 ∧ Kd.R (Kd.int .i64) 3 w' w.heap.size (fun k_ => nO k_ v1_) v2_ r3 ∧ Below w.heap.size w w' := by
 have hu24 := Try.underlying24
 have HR0_1 := Aside0.mk hr0_1
 have HC0_1 := Aside0.mk hc0_1
 clear hr0_1 hc0_1
 have HR0_2 := Aside0.mk hr0_2
 have HC0_2 := Aside0.mk hc0_2
 clear hr0_2 hc0_2
 have HR1_1 := Aside0.mk hr1_1
 have HC1_1 := Aside0.mk hc1_1
 clear hr1_1 hc1_1
 have HR1_2 := Aside0.mk hr1_2
 have HC1_2 := Aside0.mk hc1_2
 clear hr1_2 hc1_2
 have HB := Aside0.mk (Below.refl w.heap.size w)
 have H : ((impl_natMul.f k l0_1 l1_2).bind fun tC8 => ((impl_natMul.f k l0_2 l1_1).bind fun tC3 => ((impl_lowest.f k (a0_0 != a1_0) tC8 tC3).bind fun btB5 => (some (btB5.1, btB5.2.1, btB5.2.2))))) = some (r1, r2, r3) := h
 clear h
 replace H := Option.bind_eq_some_iff.mp H
 obtain ⟨tC8, A30, H⟩ := H
 replace H : ((impl_natMul.f k l0_2 l1_1).bind fun tC3 => ((impl_lowest.f k (a0_0 != a1_0) tC8 tC3).bind fun btB5 => (some (btB5.1, btB5.2.1, btB5.2.2)))) = some (r1, r2, r3) := H
 have A3 := Aside0.mk A30
 clear A30
 replace H := Option.bind_eq_some_iff.mp H
 obtain ⟨tC3, A40, H⟩ := H
 replace H : ((impl_lowest.f k (a0_0 != a1_0) tC8 tC3).bind fun btB5 => (some (btB5.1, btB5.2.1, btB5.2.2))) = some (r1, r2, r3) := H
 have A4 := Aside0.mk A40
 clear A40
 replace H := Option.bind_eq_some_iff.mp H
 obtain ⟨⟨tB5, tE1, tE2⟩, A50, H⟩ := H
 replace H : (some (tB5, tE1, tE2)) = some (r1, r2, r3) := H
 have A5 := Aside0.mk A50
 clear A50
 simp only [Option.some.injEq, Prod.mk.injEq] at H
 obtain ⟨rfl, rfl, rfl⟩ := H
 go_enter Try.func49, Try.ntmps49
 try go_wp2_with (first | ((with_reducible refine gate_dst (N := 2) rfl ?_); refine bx_ (N := 2) (cs := #[.bool a0_0, .slice A0_1 l0_1.length c0_1, .slice A0_2 l0_2.length c0_2]) (t := 24) ?_; intro gbA7 hg w6 hbox hb; have BKA7 := Aside0.mk (hbox); have GWA7 := geh hg HB; have GEA7 := geh hg HB; replace HB := bst HB hb; clear hb hbox hg) | ((with_reducible refine gate_dst (N := 3) rfl ?_); refine bx_ (N := 3) (cs := #[.bool a1_0, .slice A1_1 l1_1.length c1_1, .slice A1_2 l1_2.length c1_2]) (t := 24) ?_; intro gbA8 hg w7 hbox hb; have BKA8 := Aside0.mk (hbox); have GWA8 := geh hg HB; have GEA8 := geh hg HB; replace HB := bst HB hb; have NBA7_A8 := nlt hg BKA7; have NBA8_A7 := ngt hg BKA7; replace BKA7 := bkb BKA7 hb; clear hb hbox hg) | ((with_reducible refine gate_dst (N := 4) rfl ?_); refine bx_ (N := 4) (cs := #[.bool false, .slice none 0 0, .slice none 0 0]) (t := 24) ?_; intro gbA6 hg w8 hbox hb; have BKA6 := Aside0.mk (hbox); have GWA6 := geh hg HB; have GEA6 := geh hg HB; replace HB := bst HB hb; have NBA7_A6 := nlt hg BKA7; have NBA6_A7 := ngt hg BKA7; replace BKA7 := bkb BKA7 hb; have NBA8_A6 := nlt hg BKA8; have NBA6_A8 := ngt hg BKA8; replace BKA8 := bkb BKA8 hb; clear hb hbox hg))
 replace BKA7 := Aside0.mk (blk_drew BKA7.out)
 replace BKA8 := Aside0.mk (blk_drew BKA8.out)
 replace BKA6 := Aside0.mk (blk_drew BKA6.out)
 replace HB := Aside0.mk (below_drew1 HB.out)
 refine start_ (n := 17) (S := fun w' => w'.cell? ⟨gbA7, 0, none⟩ = some (.bool a0_0) ∧ w'.cell? ⟨gbA7, 1, none⟩ = some (.slice A0_1 l0_1.length c0_1) ∧ w'.cell? ⟨gbA7, 2, none⟩ = some (.slice A0_2 l0_2.length c0_2) ∧ w'.cell? ⟨gbA8, 0, none⟩ = some (.bool a1_0) ∧ w'.cell? ⟨gbA8, 1, none⟩ = some (.slice A1_1 l1_1.length c1_1) ∧ w'.cell? ⟨gbA8, 2, none⟩ = some (.slice A1_2 l1_2.length c1_2)) (ds := []) (bm 17 0) (by kernel_rfl) rfl rfl ⟨bce BKA7 0 _, bce BKA7 1 _, bce BKA7 2 _, bce BKA8 0 _, bce BKA8 1 _, bce BKA8 2 _⟩ (fun hHeld => ?_); refine with_tabW impl_Rat_over.tab1 impl_Rat_over.bits1 (fun HT_ HW_ => ?_)
 generalize w8.drew = w9 at BKA7 BKA8 BKA6 HB hHeld ⊢
 refine pu_ 0 (some 5) (bm 17 1) HT_.out ?_
 refine pu_ 2 (some 7) (bm 17 5) HT_.out ?_
 refine pu_ 5 (some 10) (bm 17 37) HT_.out ?_
 refine pu_ 7 (some 12) (bm 17 165) HT_.out ?_
 refine pu_ 10 (some 15) (bm 17 1189) HT_.out ?_
 refine pu_ 12 (some 17) (bm 17 5285) HT_.out ?_
 refine tk_ 1 (some 6) (bm 17 5287) HT_.out HW_.out hHeld ?_
 refine tk_ 3 (some 8) (bm 17 5295) HT_.out HW_.out hHeld ?_
 refine pu_ 4 (some 9) (bm 17 5311) HT_.out ?_
 refine tk_ 6 (some 11) (bm 17 5375) HT_.out HW_.out hHeld ?_
 refine tk_ 8 (some 13) (bm 17 5631) HT_.out HW_.out hHeld ?_
 refine tk_ 11 (some 16) (bm 17 7679) HT_.out HW_.out hHeld ?_
 refine tk_ 13 (some 18) (bm 17 15871) HT_.out HW_.out hHeld ?_
 refine one_ (i := 9) (N := some 14) (bm 17 16383) rfl rfl (one_of HT_.out (by kernel_rfl)) (by decide) (fun K hK => ?_)
 refine g_ Try.func95 #[.slice A0_1 l0_1.length c0_1, .slice A1_2 l1_2.length c1_2] ?_
 with_reducible refine (impl_natMul.calls k _ _ l0_1 _ _ l1_2 tC8 _ ?side1 ?side2 ?side3 ?side4 A3.out).mono ?_
 (case side1 => exact crC (Kd.C_below HR0_1.out HB.out))
 (case side2 => exact HC0_1.out)
 (case side3 => exact crC (Kd.C_below HR1_2.out HB.out))
 (case side4 => exact HC1_2.out)
 rintro e w10 ⟨vF8, rfl, ho0, hb⟩
 refine ⟨_, rfl, ?_⟩
 have HOC4 := lwR ho0 HB
 replace BKA7 := bkb BKA7 hb
 replace BKA8 := bkb BKA8 hb
 replace BKA6 := bkb BKA6 hb
 replace HB := bst HB hb
 (try clear hb)
 (try clear hb2)
 (try clear hk)
 (try clear hi)
 (try clear ho0)
 refine hK.out _ _ ⟨bce BKA7 0 _, bce BKA7 1 _, bce BKA7 2 _, bce BKA8 0 _, bce BKA8 1 _, bce BKA8 2 _⟩ (fun hHeld => ?_)
 clear hK K
 refine nm_ 14 ?_
 refine one_ (i := 14) (N := some 19) (bm 17 32767) rfl rfl (one_of HT_.out (by kernel_rfl)) (by decide) (fun K hK => ?_)
 refine g_ Try.func95 #[.slice A0_2 l0_2.length c0_2, .slice A1_1 l1_1.length c1_1] ?_
 with_reducible refine (impl_natMul.calls k _ _ l0_2 _ _ l1_1 tC3 _ ?side1 ?side2 ?side3 ?side4 A4.out).mono ?_
 (case side1 => exact crC (Kd.C_below HR0_2.out HB.out))
 (case side2 => exact HC0_2.out)
 (case side3 => exact crC (Kd.C_below HR1_1.out HB.out))
 (case side4 => exact HC1_1.out)
 rintro e w11 ⟨vF9, rfl, ho0, hb⟩
 refine ⟨_, rfl, ?_⟩
 have HOD1 := lwR (nwR ho0 HOC4) HB
 replace HOC4 := eldR HOC4 (Kd.R_base ho0) hb
 replace BKA7 := bkb BKA7 hb
 replace BKA8 := bkb BKA8 hb
 replace BKA6 := bkb BKA6 hb
 replace HB := bst HB hb
 (try clear hb)
 (try clear hb2)
 (try clear hk)
 (try clear hi)
 (try clear ho0)
 obtain ⟨Ao12, co12, eo12⟩ := Kd.R_slice HOC4.out
 (first | subst eo12 | (injection eo12 with f1_ f2_ f3_; have f4_ := f1_.symm; have f5_ := f3_.symm; clear f1_ f2_ f3_; subst f4_; subst f5_))
 obtain ⟨Ao13, co13, eo13⟩ := Kd.R_slice HOD1.out
 (first | subst eo13 | (injection eo13 with f1_ f2_ f3_; have f4_ := f1_.symm; have f5_ := f3_.symm; clear f1_ f2_ f3_; subst f4_; subst f5_))
 refine hK.out _ _ ⟨bce BKA7 0 _, bce BKA7 1 _, bce BKA7 2 _, bce BKA8 0 _, bce BKA8 1 _, bce BKA8 2 _⟩ (fun hHeld => ?_)
 clear hK K
 refine nm_ 19 ?_
 refine one_ (i := 15) (N := some 20) (bm 17 65535) rfl rfl (one_of HT_.out (by kernel_rfl)) (by decide) (fun K hK => ?_)
 refine g_ Try.func94 #[.bool (a0_0 != a1_0), .slice Ao12 tC8.length co12, .slice Ao13 tC3.length co13] ?_
 with_reducible refine (impl_lowest.calls k (a0_0 != a1_0) _ _ tC8 _ _ tC3 tB5 tE1 tE2 _ ?side1 ?side2 ?side3 ?side4 A5.out).mono ?_
 (case side1 => exact crC (Kd.R_reads' HOC4.out).2.2)
 (case side2 => exact (Kd.R_reads' HOC4.out).2.1)
 (case side3 => exact crC (Kd.R_reads' HOD1.out).2.2)
 (case side4 => exact (Kd.R_reads' HOD1.out).2.1)
 rintro e w14 ⟨vG0, vG1, rfl, ho0, ho1, hb⟩
 refine ⟨_, rfl, ?_⟩
 have HOE8 := lwR (nwR (nwR ho0 HOC4) HOD1) HB
 have HOE9 := lwR (nwR (nwR ho1 HOC4) HOD1) HB
 replace HOC4 := tldR HOC4 hb (Kd.R_base ho0) (Kd.R_base ho1)
 replace HOD1 := tldR HOD1 hb (Kd.R_base ho0) (Kd.R_base ho1)
 replace BKA7 := bkb BKA7 hb
 replace BKA8 := bkb BKA8 hb
 replace BKA6 := bkb BKA6 hb
 replace HB := bst HB hb
 (try clear hb)
 (try clear hb2)
 (try clear hk)
 (try clear hi)
 (try clear ho0)
 (try clear ho1)
 obtain ⟨Ao16, co16, eo16⟩ := Kd.R_slice HOE8.out
 (first | subst eo16 | (injection eo16 with f1_ f2_ f3_; have f4_ := f1_.symm; have f5_ := f3_.symm; clear f1_ f2_ f3_; subst f4_; subst f5_))
 obtain ⟨Ao18, co18, eo18⟩ := Kd.R_slice HOE9.out
 (first | subst eo18 | (injection eo18 with f1_ f2_ f3_; have f4_ := f1_.symm; have f5_ := f3_.symm; clear f1_ f2_ f3_; subst f4_; subst f5_))
 refine hK.out _ _ ⟨bce BKA7 0 _, bce BKA7 1 _, bce BKA7 2 _, bce BKA8 0 _, bce BKA8 1 _, bce BKA8 2 _⟩ (fun hHeld => ?_)
 clear hK K
 refine nm_ 20 ?_
 refine one_ (i := 16) (N := none) (bm 17 131071) rfl rfl (one_of HT_.out (by kernel_rfl)) (by decide) (fun K hK => ?_)
 have hs15 : w14.cell? ⟨gbA6, 0, none⟩ = some (.bool false) := bce BKA6 0 _
 have hfs15 := blk_frozen BKA6.out 0
 have hns15_0 := NBA7_A6.out
 have hns15_1 := NBA8_A6.out
 have hms15_0 := NBA6_A7.out
 have hms15_1 := NBA6_A8.out
 have hs17 : w14.cell? ⟨gbA6, 1, none⟩ = some (.slice none 0 0) := bce BKA6 1 _
 have hfs17 := blk_frozen BKA6.out 1
 have hns17_0 := NBA7_A6.out
 have hns17_1 := NBA8_A6.out
 have hms17_0 := NBA6_A7.out
 have hms17_1 := NBA6_A8.out
 have hs19 : w14.cell? ⟨gbA6, 2, none⟩ = some (.slice none 0 0) := bce BKA6 2 _
 have hfs19 := blk_frozen BKA6.out 2
 have hns19_0 := NBA7_A6.out
 have hns19_1 := NBA8_A6.out
 have hms19_0 := NBA6_A7.out
 have hms19_1 := NBA6_A8.out
 refine skip_ (w1 := ?_) (by rfl) rfl ?_ ?_
 rotate_left
 ·
  go_simp
  rfl
 refine hK.out _ _ ⟨((cell_far (p := ⟨gbA6, _, none⟩) NBA7_A6.out _).trans (((cell_far (p := ⟨gbA6, _, none⟩) NBA7_A6.out _).trans (((cell_far (p := ⟨gbA6, _, none⟩) NBA7_A6.out _).trans (hHeld.1)))))), ((cell_far (p := ⟨gbA6, _, none⟩) NBA7_A6.out _).trans (((cell_far (p := ⟨gbA6, _, none⟩) NBA7_A6.out _).trans (((cell_far (p := ⟨gbA6, _, none⟩) NBA7_A6.out _).trans (hHeld.2.1)))))), ((cell_far (p := ⟨gbA6, _, none⟩) NBA7_A6.out _).trans (((cell_far (p := ⟨gbA6, _, none⟩) NBA7_A6.out _).trans (((cell_far (p := ⟨gbA6, _, none⟩) NBA7_A6.out _).trans (hHeld.2.2.1)))))), ((cell_far (p := ⟨gbA6, _, none⟩) NBA8_A6.out _).trans (((cell_far (p := ⟨gbA6, _, none⟩) NBA8_A6.out _).trans (((cell_far (p := ⟨gbA6, _, none⟩) NBA8_A6.out _).trans (hHeld.2.2.2.1)))))), ((cell_far (p := ⟨gbA6, _, none⟩) NBA8_A6.out _).trans (((cell_far (p := ⟨gbA6, _, none⟩) NBA8_A6.out _).trans (((cell_far (p := ⟨gbA6, _, none⟩) NBA8_A6.out _).trans (hHeld.2.2.2.2.1)))))), ((cell_far (p := ⟨gbA6, _, none⟩) NBA8_A6.out _).trans (((cell_far (p := ⟨gbA6, _, none⟩) NBA8_A6.out _).trans (((cell_far (p := ⟨gbA6, _, none⟩) NBA8_A6.out _).trans (hHeld.2.2.2.2.2))))))⟩ (fun hHeld => ?_)
 clear hK K
 refine done_ (done_of HT_.out (by kernel_rfl)) ?_
 try go_wp2
 refine bodyPost_ret (results_cell_row rfl _ _ gbA6 24 #[.bool tB5, .slice Ao16 tE1.length co16, .slice Ao18 tE2.length co18] (0, 0) _ rfl (bp3 BKA6 _ _ _) Try.underlying24 rfl (by kernel_rfl)) rfl ?_
 exact ⟨_, _, er_, (crN HOE8 BKA6 fun _ hk => hk.1.1.1), (crN HOE9 BKA6 fun _ hk => hk.1.1.1), blw HB⟩

def impl_first.l0 : Nat → List Int → Int → Int → Option (Int)
 | 0, _, _, _ => none
 | k + 1, x5, x6, x7 => if x7 < x6 then (if 0 ≤ x7 then (if x7 < (x5.length : Int) then (if (rd x5 x7) = 0 then (impl_first.l0 k x5 x6 (wrap64 (x7 + 1))) else (some (rd x5 x7))) else (none)) else (none)) else (some 0)
def impl_first.f (k : Nat) (l0 : List Int) : Option (Int) := impl_first.l0 k l0 (l0.length : Int) 0
theorem impl_first.mono_l : ∀ k, (∀ y0 y1 y2, LeO (impl_first.l0 k y0 y1 y2) (impl_first.l0 (k + 1) y0 y1 y2))
 | 0 => fun _ _ _ r h => by simp [impl_first.l0] at h
 | k + 1 => by
  have ih0 := impl_first.mono_l k
  ·
   intro y0 y1 y2
   unfold impl_first.l0
   repeat' first
   | (with_reducible exact ih0 _ _ _)
   | (with_reducible exact LeO.refl _)
   | (with_reducible exact LeO.none _)
   | (with_reducible refine LeO.ite ?_ ?_)
   | (with_reducible refine LeO.bind ?_ (fun _ => ?_))
   | exact ih0 _ _ _
   | exact LeO.none _
   | refine LeO.ite ?_ ?_
   | refine LeO.bind ?_ (fun _ => ?_)
theorem impl_first.mono : ∀ a0 k, LeO (impl_first.f k a0) (impl_first.f (k + 1) a0) := by
 intro a0 k
 have ih0 := impl_first.mono_l k
 unfold impl_first.f
 repeat' first
   | (with_reducible exact ih0 _ _ _)
   | (with_reducible exact LeO.refl _)
   | (with_reducible exact LeO.none _)
   | (with_reducible refine LeO.ite ?_ ?_)
   | (with_reducible refine LeO.bind ?_ (fun _ => ?_))
   | exact ih0 _ _ _
   | exact LeO.none _
   | refine LeO.ite ?_ ?_
   | refine LeO.bind ?_ (fun _ => ?_)
set_option maxHeartbeats 8000000 in
set_option maxRecDepth 100000 in
theorem impl_first.calls (k : Nat) (A0 : Option Addr) (c0 : Nat) (l0 : List Int) (r : Int) (w : World) (hr0 : Kd.C (Kd.int .i64) w A0 l0.length l0) (hc0 : l0.length ≤ c0) (h : impl_first.f k l0 = some r) :
  Calls Try.prog 80 #[.slice A0 l0.length c0] w fun e w' => e = .returned (.int .i64 r) ∧ Drawn0 w w' := by
 have HR0 := Aside0.mk hr0
 have HC0 := Aside0.mk hc0
 clear hr0 hc0
 have H : (impl_first.l0 k l0 (l0.length : Int) 0) = some r := h
 clear h
 have H' := Aside0.mk H
 clear H
 go_enter Try.func80, Try.ntmps80
 go_wp2
 go_loopg [7] k (fun kq v7 w' => ∃ (x7_1 : Int), v7 = .int .i64 x7_1 ∧ Aside0 (impl_first.l0 kq l0 (l0.length : Int) x7_1 = some r) ∧ Aside0 (kq ≤ k) ∧ Drawn0 w w')
 case atStart => exact ⟨(0), rs_, H', ⟨Nat.le_refl _⟩, by repeat (first | exact Drawn0.refl _ | apply Drawn0.step)⟩
 case round =>
  clear H'
  obtain ⟨x7_1, rfl, HA, HK1, ⟨m1, rfl⟩⟩ := hrel
  cases gk with
  | zero => exact absurd HA.out (by simp [impl_first.l0])
  | succ k1 =>
   have H := HA.out
   clear HA
   simp only [impl_first.l0] at H
   by_cases c2 : x7_1 < (l0.length : Int)
   ·
    rw [if_pos c2] at H
    have c2b0 : decide (x7_1 < (l0.length : Int)) = true := decide_eq_true c2
    clear c2
    by_cases c3 : 0 ≤ x7_1
    ·
     rw [if_pos c3] at H
     have c3b0 : decide (0 ≤ x7_1) = true := decide_eq_true c3
     clear c3
     by_cases c4 : x7_1 < (l0.length : Int)
     ·
      rw [if_pos c4] at H
      have c4b0 : decide (x7_1 < (l0.length : Int)) = true := decide_eq_true c4
      clear c4
      by_cases c5 : (rd l0 x7_1) = 0
      ·
       rw [if_pos c5] at H
       have c5b0 : ((rd l0 x7_1) == 0) = true := beq_iff_eq.mpr c5
       have c5b1 : ((rd l0 x7_1) != 0) = false := bne_eq_false_iff_eq.mpr c5
       clear c5
       have H' := Aside0.mk H
       clear H
       have pB2 : 0 ≤ (x7_1 : Int) := of_decide_eq_true (by first | (with_reducible assumption) | assumption)
       have qB2 : x7_1 < (l0.length : Int) := of_decide_eq_true (by first | (with_reducible assumption) | assumption)
       obtain ⟨adB2, eB2, hxB2_0⟩ := Kd.at_int HR0.out x7_1 pB2 qB2
       cases eB2
       replace pB2 := eq_true pB2
       replace qB2 := eq_true qB2
       go_wp2
       go_roundg k1
       case measure => have := HK1.out; omega
       case rel => exact ⟨(wrap64 (x7_1 + 1)), rs_, H', ⟨by have := HK1.out; omega⟩, by repeat (first | exact Drawn0.refl _ | apply Drawn0.step)⟩
      ·
       rw [if_neg c5] at H
       have c5b0 : ((rd l0 x7_1) == 0) = false := beq_eq_false_iff_ne.mpr c5
       have c5b1 : ((rd l0 x7_1) != 0) = true := bne_iff_ne.mpr c5
       obtain rfl := Option.some.inj H
       have pB2 : 0 ≤ (x7_1 : Int) := of_decide_eq_true (by first | (with_reducible assumption) | assumption)
       have qB2 : x7_1 < (l0.length : Int) := of_decide_eq_true (by first | (with_reducible assumption) | assumption)
       obtain ⟨adB2, eB2, hxB2_0⟩ := Kd.at_int HR0.out x7_1 pB2 qB2
       cases eB2
       replace pB2 := eq_true pB2
       replace qB2 := eq_true qB2
       go_wp2
       go_ret
       exact ⟨by first | rfl | (simp; done) | (simp [*]; done), by repeat (first | exact Drawn0.refl _ | apply Drawn0.step)⟩
     ·
      rw [if_neg c4] at H
      exact absurd H (by simp)
    ·
     rw [if_neg c3] at H
     exact absurd H (by simp)
   ·
    rw [if_neg c2] at H
    have c2b0 : decide (x7_1 < (l0.length : Int)) = false := decide_eq_false c2
    clear c2
    obtain rfl := Option.some.inj H
    go_wp2
    go_ret
    exact ⟨by first | rfl | (simp; done) | (simp [*]; done), by repeat (first | exact Drawn0.refl _ | apply Drawn0.step)⟩

def impl_Rat_times.f (k : Nat) (a0_0 : Bool) (l0_1 : List Int) (l0_2 : List Int) (a1_0 : Bool) (l1_1 : List Int) (l1_2 : List Int) : Option (Bool × List Int × List Int) := (impl_natMul.f k l0_1 l1_1).bind fun tB6 => ((impl_natMul.f k l0_2 l1_2).bind fun tB3 => ((impl_lowest.f k (a0_0 != a1_0) tB6 tB3).bind fun btB0 => (some (btB0.1, btB0.2.1, btB0.2.2))))
theorem impl_Rat_times.mono : ∀ a0 a1 a2 a3 a4 a5 k, LeO (impl_Rat_times.f k a0 a1 a2 a3 a4 a5) (impl_Rat_times.f (k + 1) a0 a1 a2 a3 a4 a5) := by
 intro a0 a1 a2 a3 a4 a5 k
 unfold impl_Rat_times.f
 repeat' first
   | (with_reducible exact impl_lowest.mono _ _ _ _)
   | (with_reducible exact impl_natMul.mono _ _ _)
   | (with_reducible exact LeO.refl _)
   | (with_reducible exact LeO.none _)
   | (with_reducible refine LeO.ite ?_ ?_)
   | (with_reducible refine LeO.bind ?_ (fun _ => ?_))
   | exact impl_lowest.mono _ _ _ _
   | exact impl_natMul.mono _ _ _
   | exact LeO.none _
   | refine LeO.ite ?_ ?_
   | refine LeO.bind ?_ (fun _ => ?_)
def impl_Rat_times.T1 : Bool × List (List Nat × List Nat) := (true, [([], []), ([0], [0]), ([], []), ([2], [2]), ([1, 3], [1, 3]), ([], []), ([5], [5]), ([], []), ([7], [7]), ([6, 8], [6, 8]), ([], []), ([10], [10]), ([], []), ([12], [12]), ([11, 13, 9], [11, 13]), ([4, 9, 14, 14], [4, 9, 14]), ([15, 15, 0, 1, 2, 3, 4, 5, 6, 7, 8, 9, 10, 11, 12, 13, 14, 15], [15])])
def impl_Rat_times.B1 : List Nat := [0, 1, 0, 4, 15, 0, 32, 0, 128, 480, 0, 1024, 0, 4096, 16352, 32767, 65535]
theorem impl_Rat_times.tab1 : rtab .any (opsOf Try.f73 1) = impl_Rat_times.T1 := by kernel_rfl
theorem impl_Rat_times.bits1 : waitsOk impl_Rat_times.T1.2 impl_Rat_times.B1 = true := by kernel_rfl
set_option maxHeartbeats 8000000 in
set_option maxRecDepth 100000 in
theorem impl_Rat_times.calls (k : Nat) (a0_0 : Bool) (A0_1 : Option Addr) (c0_1 : Nat) (l0_1 : List Int) (A0_2 : Option Addr) (c0_2 : Nat) (l0_2 : List Int) (a1_0 : Bool) (A1_1 : Option Addr) (c1_1 : Nat) (l1_1 : List Int) (A1_2 : Option Addr) (c1_2 : Nat) (l1_2 : List Int) (r1 : Bool) (r2 : List Int) (r3 : List Int) (w : World) (hr0_1 : Kd.C (Kd.int .i64) w A0_1 l0_1.length l0_1) (hc0_1 : l0_1.length ≤ c0_1) (hr0_2 : Kd.C (Kd.int .i64) w A0_2 l0_2.length l0_2) (hc0_2 : l0_2.length ≤ c0_2) (hr1_1 : Kd.C (Kd.int .i64) w A1_1 l1_1.length l1_1) (hc1_1 : l1_1.length ≤ c1_1) (hr1_2 : Kd.C (Kd.int .i64) w A1_2 l1_2.length l1_2) (hc1_2 : l1_2.length ≤ c1_2) (h : impl_Rat_times.f k a0_0 l0_1 l0_2 a1_0 l1_1 l1_2 = some (r1, r2, r3)) :
  Calls Try.prog 73 #[.agg #[.bool a0_0, .slice A0_1 l0_1.length c0_1, .slice A0_2 l0_2.length c0_2], .agg #[.bool a1_0, .slice A1_1 l1_1.length c1_1, .slice A1_2 l1_2.length c1_2]] w fun e w' => ∃ v1_ v2_ : Value, e = .returned (.agg #[.bool r1, v1_, v2_]) ∧ Kd.R (Kd.int .i64) 3 w' w.heap.size (fun k_ => nO k_ v2_) v1_ r2 ∧ Kd.R (Kd.int .i64) 3 w' w.heap.size (fun k_ => nO k_ v1_) v2_ r3 ∧ Below w.heap.size w w' := by
 have hu24 := Try.underlying24
 have HR0_1 := Aside0.mk hr0_1
 have HC0_1 := Aside0.mk hc0_1
 clear hr0_1 hc0_1
 have HR0_2 := Aside0.mk hr0_2
 have HC0_2 := Aside0.mk hc0_2
 clear hr0_2 hc0_2
 have HR1_1 := Aside0.mk hr1_1
 have HC1_1 := Aside0.mk hc1_1
 clear hr1_1 hc1_1
 have HR1_2 := Aside0.mk hr1_2
 have HC1_2 := Aside0.mk hc1_2
 clear hr1_2 hc1_2
 have HB := Aside0.mk (Below.refl w.heap.size w)
 have H : ((impl_natMul.f k l0_1 l1_1).bind fun tB6 => ((impl_natMul.f k l0_2 l1_2).bind fun tB3 => ((impl_lowest.f k (a0_0 != a1_0) tB6 tB3).bind fun btB0 => (some (btB0.1, btB0.2.1, btB0.2.2))))) = some (r1, r2, r3) := h
 clear h
 replace H := Option.bind_eq_some_iff.mp H
 obtain ⟨tB6, A30, H⟩ := H
 replace H : ((impl_natMul.f k l0_2 l1_2).bind fun tB3 => ((impl_lowest.f k (a0_0 != a1_0) tB6 tB3).bind fun btB0 => (some (btB0.1, btB0.2.1, btB0.2.2)))) = some (r1, r2, r3) := H
 have A3 := Aside0.mk A30
 clear A30
 replace H := Option.bind_eq_some_iff.mp H
 obtain ⟨tB3, A40, H⟩ := H
 replace H : ((impl_lowest.f k (a0_0 != a1_0) tB6 tB3).bind fun btB0 => (some (btB0.1, btB0.2.1, btB0.2.2))) = some (r1, r2, r3) := H
 have A4 := Aside0.mk A40
 clear A40
 replace H := Option.bind_eq_some_iff.mp H
 obtain ⟨⟨tB0, tD2, tD3⟩, A50, H⟩ := H
 replace H : (some (tB0, tD2, tD3)) = some (r1, r2, r3) := H
 have A5 := Aside0.mk A50
 clear A50
 simp only [Option.some.injEq, Prod.mk.injEq] at H
 obtain ⟨rfl, rfl, rfl⟩ := H
 go_enter Try.func73, Try.ntmps73
 try go_wp2_with (first | ((with_reducible refine gate_dst (N := 2) rfl ?_); refine bx_ (N := 2) (cs := #[.bool a0_0, .slice A0_1 l0_1.length c0_1, .slice A0_2 l0_2.length c0_2]) (t := 24) ?_; intro gbA1 hg w6 hbox hb; have BKA1 := Aside0.mk (hbox); have GWA1 := geh hg HB; have GEA1 := geh hg HB; replace HB := bst HB hb; clear hb hbox hg) | ((with_reducible refine gate_dst (N := 3) rfl ?_); refine bx_ (N := 3) (cs := #[.bool a1_0, .slice A1_1 l1_1.length c1_1, .slice A1_2 l1_2.length c1_2]) (t := 24) ?_; intro gbA4 hg w7 hbox hb; have BKA4 := Aside0.mk (hbox); have GWA4 := geh hg HB; have GEA4 := geh hg HB; replace HB := bst HB hb; have NBA1_A4 := nlt hg BKA1; have NBA4_A1 := ngt hg BKA1; replace BKA1 := bkb BKA1 hb; clear hb hbox hg) | ((with_reducible refine gate_dst (N := 4) rfl ?_); refine bx_ (N := 4) (cs := #[.bool false, .slice none 0 0, .slice none 0 0]) (t := 24) ?_; intro gbA0 hg w8 hbox hb; have BKA0 := Aside0.mk (hbox); have GWA0 := geh hg HB; have GEA0 := geh hg HB; replace HB := bst HB hb; have NBA1_A0 := nlt hg BKA1; have NBA0_A1 := ngt hg BKA1; replace BKA1 := bkb BKA1 hb; have NBA4_A0 := nlt hg BKA4; have NBA0_A4 := ngt hg BKA4; replace BKA4 := bkb BKA4 hb; clear hb hbox hg))
 replace BKA1 := Aside0.mk (blk_drew BKA1.out)
 replace BKA4 := Aside0.mk (blk_drew BKA4.out)
 replace BKA0 := Aside0.mk (blk_drew BKA0.out)
 replace HB := Aside0.mk (below_drew1 HB.out)
 refine start_ (n := 17) (S := fun w' => w'.cell? ⟨gbA1, 0, none⟩ = some (.bool a0_0) ∧ w'.cell? ⟨gbA1, 1, none⟩ = some (.slice A0_1 l0_1.length c0_1) ∧ w'.cell? ⟨gbA1, 2, none⟩ = some (.slice A0_2 l0_2.length c0_2) ∧ w'.cell? ⟨gbA4, 0, none⟩ = some (.bool a1_0) ∧ w'.cell? ⟨gbA4, 1, none⟩ = some (.slice A1_1 l1_1.length c1_1) ∧ w'.cell? ⟨gbA4, 2, none⟩ = some (.slice A1_2 l1_2.length c1_2)) (ds := []) (bm 17 0) (by kernel_rfl) rfl rfl ⟨bce BKA1 0 _, bce BKA1 1 _, bce BKA1 2 _, bce BKA4 0 _, bce BKA4 1 _, bce BKA4 2 _⟩ (fun hHeld => ?_); refine with_tabW impl_Rat_times.tab1 impl_Rat_times.bits1 (fun HT_ HW_ => ?_)
 generalize w8.drew = w9 at BKA1 BKA4 BKA0 HB hHeld ⊢
 refine pu_ 0 (some 5) (bm 17 1) HT_.out ?_
 refine pu_ 2 (some 7) (bm 17 5) HT_.out ?_
 refine pu_ 5 (some 10) (bm 17 37) HT_.out ?_
 refine pu_ 7 (some 12) (bm 17 165) HT_.out ?_
 refine pu_ 10 (some 15) (bm 17 1189) HT_.out ?_
 refine pu_ 12 (some 17) (bm 17 5285) HT_.out ?_
 refine tk_ 1 (some 6) (bm 17 5287) HT_.out HW_.out hHeld ?_
 refine tk_ 3 (some 8) (bm 17 5295) HT_.out HW_.out hHeld ?_
 refine pu_ 4 (some 9) (bm 17 5311) HT_.out ?_
 refine tk_ 6 (some 11) (bm 17 5375) HT_.out HW_.out hHeld ?_
 refine tk_ 8 (some 13) (bm 17 5631) HT_.out HW_.out hHeld ?_
 refine tk_ 11 (some 16) (bm 17 7679) HT_.out HW_.out hHeld ?_
 refine tk_ 13 (some 18) (bm 17 15871) HT_.out HW_.out hHeld ?_
 refine one_ (i := 9) (N := some 14) (bm 17 16383) rfl rfl (one_of HT_.out (by kernel_rfl)) (by decide) (fun K hK => ?_)
 refine g_ Try.func95 #[.slice A0_1 l0_1.length c0_1, .slice A1_1 l1_1.length c1_1] ?_
 with_reducible refine (impl_natMul.calls k _ _ l0_1 _ _ l1_1 tB6 _ ?side1 ?side2 ?side3 ?side4 A3.out).mono ?_
 (case side1 => exact crC (Kd.C_below HR0_1.out HB.out))
 (case side2 => exact HC0_1.out)
 (case side3 => exact crC (Kd.C_below HR1_1.out HB.out))
 (case side4 => exact HC1_1.out)
 rintro e w10 ⟨vF0, rfl, ho0, hb⟩
 refine ⟨_, rfl, ?_⟩
 have HOB4 := lwR ho0 HB
 replace BKA1 := bkb BKA1 hb
 replace BKA4 := bkb BKA4 hb
 replace BKA0 := bkb BKA0 hb
 replace HB := bst HB hb
 (try clear hb)
 (try clear hb2)
 (try clear hk)
 (try clear hi)
 (try clear ho0)
 refine hK.out _ _ ⟨bce BKA1 0 _, bce BKA1 1 _, bce BKA1 2 _, bce BKA4 0 _, bce BKA4 1 _, bce BKA4 2 _⟩ (fun hHeld => ?_)
 clear hK K
 refine nm_ 14 ?_
 refine one_ (i := 14) (N := some 19) (bm 17 32767) rfl rfl (one_of HT_.out (by kernel_rfl)) (by decide) (fun K hK => ?_)
 refine g_ Try.func95 #[.slice A0_2 l0_2.length c0_2, .slice A1_2 l1_2.length c1_2] ?_
 with_reducible refine (impl_natMul.calls k _ _ l0_2 _ _ l1_2 tB3 _ ?side1 ?side2 ?side3 ?side4 A4.out).mono ?_
 (case side1 => exact crC (Kd.C_below HR0_2.out HB.out))
 (case side2 => exact HC0_2.out)
 (case side3 => exact crC (Kd.C_below HR1_2.out HB.out))
 (case side4 => exact HC1_2.out)
 rintro e w11 ⟨vF1, rfl, ho0, hb⟩
 refine ⟨_, rfl, ?_⟩
 have HOB7 := lwR (nwR ho0 HOB4) HB
 replace HOB4 := eldR HOB4 (Kd.R_base ho0) hb
 replace BKA1 := bkb BKA1 hb
 replace BKA4 := bkb BKA4 hb
 replace BKA0 := bkb BKA0 hb
 replace HB := bst HB hb
 (try clear hb)
 (try clear hb2)
 (try clear hk)
 (try clear hi)
 (try clear ho0)
 obtain ⟨Ao12, co12, eo12⟩ := Kd.R_slice HOB4.out
 (first | subst eo12 | (injection eo12 with f1_ f2_ f3_; have f4_ := f1_.symm; have f5_ := f3_.symm; clear f1_ f2_ f3_; subst f4_; subst f5_))
 obtain ⟨Ao13, co13, eo13⟩ := Kd.R_slice HOB7.out
 (first | subst eo13 | (injection eo13 with f1_ f2_ f3_; have f4_ := f1_.symm; have f5_ := f3_.symm; clear f1_ f2_ f3_; subst f4_; subst f5_))
 refine hK.out _ _ ⟨bce BKA1 0 _, bce BKA1 1 _, bce BKA1 2 _, bce BKA4 0 _, bce BKA4 1 _, bce BKA4 2 _⟩ (fun hHeld => ?_)
 clear hK K
 refine nm_ 19 ?_
 refine one_ (i := 15) (N := some 20) (bm 17 65535) rfl rfl (one_of HT_.out (by kernel_rfl)) (by decide) (fun K hK => ?_)
 refine g_ Try.func94 #[.bool (a0_0 != a1_0), .slice Ao12 tB6.length co12, .slice Ao13 tB3.length co13] ?_
 with_reducible refine (impl_lowest.calls k (a0_0 != a1_0) _ _ tB6 _ _ tB3 tB0 tD2 tD3 _ ?side1 ?side2 ?side3 ?side4 A5.out).mono ?_
 (case side1 => exact crC (Kd.R_reads' HOB4.out).2.2)
 (case side2 => exact (Kd.R_reads' HOB4.out).2.1)
 (case side3 => exact crC (Kd.R_reads' HOB7.out).2.2)
 (case side4 => exact (Kd.R_reads' HOB7.out).2.1)
 rintro e w14 ⟨vF2, vF3, rfl, ho0, ho1, hb⟩
 refine ⟨_, rfl, ?_⟩
 have HOD8 := lwR (nwR (nwR ho0 HOB4) HOB7) HB
 have HOD9 := lwR (nwR (nwR ho1 HOB4) HOB7) HB
 replace HOB4 := tldR HOB4 hb (Kd.R_base ho0) (Kd.R_base ho1)
 replace HOB7 := tldR HOB7 hb (Kd.R_base ho0) (Kd.R_base ho1)
 replace BKA1 := bkb BKA1 hb
 replace BKA4 := bkb BKA4 hb
 replace BKA0 := bkb BKA0 hb
 replace HB := bst HB hb
 (try clear hb)
 (try clear hb2)
 (try clear hk)
 (try clear hi)
 (try clear ho0)
 (try clear ho1)
 obtain ⟨Ao16, co16, eo16⟩ := Kd.R_slice HOD8.out
 (first | subst eo16 | (injection eo16 with f1_ f2_ f3_; have f4_ := f1_.symm; have f5_ := f3_.symm; clear f1_ f2_ f3_; subst f4_; subst f5_))
 obtain ⟨Ao18, co18, eo18⟩ := Kd.R_slice HOD9.out
 (first | subst eo18 | (injection eo18 with f1_ f2_ f3_; have f4_ := f1_.symm; have f5_ := f3_.symm; clear f1_ f2_ f3_; subst f4_; subst f5_))
 refine hK.out _ _ ⟨bce BKA1 0 _, bce BKA1 1 _, bce BKA1 2 _, bce BKA4 0 _, bce BKA4 1 _, bce BKA4 2 _⟩ (fun hHeld => ?_)
 clear hK K
 refine nm_ 20 ?_
 refine one_ (i := 16) (N := none) (bm 17 131071) rfl rfl (one_of HT_.out (by kernel_rfl)) (by decide) (fun K hK => ?_)
 have hs15 : w14.cell? ⟨gbA0, 0, none⟩ = some (.bool false) := bce BKA0 0 _
 have hfs15 := blk_frozen BKA0.out 0
 have hns15_0 := NBA1_A0.out
 have hns15_1 := NBA4_A0.out
 have hms15_0 := NBA0_A1.out
 have hms15_1 := NBA0_A4.out
 have hs17 : w14.cell? ⟨gbA0, 1, none⟩ = some (.slice none 0 0) := bce BKA0 1 _
 have hfs17 := blk_frozen BKA0.out 1
 have hns17_0 := NBA1_A0.out
 have hns17_1 := NBA4_A0.out
 have hms17_0 := NBA0_A1.out
 have hms17_1 := NBA0_A4.out
 have hs19 : w14.cell? ⟨gbA0, 2, none⟩ = some (.slice none 0 0) := bce BKA0 2 _
 have hfs19 := blk_frozen BKA0.out 2
 have hns19_0 := NBA1_A0.out
 have hns19_1 := NBA4_A0.out
 have hms19_0 := NBA0_A1.out
 have hms19_1 := NBA0_A4.out
 refine skip_ (w1 := ?_) (by rfl) rfl ?_ ?_
 rotate_left
 ·
  go_simp
  rfl
 refine hK.out _ _ ⟨((cell_far (p := ⟨gbA0, _, none⟩) NBA1_A0.out _).trans (((cell_far (p := ⟨gbA0, _, none⟩) NBA1_A0.out _).trans (((cell_far (p := ⟨gbA0, _, none⟩) NBA1_A0.out _).trans (hHeld.1)))))), ((cell_far (p := ⟨gbA0, _, none⟩) NBA1_A0.out _).trans (((cell_far (p := ⟨gbA0, _, none⟩) NBA1_A0.out _).trans (((cell_far (p := ⟨gbA0, _, none⟩) NBA1_A0.out _).trans (hHeld.2.1)))))), ((cell_far (p := ⟨gbA0, _, none⟩) NBA1_A0.out _).trans (((cell_far (p := ⟨gbA0, _, none⟩) NBA1_A0.out _).trans (((cell_far (p := ⟨gbA0, _, none⟩) NBA1_A0.out _).trans (hHeld.2.2.1)))))), ((cell_far (p := ⟨gbA0, _, none⟩) NBA4_A0.out _).trans (((cell_far (p := ⟨gbA0, _, none⟩) NBA4_A0.out _).trans (((cell_far (p := ⟨gbA0, _, none⟩) NBA4_A0.out _).trans (hHeld.2.2.2.1)))))), ((cell_far (p := ⟨gbA0, _, none⟩) NBA4_A0.out _).trans (((cell_far (p := ⟨gbA0, _, none⟩) NBA4_A0.out _).trans (((cell_far (p := ⟨gbA0, _, none⟩) NBA4_A0.out _).trans (hHeld.2.2.2.2.1)))))), ((cell_far (p := ⟨gbA0, _, none⟩) NBA4_A0.out _).trans (((cell_far (p := ⟨gbA0, _, none⟩) NBA4_A0.out _).trans (((cell_far (p := ⟨gbA0, _, none⟩) NBA4_A0.out _).trans (hHeld.2.2.2.2.2))))))⟩ (fun hHeld => ?_)
 clear hK K
 refine done_ (done_of HT_.out (by kernel_rfl)) ?_
 try go_wp2
 refine bodyPost_ret (results_cell_row rfl _ _ gbA0 24 #[.bool tB0, .slice Ao16 tD2.length co16, .slice Ao18 tD3.length co18] (0, 0) _ rfl (bp3 BKA0 _ _ _) Try.underlying24 rfl (by kernel_rfl)) rfl ?_
 exact ⟨_, _, er_, (crN HOD8 BKA0 fun _ hk => hk.1.1.1), (crN HOD9 BKA0 fun _ hk => hk.1.1.1), blw HB⟩

end Go.Proofs.Ytacdaijalkkogaa.Q
