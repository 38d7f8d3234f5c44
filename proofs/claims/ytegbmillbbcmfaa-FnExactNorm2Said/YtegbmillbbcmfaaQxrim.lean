-- written by a program of this claim's session (myprint.py) out of the translation; Lean checks it.
import Derived.Test.YtegbmillbbcmfaaQx0
import Derived.Test.YtegbmillbbcmfaaWords
import Derived.Test.YtegbmillbbcmfaaQxbase
import Derived.Test.YtegbmillbbcmfaaQxmul
import Derived.Test.YtegbmillbbcmfaaQxrk
import Derived.Test.YtegbmillbbcmfaaQxrmk
namespace Go.Proofs.Ytegbmillbbcmfaa.Q
open Go.RowKit Go.Proofs.YtegbmillbbcmfaaW.PrintWords Go.Proofs.YtegbmillbbcmfaaW.PrintLast Go.Proofs.YtegbmillbbcmfaaW.PrintMore
attribute [local go_sem] max2_int min2_int max_two min_two max_three min_three max_four min_four   -- for this text's walks alone
set_option linter.unusedVariables false
set_option linter.unusedSimpArgs false

def spec_VecOK.l0 : Nat → List (S32) → Int → Option (Bool)
 | 0, _, _ => none
 | k + 1, x0, x3 => if x3 < (x0.length : Int) then (if 0 ≤ x3 then ((spec_RatOK.f k ((rd_T32 x0 x3).f0) ((rd_T32 x0 x3).f1) ((rd_T32 x0 x3).f2)).bind fun tC0 => (if tC0 = true then (spec_VecOK.l0 k x0 (wrap64 (x3 + 1))) else (some false))) else (none)) else ((spec_l01In.f (x0.length : Int) 1 4).bind fun tC1 => (some tC1))
def spec_VecOK.f (k : Nat) (l0 : List (S32)) : Option (Bool) := if (l0.length : Int) > 4096 then (some false) else (spec_VecOK.l0 k l0 0)
set_option maxHeartbeats 8000000 in
set_option maxRecDepth 100000 in
theorem spec_VecOK.calls (k : Nat) (A0 : Option Addr) (c0 : Nat) (l0 : List (S32)) (r : Bool) (w : World) (hr0 : Kd.C k32 w A0 l0.length l0) (hc0 : l0.length ≤ c0) (h : spec_VecOK.f k l0 = some r) :
  Calls Try.prog 8 #[.slice A0 l0.length c0] w fun e w' => e = .returned (.bool r) ∧ Below w.heap.size w w' := by
 have hu32 := Try.underlying32
 have HR0 := Aside0.mk hr0
 have HC0 := Aside0.mk hc0
 clear hr0 hc0
 have HB := Aside0.mk (Below.refl w.heap.size w)
 have H : (if (l0.length : Int) > 4096 then (some false) else (spec_VecOK.l0 k l0 0)) = some r := h
 clear h
 by_cases c2 : (l0.length : Int) > 4096
 ·
  rw [if_pos c2] at H
  have c2b0 : decide (4096 < (l0.length : Int)) = true := decide_eq_true c2
  have c2b1 : decide (4096 < l0.length) = true := decide_eq_true (by omega)
  clear c2
  obtain rfl := Option.some.inj H
  go_enter Try.func8, Try.ntmps8
  go_wp2
  go_ret
  exact ⟨er_, blw HB⟩
 ·
  rw [if_neg c2] at H
  have c2b0 : decide (4096 < (l0.length : Int)) = false := decide_eq_false c2
  have c2b1 : decide (4096 < l0.length) = false := decide_eq_false (by omega)
  clear c2
  have H' := Aside0.mk H
  clear H
  go_enter Try.func8, Try.ntmps8
  go_wp2
  go_loopg [3] k (fun kq v3 w' => ∃ (x3_1 : Int), v3 = .int .i64 x3_1 ∧ Aside0 (spec_VecOK.l0 kq l0 x3_1 = some r) ∧ Aside0 (kq ≤ k) ∧ Aside0 (Below w.heap.size w w'))
  case atStart => exact ⟨(0), rs_, H', ⟨Nat.le_refl _⟩, ⟨blw HB⟩⟩
  case round =>
   clear H'
   try clear c2
   try clear c2b0
   try clear c2b1
   try clear p2
   obtain ⟨x3_1, rfl, HA, HK1, HB⟩ := hrel
   cases gk with
   | zero => exact absurd HA.out (by simp [spec_VecOK.l0])
   | succ k1 =>
    have H := HA.out
    clear HA
    simp only [spec_VecOK.l0] at H
    by_cases c3 : x3_1 < (l0.length : Int)
    ·
     rw [if_pos c3] at H
     have c3b0 : decide (x3_1 < (l0.length : Int)) = true := decide_eq_true c3
     clear c3
     by_cases c4 : 0 ≤ x3_1
     ·
      rw [if_pos c4] at H
      have c4b0 : decide (0 ≤ x3_1) = true := decide_eq_true c4
      clear c4
      replace H := Option.bind_eq_some_iff.mp H
      obtain ⟨tC0, A50, H⟩ := H
      replace H : (if tC0 = true then (spec_VecOK.l0 k1 l0 (wrap64 (x3_1 + 1))) else (some false)) = some r := H
      have A5 := Aside0.mk A50
      clear A50
      by_cases c6 : tC0 = true
      ·
       subst c6
       rw [if_pos rfl] at H
       have H' := Aside0.mk H
       clear H
       have pA0 : 0 ≤ (x3_1 : Int) := of_decide_eq_true (by first | (with_reducible assumption) | assumption)
       have qA0 : x3_1 < (l0.length : Int) := of_decide_eq_true (by first | (with_reducible assumption) | assumption)
       obtain ⟨adA0, AA0_1, cA0_1, AA0_2, cA0_2, eA0, hxA0_0, hxA0_1, hxA0_2, hlA0_1, hiA0_1, hlA0_2, hiA0_2⟩ := at_T32 HR0.out x3_1 pA0 qA0
       cases eA0
       replace hxA0_0 := (HB.out.cell (World.block_lt_of_cell? w _ hxA0_0)).trans hxA0_0
       replace hxA0_1 := (HB.out.cell (World.block_lt_of_cell? w _ hxA0_1)).trans hxA0_1
       replace hxA0_2 := (HB.out.cell (World.block_lt_of_cell? w _ hxA0_2)).trans hxA0_2
       have HRA0_1 := Aside0.mk hiA0_1
       have HCA0_1 := Aside0.mk hlA0_1
       clear hiA0_1 hlA0_1
       have HRA0_2 := Aside0.mk hiA0_2
       have HCA0_2 := Aside0.mk hlA0_2
       clear hiA0_2 hlA0_2
       replace pA0 := eq_true pA0
       replace qA0 := eq_true qA0
       go_wp2_with (first | ((with_reducible refine gate_callee (f := 23) rfl ?_); refine gL_ (some 17) Try.func23 #[.agg #[.bool ((rd_T32 l0 x3_1).f0), .slice AA0_1 ((rd_T32 l0 x3_1).f1).length cA0_1, .slice AA0_2 ((rd_T32 l0 x3_1).f2).length cA0_2]] ?_; (with_reducible refine (spec_RatOK.calls k1 ((rd_T32 l0 x3_1).f0) _ _ ((rd_T32 l0 x3_1).f1) _ _ ((rd_T32 l0 x3_1).f2) true _ ?side1 ?side2 ?side3 ?side4 A5.out).mono ?_); (case side1 => exact crC (Kd.C_below HRA0_1.out HB.out)); (case side2 => exact HCA0_1.out); (case side3 => exact crC (Kd.C_below HRA0_2.out HB.out)); (case side4 => exact HCA0_2.out); rintro e w7 ⟨rfl, hb⟩; refine ⟨_, rfl, ?_⟩; replace HB := bst HB hb; (try clear hb); (try clear hb2); (try clear hk); (try clear hi)))
       go_roundg k1
       case measure => have := HK1.out; omega
       case rel => exact ⟨(wrap64 (x3_1 + 1)), rs_, H', ⟨by have := HK1.out; omega⟩, ⟨blw HB⟩⟩
      ·
       replace c6 := Bool.eq_false_iff.mpr c6
       subst c6
       rw [if_neg (show ¬ (false = true) by decide)] at H
       obtain rfl := Option.some.inj H
       have pA0 : 0 ≤ (x3_1 : Int) := of_decide_eq_true (by first | (with_reducible assumption) | assumption)
       have qA0 : x3_1 < (l0.length : Int) := of_decide_eq_true (by first | (with_reducible assumption) | assumption)
       obtain ⟨adA0, AA0_1, cA0_1, AA0_2, cA0_2, eA0, hxA0_0, hxA0_1, hxA0_2, hlA0_1, hiA0_1, hlA0_2, hiA0_2⟩ := at_T32 HR0.out x3_1 pA0 qA0
       cases eA0
       replace hxA0_0 := (HB.out.cell (World.block_lt_of_cell? w _ hxA0_0)).trans hxA0_0
       replace hxA0_1 := (HB.out.cell (World.block_lt_of_cell? w _ hxA0_1)).trans hxA0_1
       replace hxA0_2 := (HB.out.cell (World.block_lt_of_cell? w _ hxA0_2)).trans hxA0_2
       have HRA0_1 := Aside0.mk hiA0_1
       have HCA0_1 := Aside0.mk hlA0_1
       clear hiA0_1 hlA0_1
       have HRA0_2 := Aside0.mk hiA0_2
       have HCA0_2 := Aside0.mk hlA0_2
       clear hiA0_2 hlA0_2
       replace pA0 := eq_true pA0
       replace qA0 := eq_true qA0
       go_wp2_with (first | ((with_reducible refine gate_callee (f := 23) rfl ?_); refine gL_ (some 17) Try.func23 #[.agg #[.bool ((rd_T32 l0 x3_1).f0), .slice AA0_1 ((rd_T32 l0 x3_1).f1).length cA0_1, .slice AA0_2 ((rd_T32 l0 x3_1).f2).length cA0_2]] ?_; (with_reducible refine (spec_RatOK.calls k1 ((rd_T32 l0 x3_1).f0) _ _ ((rd_T32 l0 x3_1).f1) _ _ ((rd_T32 l0 x3_1).f2) false _ ?side1 ?side2 ?side3 ?side4 A5.out).mono ?_); (case side1 => exact crC (Kd.C_below HRA0_1.out HB.out)); (case side2 => exact HCA0_1.out); (case side3 => exact crC (Kd.C_below HRA0_2.out HB.out)); (case side4 => exact HCA0_2.out); rintro e w8 ⟨rfl, hb⟩; refine ⟨_, rfl, ?_⟩; replace HB := bst HB hb; (try clear hb); (try clear hb2); (try clear hk); (try clear hi)))
       go_ret
       exact ⟨er_, blw HB⟩
     ·
      rw [if_neg c4] at H
      exact absurd H (by simp)
    ·
     rw [if_neg c3] at H
     have c3b0 : decide (x3_1 < (l0.length : Int)) = false := decide_eq_false c3
     clear c3
     replace H := Option.bind_eq_some_iff.mp H
     obtain ⟨tC1, A90, H⟩ := H
     replace H : (some tC1) = some r := H
     have A9 := Aside0.mk A90
     clear A90
     obtain rfl := Option.some.inj H
     go_wp2_with (first | ((with_reducible refine gate_callee (f := 24) rfl ?_); refine gL_ (some 21) Try.func24 #[.int .i64 (l0.length : Int), .int .i64 1, .int .i64 4] ?_; (with_reducible refine (spec_l01In.calls (l0.length : Int) 1 4 tC1 _ A9.out).mono ?_); rintro e w' ⟨rfl, ⟨nd, rfl⟩⟩; refine ⟨_, rfl, ?_⟩))
     go_ret
     exact ⟨er_, blw HB⟩

def impl_unless.f (a0 : Bool) (a1 : Int) : Option (Int) := if a0 = true then (some 0) else (some a1)
set_option maxHeartbeats 8000000 in
set_option maxRecDepth 100000 in
theorem impl_unless.calls (a0 : Bool) (a1 : Int) (r : Int) (w : World) (h : impl_unless.f a0 a1 = some r) :
  Calls Try.prog 43 #[.bool a0, .int .i64 a1] w fun e w' => e = .returned (.int .i64 r) ∧ Drawn0 w w' := by
 have H : (if a0 = true then (some 0) else (some a1)) = some r := h
 clear h
 by_cases c3 : a0 = true
 ·
  subst c3
  rw [if_pos rfl] at H
  obtain rfl := Option.some.inj H
  go_enter Try.func43, Try.ntmps43
  go_wp2
  go_ret
  exact ⟨by first | rfl | (simp; done) | (simp [*]; done), by repeat (first | exact Drawn0.refl _ | apply Drawn0.step)⟩
 ·
  replace c3 := Bool.eq_false_iff.mpr c3
  subst c3
  rw [if_neg (show ¬ (false = true) by decide)] at H
  obtain rfl := Option.some.inj H
  go_enter Try.func43, Try.ntmps43
  go_wp2
  go_ret
  exact ⟨by first | rfl | (simp; done) | (simp [*]; done), by repeat (first | exact Drawn0.refl _ | apply Drawn0.step)⟩

theorem goesD_ {P : Program} {ops : Array Oper} {Q : Exit → Act → World → Prop} {rest : List Oper} {oi : Oper} {a : Act} {w : World} (N : Option Tmp) (hd : oi.dst = N) (hg : oi.guard = none) {f : FuncId} {fn : Func} {t : Operand} {ax : Array Operand} {ts : Array TypeId} (hf : P.funcs[f]? = some fn) (hname : (fn.name == "runtime.NumGoroutine") = false) (hb : fn.body.isSome = true) (args : Array Value)
  (hop : oi.op = .call { callee := .value t, args := ax, argTypes := ts }) (hv : a.eval t = .func (.func f) #[] #[]) (hargs : ax.map a.eval = args)
  (h : Calls P f args w fun e w' => ∃ v, e = .returned v ∧ wpList P ops Q rest (a.put N v) w') : wpList P ops Q (oi :: rest) a w := by
 refine wpList_plain hg fun K hK => ?_
 have he := enters_ hf hname hb args w
 have hrun : (execOp a.eval oi).run P w = .ok (.enter f args) w := by
  unfold execOp
  simp [hop, resolve, Deferred.ofValue, invoke, hv, hargs, he]
 unfold Oper.wp
 rw [hrun, Oper.upon_enter]
 refine h.mono fun e w'' hh => ?_
 obtain ⟨v, rfl, hk⟩ := hh
 subst hd
 exact hK _ _ hk
/-- An operation that yields a value (and may make memory). -/
def impl_Rat_63.l0 : Nat → List (S32) → Int → Int → Option (Int)
 | 0, _, _, _ => none
 | k + 1, x0, x7, x8 => if x8 < x7 then (if 0 ≤ x8 then (if x8 < (x0.length : Int) then ((impl_ratsCode_1.f k ((rd_T32 x0 x8).f0) ((rd_T32 x0 x8).f1) ((rd_T32 x0 x8).f2)).bind fun tC2 => (if tC2 = true then (some x8) else (impl_Rat_63.l0 k x0 x7 (wrap64 (x8 + 1))))) else (none)) else (none)) else (some (-1))
def impl_Rat_63.f (k : Nat) (l0 : List (S32)) : Option (Int) := impl_Rat_63.l0 k l0 (l0.length : Int) 0
set_option maxHeartbeats 8000000 in
set_option maxRecDepth 100000 in
theorem impl_Rat_63.calls (k : Nat) (A0 : Option Addr) (c0 : Nat) (l0 : List (S32)) (r : Int) (w : World) (hr0 : Kd.C k32 w A0 l0.length l0) (hc0 : l0.length ≤ c0) (h : impl_Rat_63.f k l0 = some r) :
  Calls Try.prog 63 #[.slice A0 l0.length c0, .func (.func 45) #[] #[]] w fun e w' => e = .returned (.int .i64 r) ∧ Below w.heap.size w w' := by
 have hu24 := Try.underlying32
 have HR0 := Aside0.mk hr0
 have HC0 := Aside0.mk hc0
 clear hr0 hc0
 have HB := Aside0.mk (Below.refl w.heap.size w)
 have H : (impl_Rat_63.l0 k l0 (l0.length : Int) 0) = some r := h
 clear h
 have H' := Aside0.mk H
 clear H
 go_enter Try.func63, Try.ntmps63
 go_wp2
 go_loopg [8] k (fun kq v8 w' => ∃ (x8_1 : Int), v8 = .int .i64 x8_1 ∧ Aside0 (impl_Rat_63.l0 kq l0 (l0.length : Int) x8_1 = some r) ∧ Aside0 (kq ≤ k) ∧ Aside0 (Below w.heap.size w w'))
 case atStart => exact ⟨(0), rs_, H', ⟨Nat.le_refl _⟩, ⟨blw HB⟩⟩
 case round =>
  clear H'
  try clear c1
  obtain ⟨x8_1, rfl, HA, HK1, HB⟩ := hrel
  cases gk with
  | zero => exact absurd HA.out (by simp [impl_Rat_63.l0])
  | succ k1 =>
   have H := HA.out
   clear HA
   simp only [impl_Rat_63.l0] at H
   by_cases c2 : x8_1 < (l0.length : Int)
   ·
    rw [if_pos c2] at H
    have c2b0 : decide (x8_1 < (l0.length : Int)) = true := decide_eq_true c2
    clear c2
    by_cases c3 : 0 ≤ x8_1
    ·
     rw [if_pos c3] at H
     have c3b0 : decide (0 ≤ x8_1) = true := decide_eq_true c3
     clear c3
     by_cases c4 : x8_1 < (l0.length : Int)
     ·
      rw [if_pos c4] at H
      have c4b0 : decide (x8_1 < (l0.length : Int)) = true := decide_eq_true c4
      clear c4
      replace H := Option.bind_eq_some_iff.mp H
      obtain ⟨tC2, A50, H⟩ := H
      replace H : (if tC2 = true then (some x8_1) else (impl_Rat_63.l0 k1 l0 (l0.length : Int) (wrap64 (x8_1 + 1)))) = some r := H
      have A5 := Aside0.mk A50
      clear A50
      by_cases c6 : tC2 = true
      ·
       subst c6
       rw [if_pos rfl] at H
       obtain rfl := Option.some.inj H
       have pA1 : 0 ≤ (x8_1 : Int) := of_decide_eq_true (by first | (with_reducible assumption) | assumption)
       have qA1 : x8_1 < (l0.length : Int) := of_decide_eq_true (by first | (with_reducible assumption) | assumption)
       obtain ⟨adA1, AA1_1, cA1_1, AA1_2, cA1_2, eA1, hxA1_0, hxA1_1, hxA1_2, hlA1_1, hiA1_1, hlA1_2, hiA1_2⟩ := at_T32 HR0.out x8_1 pA1 qA1
       cases eA1
       replace hxA1_0 := (HB.out.cell (World.block_lt_of_cell? w _ hxA1_0)).trans hxA1_0
       replace hxA1_1 := (HB.out.cell (World.block_lt_of_cell? w _ hxA1_1)).trans hxA1_1
       replace hxA1_2 := (HB.out.cell (World.block_lt_of_cell? w _ hxA1_2)).trans hxA1_2
       have HRA1_1 := Aside0.mk hiA1_1
       have HCA1_1 := Aside0.mk hlA1_1
       clear hiA1_1 hlA1_1
       have HRA1_2 := Aside0.mk hiA1_2
       have HCA1_2 := Aside0.mk hlA1_2
       clear hiA1_2 hlA1_2
       replace pA1 := eq_true pA1
       replace qA1 := eq_true qA1
       go_wp2_with (first | (refine goesD_ (some 16) rfl rfl Try.func45 (by kernel_rfl) rfl #[.agg #[.bool ((rd_T32 l0 x8_1).f0), .slice AA1_1 ((rd_T32 l0 x8_1).f1).length cA1_1, .slice AA1_2 ((rd_T32 l0 x8_1).f2).length cA1_2]] rfl rfl (by (try simp only [List.map_toArray, List.map_cons, List.map_nil]); first | done | rfl | (simp only [List.length_drop, List.length_take]; rfl)) ?_; (with_reducible refine (impl_ratsCode_1.calls k1 ((rd_T32 l0 x8_1).f0) _ _ ((rd_T32 l0 x8_1).f1) _ _ ((rd_T32 l0 x8_1).f2) true _ ?side1 ?side2 ?side3 ?side4 A5.out).mono ?_); (case side1 => exact crC (Kd.C_below HRA1_1.out HB.out)); (case side2 => exact HCA1_1.out); (case side3 => exact crC (Kd.C_below HRA1_2.out HB.out)); (case side4 => exact HCA1_2.out); rintro e w7 ⟨rfl, hb⟩; refine ⟨_, rfl, ?_⟩; replace HB := bst HB hb; (try clear hb); (try clear hb2); (try clear hk); (try clear hi)))
       go_ret
       exact ⟨er_, blw HB⟩
      ·
       replace c6 := Bool.eq_false_iff.mpr c6
       subst c6
       rw [if_neg (show ¬ (false = true) by decide)] at H
       have H' := Aside0.mk H
       clear H
       have pA1 : 0 ≤ (x8_1 : Int) := of_decide_eq_true (by first | (with_reducible assumption) | assumption)
       have qA1 : x8_1 < (l0.length : Int) := of_decide_eq_true (by first | (with_reducible assumption) | assumption)
       obtain ⟨adA1, AA1_1, cA1_1, AA1_2, cA1_2, eA1, hxA1_0, hxA1_1, hxA1_2, hlA1_1, hiA1_1, hlA1_2, hiA1_2⟩ := at_T32 HR0.out x8_1 pA1 qA1
       cases eA1
       replace hxA1_0 := (HB.out.cell (World.block_lt_of_cell? w _ hxA1_0)).trans hxA1_0
       replace hxA1_1 := (HB.out.cell (World.block_lt_of_cell? w _ hxA1_1)).trans hxA1_1
       replace hxA1_2 := (HB.out.cell (World.block_lt_of_cell? w _ hxA1_2)).trans hxA1_2
       have HRA1_1 := Aside0.mk hiA1_1
       have HCA1_1 := Aside0.mk hlA1_1
       clear hiA1_1 hlA1_1
       have HRA1_2 := Aside0.mk hiA1_2
       have HCA1_2 := Aside0.mk hlA1_2
       clear hiA1_2 hlA1_2
       replace pA1 := eq_true pA1
       replace qA1 := eq_true qA1
       go_wp2_with (first | (refine goesD_ (some 16) rfl rfl Try.func45 (by kernel_rfl) rfl #[.agg #[.bool ((rd_T32 l0 x8_1).f0), .slice AA1_1 ((rd_T32 l0 x8_1).f1).length cA1_1, .slice AA1_2 ((rd_T32 l0 x8_1).f2).length cA1_2]] rfl rfl (by (try simp only [List.map_toArray, List.map_cons, List.map_nil]); first | done | rfl | (simp only [List.length_drop, List.length_take]; rfl)) ?_; (with_reducible refine (impl_ratsCode_1.calls k1 ((rd_T32 l0 x8_1).f0) _ _ ((rd_T32 l0 x8_1).f1) _ _ ((rd_T32 l0 x8_1).f2) false _ ?side1 ?side2 ?side3 ?side4 A5.out).mono ?_); (case side1 => exact crC (Kd.C_below HRA1_1.out HB.out)); (case side2 => exact HCA1_1.out); (case side3 => exact crC (Kd.C_below HRA1_2.out HB.out)); (case side4 => exact HCA1_2.out); rintro e w8 ⟨rfl, hb⟩; refine ⟨_, rfl, ?_⟩; replace HB := bst HB hb; (try clear hb); (try clear hb2); (try clear hk); (try clear hi)))
       go_roundg k1
       case measure => have := HK1.out; omega
       case rel => exact ⟨(wrap64 (x8_1 + 1)), rs_, H', ⟨by have := HK1.out; omega⟩, ⟨blw HB⟩⟩
     ·
      rw [if_neg c4] at H
      exact absurd H (by simp)
    ·
     rw [if_neg c3] at H
     exact absurd H (by simp)
   ·
    rw [if_neg c2] at H
    have c2b0 : decide (x8_1 < (l0.length : Int)) = false := decide_eq_false c2
    clear c2
    obtain rfl := Option.some.inj H
    go_wp2
    go_ret
    exact ⟨er_, blw HB⟩
def impl_Rat_44.f (k : Nat) (l0 : List (S32)) : Option (Bool) := (impl_Rat_63.f k l0).bind fun tB7 => (some (decide (tB7 ≥ 0)))
set_option maxHeartbeats 8000000 in
set_option maxRecDepth 100000 in
theorem impl_Rat_44.calls (k : Nat) (A0 : Option Addr) (c0 : Nat) (l0 : List (S32)) (r : Bool) (w : World) (hr0 : Kd.C k32 w A0 l0.length l0) (hc0 : l0.length ≤ c0) (h : impl_Rat_44.f k l0 = some r) :
  Calls Try.prog 44 #[.slice A0 l0.length c0, .func (.func 45) #[] #[]] w fun e w' => e = .returned (.bool r) ∧ Below w.heap.size w w' := by
 have HR0 := Aside0.mk hr0
 have HC0 := Aside0.mk hc0
 clear hr0 hc0
 have HB := Aside0.mk (Below.refl w.heap.size w)
 have H : ((impl_Rat_63.f k l0).bind fun tB7 => (some (decide (tB7 ≥ 0)))) = some r := h
 clear h
 replace H := Option.bind_eq_some_iff.mp H
 obtain ⟨tB7, A20, H⟩ := H
 replace H : (some (decide (tB7 ≥ 0))) = some r := H
 have A2 := Aside0.mk A20
 clear A20
 obtain rfl := Option.some.inj H
 go_enter Try.func44, Try.ntmps44
 go_wp2_with (first | ((with_reducible refine gate_callee (f := 63) rfl ?_); refine gL_ (some 7) Try.func63 #[.slice A0 l0.length c0, .func (.func 45) #[] #[]] ?_; (with_reducible refine (impl_Rat_63.calls k _ _ l0 tB7 _ ?side1 ?side2 A2.out).mono ?_); (case side1 => repeat (first | exact HR0.out | (with_reducible refine Kd.C_alloc ?_ _) | (with_reducible refine Kd.C_drewN ?_ _) | (with_reducible refine Kd.C_drew ?_))); (case side2 => exact HC0.out); rintro e w3 ⟨rfl, hb⟩; refine ⟨_, rfl, ?_⟩; replace HB := bst HB hb; (try clear hb); (try clear hb2); (try clear hk); (try clear hi)))
 go_ret
 exact ⟨er_, blw HB⟩
def impl_ratsCode.f (k : Nat) (l0 : List (S32)) : Option (Int) := (impl_Rat_44.f k l0).bind fun tB4 => ((impl_unless.f (!tB4) 1).bind fun tB5 => (some tB5))
set_option maxHeartbeats 8000000 in
set_option maxRecDepth 100000 in
theorem impl_ratsCode.calls (k : Nat) (A0 : Option Addr) (c0 : Nat) (l0 : List (S32)) (r : Int) (w : World) (hr0 : Kd.C k32 w A0 l0.length l0) (hc0 : l0.length ≤ c0) (h : impl_ratsCode.f k l0 = some r) :
  Calls Try.prog 26 #[.slice A0 l0.length c0] w fun e w' => e = .returned (.int .i64 r) ∧ Below w.heap.size w w' := by
 have HR0 := Aside0.mk hr0
 have HC0 := Aside0.mk hc0
 clear hr0 hc0
 have HB := Aside0.mk (Below.refl w.heap.size w)
 have H : ((impl_Rat_44.f k l0).bind fun tB4 => ((impl_unless.f (!tB4) 1).bind fun tB5 => (some tB5))) = some r := h
 clear h
 replace H := Option.bind_eq_some_iff.mp H
 obtain ⟨tB4, A20, H⟩ := H
 replace H : ((impl_unless.f (!tB4) 1).bind fun tB5 => (some tB5)) = some r := H
 have A2 := Aside0.mk A20
 clear A20
 replace H := Option.bind_eq_some_iff.mp H
 obtain ⟨tB5, A30, H⟩ := H
 replace H : (some tB5) = some r := H
 have A3 := Aside0.mk A30
 clear A30
 obtain rfl := Option.some.inj H
 go_enter Try.func26, Try.ntmps26
 go_wp2_with (first | ((with_reducible refine gate_callee (f := 44) rfl ?_); refine gL_ (some 4) Try.func44 #[.slice A0 l0.length c0, .func (.func 45) #[] #[]] ?_; (with_reducible refine (impl_Rat_44.calls k _ _ l0 tB4 _ ?side1 ?side2 A2.out).mono ?_); (case side1 => repeat (first | exact HR0.out | (with_reducible refine Kd.C_alloc ?_ _) | (with_reducible refine Kd.C_drewN ?_ _) | (with_reducible refine Kd.C_drew ?_))); (case side2 => exact HC0.out); rintro e w4 ⟨rfl, hb⟩; refine ⟨_, rfl, ?_⟩; replace HB := bst HB hb; (try clear hb); (try clear hb2); (try clear hk); (try clear hi)) | ((with_reducible refine gate_callee (f := 43) rfl ?_); refine gL_ (some 6) Try.func43 #[.bool (!tB4), .int .i64 1] ?_; (with_reducible refine (impl_unless.calls (!tB4) 1 tB5 _ A3.out).mono ?_); rintro e w' ⟨rfl, ⟨nd, rfl⟩⟩; refine ⟨_, rfl, ?_⟩))
 go_ret
 exact ⟨er_, blw HB⟩

def impl_VecOK.f (k : Nat) (l0 : List (S32)) : Option (Bool) := if (l0.length : Int) ≥ 1 then (if (l0.length : Int) ≤ 4 then ((impl_ratsCode.f k l0).bind fun tB8 => (some (tB8 == 0))) else (some false)) else (some false)
set_option maxHeartbeats 8000000 in
set_option maxRecDepth 100000 in
theorem impl_VecOK.calls (k : Nat) (A0 : Option Addr) (c0 : Nat) (l0 : List (S32)) (r : Bool) (w : World) (hr0 : Kd.C k32 w A0 l0.length l0) (hc0 : l0.length ≤ c0) (h : impl_VecOK.f k l0 = some r) :
  Calls Try.prog 10 #[.slice A0 l0.length c0] w fun e w' => e = .returned (.bool r) ∧ Below w.heap.size w w' := by
 have HR0 := Aside0.mk hr0
 have HC0 := Aside0.mk hc0
 clear hr0 hc0
 have HB := Aside0.mk (Below.refl w.heap.size w)
 have H : (if (l0.length : Int) ≥ 1 then (if (l0.length : Int) ≤ 4 then ((impl_ratsCode.f k l0).bind fun tB8 => (some (tB8 == 0))) else (some false)) else (some false)) = some r := h
 clear h
 by_cases c2 : (l0.length : Int) ≥ 1
 ·
  rw [if_pos c2] at H
  have c2b0 : decide (1 ≤ (l0.length : Int)) = true := decide_eq_true c2
  have c2b1 : decide (1 ≤ l0.length) = true := decide_eq_true (by omega)
  clear c2
  by_cases c3 : (l0.length : Int) ≤ 4
  ·
   rw [if_pos c3] at H
   have c3b0 : decide ((l0.length : Int) ≤ 4) = true := decide_eq_true c3
   have c3b1 : decide (l0.length ≤ 4) = true := decide_eq_true (by omega)
   clear c3
   replace H := Option.bind_eq_some_iff.mp H
   obtain ⟨tB8, A40, H⟩ := H
   replace H : (some (tB8 == 0)) = some r := H
   have A4 := Aside0.mk A40
   clear A40
   obtain rfl := Option.some.inj H
   go_enter Try.func10, Try.ntmps10
   go_wp2_with (first | (go_at_call 26; (with_reducible refine (impl_ratsCode.calls k _ _ l0 tB8 _ ?side1 ?side2 A4.out).mono ?_); (case side1 => repeat (first | exact HR0.out | (with_reducible refine Kd.C_alloc ?_ _) | (with_reducible refine Kd.C_drewN ?_ _) | (with_reducible refine Kd.C_drew ?_))); (case side2 => exact HC0.out); rintro e w5 ⟨rfl, hb⟩; replace HB := bst HB hb; (try clear hb); (try clear hb2); (try clear hk); (try clear hi)))
   go_ret
   exact ⟨er_, blw HB⟩
  ·
   rw [if_neg c3] at H
   have c3b0 : decide ((l0.length : Int) ≤ 4) = false := decide_eq_false c3
   have c3b1 : decide (l0.length ≤ 4) = false := decide_eq_false (by omega)
   clear c3
   obtain rfl := Option.some.inj H
   go_enter Try.func10, Try.ntmps10
   go_wp2
   go_ret
   exact ⟨er_, blw HB⟩
 ·
  rw [if_neg c2] at H
  have c2b0 : decide (1 ≤ (l0.length : Int)) = false := decide_eq_false c2
  have c2b1 : decide (1 ≤ l0.length) = false := decide_eq_false (by omega)
  clear c2
  obtain rfl := Option.some.inj H
  go_enter Try.func10, Try.ntmps10
  go_wp2
  go_ret
  exact ⟨er_, blw HB⟩

def impl_Rat_fits.f (a0_0 : Bool) (l0_1 : List Int) (l0_2 : List Int) : Option (Bool) := if (l0_1.length : Int) ≤ 40 then (some (decide ((l0_2.length : Int) ≤ 40))) else (some false)
set_option maxHeartbeats 8000000 in
set_option maxRecDepth 100000 in
theorem impl_Rat_fits.calls (a0_0 : Bool) (A0_1 : Option Addr) (c0_1 : Nat) (l0_1 : List Int) (A0_2 : Option Addr) (c0_2 : Nat) (l0_2 : List Int) (r : Bool) (w : World) (hr0_1 : Kd.C (Kd.int .i64) w A0_1 l0_1.length l0_1) (hc0_1 : l0_1.length ≤ c0_1) (hr0_2 : Kd.C (Kd.int .i64) w A0_2 l0_2.length l0_2) (hc0_2 : l0_2.length ≤ c0_2) (h : impl_Rat_fits.f a0_0 l0_1 l0_2 = some r) :
  Calls Try.prog 57 #[.agg #[.bool a0_0, .slice A0_1 l0_1.length c0_1, .slice A0_2 l0_2.length c0_2]] w fun e w' => e = .returned (.bool r) ∧ Below w.heap.size w w' := by
 have hu32 := Try.underlying32
 have HR0_1 := Aside0.mk hr0_1
 have HC0_1 := Aside0.mk hc0_1
 clear hr0_1 hc0_1
 have HR0_2 := Aside0.mk hr0_2
 have HC0_2 := Aside0.mk hc0_2
 clear hr0_2 hc0_2
 have HB := Aside0.mk (Below.refl w.heap.size w)
 have H : (if (l0_1.length : Int) ≤ 40 then (some (decide ((l0_2.length : Int) ≤ 40))) else (some false)) = some r := h
 clear h
 by_cases c2 : (l0_1.length : Int) ≤ 40
 ·
  rw [if_pos c2] at H
  have c2b0 : decide ((l0_1.length : Int) ≤ 40) = true := decide_eq_true c2
  have c2b1 : decide (l0_1.length ≤ 40) = true := decide_eq_true (by omega)
  clear c2
  obtain rfl := Option.some.inj H
  go_enter Try.func57, Try.ntmps57
  go_wp2_with (first | ((with_reducible refine gate_dst (N := 1) rfl ?_); (try (refine gate_guard (by rfl) ?_; dsimp only)); refine bx_ (N := 1) (cs := #[.bool a0_0, .slice A0_1 l0_1.length c0_1, .slice A0_2 l0_2.length c0_2]) (t := 32) ?_; intro gbB0 hg w3 hbox hb; have BKB0 := Aside0.mk (hbox); have GWB0 := geh hg HB; have GEB0 := geh hg HB; replace HB := bst HB hb; clear hb hbox hg; obtain ⟨hcz4_0, hcz4_1, hcz4_2, hfz4_0, hfz4_1, hfz4_2⟩ := bc3 BKB0))
  go_ret
  exact ⟨er_, blw HB⟩
 ·
  rw [if_neg c2] at H
  have c2b0 : decide ((l0_1.length : Int) ≤ 40) = false := decide_eq_false c2
  have c2b1 : decide (l0_1.length ≤ 40) = false := decide_eq_false (by omega)
  clear c2
  obtain rfl := Option.some.inj H
  go_enter Try.func57, Try.ntmps57
  go_wp2_with (first | ((with_reducible refine gate_dst (N := 1) rfl ?_); (try (refine gate_guard (by rfl) ?_; dsimp only)); refine bx_ (N := 1) (cs := #[.bool a0_0, .slice A0_1 l0_1.length c0_1, .slice A0_2 l0_2.length c0_2]) (t := 32) ?_; intro gbB0 hg w5 hbox hb; have BKB0 := Aside0.mk (hbox); have GWB0 := geh hg HB; have GEB0 := geh hg HB; replace HB := bst HB hb; clear hb hbox hg; obtain ⟨hcz6_0, hcz6_1, hcz6_2, hfz6_0, hfz6_1, hfz6_2⟩ := bc3 BKB0))
  go_ret
  exact ⟨er_, blw HB⟩

def impl_fullRat.f (a0_0 : Bool) (l0_1 : List Int) (l0_2 : List Int) : Option (Bool × List Int × List Int × Int) := (impl_Rat_fits.f a0_0 l0_1 l0_2).bind fun tB9 => (if tB9 = true then (some (a0_0, l0_1, l0_2, 0)) else (some (false, ([] : List Int), ([] : List Int), 7)))
set_option maxHeartbeats 8000000 in
set_option maxRecDepth 100000 in
theorem impl_fullRat.calls (a0_0 : Bool) (P0_1_ : Nat → Prop) (uB1_ : Value) (l0_1 : List Int) (P0_2_ : Nat → Prop) (uB2_ : Value) (l0_2 : List Int) (r1 : Bool) (r2 : List Int) (r3 : List Int) (r4 : Int) (w0 w : World) (hB : Below w0.heap.size w0 w) (ho0_1 : Kd.R (Kd.int .i64) 3 w w0.heap.size P0_1_ uB1_ l0_1) (hp0_1_0_2 : ∀ k_, P0_1_ k_ → ¬ P0_2_ k_) (ho0_2 : Kd.R (Kd.int .i64) 3 w w0.heap.size P0_2_ uB2_ l0_2) (hp0_2_0_1 : ∀ k_, P0_2_ k_ → ¬ P0_1_ k_) (h : impl_fullRat.f a0_0 l0_1 l0_2 = some (r1, r2, r3, r4)) :
  Calls Try.prog 33 #[.agg #[.bool a0_0, uB1_, uB2_]] w fun e w' => ∃ v1_ v2_ : Value, e = .returned (.tuple #[.agg #[.bool r1, v1_, v2_], .int .i64 r4]) ∧ Kd.R (Kd.int .i64) 3 w' w0.heap.size (fun k_ => ((P0_1_ k_ ∨ P0_2_ k_) ∨ w.heap.size ≤ k_) ∧ nO k_ v2_) v1_ r2 ∧ Kd.R (Kd.int .i64) 3 w' w0.heap.size (fun k_ => ((P0_1_ k_ ∨ P0_2_ k_) ∨ w.heap.size ≤ k_) ∧ nO k_ v1_) v2_ r3 ∧ Below w0.heap.size w0 w' ∧ Kept w w' (fun k_ => P0_1_ k_ ∨ P0_2_ k_) := by
 have hu32 := Try.underlying32
 have HO0_1 := Aside0.mk (show Kd.R (Kd.int .i64) 3 w w0.heap.size (fun k_ => ((P0_1_ k_ ∨ P0_2_ k_) ∨ w.heap.size ≤ k_) ∧ nO k_ uB2_) uB1_ l0_1 from Kd.R_mono ho0_1 (fun k_ hk => ⟨(.inl (.inl hk)), fun e_ => hp0_1_0_2 k_ hk (ho0_2.1 k_ e_.symm)⟩))
 have HO0_2 := Aside0.mk (show Kd.R (Kd.int .i64) 3 w w0.heap.size (fun k_ => ((P0_1_ k_ ∨ P0_2_ k_) ∨ w.heap.size ≤ k_) ∧ nO k_ uB1_) uB2_ l0_2 from Kd.R_mono ho0_2 (fun k_ hk => ⟨(.inl (.inr hk)), fun e_ => hp0_2_0_1 k_ hk (ho0_1.1 k_ e_.symm)⟩))
 have HK := Aside0.mk (Kept.refl w (fun k_ => P0_1_ k_ ∨ P0_2_ k_))
 have HW0 := Aside0.mk hB.size
 have HB := Aside0.mk hB
 clear hB
 have H : ((impl_Rat_fits.f a0_0 l0_1 l0_2).bind fun tB9 => (if tB9 = true then (some (a0_0, l0_1, l0_2, 0)) else (some (false, ([] : List Int), ([] : List Int), 7)))) = some (r1, r2, r3, r4) := h
 clear h
 replace H := Option.bind_eq_some_iff.mp H
 obtain ⟨tB9, A20, H⟩ := H
 replace H : (if tB9 = true then (some (a0_0, l0_1, l0_2, 0)) else (some (false, ([] : List Int), ([] : List Int), 7))) = some (r1, r2, r3, r4) := H
 have A2 := Aside0.mk A20
 clear A20
 by_cases c3 : tB9 = true
 ·
  subst c3
  rw [if_pos rfl] at H
  simp only [Option.some.injEq, Prod.mk.injEq] at H
  obtain ⟨rfl, rfl, rfl, rfl⟩ := H
  obtain ⟨Ao4, co4, eo4⟩ := Kd.R_slice HO0_1.out
  subst eo4
  obtain ⟨Ao5, co5, eo5⟩ := Kd.R_slice HO0_2.out
  subst eo5
  go_enter Try.func33, Try.ntmps33
  go_wp2_with (first | ((with_reducible refine gate_dst (N := 1) rfl ?_); refine bx_ (N := 1) (cs := #[.bool a0_0, .slice Ao4 l0_1.length co4, .slice Ao5 l0_2.length co5]) (t := 32) ?_; intro gbA5 hg w6 hbox hb; replace HO0_1 := rblR HO0_1 hb; replace HO0_2 := rblR HO0_2 hb; have BKA5 := Aside0.mk (hbox); have GWA5 := Aside0.mk ((by rw [hg]; exact (by first | exact HK.out.1 | exact (show Kept w _ (fun k_ => P0_1_ k_ ∨ P0_2_ k_) from by repeat (first | (with_reducible first | exact HK.out | apply Kept.alloc | apply Kept.drewN | apply Kept.drew) | exact HK.out)).1) : w.heap.size ≤ gbA5)); replace HK := Aside0.mk (Kept.below (S := (fun k_ => P0_1_ k_ ∨ P0_2_ k_)) (by repeat (first | (with_reducible first | exact HK.out | apply Kept.alloc | apply Kept.drewN | apply Kept.drew) | exact HK.out)) hb); have GEA5 := geh hg HB; replace HB := bst HB hb; clear hb hbox hg) | ((with_reducible refine gate_dst (N := 2) rfl ?_); refine bx_ (N := 2) (cs := #[.bool false, .slice none 0 0, .slice none 0 0]) (t := 32) ?_; intro gbA6 hg w7 hbox hb; replace HO0_1 := rblR HO0_1 hb; replace HO0_2 := rblR HO0_2 hb; have BKA6 := Aside0.mk (hbox); have GWA6 := Aside0.mk ((by rw [hg]; exact (by first | exact HK.out.1 | exact (show Kept w _ (fun k_ => P0_1_ k_ ∨ P0_2_ k_) from by repeat (first | (with_reducible first | exact HK.out | apply Kept.alloc | apply Kept.drewN | apply Kept.drew | refine Kept.setCell ?_ (.inr GWA5.out) _) | exact HK.out)).1) : w.heap.size ≤ gbA6)); replace HK := Aside0.mk (Kept.below (S := (fun k_ => P0_1_ k_ ∨ P0_2_ k_)) (by repeat (first | (with_reducible first | exact HK.out | apply Kept.alloc | apply Kept.drewN | apply Kept.drew | refine Kept.setCell ?_ (.inr GWA5.out) _) | exact HK.out)) hb); have GEA6 := geh hg HB; replace HB := bst HB hb; have NBA5_A6 := nlt hg BKA5; have NBA6_A5 := ngt hg BKA5; replace BKA5 := bkb BKA5 hb; clear hb hbox hg; have hnb8 := NBA5_A6.out; have hnc8 := NBA6_A5.out; obtain ⟨hcz9_0, hcz9_1, hcz9_2, hfz9_0, hfz9_1, hfz9_2⟩ := bc3 BKA5) | ((with_reducible refine gate_callee (f := 57) rfl ?_); refine gL_ (some 5) Try.func57 #[.agg #[.bool a0_0, .slice Ao4 l0_1.length co4, .slice Ao5 l0_2.length co5]] ?_; (with_reducible refine (impl_Rat_fits.calls a0_0 _ _ l0_1 _ _ l0_2 true _ ?side1 ?side2 ?side3 ?side4 A2.out).mono ?_); (case side1 => exact crC (Kd.R_reads' HO0_1.out).2.2); (case side2 => exact (Kd.R_reads' HO0_1.out).2.1); (case side3 => exact crC (Kd.R_reads' HO0_2.out).2.2); (case side4 => exact (Kd.R_reads' HO0_2.out).2.1); rintro e w10 ⟨rfl, hb⟩; refine ⟨_, rfl, ?_⟩; replace HO0_1 := rblR HO0_1 hb; replace HO0_2 := rblR HO0_2 hb; replace BKA5 := bkb BKA5 hb; replace BKA6 := bkb BKA6 hb; replace HK := Aside0.mk (Kept.below (S := (fun k_ => P0_1_ k_ ∨ P0_2_ k_)) (by repeat (first | (with_reducible first | exact HK.out | apply Kept.alloc | apply Kept.drewN | apply Kept.drew | refine Kept.setCell ?_ (.inr GWA5.out) _ | refine Kept.setCell ?_ (.inr GWA6.out) _) | exact HK.out)) hb); replace HB := bst HB hb; (try clear hb); (try clear hb2); (try clear hk); (try clear hi); obtain ⟨hcz11_0, hcz11_1, hcz11_2, hfz11_0, hfz11_1, hfz11_2⟩ := bc3 BKA5; obtain ⟨hcz12_0, hcz12_1, hcz12_2, hfz12_0, hfz12_1, hfz12_2⟩ := bc3 BKA6))
  refine bodyPost_ret (results_ct rfl _ _ gbA6 32 #[.bool a0_0, .slice Ao4 l0_1.length co4, .slice Ao5 l0_2.length co5] (0, 0) _ rfl (bp3 BKA6 _ _ _) Try.underlying32 rfl (by kernel_rfl)) rfl ?_
  exact ⟨_, _, er_, (crN HO0_1 BKA6 fun _ hk => ⟨hk.1.1, hk.1.2⟩), (crN HO0_2 BKA6 fun _ hk => ⟨hk.1.1, hk.1.2⟩), by repeat (first | (with_reducible first | exact HB.out | apply below_alloc | apply pw_below_drewN | apply below_drew1 | refine below_set ?_ GEA5.out | refine below_set ?_ GEA6.out) | exact HB.out), by repeat (first | (with_reducible first | exact HK.out | apply Kept.alloc | apply Kept.drewN | apply Kept.drew | refine Kept.setCell ?_ (.inr GWA5.out) _ | refine Kept.setCell ?_ (.inr GWA6.out) _) | exact HK.out)⟩
 ·
  replace c3 := Bool.eq_false_iff.mpr c3
  subst c3
  rw [if_neg (show ¬ (false = true) by decide)] at H
  simp only [Option.some.injEq, Prod.mk.injEq] at H
  obtain ⟨rfl, rfl, rfl, rfl⟩ := H
  obtain ⟨Ao13, co13, eo13⟩ := Kd.R_slice HO0_1.out
  subst eo13
  obtain ⟨Ao14, co14, eo14⟩ := Kd.R_slice HO0_2.out
  subst eo14
  go_enter Try.func33, Try.ntmps33
  go_wp2_with (first | ((with_reducible refine gate_dst (N := 1) rfl ?_); refine bx_ (N := 1) (cs := #[.bool a0_0, .slice Ao13 l0_1.length co13, .slice Ao14 l0_2.length co14]) (t := 32) ?_; intro gbA5 hg w15 hbox hb; replace HO0_1 := rblR HO0_1 hb; replace HO0_2 := rblR HO0_2 hb; have BKA5 := Aside0.mk (hbox); have GWA5 := Aside0.mk ((by rw [hg]; exact (by first | exact HK.out.1 | exact (show Kept w _ (fun k_ => P0_1_ k_ ∨ P0_2_ k_) from by repeat (first | (with_reducible first | exact HK.out | apply Kept.alloc | apply Kept.drewN | apply Kept.drew) | exact HK.out)).1) : w.heap.size ≤ gbA5)); replace HK := Aside0.mk (Kept.below (S := (fun k_ => P0_1_ k_ ∨ P0_2_ k_)) (by repeat (first | (with_reducible first | exact HK.out | apply Kept.alloc | apply Kept.drewN | apply Kept.drew) | exact HK.out)) hb); have GEA5 := geh hg HB; replace HB := bst HB hb; clear hb hbox hg) | ((with_reducible refine gate_dst (N := 2) rfl ?_); refine bx_ (N := 2) (cs := #[.bool false, .slice none 0 0, .slice none 0 0]) (t := 32) ?_; intro gbA6 hg w16 hbox hb; replace HO0_1 := rblR HO0_1 hb; replace HO0_2 := rblR HO0_2 hb; have BKA6 := Aside0.mk (hbox); have GWA6 := Aside0.mk ((by rw [hg]; exact (by first | exact HK.out.1 | exact (show Kept w _ (fun k_ => P0_1_ k_ ∨ P0_2_ k_) from by repeat (first | (with_reducible first | exact HK.out | apply Kept.alloc | apply Kept.drewN | apply Kept.drew | refine Kept.setCell ?_ (.inr GWA5.out) _) | exact HK.out)).1) : w.heap.size ≤ gbA6)); replace HK := Aside0.mk (Kept.below (S := (fun k_ => P0_1_ k_ ∨ P0_2_ k_)) (by repeat (first | (with_reducible first | exact HK.out | apply Kept.alloc | apply Kept.drewN | apply Kept.drew | refine Kept.setCell ?_ (.inr GWA5.out) _) | exact HK.out)) hb); have GEA6 := geh hg HB; replace HB := bst HB hb; have NBA5_A6 := nlt hg BKA5; have NBA6_A5 := ngt hg BKA5; replace BKA5 := bkb BKA5 hb; clear hb hbox hg; have hnb17 := NBA5_A6.out; have hnc17 := NBA6_A5.out; obtain ⟨hcz18_0, hcz18_1, hcz18_2, hfz18_0, hfz18_1, hfz18_2⟩ := bc3 BKA5) | ((with_reducible refine gate_callee (f := 57) rfl ?_); refine gL_ (some 5) Try.func57 #[.agg #[.bool a0_0, .slice Ao13 l0_1.length co13, .slice Ao14 l0_2.length co14]] ?_; (with_reducible refine (impl_Rat_fits.calls a0_0 _ _ l0_1 _ _ l0_2 false _ ?side1 ?side2 ?side3 ?side4 A2.out).mono ?_); (case side1 => exact crC (Kd.R_reads' HO0_1.out).2.2); (case side2 => exact (Kd.R_reads' HO0_1.out).2.1); (case side3 => exact crC (Kd.R_reads' HO0_2.out).2.2); (case side4 => exact (Kd.R_reads' HO0_2.out).2.1); rintro e w19 ⟨rfl, hb⟩; refine ⟨_, rfl, ?_⟩; replace HO0_1 := rblR HO0_1 hb; replace HO0_2 := rblR HO0_2 hb; replace BKA5 := bkb BKA5 hb; replace BKA6 := bkb BKA6 hb; replace HK := Aside0.mk (Kept.below (S := (fun k_ => P0_1_ k_ ∨ P0_2_ k_)) (by repeat (first | (with_reducible first | exact HK.out | apply Kept.alloc | apply Kept.drewN | apply Kept.drew | refine Kept.setCell ?_ (.inr GWA5.out) _ | refine Kept.setCell ?_ (.inr GWA6.out) _) | exact HK.out)) hb); replace HB := bst HB hb; (try clear hb); (try clear hb2); (try clear hk); (try clear hi); obtain ⟨hcz20_0, hcz20_1, hcz20_2, hfz20_0, hfz20_1, hfz20_2⟩ := bc3 BKA6))
  refine bodyPost_ret (results_ct rfl _ _ gbA6 32 #[.bool false, .slice none 0 0, .slice none 0 0] (0, 0) _ rfl (bp3 BKA6 _ _ _) Try.underlying32 rfl (by kernel_rfl)) rfl ?_
  exact ⟨_, _, er_, by first | exact Kd.R_nil _ _ _ _ _ | exact Kd.N_nil _ _ _ _ _ | exact Kd.V_nil _ _ _ _ _ | exact Kd.Q_nil _ _ _ _ _ | exact Kd.S_nil _ _ _ _ _, by first | exact Kd.R_nil _ _ _ _ _ | exact Kd.N_nil _ _ _ _ _ | exact Kd.V_nil _ _ _ _ _ | exact Kd.Q_nil _ _ _ _ _ | exact Kd.S_nil _ _ _ _ _, by repeat (first | (with_reducible first | exact HB.out | apply below_alloc | apply pw_below_drewN | apply below_drew1 | refine below_set ?_ GEA5.out | refine below_set ?_ GEA6.out) | exact HB.out), by repeat (first | (with_reducible first | exact HK.out | apply Kept.alloc | apply Kept.drewN | apply Kept.drew | refine Kept.setCell ?_ (.inr GWA5.out) _ | refine Kept.setCell ?_ (.inr GWA6.out) _) | exact HK.out)⟩

def impl_Rat_times.f (k : Nat) (a0_0 : Bool) (l0_1 : List Int) (l0_2 : List Int) (a1_0 : Bool) (l1_1 : List Int) (l1_2 : List Int) : Option (Bool × List Int × List Int) := (impl_natMul.f k l0_1 l1_1).bind fun tB3 => ((impl_natMul.f k l0_2 l1_2).bind fun tA8 => ((impl_lowest.f k (a0_0 != a1_0) tB3 tA8).bind fun btA7 => (some (btA7.1, btA7.2.1, btA7.2.2))))
def impl_Rat_times.T1 : Bool × List (List Nat × List Nat) := (true, [([], []), ([0], [0]), ([], []), ([2], [2]), ([1, 3], [1, 3]), ([], []), ([5], [5]), ([], []), ([7], [7]), ([6, 8], [6, 8]), ([], []), ([10], [10]), ([], []), ([12], [12]), ([11, 13, 9], [11, 13]), ([4, 9, 14, 14], [4, 9, 14]), ([15, 15, 0, 1, 2, 3, 4, 5, 6, 7, 8, 9, 10, 11, 12, 13, 14, 15], [15])])
def impl_Rat_times.B1 : List Nat := [0, 1, 0, 4, 15, 0, 32, 0, 128, 480, 0, 1024, 0, 4096, 16352, 32767, 65535]
theorem impl_Rat_times.tab1 : rtab .any (opsOf Try.f60 1) = impl_Rat_times.T1 := by kernel_rfl
theorem impl_Rat_times.bits1 : waitsOk impl_Rat_times.T1.2 impl_Rat_times.B1 = true := by kernel_rfl
set_option maxHeartbeats 8000000 in
set_option maxRecDepth 100000 in
theorem impl_Rat_times.calls (k : Nat) (a0_0 : Bool) (A0_1 : Option Addr) (c0_1 : Nat) (l0_1 : List Int) (A0_2 : Option Addr) (c0_2 : Nat) (l0_2 : List Int) (a1_0 : Bool) (A1_1 : Option Addr) (c1_1 : Nat) (l1_1 : List Int) (A1_2 : Option Addr) (c1_2 : Nat) (l1_2 : List Int) (r1 : Bool) (r2 : List Int) (r3 : List Int) (w : World) (hr0_1 : Kd.C (Kd.int .i64) w A0_1 l0_1.length l0_1) (hc0_1 : l0_1.length ≤ c0_1) (hr0_2 : Kd.C (Kd.int .i64) w A0_2 l0_2.length l0_2) (hc0_2 : l0_2.length ≤ c0_2) (hr1_1 : Kd.C (Kd.int .i64) w A1_1 l1_1.length l1_1) (hc1_1 : l1_1.length ≤ c1_1) (hr1_2 : Kd.C (Kd.int .i64) w A1_2 l1_2.length l1_2) (hc1_2 : l1_2.length ≤ c1_2) (h : impl_Rat_times.f k a0_0 l0_1 l0_2 a1_0 l1_1 l1_2 = some (r1, r2, r3)) :
  Calls Try.prog 60 #[.agg #[.bool a0_0, .slice A0_1 l0_1.length c0_1, .slice A0_2 l0_2.length c0_2], .agg #[.bool a1_0, .slice A1_1 l1_1.length c1_1, .slice A1_2 l1_2.length c1_2]] w fun e w' => ∃ v1_ v2_ : Value, e = .returned (.agg #[.bool r1, v1_, v2_]) ∧ Kd.R (Kd.int .i64) 3 w' w.heap.size (fun k_ => nO k_ v2_) v1_ r2 ∧ Kd.R (Kd.int .i64) 3 w' w.heap.size (fun k_ => nO k_ v1_) v2_ r3 ∧ Below w.heap.size w w' := by
 have hu32 := Try.underlying32
 have HR0_1 := Aside0.mk hr0_1
 have HC0_1 := Aside0.mk hc0_1
 clear hr0_1 hc0_1
 have HR0_2 := Aside0.mk hr0_2
 have HC0_2 := Aside0.mk hc0_2
 clear hr0_2 hc0_2
 have HR1_1 := Aside0.mk hr1_1
 have HC1_1 := Aside0.mk hc1_1
 clear hr1_1 hc1_1
 have HR1_2 := Aside0.mk hr1_2
 have HC1_2 := Aside0.mk hc1_2
 clear hr1_2 hc1_2
 have HB := Aside0.mk (Below.refl w.heap.size w)
 have H : ((impl_natMul.f k l0_1 l1_1).bind fun tB3 => ((impl_natMul.f k l0_2 l1_2).bind fun tA8 => ((impl_lowest.f k (a0_0 != a1_0) tB3 tA8).bind fun btA7 => (some (btA7.1, btA7.2.1, btA7.2.2))))) = some (r1, r2, r3) := h
 clear h
 replace H := Option.bind_eq_some_iff.mp H
 obtain ⟨tB3, A30, H⟩ := H
 replace H : ((impl_natMul.f k l0_2 l1_2).bind fun tA8 => ((impl_lowest.f k (a0_0 != a1_0) tB3 tA8).bind fun btA7 => (some (btA7.1, btA7.2.1, btA7.2.2)))) = some (r1, r2, r3) := H
 have A3 := Aside0.mk A30
 clear A30
 replace H := Option.bind_eq_some_iff.mp H
 obtain ⟨tA8, A40, H⟩ := H
 replace H : ((impl_lowest.f k (a0_0 != a1_0) tB3 tA8).bind fun btA7 => (some (btA7.1, btA7.2.1, btA7.2.2))) = some (r1, r2, r3) := H
 have A4 := Aside0.mk A40
 clear A40
 replace H := Option.bind_eq_some_iff.mp H
 obtain ⟨⟨tA7, tC3, tC4⟩, A50, H⟩ := H
 replace H : (some (tA7, tC3, tC4)) = some (r1, r2, r3) := H
 have A5 := Aside0.mk A50
 clear A50
 simp only [Option.some.injEq, Prod.mk.injEq] at H
 obtain ⟨rfl, rfl, rfl⟩ := H
 go_enter Try.func60, Try.ntmps60
 try go_wp2_with (first | ((with_reducible refine gate_dst (N := 2) rfl ?_); refine bx_ (N := 2) (cs := #[.bool a0_0, .slice A0_1 l0_1.length c0_1, .slice A0_2 l0_2.length c0_2]) (t := 32) ?_; intro gbA3 hg w6 hbox hb; have BKA3 := Aside0.mk (hbox); have GWA3 := geh hg HB; have GEA3 := geh hg HB; replace HB := bst HB hb; clear hb hbox hg) | ((with_reducible refine gate_dst (N := 3) rfl ?_); refine bx_ (N := 3) (cs := #[.bool a1_0, .slice A1_1 l1_1.length c1_1, .slice A1_2 l1_2.length c1_2]) (t := 32) ?_; intro gbA4 hg w7 hbox hb; have BKA4 := Aside0.mk (hbox); have GWA4 := geh hg HB; have GEA4 := geh hg HB; replace HB := bst HB hb; have NBA3_A4 := nlt hg BKA3; have NBA4_A3 := ngt hg BKA3; replace BKA3 := bkb BKA3 hb; clear hb hbox hg) | ((with_reducible refine gate_dst (N := 4) rfl ?_); refine bx_ (N := 4) (cs := #[.bool false, .slice none 0 0, .slice none 0 0]) (t := 32) ?_; intro gbA2 hg w8 hbox hb; have BKA2 := Aside0.mk (hbox); have GWA2 := geh hg HB; have GEA2 := geh hg HB; replace HB := bst HB hb; have NBA3_A2 := nlt hg BKA3; have NBA2_A3 := ngt hg BKA3; replace BKA3 := bkb BKA3 hb; have NBA4_A2 := nlt hg BKA4; have NBA2_A4 := ngt hg BKA4; replace BKA4 := bkb BKA4 hb; clear hb hbox hg))
 replace BKA3 := Aside0.mk (blk_drew BKA3.out)
 replace BKA4 := Aside0.mk (blk_drew BKA4.out)
 replace BKA2 := Aside0.mk (blk_drew BKA2.out)
 replace HB := Aside0.mk (below_drew1 HB.out)
 refine start_ (n := 17) (S := fun w' => w'.cell? ⟨gbA3, 0, none⟩ = some (.bool a0_0) ∧ w'.cell? ⟨gbA3, 1, none⟩ = some (.slice A0_1 l0_1.length c0_1) ∧ w'.cell? ⟨gbA3, 2, none⟩ = some (.slice A0_2 l0_2.length c0_2) ∧ w'.cell? ⟨gbA4, 0, none⟩ = some (.bool a1_0) ∧ w'.cell? ⟨gbA4, 1, none⟩ = some (.slice A1_1 l1_1.length c1_1) ∧ w'.cell? ⟨gbA4, 2, none⟩ = some (.slice A1_2 l1_2.length c1_2)) (ds := []) (bm 17 0) (by kernel_rfl) rfl rfl ⟨bce BKA3 0 _, bce BKA3 1 _, bce BKA3 2 _, bce BKA4 0 _, bce BKA4 1 _, bce BKA4 2 _⟩ (fun hHeld => ?_); refine with_tabW impl_Rat_times.tab1 impl_Rat_times.bits1 (fun HT_ HW_ => ?_)
 generalize w8.drew = w9 at BKA3 BKA4 BKA2 HB hHeld ⊢
 refine pu_ 0 (some 5) (bm 17 1) HT_.out ?_
 refine pu_ 2 (some 7) (bm 17 5) HT_.out ?_
 refine pu_ 5 (some 10) (bm 17 37) HT_.out ?_
 refine pu_ 7 (some 12) (bm 17 165) HT_.out ?_
 refine pu_ 10 (some 15) (bm 17 1189) HT_.out ?_
 refine pu_ 12 (some 17) (bm 17 5285) HT_.out ?_
 refine tk_ 1 (some 6) (bm 17 5287) HT_.out HW_.out hHeld ?_
 refine tk_ 3 (some 8) (bm 17 5295) HT_.out HW_.out hHeld ?_
 refine pu_ 4 (some 9) (bm 17 5311) HT_.out ?_
 refine tk_ 6 (some 11) (bm 17 5375) HT_.out HW_.out hHeld ?_
 refine tk_ 8 (some 13) (bm 17 5631) HT_.out HW_.out hHeld ?_
 refine tk_ 11 (some 16) (bm 17 7679) HT_.out HW_.out hHeld ?_
 refine tk_ 13 (some 18) (bm 17 15871) HT_.out HW_.out hHeld ?_
 refine one_ (i := 9) (N := some 14) (bm 17 16383) rfl rfl (one_of HT_.out (by kernel_rfl)) (by decide) (fun K hK => ?_)
 refine g_ Try.func72 #[.slice A0_1 l0_1.length c0_1, .slice A1_1 l1_1.length c1_1] ?_
 with_reducible refine (impl_natMul.calls k _ _ l0_1 _ _ l1_1 tB3 _ ?side1 ?side2 ?side3 ?side4 A3.out).mono ?_
 (case side1 => exact crC (Kd.C_below HR0_1.out HB.out))
 (case side2 => exact HC0_1.out)
 (case side3 => exact crC (Kd.C_below HR1_1.out HB.out))
 (case side4 => exact HC1_1.out)
 rintro e w10 ⟨vC7, rfl, ho0, hb⟩
 refine ⟨_, rfl, ?_⟩
 have HOA9 := lwR ho0 HB
 replace BKA3 := bkb BKA3 hb
 replace BKA4 := bkb BKA4 hb
 replace BKA2 := bkb BKA2 hb
 replace HB := bst HB hb
 (try clear hb)
 (try clear hb2)
 (try clear hk)
 (try clear hi)
 (try clear ho0)
 refine hK.out _ _ ⟨bce BKA3 0 _, bce BKA3 1 _, bce BKA3 2 _, bce BKA4 0 _, bce BKA4 1 _, bce BKA4 2 _⟩ (fun hHeld => ?_)
 clear hK K
 refine nm_ 14 ?_
 refine one_ (i := 14) (N := some 19) (bm 17 32767) rfl rfl (one_of HT_.out (by kernel_rfl)) (by decide) (fun K hK => ?_)
 refine g_ Try.func72 #[.slice A0_2 l0_2.length c0_2, .slice A1_2 l1_2.length c1_2] ?_
 with_reducible refine (impl_natMul.calls k _ _ l0_2 _ _ l1_2 tA8 _ ?side1 ?side2 ?side3 ?side4 A4.out).mono ?_
 (case side1 => exact crC (Kd.C_below HR0_2.out HB.out))
 (case side2 => exact HC0_2.out)
 (case side3 => exact crC (Kd.C_below HR1_2.out HB.out))
 (case side4 => exact HC1_2.out)
 rintro e w11 ⟨vC8, rfl, ho0, hb⟩
 refine ⟨_, rfl, ?_⟩
 have HOB6 := lwR (nwR ho0 HOA9) HB
 replace HOA9 := eldR HOA9 (Kd.R_base ho0) hb
 replace BKA3 := bkb BKA3 hb
 replace BKA4 := bkb BKA4 hb
 replace BKA2 := bkb BKA2 hb
 replace HB := bst HB hb
 (try clear hb)
 (try clear hb2)
 (try clear hk)
 (try clear hi)
 (try clear ho0)
 obtain ⟨Ao12, co12, eo12⟩ := Kd.R_slice HOA9.out
 (first | subst eo12 | (injection eo12 with f1_ f2_ f3_; have f4_ := f1_.symm; have f5_ := f3_.symm; clear f1_ f2_ f3_; subst f4_; subst f5_))
 obtain ⟨Ao13, co13, eo13⟩ := Kd.R_slice HOB6.out
 (first | subst eo13 | (injection eo13 with f1_ f2_ f3_; have f4_ := f1_.symm; have f5_ := f3_.symm; clear f1_ f2_ f3_; subst f4_; subst f5_))
 refine hK.out _ _ ⟨bce BKA3 0 _, bce BKA3 1 _, bce BKA3 2 _, bce BKA4 0 _, bce BKA4 1 _, bce BKA4 2 _⟩ (fun hHeld => ?_)
 clear hK K
 refine nm_ 19 ?_
 refine one_ (i := 15) (N := some 20) (bm 17 65535) rfl rfl (one_of HT_.out (by kernel_rfl)) (by decide) (fun K hK => ?_)
 refine g_ Try.func80 #[.bool (a0_0 != a1_0), .slice Ao12 tB3.length co12, .slice Ao13 tA8.length co13] ?_
 with_reducible refine (impl_lowest.calls k (a0_0 != a1_0) _ _ tB3 _ _ tA8 tA7 tC3 tC4 _ ?side1 ?side2 ?side3 ?side4 A5.out).mono ?_
 (case side1 => exact crC (Kd.R_reads' HOA9.out).2.2)
 (case side2 => exact (Kd.R_reads' HOA9.out).2.1)
 (case side3 => exact crC (Kd.R_reads' HOB6.out).2.2)
 (case side4 => exact (Kd.R_reads' HOB6.out).2.1)
 rintro e w14 ⟨vC9, vD0, rfl, ho0, ho1, hb⟩
 refine ⟨_, rfl, ?_⟩
 have HOC5 := lwR (nwR (nwR ho0 HOA9) HOB6) HB
 have HOC6 := lwR (nwR (nwR ho1 HOA9) HOB6) HB
 replace HOA9 := tldR HOA9 hb (Kd.R_base ho0) (Kd.R_base ho1)
 replace HOB6 := tldR HOB6 hb (Kd.R_base ho0) (Kd.R_base ho1)
 replace BKA3 := bkb BKA3 hb
 replace BKA4 := bkb BKA4 hb
 replace BKA2 := bkb BKA2 hb
 replace HB := bst HB hb
 (try clear hb)
 (try clear hb2)
 (try clear hk)
 (try clear hi)
 (try clear ho0)
 (try clear ho1)
 obtain ⟨Ao16, co16, eo16⟩ := Kd.R_slice HOC5.out
 (first | subst eo16 | (injection eo16 with f1_ f2_ f3_; have f4_ := f1_.symm; have f5_ := f3_.symm; clear f1_ f2_ f3_; subst f4_; subst f5_))
 obtain ⟨Ao18, co18, eo18⟩ := Kd.R_slice HOC6.out
 (first | subst eo18 | (injection eo18 with f1_ f2_ f3_; have f4_ := f1_.symm; have f5_ := f3_.symm; clear f1_ f2_ f3_; subst f4_; subst f5_))
 refine hK.out _ _ ⟨bce BKA3 0 _, bce BKA3 1 _, bce BKA3 2 _, bce BKA4 0 _, bce BKA4 1 _, bce BKA4 2 _⟩ (fun hHeld => ?_)
 clear hK K
 refine nm_ 20 ?_
 refine one_ (i := 16) (N := none) (bm 17 131071) rfl rfl (one_of HT_.out (by kernel_rfl)) (by decide) (fun K hK => ?_)
 have hs15 : w14.cell? ⟨gbA2, 0, none⟩ = some (.bool false) := bce BKA2 0 _
 have hfs15 := blk_frozen BKA2.out 0
 have hns15_0 := NBA3_A2.out
 have hns15_1 := NBA4_A2.out
 have hms15_0 := NBA2_A3.out
 have hms15_1 := NBA2_A4.out
 have hs17 : w14.cell? ⟨gbA2, 1, none⟩ = some (.slice none 0 0) := bce BKA2 1 _
 have hfs17 := blk_frozen BKA2.out 1
 have hns17_0 := NBA3_A2.out
 have hns17_1 := NBA4_A2.out
 have hms17_0 := NBA2_A3.out
 have hms17_1 := NBA2_A4.out
 have hs19 : w14.cell? ⟨gbA2, 2, none⟩ = some (.slice none 0 0) := bce BKA2 2 _
 have hfs19 := blk_frozen BKA2.out 2
 have hns19_0 := NBA3_A2.out
 have hns19_1 := NBA4_A2.out
 have hms19_0 := NBA2_A3.out
 have hms19_1 := NBA2_A4.out
 refine skip_ (w1 := ?_) (by rfl) rfl ?_ ?_
 rotate_left
 ·
  go_simp
  rfl
 refine hK.out _ _ ⟨((cell_far (p := ⟨gbA2, _, none⟩) NBA3_A2.out _).trans (((cell_far (p := ⟨gbA2, _, none⟩) NBA3_A2.out _).trans (((cell_far (p := ⟨gbA2, _, none⟩) NBA3_A2.out _).trans (hHeld.1)))))), ((cell_far (p := ⟨gbA2, _, none⟩) NBA3_A2.out _).trans (((cell_far (p := ⟨gbA2, _, none⟩) NBA3_A2.out _).trans (((cell_far (p := ⟨gbA2, _, none⟩) NBA3_A2.out _).trans (hHeld.2.1)))))), ((cell_far (p := ⟨gbA2, _, none⟩) NBA3_A2.out _).trans (((cell_far (p := ⟨gbA2, _, none⟩) NBA3_A2.out _).trans (((cell_far (p := ⟨gbA2, _, none⟩) NBA3_A2.out _).trans (hHeld.2.2.1)))))), ((cell_far (p := ⟨gbA2, _, none⟩) NBA4_A2.out _).trans (((cell_far (p := ⟨gbA2, _, none⟩) NBA4_A2.out _).trans (((cell_far (p := ⟨gbA2, _, none⟩) NBA4_A2.out _).trans (hHeld.2.2.2.1)))))), ((cell_far (p := ⟨gbA2, _, none⟩) NBA4_A2.out _).trans (((cell_far (p := ⟨gbA2, _, none⟩) NBA4_A2.out _).trans (((cell_far (p := ⟨gbA2, _, none⟩) NBA4_A2.out _).trans (hHeld.2.2.2.2.1)))))), ((cell_far (p := ⟨gbA2, _, none⟩) NBA4_A2.out _).trans (((cell_far (p := ⟨gbA2, _, none⟩) NBA4_A2.out _).trans (((cell_far (p := ⟨gbA2, _, none⟩) NBA4_A2.out _).trans (hHeld.2.2.2.2.2))))))⟩ (fun hHeld => ?_)
 clear hK K
 refine done_ (done_of HT_.out (by kernel_rfl)) ?_
 try go_wp2
 refine bodyPost_ret (results_cell_row rfl _ _ gbA2 32 #[.bool tA7, .slice Ao16 tC3.length co16, .slice Ao18 tC4.length co18] (0, 0) _ rfl (bp3 BKA2 _ _ _) Try.underlying32 rfl (by kernel_rfl)) rfl ?_
 exact ⟨_, _, er_, (crN HOC5 BKA2 fun _ hk => hk.1.1.1), (crN HOC6 BKA2 fun _ hk => hk.1.1.1), blw HB⟩

end Go.Proofs.Ytegbmillbbcmfaa.Q
