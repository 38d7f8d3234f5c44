-- several texts of this claim in one
import Derived.Test.YtacdaijalkkogaaQa
import Derived.Test.YtacdaijalkkogaaWords
import Derived.Test.YtacdaijalkkogaaQb
namespace Go.Proofs.Ytacdaijalkkogaa.Q
open Go.RowKit Go.Proofs.YtacdaijalkkogaaW.PrintWords Go.Proofs.YtacdaijalkkogaaW.PrintLast Go.Proofs.YtacdaijalkkogaaW.PrintMore
attribute [local go_sem] max2_int min2_int max_two min_two max_three min_three max_four min_four   -- for this text's walks alone
set_option linter.unusedVariables false
set_option linter.unusedSimpArgs false
def impl_unless.f (a0 : Bool) (a1 : Int) : Option (Int) := if a0 = true then (some 0) else (some a1)
set_option maxHeartbeats 8000000 in
set_option maxRecDepth 100000 in
theorem impl_unless.calls (a0 : Bool) (a1 : Int) (r : Int) (w : World) (h : impl_unless.f a0 a1 = some r) :
  Calls Try.prog 81 #[.bool a0, .int .i64 a1] w fun e w' => e = .returned (.int .i64 r) ∧ Drawn0 w w' := by
 have H : (if a0 = true then (some 0) else (some a1)) = some r := h
 clear h
 by_cases c3 : a0 = true
 ·
  subst c3
  rw [if_pos rfl] at H
  obtain rfl := Option.some.inj H
  go_enter Try.func81, Try.ntmps81
  go_wp2
  go_ret
  exact ⟨by first | rfl | (simp; done) | (simp [*]; done), by repeat (first | exact Drawn0.refl _ | apply Drawn0.step)⟩
 ·
  replace c3 := Bool.eq_false_iff.mpr c3
  subst c3
  rw [if_neg (show ¬ (false = true) by decide)] at H
  obtain rfl := Option.some.inj H
  go_enter Try.func81, Try.ntmps81
  go_wp2
  go_ret
  exact ⟨by first | rfl | (simp; done) | (simp [*]; done), by repeat (first | exact Drawn0.refl _ | apply Drawn0.step)⟩

theorem goesD_ {P : Program} {ops : Array Oper} {Q : Exit → Act → World → Prop} {rest : List Oper} {oi : Oper} {a : Act} {w : World} (N : Option Tmp) (hd : oi.dst = N) (hg : oi.guard = none) {f : FuncId} {fn : Func} {t : Operand} {ax : Array Operand} {ts : Array TypeId} (hf : P.funcs[f]? = some fn) (hname : (fn.name == "runtime.NumGoroutine") = false) (hb : fn.body.isSome = true) (args : Array Value)
  (hop : oi.op = .call { callee := .value t, args := ax, argTypes := ts }) (hv : a.eval t = .func (.func f) #[] #[]) (hargs : ax.map a.eval = args)
  (h : Calls P f args w fun e w' => ∃ v, e = .returned v ∧ wpList P ops Q rest (a.put N v) w') : wpList P ops Q (oi :: rest) a w := by
 refine wpList_plain hg fun K hK => ?_
 have he := enters_ hf hname hb args w
 have hrun : (execOp a.eval oi).run P w = .ok (.enter f args) w := by
  unfold execOp
  simp [hop, resolve, Deferred.ofValue, invoke, hv, hargs, he]
 unfold Oper.wp
 rw [hrun, Oper.upon_enter]
 refine h.mono fun e w'' hh => ?_
 obtain ⟨v, rfl, hk⟩ := hh
 subst hd
 exact hK _ _ hk
/-- An operation that yields a value (and may make memory). -/
def impl_Rat_119.l0 : Nat → List (S24) → Int → Int → Option (Int)
 | 0, _, _, _ => none
 | k + 1, x0, x7, x8 => if x8 < x7 then (if 0 ≤ x8 then (if x8 < (x0.length : Int) then ((impl_ratsCode_1.f k ((rd_T24 x0 x8).f0) ((rd_T24 x0 x8).f1) ((rd_T24 x0 x8).f2)).bind fun tD3 => (if tD3 = true then (some x8) else (impl_Rat_119.l0 k x0 x7 (wrap64 (x8 + 1))))) else (none)) else (none)) else (some (-1))
def impl_Rat_119.f (k : Nat) (l0 : List (S24)) : Option (Int) := impl_Rat_119.l0 k l0 (l0.length : Int) 0
set_option maxHeartbeats 8000000 in
set_option maxRecDepth 100000 in
theorem impl_Rat_119.calls (k : Nat) (A0 : Option Addr) (c0 : Nat) (l0 : List (S24)) (r : Int) (w : World) (hr0 : Kd.C k24 w A0 l0.length l0) (hc0 : l0.length ≤ c0) (h : impl_Rat_119.f k l0 = some r) :
  Calls Try.prog 119 #[.slice A0 l0.length c0, .func (.func 101) #[] #[]] w fun e w' => e = .returned (.int .i64 r) ∧ Below w.heap.size w w' := by
 have hu24 := Try.underlying24
 have HR0 := Aside0.mk hr0
 have HC0 := Aside0.mk hc0
 clear hr0 hc0
 have HB := Aside0.mk (Below.refl w.heap.size w)
 have H : (impl_Rat_119.l0 k l0 (l0.length : Int) 0) = some r := h
 clear h
 have H' := Aside0.mk H
 clear H
 go_enter Try.func119, Try.ntmps119
 go_wp2
 go_loopg [8] k (fun kq v8 w' => ∃ (x8_1 : Int), v8 = .int .i64 x8_1 ∧ Aside0 (impl_Rat_119.l0 kq l0 (l0.length : Int) x8_1 = some r) ∧ Aside0 (kq ≤ k) ∧ Aside0 (Below w.heap.size w w'))
 case atStart => exact ⟨(0), rs_, H', ⟨Nat.le_refl _⟩, ⟨blw HB⟩⟩
 case round =>
  clear H'
  try clear c1
  obtain ⟨x8_1, rfl, HA, HK1, HB⟩ := hrel
  cases gk with
  | zero => exact absurd HA.out (by simp [impl_Rat_119.l0])
  | succ k1 =>
   have H := HA.out
   clear HA
   simp only [impl_Rat_119.l0] at H
   by_cases c2 : x8_1 < (l0.length : Int)
   ·
    rw [if_pos c2] at H
    have c2b0 : decide (x8_1 < (l0.length : Int)) = true := decide_eq_true c2
    clear c2
    by_cases c3 : 0 ≤ x8_1
    ·
     rw [if_pos c3] at H
     have c3b0 : decide (0 ≤ x8_1) = true := decide_eq_true c3
     clear c3
     by_cases c4 : x8_1 < (l0.length : Int)
     ·
      rw [if_pos c4] at H
      have c4b0 : decide (x8_1 < (l0.length : Int)) = true := decide_eq_true c4
      clear c4
      replace H := Option.bind_eq_some_iff.mp H
      obtain ⟨tD3, A50, H⟩ := H
      replace H : (if tD3 = true then (some x8_1) else (impl_Rat_119.l0 k1 l0 (l0.length : Int) (wrap64 (x8_1 + 1)))) = some r := H
      have A5 := Aside0.mk A50
      clear A50
      by_cases c6 : tD3 = true
      ·
       subst c6
       rw [if_pos rfl] at H
       obtain rfl := Option.some.inj H
       have pA2 : 0 ≤ (x8_1 : Int) := of_decide_eq_true (by first | (with_reducible assumption) | assumption)
       have qA2 : x8_1 < (l0.length : Int) := of_decide_eq_true (by first | (with_reducible assumption) | assumption)
       obtain ⟨adA2, AA2_1, cA2_1, AA2_2, cA2_2, eA2, hxA2_0, hxA2_1, hxA2_2, hlA2_1, hiA2_1, hlA2_2, hiA2_2⟩ := at_T24 HR0.out x8_1 pA2 qA2
       cases eA2
       replace hxA2_0 := (HB.out.cell (World.block_lt_of_cell? w _ hxA2_0)).trans hxA2_0
       replace hxA2_1 := (HB.out.cell (World.block_lt_of_cell? w _ hxA2_1)).trans hxA2_1
       replace hxA2_2 := (HB.out.cell (World.block_lt_of_cell? w _ hxA2_2)).trans hxA2_2
       have HRA2_1 := Aside0.mk hiA2_1
       have HCA2_1 := Aside0.mk hlA2_1
       clear hiA2_1 hlA2_1
       have HRA2_2 := Aside0.mk hiA2_2
       have HCA2_2 := Aside0.mk hlA2_2
       clear hiA2_2 hlA2_2
       replace pA2 := eq_true pA2
       replace qA2 := eq_true qA2
       go_wp2_with (first | (refine goesD_ (some 16) rfl rfl Try.func101 (by kernel_rfl) rfl #[.agg #[.bool ((rd_T24 l0 x8_1).f0), .slice AA2_1 ((rd_T24 l0 x8_1).f1).length cA2_1, .slice AA2_2 ((rd_T24 l0 x8_1).f2).length cA2_2]] rfl rfl (by (try simp only [List.map_toArray, List.map_cons, List.map_nil]); first | done | rfl | (simp only [List.length_drop, List.length_take]; rfl)) ?_; (with_reducible refine (impl_ratsCode_1.calls k1 ((rd_T24 l0 x8_1).f0) _ _ ((rd_T24 l0 x8_1).f1) _ _ ((rd_T24 l0 x8_1).f2) true _ ?side1 ?side2 ?side3 ?side4 A5.out).mono ?_); (case side1 => exact crC (Kd.C_below HRA2_1.out HB.out)); (case side2 => exact HCA2_1.out); (case side3 => exact crC (Kd.C_below HRA2_2.out HB.out)); (case side4 => exact HCA2_2.out); rintro e w7 ⟨rfl, hb⟩; refine ⟨_, rfl, ?_⟩; replace HB := bst HB hb; (try clear hb); (try clear hb2); (try clear hk); (try clear hi)))
       go_ret
       exact ⟨er_, blw HB⟩
      ·
       replace c6 := Bool.eq_false_iff.mpr c6
       subst c6
       rw [if_neg (show ¬ (false = true) by decide)] at H
       have H' := Aside0.mk H
       clear H
       have pA2 : 0 ≤ (x8_1 : Int) := of_decide_eq_true (by first | (with_reducible assumption) | assumption)
       have qA2 : x8_1 < (l0.length : Int) := of_decide_eq_true (by first | (with_reducible assumption) | assumption)
       obtain ⟨adA2, AA2_1, cA2_1, AA2_2, cA2_2, eA2, hxA2_0, hxA2_1, hxA2_2, hlA2_1, hiA2_1, hlA2_2, hiA2_2⟩ := at_T24 HR0.out x8_1 pA2 qA2
       cases eA2
       replace hxA2_0 := (HB.out.cell (World.block_lt_of_cell? w _ hxA2_0)).trans hxA2_0
       replace hxA2_1 := (HB.out.cell (World.block_lt_of_cell? w _ hxA2_1)).trans hxA2_1
       replace hxA2_2 := (HB.out.cell (World.block_lt_of_cell? w _ hxA2_2)).trans hxA2_2
       have HRA2_1 := Aside0.mk hiA2_1
       have HCA2_1 := Aside0.mk hlA2_1
       clear hiA2_1 hlA2_1
       have HRA2_2 := Aside0.mk hiA2_2
       have HCA2_2 := Aside0.mk hlA2_2
       clear hiA2_2 hlA2_2
       replace pA2 := eq_true pA2
       replace qA2 := eq_true qA2
       go_wp2_with (first | (refine goesD_ (some 16) rfl rfl Try.func101 (by kernel_rfl) rfl #[.agg #[.bool ((rd_T24 l0 x8_1).f0), .slice AA2_1 ((rd_T24 l0 x8_1).f1).length cA2_1, .slice AA2_2 ((rd_T24 l0 x8_1).f2).length cA2_2]] rfl rfl (by (try simp only [List.map_toArray, List.map_cons, List.map_nil]); first | done | rfl | (simp only [List.length_drop, List.length_take]; rfl)) ?_; (with_reducible refine (impl_ratsCode_1.calls k1 ((rd_T24 l0 x8_1).f0) _ _ ((rd_T24 l0 x8_1).f1) _ _ ((rd_T24 l0 x8_1).f2) false _ ?side1 ?side2 ?side3 ?side4 A5.out).mono ?_); (case side1 => exact crC (Kd.C_below HRA2_1.out HB.out)); (case side2 => exact HCA2_1.out); (case side3 => exact crC (Kd.C_below HRA2_2.out HB.out)); (case side4 => exact HCA2_2.out); rintro e w8 ⟨rfl, hb⟩; refine ⟨_, rfl, ?_⟩; replace HB := bst HB hb; (try clear hb); (try clear hb2); (try clear hk); (try clear hi)))
       go_roundg k1
       case measure => have := HK1.out; omega
       case rel => exact ⟨(wrap64 (x8_1 + 1)), rs_, H', ⟨by have := HK1.out; omega⟩, ⟨blw HB⟩⟩
     ·
      rw [if_neg c4] at H
      exact absurd H (by simp)
    ·
     rw [if_neg c3] at H
     exact absurd H (by simp)
   ·
    rw [if_neg c2] at H
    have c2b0 : decide (x8_1 < (l0.length : Int)) = false := decide_eq_false c2
    clear c2
    obtain rfl := Option.some.inj H
    go_wp2
    go_ret
    exact ⟨er_, blw HB⟩
def impl_Rat_100.f (k : Nat) (l0 : List (S24)) : Option (Bool) := (impl_Rat_119.f k l0).bind fun tC8 => (some (decide (tC8 ≥ 0)))
set_option maxHeartbeats 8000000 in
set_option maxRecDepth 100000 in
theorem impl_Rat_100.calls (k : Nat) (A0 : Option Addr) (c0 : Nat) (l0 : List (S24)) (r : Bool) (w : World) (hr0 : Kd.C k24 w A0 l0.length l0) (hc0 : l0.length ≤ c0) (h : impl_Rat_100.f k l0 = some r) :
  Calls Try.prog 100 #[.slice A0 l0.length c0, .func (.func 101) #[] #[]] w fun e w' => e = .returned (.bool r) ∧ Below w.heap.size w w' := by
 have HR0 := Aside0.mk hr0
 have HC0 := Aside0.mk hc0
 clear hr0 hc0
 have HB := Aside0.mk (Below.refl w.heap.size w)
 have H : ((impl_Rat_119.f k l0).bind fun tC8 => (some (decide (tC8 ≥ 0)))) = some r := h
 clear h
 replace H := Option.bind_eq_some_iff.mp H
 obtain ⟨tC8, A20, H⟩ := H
 replace H : (some (decide (tC8 ≥ 0))) = some r := H
 have A2 := Aside0.mk A20
 clear A20
 obtain rfl := Option.some.inj H
 go_enter Try.func100, Try.ntmps100
 go_wp2_with (first | ((with_reducible refine gate_callee (f := 119) rfl ?_); refine gL_ (some 7) Try.func119 #[.slice A0 l0.length c0, .func (.func 101) #[] #[]] ?_; (with_reducible refine (impl_Rat_119.calls k _ _ l0 tC8 _ ?side1 ?side2 A2.out).mono ?_); (case side1 => repeat (first | exact HR0.out | (with_reducible refine Kd.C_alloc ?_ _) | (with_reducible refine Kd.C_drewN ?_ _) | (with_reducible refine Kd.C_drew ?_))); (case side2 => exact HC0.out); rintro e w3 ⟨rfl, hb⟩; refine ⟨_, rfl, ?_⟩; replace HB := bst HB hb; (try clear hb); (try clear hb2); (try clear hk); (try clear hi)))
 go_ret
 exact ⟨er_, blw HB⟩
def impl_ratsCode.f (k : Nat) (l0 : List (S24)) : Option (Int) := (impl_Rat_100.f k l0).bind fun tC3 => ((impl_unless.f (!tC3) 1).bind fun tC4 => (some tC4))
set_option maxHeartbeats 8000000 in
set_option maxRecDepth 100000 in
theorem impl_ratsCode.calls (k : Nat) (A0 : Option Addr) (c0 : Nat) (l0 : List (S24)) (r : Int) (w : World) (hr0 : Kd.C k24 w A0 l0.length l0) (hc0 : l0.length ≤ c0) (h : impl_ratsCode.f k l0 = some r) :
  Calls Try.prog 65 #[.slice A0 l0.length c0] w fun e w' => e = .returned (.int .i64 r) ∧ Below w.heap.size w w' := by
 have HR0 := Aside0.mk hr0
 have HC0 := Aside0.mk hc0
 clear hr0 hc0
 have HB := Aside0.mk (Below.refl w.heap.size w)
 have H : ((impl_Rat_100.f k l0).bind fun tC3 => ((impl_unless.f (!tC3) 1).bind fun tC4 => (some tC4))) = some r := h
 clear h
 replace H := Option.bind_eq_some_iff.mp H
 obtain ⟨tC3, A20, H⟩ := H
 replace H : ((impl_unless.f (!tC3) 1).bind fun tC4 => (some tC4)) = some r := H
 have A2 := Aside0.mk A20
 clear A20
 replace H := Option.bind_eq_some_iff.mp H
 obtain ⟨tC4, A30, H⟩ := H
 replace H : (some tC4) = some r := H
 have A3 := Aside0.mk A30
 clear A30
 obtain rfl := Option.some.inj H
 go_enter Try.func65, Try.ntmps65
 go_wp2_with (first | ((with_reducible refine gate_callee (f := 100) rfl ?_); refine gL_ (some 4) Try.func100 #[.slice A0 l0.length c0, .func (.func 101) #[] #[]] ?_; (with_reducible refine (impl_Rat_100.calls k _ _ l0 tC3 _ ?side1 ?side2 A2.out).mono ?_); (case side1 => repeat (first | exact HR0.out | (with_reducible refine Kd.C_alloc ?_ _) | (with_reducible refine Kd.C_drewN ?_ _) | (with_reducible refine Kd.C_drew ?_))); (case side2 => exact HC0.out); rintro e w4 ⟨rfl, hb⟩; refine ⟨_, rfl, ?_⟩; replace HB := bst HB hb; (try clear hb); (try clear hb2); (try clear hk); (try clear hi)) | ((with_reducible refine gate_callee (f := 81) rfl ?_); refine gL_ (some 6) Try.func81 #[.bool (!tC3), .int .i64 1] ?_; (with_reducible refine (impl_unless.calls (!tC3) 1 tC4 _ A3.out).mono ?_); rintro e w' ⟨rfl, ⟨nd, rfl⟩⟩; refine ⟨_, rfl, ?_⟩))
 go_ret
 exact ⟨er_, blw HB⟩

def impl_Rat_fits.f (a0_0 : Bool) (l0_1 : List Int) (l0_2 : List Int) : Option (Bool) := if (l0_1.length : Int) ≤ 40 then (some (decide ((l0_2.length : Int) ≤ 40))) else (some false)
set_option maxHeartbeats 8000000 in
set_option maxRecDepth 100000 in
theorem impl_Rat_fits.calls (a0_0 : Bool) (A0_1 : Option Addr) (c0_1 : Nat) (l0_1 : List Int) (A0_2 : Option Addr) (c0_2 : Nat) (l0_2 : List Int) (r : Bool) (w : World) (hr0_1 : Kd.C (Kd.int .i64) w A0_1 l0_1.length l0_1) (hc0_1 : l0_1.length ≤ c0_1) (hr0_2 : Kd.C (Kd.int .i64) w A0_2 l0_2.length l0_2) (hc0_2 : l0_2.length ≤ c0_2) (h : impl_Rat_fits.f a0_0 l0_1 l0_2 = some r) :
  Calls Try.prog 110 #[.agg #[.bool a0_0, .slice A0_1 l0_1.length c0_1, .slice A0_2 l0_2.length c0_2]] w fun e w' => e = .returned (.bool r) ∧ Below w.heap.size w w' := by
 have hu24 := Try.underlying24
 have HR0_1 := Aside0.mk hr0_1
 have HC0_1 := Aside0.mk hc0_1
 clear hr0_1 hc0_1
 have HR0_2 := Aside0.mk hr0_2
 have HC0_2 := Aside0.mk hc0_2
 clear hr0_2 hc0_2
 have HB := Aside0.mk (Below.refl w.heap.size w)
 have H : (if (l0_1.length : Int) ≤ 40 then (some (decide ((l0_2.length : Int) ≤ 40))) else (some false)) = some r := h
 clear h
 by_cases c2 : (l0_1.length : Int) ≤ 40
 ·
  rw [if_pos c2] at H
  have c2b0 : decide ((l0_1.length : Int) ≤ 40) = true := decide_eq_true c2
  have c2b1 : decide (l0_1.length ≤ 40) = true := decide_eq_true (by omega)
  clear c2
  obtain rfl := Option.some.inj H
  go_enter Try.func110, Try.ntmps110
  go_wp2_with (first | ((with_reducible refine gate_dst (N := 1) rfl ?_); (try (refine gate_guard (by rfl) ?_; dsimp only)); refine bx_ (N := 1) (cs := #[.bool a0_0, .slice A0_1 l0_1.length c0_1, .slice A0_2 l0_2.length c0_2]) (t := 24) ?_; intro gbB9 hg w3 hbox hb; have BKB9 := Aside0.mk (hbox); have GWB9 := geh hg HB; have GEB9 := geh hg HB; replace HB := bst HB hb; clear hb hbox hg; obtain ⟨hcz4_0, hcz4_1, hcz4_2, hfz4_0, hfz4_1, hfz4_2⟩ := bc3 BKB9))
  go_ret
  exact ⟨er_, blw HB⟩
 ·
  rw [if_neg c2] at H
  have c2b0 : decide ((l0_1.length : Int) ≤ 40) = false := decide_eq_false c2
  have c2b1 : decide (l0_1.length ≤ 40) = false := decide_eq_false (by omega)
  clear c2
  obtain rfl := Option.some.inj H
  go_enter Try.func110, Try.ntmps110
  go_wp2_with (first | ((with_reducible refine gate_dst (N := 1) rfl ?_); (try (refine gate_guard (by rfl) ?_; dsimp only)); refine bx_ (N := 1) (cs := #[.bool a0_0, .slice A0_1 l0_1.length c0_1, .slice A0_2 l0_2.length c0_2]) (t := 24) ?_; intro gbB9 hg w5 hbox hb; have BKB9 := Aside0.mk (hbox); have GWB9 := geh hg HB; have GEB9 := geh hg HB; replace HB := bst HB hb; clear hb hbox hg; obtain ⟨hcz6_0, hcz6_1, hcz6_2, hfz6_0, hfz6_1, hfz6_2⟩ := bc3 BKB9))
  go_ret
  exact ⟨er_, blw HB⟩

def impl_fullRat.f (a0_0 : Bool) (l0_1 : List Int) (l0_2 : List Int) : Option (Bool × List Int × List Int × Int) := (impl_Rat_fits.f a0_0 l0_1 l0_2).bind fun tC9 => (if tC9 = true then (some (a0_0, l0_1, l0_2, 0)) else (some (false, ([] : List Int), ([] : List Int), 7)))
set_option maxHeartbeats 8000000 in
set_option maxRecDepth 100000 in
theorem impl_fullRat.calls (a0_0 : Bool) (P0_1_ : Nat → Prop) (uC0_ : Value) (l0_1 : List Int) (P0_2_ : Nat → Prop) (uC1_ : Value) (l0_2 : List Int) (r1 : Bool) (r2 : List Int) (r3 : List Int) (r4 : Int) (w0 w : World) (hB : Below w0.heap.size w0 w) (ho0_1 : Kd.R (Kd.int .i64) 3 w w0.heap.size P0_1_ uC0_ l0_1) (hp0_1_0_2 : ∀ k_, P0_1_ k_ → ¬ P0_2_ k_) (ho0_2 : Kd.R (Kd.int .i64) 3 w w0.heap.size P0_2_ uC1_ l0_2) (hp0_2_0_1 : ∀ k_, P0_2_ k_ → ¬ P0_1_ k_) (h : impl_fullRat.f a0_0 l0_1 l0_2 = some (r1, r2, r3, r4)) :
  Calls Try.prog 77 #[.agg #[.bool a0_0, uC0_, uC1_]] w fun e w' => ∃ v1_ v2_ : Value, e = .returned (.tuple #[.agg #[.bool r1, v1_, v2_], .int .i64 r4]) ∧ Kd.R (Kd.int .i64) 3 w' w0.heap.size (fun k_ => ((P0_1_ k_ ∨ P0_2_ k_) ∨ w.heap.size ≤ k_) ∧ nO k_ v2_) v1_ r2 ∧ Kd.R (Kd.int .i64) 3 w' w0.heap.size (fun k_ => ((P0_1_ k_ ∨ P0_2_ k_) ∨ w.heap.size ≤ k_) ∧ nO k_ v1_) v2_ r3 ∧ Below w0.heap.size w0 w' ∧ Kept w w' (fun k_ => P0_1_ k_ ∨ P0_2_ k_) := by
 have hu24 := Try.underlying24
 have HO0_1 := Aside0.mk (show Kd.R (Kd.int .i64) 3 w w0.heap.size (fun k_ => ((P0_1_ k_ ∨ P0_2_ k_) ∨ w.heap.size ≤ k_) ∧ nO k_ uC1_) uC0_ l0_1 from Kd.R_mono ho0_1 (fun k_ hk => ⟨(.inl (.inl hk)), fun e_ => hp0_1_0_2 k_ hk (ho0_2.1 k_ e_.symm)⟩))
 have HO0_2 := Aside0.mk (show Kd.R (Kd.int .i64) 3 w w0.heap.size (fun k_ => ((P0_1_ k_ ∨ P0_2_ k_) ∨ w.heap.size ≤ k_) ∧ nO k_ uC0_) uC1_ l0_2 from Kd.R_mono ho0_2 (fun k_ hk => ⟨(.inl (.inr hk)), fun e_ => hp0_2_0_1 k_ hk (ho0_1.1 k_ e_.symm)⟩))
 have HK := Aside0.mk (Kept.refl w (fun k_ => P0_1_ k_ ∨ P0_2_ k_))
 have HW0 := Aside0.mk hB.size
 have HB := Aside0.mk hB
 clear hB
 have H : ((impl_Rat_fits.f a0_0 l0_1 l0_2).bind fun tC9 => (if tC9 = true then (some (a0_0, l0_1, l0_2, 0)) else (some (false, ([] : List Int), ([] : List Int), 7)))) = some (r1, r2, r3, r4) := h
 clear h
 replace H := Option.bind_eq_some_iff.mp H
 obtain ⟨tC9, A20, H⟩ := H
 replace H : (if tC9 = true then (some (a0_0, l0_1, l0_2, 0)) else (some (false, ([] : List Int), ([] : List Int), 7))) = some (r1, r2, r3, r4) := H
 have A2 := Aside0.mk A20
 clear A20
 by_cases c3 : tC9 = true
 ·
  subst c3
  rw [if_pos rfl] at H
  simp only [Option.some.injEq, Prod.mk.injEq] at H
  obtain ⟨rfl, rfl, rfl, rfl⟩ := H
  obtain ⟨Ao4, co4, eo4⟩ := Kd.R_slice HO0_1.out
  subst eo4
  obtain ⟨Ao5, co5, eo5⟩ := Kd.R_slice HO0_2.out
  subst eo5
  go_enter Try.func77, Try.ntmps77
  go_wp2_with (first | ((with_reducible refine gate_dst (N := 1) rfl ?_); refine bx_ (N := 1) (cs := #[.bool a0_0, .slice Ao4 l0_1.length co4, .slice Ao5 l0_2.length co5]) (t := 24) ?_; intro gbA7 hg w6 hbox hb; replace HO0_1 := rblR HO0_1 hb; replace HO0_2 := rblR HO0_2 hb; have BKA7 := Aside0.mk (hbox); have GWA7 := Aside0.mk ((by rw [hg]; exact (by first | exact HK.out.1 | exact (show Kept w _ (fun k_ => P0_1_ k_ ∨ P0_2_ k_) from by repeat (first | (with_reducible first | exact HK.out | apply Kept.alloc | apply Kept.drewN | apply Kept.drew) | exact HK.out)).1) : w.heap.size ≤ gbA7)); replace HK := Aside0.mk (Kept.below (S := (fun k_ => P0_1_ k_ ∨ P0_2_ k_)) (by repeat (first | (with_reducible first | exact HK.out | apply Kept.alloc | apply Kept.drewN | apply Kept.drew) | exact HK.out)) hb); have GEA7 := geh hg HB; replace HB := bst HB hb; clear hb hbox hg) | ((with_reducible refine gate_dst (N := 2) rfl ?_); refine bx_ (N := 2) (cs := #[.bool false, .slice none 0 0, .slice none 0 0]) (t := 24) ?_; intro gbA9 hg w7 hbox hb; replace HO0_1 := rblR HO0_1 hb; replace HO0_2 := rblR HO0_2 hb; have BKA9 := Aside0.mk (hbox); have GWA9 := Aside0.mk ((by rw [hg]; exact (by first | exact HK.out.1 | exact (show Kept w _ (fun k_ => P0_1_ k_ ∨ P0_2_ k_) from by repeat (first | (with_reducible first | exact HK.out | apply Kept.alloc | apply Kept.drewN | apply Kept.drew | refine Kept.setCell ?_ (.inr GWA7.out) _) | exact HK.out)).1) : w.heap.size ≤ gbA9)); replace HK := Aside0.mk (Kept.below (S := (fun k_ => P0_1_ k_ ∨ P0_2_ k_)) (by repeat (first | (with_reducible first | exact HK.out | apply Kept.alloc | apply Kept.drewN | apply Kept.drew | refine Kept.setCell ?_ (.inr GWA7.out) _) | exact HK.out)) hb); have GEA9 := geh hg HB; replace HB := bst HB hb; have NBA7_A9 := nlt hg BKA7; have NBA9_A7 := ngt hg BKA7; replace BKA7 := bkb BKA7 hb; clear hb hbox hg; have hnb8 := NBA7_A9.out; have hnc8 := NBA9_A7.out; obtain ⟨hcz9_0, hcz9_1, hcz9_2, hfz9_0, hfz9_1, hfz9_2⟩ := bc3 BKA7) | ((with_reducible refine gate_callee (f := 110) rfl ?_); refine gL_ (some 5) Try.func110 #[.agg #[.bool a0_0, .slice Ao4 l0_1.length co4, .slice Ao5 l0_2.length co5]] ?_; (with_reducible refine (impl_Rat_fits.calls a0_0 _ _ l0_1 _ _ l0_2 true _ ?side1 ?side2 ?side3 ?side4 A2.out).mono ?_); (case side1 => exact crC (Kd.R_reads' HO0_1.out).2.2); (case side2 => exact (Kd.R_reads' HO0_1.out).2.1); (case side3 => exact crC (Kd.R_reads' HO0_2.out).2.2); (case side4 => exact (Kd.R_reads' HO0_2.out).2.1); rintro e w10 ⟨rfl, hb⟩; refine ⟨_, rfl, ?_⟩; replace HO0_1 := rblR HO0_1 hb; replace HO0_2 := rblR HO0_2 hb; replace BKA7 := bkb BKA7 hb; replace BKA9 := bkb BKA9 hb; replace HK := Aside0.mk (Kept.below (S := (fun k_ => P0_1_ k_ ∨ P0_2_ k_)) (by repeat (first | (with_reducible first | exact HK.out | apply Kept.alloc | apply Kept.drewN | apply Kept.drew | refine Kept.setCell ?_ (.inr GWA7.out) _ | refine Kept.setCell ?_ (.inr GWA9.out) _) | exact HK.out)) hb); replace HB := bst HB hb; (try clear hb); (try clear hb2); (try clear hk); (try clear hi); obtain ⟨hcz11_0, hcz11_1, hcz11_2, hfz11_0, hfz11_1, hfz11_2⟩ := bc3 BKA7; obtain ⟨hcz12_0, hcz12_1, hcz12_2, hfz12_0, hfz12_1, hfz12_2⟩ := bc3 BKA9))
  refine bodyPost_ret (results_ct rfl _ _ gbA9 24 #[.bool a0_0, .slice Ao4 l0_1.length co4, .slice Ao5 l0_2.length co5] (0, 0) _ rfl (bp3 BKA9 _ _ _) Try.underlying24 rfl (by kernel_rfl)) rfl ?_
  exact ⟨_, _, er_, (crN HO0_1 BKA9 fun _ hk => ⟨hk.1.1, hk.1.2⟩), (crN HO0_2 BKA9 fun _ hk => ⟨hk.1.1, hk.1.2⟩), by repeat (first | (with_reducible first | exact HB.out | apply below_alloc | apply pw_below_drewN | apply below_drew1 | refine below_set ?_ GEA7.out | refine below_set ?_ GEA9.out) | exact HB.out), by repeat (first | (with_reducible first | exact HK.out | apply Kept.alloc | apply Kept.drewN | apply Kept.drew | refine Kept.setCell ?_ (.inr GWA7.out) _ | refine Kept.setCell ?_ (.inr GWA9.out) _) | exact HK.out)⟩
 ·
  replace c3 := Bool.eq_false_iff.mpr c3
  subst c3
  rw [if_neg (show ¬ (false = true) by decide)] at H
  simp only [Option.some.injEq, Prod.mk.injEq] at H
  obtain ⟨rfl, rfl, rfl, rfl⟩ := H
  obtain ⟨Ao13, co13, eo13⟩ := Kd.R_slice HO0_1.out
  subst eo13
  obtain ⟨Ao14, co14, eo14⟩ := Kd.R_slice HO0_2.out
  subst eo14
  go_enter Try.func77, Try.ntmps77
  go_wp2_with (first | ((with_reducible refine gate_dst (N := 1) rfl ?_); refine bx_ (N := 1) (cs := #[.bool a0_0, .slice Ao13 l0_1.length co13, .slice Ao14 l0_2.length co14]) (t := 24) ?_; intro gbA7 hg w15 hbox hb; replace HO0_1 := rblR HO0_1 hb; replace HO0_2 := rblR HO0_2 hb; have BKA7 := Aside0.mk (hbox); have GWA7 := Aside0.mk ((by rw [hg]; exact (by first | exact HK.out.1 | exact (show Kept w _ (fun k_ => P0_1_ k_ ∨ P0_2_ k_) from by repeat (first | (with_reducible first | exact HK.out | apply Kept.alloc | apply Kept.drewN | apply Kept.drew) | exact HK.out)).1) : w.heap.size ≤ gbA7)); replace HK := Aside0.mk (Kept.below (S := (fun k_ => P0_1_ k_ ∨ P0_2_ k_)) (by repeat (first | (with_reducible first | exact HK.out | apply Kept.alloc | apply Kept.drewN | apply Kept.drew) | exact HK.out)) hb); have GEA7 := geh hg HB; replace HB := bst HB hb; clear hb hbox hg) | ((with_reducible refine gate_dst (N := 2) rfl ?_); refine bx_ (N := 2) (cs := #[.bool false, .slice none 0 0, .slice none 0 0]) (t := 24) ?_; intro gbA9 hg w16 hbox hb; replace HO0_1 := rblR HO0_1 hb; replace HO0_2 := rblR HO0_2 hb; have BKA9 := Aside0.mk (hbox); have GWA9 := Aside0.mk ((by rw [hg]; exact (by first | exact HK.out.1 | exact (show Kept w _ (fun k_ => P0_1_ k_ ∨ P0_2_ k_) from by repeat (first | (with_reducible first | exact HK.out | apply Kept.alloc | apply Kept.drewN | apply Kept.drew | refine Kept.setCell ?_ (.inr GWA7.out) _) | exact HK.out)).1) : w.heap.size ≤ gbA9)); replace HK := Aside0.mk (Kept.below (S := (fun k_ => P0_1_ k_ ∨ P0_2_ k_)) (by repeat (first | (with_reducible first | exact HK.out | apply Kept.alloc | apply Kept.drewN | apply Kept.drew | refine Kept.setCell ?_ (.inr GWA7.out) _) | exact HK.out)) hb); have GEA9 := geh hg HB; replace HB := bst HB hb; have NBA7_A9 := nlt hg BKA7; have NBA9_A7 := ngt hg BKA7; replace BKA7 := bkb BKA7 hb; clear hb hbox hg; have hnb17 := NBA7_A9.out; have hnc17 := NBA9_A7.out; obtain ⟨hcz18_0, hcz18_1, hcz18_2, hfz18_0, hfz18_1, hfz18_2⟩ := bc3 BKA7) | ((with_reducible refine gate_callee (f := 110) rfl ?_); refine gL_ (some 5) Try.func110 #[.agg #[.bool a0_0, .slice Ao13 l0_1.length co13, .slice Ao14 l0_2.length co14]] ?_; (with_reducible refine (impl_Rat_fits.calls a0_0 _ _ l0_1 _ _ l0_2 false _ ?side1 ?side2 ?side3 ?side4 A2.out).mono ?_); (case side1 => exact crC (Kd.R_reads' HO0_1.out).2.2); (case side2 => exact (Kd.R_reads' HO0_1.out).2.1); (case side3 => exact crC (Kd.R_reads' HO0_2.out).2.2); (case side4 => exact (Kd.R_reads' HO0_2.out).2.1); rintro e w19 ⟨rfl, hb⟩; refine ⟨_, rfl, ?_⟩; replace HO0_1 := rblR HO0_1 hb; replace HO0_2 := rblR HO0_2 hb; replace BKA7 := bkb BKA7 hb; replace BKA9 := bkb BKA9 hb; replace HK := Aside0.mk (Kept.below (S := (fun k_ => P0_1_ k_ ∨ P0_2_ k_)) (by repeat (first | (with_reducible first | exact HK.out | apply Kept.alloc | apply Kept.drewN | apply Kept.drew | refine Kept.setCell ?_ (.inr GWA7.out) _ | refine Kept.setCell ?_ (.inr GWA9.out) _) | exact HK.out)) hb); replace HB := bst HB hb; (try clear hb); (try clear hb2); (try clear hk); (try clear hi); obtain ⟨hcz20_0, hcz20_1, hcz20_2, hfz20_0, hfz20_1, hfz20_2⟩ := bc3 BKA9))
  refine bodyPost_ret (results_ct rfl _ _ gbA9 24 #[.bool false, .slice none 0 0, .slice none 0 0] (0, 0) _ rfl (bp3 BKA9 _ _ _) Try.underlying24 rfl (by kernel_rfl)) rfl ?_
  exact ⟨_, _, er_, by first | exact Kd.R_nil _ _ _ _ _ | exact Kd.N_nil _ _ _ _ _ | exact Kd.V_nil _ _ _ _ _ | exact Kd.Q_nil _ _ _ _ _ | exact Kd.S_nil _ _ _ _ _, by first | exact Kd.R_nil _ _ _ _ _ | exact Kd.N_nil _ _ _ _ _ | exact Kd.V_nil _ _ _ _ _ | exact Kd.Q_nil _ _ _ _ _ | exact Kd.S_nil _ _ _ _ _, by repeat (first | (with_reducible first | exact HB.out | apply below_alloc | apply pw_below_drewN | apply below_drew1 | refine below_set ?_ GEA7.out | refine below_set ?_ GEA9.out) | exact HB.out), by repeat (first | (with_reducible first | exact HK.out | apply Kept.alloc | apply Kept.drewN | apply Kept.drew | refine Kept.setCell ?_ (.inr GWA7.out) _ | refine Kept.setCell ?_ (.inr GWA9.out) _) | exact HK.out)⟩

def impl_Rat_over.f (k : Nat) (a0_0 : Bool) (l0_1 : List Int) (l0_2 : List Int) (a1_0 : Bool) (l1_1 : List Int) (l1_2 : List Int) : Option (Bool × List Int × List Int) := (impl_natMul.f k l0_1 l1_2).bind fun tC2 => ((impl_natMul.f k l0_2 l1_1).bind fun tB7 => ((impl_lowest.f k (a0_0 != a1_0) tC2 tB7).bind fun btB4 => (some (btB4.1, btB4.2.1, btB4.2.2))))
def impl_Rat_over.T1 : Bool × List (List Nat × List Nat) := (true, [([], []), ([0], [0]), ([], []), ([2], [2]), ([1, 3], [1, 3]), ([], []), ([5], [5]), ([], []), ([7], [7]), ([6, 8], [6, 8]), ([], []), ([10], [10]), ([], []), ([12], [12]), ([11, 13, 9], [11, 13]), ([4, 9, 14, 14], [4, 9, 14]), ([15, 15, 0, 1, 2, 3, 4, 5, 6, 7, 8, 9, 10, 11, 12, 13, 14, 15], [15])])
def impl_Rat_over.B1 : List Nat := [0, 1, 0, 4, 15, 0, 32, 0, 128, 480, 0, 1024, 0, 4096, 16352, 32767, 65535]
theorem impl_Rat_over.tab1 : rtab .any (opsOf Try.f49 1) = impl_Rat_over.T1 := by kernel_rfl
theorem impl_Rat_over.bits1 : waitsOk impl_Rat_over.T1.2 impl_Rat_over.B1 = true := by kernel_rfl
set_option maxHeartbeats 8000000 in
set_option maxRecDepth 100000 in
theorem impl_Rat_over.calls (k : Nat) (a0_0 : Bool) (A0_1 : Option Addr) (c0_1 : Nat) (l0_1 : List Int) (A0_2 : Option Addr) (c0_2 : Nat) (l0_2 : List Int) (a1_0 : Bool) (A1_1 : Option Addr) (c1_1 : Nat) (l1_1 : List Int) (A1_2 : Option Addr) (c1_2 : Nat) (l1_2 : List Int) (r1 : Bool) (r2 : List Int) (r3 : List Int) (w : World) (hr0_1 : Kd.C (Kd.int .i64) w A0_1 l0_1.length l0_1) (hc0_1 : l0_1.length ≤ c0_1) (hr0_2 : Kd.C (Kd.int .i64) w A0_2 l0_2.length l0_2) (hc0_2 : l0_2.length ≤ c0_2) (hr1_1 : Kd.C (Kd.int .i64) w A1_1 l1_1.length l1_1) (hc1_1 : l1_1.length ≤ c1_1) (hr1_2 : Kd.C (Kd.int .i64) w A1_2 l1_2.length l1_2) (hc1_2 : l1_2.length ≤ c1_2) (h : impl_Rat_over.f k a0_0 l0_1 l0_2 a1_0 l1_1 l1_2 = some (r1, r2, r3)) :
  Calls Try.prog 49 #[.agg #[.bool a0_0, .slice A0_1 l0_1.length c0_1, .slice A0_2 l0_2.length c0_2], .agg #[.bool a1_0, .slice A1_1 l1_1.length c1_1, .slice A1_2 l1_2.length c1_2]] w fun e w' => ∃ v1_ v2_ : Value, e = .returned (.agg #[.bool r1, v1_, v2_]) ∧ Kd.R (Kd.int .i64) 3 w' w.heap.size (fun k_ => nO k_ v2_) v1_ r2 ∧ Kd.R (Kd.int .i64) 3 w' w.heap.size (fun k_ => nO k_ v1_) v2_ r3 ∧ Below w.heap.size w w' := by
 have hu24 := Try.underlying24
 have HR0_1 := Aside0.mk hr0_1
 have HC0_1 := Aside0.mk hc0_1
 clear hr0_1 hc0_1
 have HR0_2 := Aside0.mk hr0_2
 have HC0_2 := Aside0.mk hc0_2
 clear hr0_2 hc0_2
 have HR1_1 := Aside0.mk hr1_1
 have HC1_1 := Aside0.mk hc1_1
 clear hr1_1 hc1_1
 have HR1_2 := Aside0.mk hr1_2
 have HC1_2 := Aside0.mk hc1_2
 clear hr1_2 hc1_2
 have HB := Aside0.mk (Below.refl w.heap.size w)
 have H : ((impl_natMul.f k l0_1 l1_2).bind fun tC2 => ((impl_natMul.f k l0_2 l1_1).bind fun tB7 => ((impl_lowest.f k (a0_0 != a1_0) tC2 tB7).bind fun btB4 => (some (btB4.1, btB4.2.1, btB4.2.2))))) = some (r1, r2, r3) := h
 clear h
 replace H := Option.bind_eq_some_iff.mp H
 obtain ⟨tC2, A30, H⟩ := H
 replace H : ((impl_natMul.f k l0_2 l1_1).bind fun tB7 => ((impl_lowest.f k (a0_0 != a1_0) tC2 tB7).bind fun btB4 => (some (btB4.1, btB4.2.1, btB4.2.2)))) = some (r1, r2, r3) := H
 have A3 := Aside0.mk A30
 clear A30
 replace H := Option.bind_eq_some_iff.mp H
 obtain ⟨tB7, A40, H⟩ := H
 replace H : ((impl_lowest.f k (a0_0 != a1_0) tC2 tB7).bind fun btB4 => (some (btB4.1, btB4.2.1, btB4.2.2))) = some (r1, r2, r3) := H
 have A4 := Aside0.mk A40
 clear A40
 replace H := Option.bind_eq_some_iff.mp H
 obtain ⟨⟨tB4, tD4, tD5⟩, A50, H⟩ := H
 replace H : (some (tB4, tD4, tD5)) = some (r1, r2, r3) := H
 have A5 := Aside0.mk A50
 clear A50
 simp only [Option.some.injEq, Prod.mk.injEq] at H
 obtain ⟨rfl, rfl, rfl⟩ := H
 go_enter Try.func49, Try.ntmps49
 try go_wp2_with (first | ((with_reducible refine gate_dst (N := 2) rfl ?_); refine bx_ (N := 2) (cs := #[.bool a0_0, .slice A0_1 l0_1.length c0_1, .slice A0_2 l0_2.length c0_2]) (t := 24) ?_; intro gbA5 hg w6 hbox hb; have BKA5 := Aside0.mk (hbox); have GWA5 := geh hg HB; have GEA5 := geh hg HB; replace HB := bst HB hb; clear hb hbox hg) | ((with_reducible refine gate_dst (N := 3) rfl ?_); refine bx_ (N := 3) (cs := #[.bool a1_0, .slice A1_1 l1_1.length c1_1, .slice A1_2 l1_2.length c1_2]) (t := 24) ?_; intro gbA6 hg w7 hbox hb; have BKA6 := Aside0.mk (hbox); have GWA6 := geh hg HB; have GEA6 := geh hg HB; replace HB := bst HB hb; have NBA5_A6 := nlt hg BKA5; have NBA6_A5 := ngt hg BKA5; replace BKA5 := bkb BKA5 hb; clear hb hbox hg) | ((with_reducible refine gate_dst (N := 4) rfl ?_); refine bx_ (N := 4) (cs := #[.bool false, .slice none 0 0, .slice none 0 0]) (t := 24) ?_; intro gbA4 hg w8 hbox hb; have BKA4 := Aside0.mk (hbox); have GWA4 := geh hg HB; have GEA4 := geh hg HB; replace HB := bst HB hb; have NBA5_A4 := nlt hg BKA5; have NBA4_A5 := ngt hg BKA5; replace BKA5 := bkb BKA5 hb; have NBA6_A4 := nlt hg BKA6; have NBA4_A6 := ngt hg BKA6; replace BKA6 := bkb BKA6 hb; clear hb hbox hg))
 replace BKA5 := Aside0.mk (blk_drew BKA5.out)
 replace BKA6 := Aside0.mk (blk_drew BKA6.out)
 replace BKA4 := Aside0.mk (blk_drew BKA4.out)
 replace HB := Aside0.mk (below_drew1 HB.out)
 refine start_ (n := 17) (S := fun w' => w'.cell? ⟨gbA5, 0, none⟩ = some (.bool a0_0) ∧ w'.cell? ⟨gbA5, 1, none⟩ = some (.slice A0_1 l0_1.length c0_1) ∧ w'.cell? ⟨gbA5, 2, none⟩ = some (.slice A0_2 l0_2.length c0_2) ∧ w'.cell? ⟨gbA6, 0, none⟩ = some (.bool a1_0) ∧ w'.cell? ⟨gbA6, 1, none⟩ = some (.slice A1_1 l1_1.length c1_1) ∧ w'.cell? ⟨gbA6, 2, none⟩ = some (.slice A1_2 l1_2.length c1_2)) (ds := []) (bm 17 0) (by kernel_rfl) rfl rfl ⟨bce BKA5 0 _, bce BKA5 1 _, bce BKA5 2 _, bce BKA6 0 _, bce BKA6 1 _, bce BKA6 2 _⟩ (fun hHeld => ?_); refine with_tabW impl_Rat_over.tab1 impl_Rat_over.bits1 (fun HT_ HW_ => ?_)
 generalize w8.drew = w9 at BKA5 BKA6 BKA4 HB hHeld ⊢
 refine pu_ 0 (some 5) (bm 17 1) HT_.out ?_
 refine pu_ 2 (some 7) (bm 17 5) HT_.out ?_
 refine pu_ 5 (some 10) (bm 17 37) HT_.out ?_
 refine pu_ 7 (some 12) (bm 17 165) HT_.out ?_
 refine pu_ 10 (some 15) (bm 17 1189) HT_.out ?_
 refine pu_ 12 (some 17) (bm 17 5285) HT_.out ?_
 refine tk_ 1 (some 6) (bm 17 5287) HT_.out HW_.out hHeld ?_
 refine tk_ 3 (some 8) (bm 17 5295) HT_.out HW_.out hHeld ?_
 refine pu_ 4 (some 9) (bm 17 5311) HT_.out ?_
 refine tk_ 6 (some 11) (bm 17 5375) HT_.out HW_.out hHeld ?_
 refine tk_ 8 (some 13) (bm 17 5631) HT_.out HW_.out hHeld ?_
 refine tk_ 11 (some 16) (bm 17 7679) HT_.out HW_.out hHeld ?_
 refine tk_ 13 (some 18) (bm 17 15871) HT_.out HW_.out hHeld ?_
 refine one_ (i := 9) (N := some 14) (bm 17 16383) rfl rfl (one_of HT_.out (by kernel_rfl)) (by decide) (fun K hK => ?_)
 refine g_ Try.func95 #[.slice A0_1 l0_1.length c0_1, .slice A1_2 l1_2.length c1_2] ?_
 with_reducible refine (impl_natMul.calls k _ _ l0_1 _ _ l1_2 tC2 _ ?side1 ?side2 ?side3 ?side4 A3.out).mono ?_
 (case side1 => exact crC (Kd.C_below HR0_1.out HB.out))
 (case side2 => exact HC0_1.out)
 (case side3 => exact crC (Kd.C_below HR1_2.out HB.out))
 (case side4 => exact HC1_2.out)
 rintro e w10 ⟨vE2, rfl, ho0, hb⟩
 refine ⟨_, rfl, ?_⟩
 have HOB8 := lwR ho0 HB
 replace BKA5 := bkb BKA5 hb
 replace BKA6 := bkb BKA6 hb
 replace BKA4 := bkb BKA4 hb
 replace HB := bst HB hb
 (try clear hb)
 (try clear hb2)
 (try clear hk)
 (try clear hi)
 (try clear ho0)
 refine hK.out _ _ ⟨bce BKA5 0 _, bce BKA5 1 _, bce BKA5 2 _, bce BKA6 0 _, bce BKA6 1 _, bce BKA6 2 _⟩ (fun hHeld => ?_)
 clear hK K
 refine nm_ 14 ?_
 refine one_ (i := 14) (N := some 19) (bm 17 32767) rfl rfl (one_of HT_.out (by kernel_rfl)) (by decide) (fun K hK => ?_)
 refine g_ Try.func95 #[.slice A0_2 l0_2.length c0_2, .slice A1_1 l1_1.length c1_1] ?_
 with_reducible refine (impl_natMul.calls k _ _ l0_2 _ _ l1_1 tB7 _ ?side1 ?side2 ?side3 ?side4 A4.out).mono ?_
 (case side1 => exact crC (Kd.C_below HR0_2.out HB.out))
 (case side2 => exact HC0_2.out)
 (case side3 => exact crC (Kd.C_below HR1_1.out HB.out))
 (case side4 => exact HC1_1.out)
 rintro e w11 ⟨vE3, rfl, ho0, hb⟩
 refine ⟨_, rfl, ?_⟩
 have HOC5 := lwR (nwR ho0 HOB8) HB
 replace HOB8 := eldR HOB8 (Kd.R_base ho0) hb
 replace BKA5 := bkb BKA5 hb
 replace BKA6 := bkb BKA6 hb
 replace BKA4 := bkb BKA4 hb
 replace HB := bst HB hb
 (try clear hb)
 (try clear hb2)
 (try clear hk)
 (try clear hi)
 (try clear ho0)
 obtain ⟨Ao12, co12, eo12⟩ := Kd.R_slice HOB8.out
 (first | subst eo12 | (injection eo12 with f1_ f2_ f3_; have f4_ := f1_.symm; have f5_ := f3_.symm; clear f1_ f2_ f3_; subst f4_; subst f5_))
 obtain ⟨Ao13, co13, eo13⟩ := Kd.R_slice HOC5.out
 (first | subst eo13 | (injection eo13 with f1_ f2_ f3_; have f4_ := f1_.symm; have f5_ := f3_.symm; clear f1_ f2_ f3_; subst f4_; subst f5_))
 refine hK.out _ _ ⟨bce BKA5 0 _, bce BKA5 1 _, bce BKA5 2 _, bce BKA6 0 _, bce BKA6 1 _, bce BKA6 2 _⟩ (fun hHeld => ?_)
 clear hK K
 refine nm_ 19 ?_
 refine one_ (i := 15) (N := some 20) (bm 17 65535) rfl rfl (one_of HT_.out (by kernel_rfl)) (by decide) (fun K hK => ?_)
 refine g_ Try.func94 #[.bool (a0_0 != a1_0), .slice Ao12 tC2.length co12, .slice Ao13 tB7.length co13] ?_
 with_reducible refine (impl_lowest.calls k (a0_0 != a1_0) _ _ tC2 _ _ tB7 tB4 tD4 tD5 _ ?side1 ?side2 ?side3 ?side4 A5.out).mono ?_
 (case side1 => exact crC (Kd.R_reads' HOB8.out).2.2)
 (case side2 => exact (Kd.R_reads' HOB8.out).2.1)
 (case side3 => exact crC (Kd.R_reads' HOC5.out).2.2)
 (case side4 => exact (Kd.R_reads' HOC5.out).2.1)
 rintro e w14 ⟨vE4, vE5, rfl, ho0, ho1, hb⟩
 refine ⟨_, rfl, ?_⟩
 have HOD6 := lwR (nwR (nwR ho0 HOB8) HOC5) HB
 have HOD7 := lwR (nwR (nwR ho1 HOB8) HOC5) HB
 replace HOB8 := tldR HOB8 hb (Kd.R_base ho0) (Kd.R_base ho1)
 replace HOC5 := tldR HOC5 hb (Kd.R_base ho0) (Kd.R_base ho1)
 replace BKA5 := bkb BKA5 hb
 replace BKA6 := bkb BKA6 hb
 replace BKA4 := bkb BKA4 hb
 replace HB := bst HB hb
 (try clear hb)
 (try clear hb2)
 (try clear hk)
 (try clear hi)
 (try clear ho0)
 (try clear ho1)
 obtain ⟨Ao16, co16, eo16⟩ := Kd.R_slice HOD6.out
 (first | subst eo16 | (injection eo16 with f1_ f2_ f3_; have f4_ := f1_.symm; have f5_ := f3_.symm; clear f1_ f2_ f3_; subst f4_; subst f5_))
 obtain ⟨Ao18, co18, eo18⟩ := Kd.R_slice HOD7.out
 (first | subst eo18 | (injection eo18 with f1_ f2_ f3_; have f4_ := f1_.symm; have f5_ := f3_.symm; clear f1_ f2_ f3_; subst f4_; subst f5_))
 refine hK.out _ _ ⟨bce BKA5 0 _, bce BKA5 1 _, bce BKA5 2 _, bce BKA6 0 _, bce BKA6 1 _, bce BKA6 2 _⟩ (fun hHeld => ?_)
 clear hK K
 refine nm_ 20 ?_
 refine one_ (i := 16) (N := none) (bm 17 131071) rfl rfl (one_of HT_.out (by kernel_rfl)) (by decide) (fun K hK => ?_)
 have hs15 : w14.cell? ⟨gbA4, 0, none⟩ = some (.bool false) := bce BKA4 0 _
 have hfs15 := blk_frozen BKA4.out 0
 have hns15_0 := NBA5_A4.out
 have hns15_1 := NBA6_A4.out
 have hms15_0 := NBA4_A5.out
 have hms15_1 := NBA4_A6.out
 have hs17 : w14.cell? ⟨gbA4, 1, none⟩ = some (.slice none 0 0) := bce BKA4 1 _
 have hfs17 := blk_frozen BKA4.out 1
 have hns17_0 := NBA5_A4.out
 have hns17_1 := NBA6_A4.out
 have hms17_0 := NBA4_A5.out
 have hms17_1 := NBA4_A6.out
 have hs19 : w14.cell? ⟨gbA4, 2, none⟩ = some (.slice none 0 0) := bce BKA4 2 _
 have hfs19 := blk_frozen BKA4.out 2
 have hns19_0 := NBA5_A4.out
 have hns19_1 := NBA6_A4.out
 have hms19_0 := NBA4_A5.out
 have hms19_1 := NBA4_A6.out
 refine skip_ (w1 := ?_) (by rfl) rfl ?_ ?_
 rotate_left
 ·
  go_simp
  rfl
 refine hK.out _ _ ⟨((cell_far (p := ⟨gbA4, _, none⟩) NBA5_A4.out _).trans (((cell_far (p := ⟨gbA4, _, none⟩) NBA5_A4.out _).trans (((cell_far (p := ⟨gbA4, _, none⟩) NBA5_A4.out _).trans (hHeld.1)))))), ((cell_far (p := ⟨gbA4, _, none⟩) NBA5_A4.out _).trans (((cell_far (p := ⟨gbA4, _, none⟩) NBA5_A4.out _).trans (((cell_far (p := ⟨gbA4, _, none⟩) NBA5_A4.out _).trans (hHeld.2.1)))))), ((cell_far (p := ⟨gbA4, _, none⟩) NBA5_A4.out _).trans (((cell_far (p := ⟨gbA4, _, none⟩) NBA5_A4.out _).trans (((cell_far (p := ⟨gbA4, _, none⟩) NBA5_A4.out _).trans (hHeld.2.2.1)))))), ((cell_far (p := ⟨gbA4, _, none⟩) NBA6_A4.out _).trans (((cell_far (p := ⟨gbA4, _, none⟩) NBA6_A4.out _).trans (((cell_far (p := ⟨gbA4, _, none⟩) NBA6_A4.out _).trans (hHeld.2.2.2.1)))))), ((cell_far (p := ⟨gbA4, _, none⟩) NBA6_A4.out _).trans (((cell_far (p := ⟨gbA4, _, none⟩) NBA6_A4.out _).trans (((cell_far (p := ⟨gbA4, _, none⟩) NBA6_A4.out _).trans (hHeld.2.2.2.2.1)))))), ((cell_far (p := ⟨gbA4, _, none⟩) NBA6_A4.out _).trans (((cell_far (p := ⟨gbA4, _, none⟩) NBA6_A4.out _).trans (((cell_far (p := ⟨gbA4, _, none⟩) NBA6_A4.out _).trans (hHeld.2.2.2.2.2))))))⟩ (fun hHeld => ?_)
 clear hK K
 refine done_ (done_of HT_.out (by kernel_rfl)) ?_
 try go_wp2
 refine bodyPost_ret (results_cell_row rfl _ _ gbA4 24 #[.bool tB4, .slice Ao16 tD4.length co16, .slice Ao18 tD5.length co18] (0, 0) _ rfl (bp3 BKA4 _ _ _) Try.underlying24 rfl (by kernel_rfl)) rfl ?_
 exact ⟨_, _, er_, (crN HOD6 BKA4 fun _ hk => hk.1.1.1), (crN HOD7 BKA4 fun _ hk => hk.1.1.1), blw HB⟩

def impl_first.l0 : Nat → List Int → Int → Int → Option (Int)
 | 0, _, _, _ => none
 | k + 1, x5, x6, x7 => if x7 < x6 then (if 0 ≤ x7 then (if x7 < (x5.length : Int) then (if (rd x5 x7) = 0 then (impl_first.l0 k x5 x6 (wrap64 (x7 + 1))) else (some (rd x5 x7))) else (none)) else (none)) else (some 0)
def impl_first.f (k : Nat) (l0 : List Int) : Option (Int) := impl_first.l0 k l0 (l0.length : Int) 0
set_option maxHeartbeats 8000000 in
set_option maxRecDepth 100000 in
theorem impl_first.calls (k : Nat) (A0 : Option Addr) (c0 : Nat) (l0 : List Int) (r : Int) (w : World) (hr0 : Kd.C (Kd.int .i64) w A0 l0.length l0) (hc0 : l0.length ≤ c0) (h : impl_first.f k l0 = some r) :
  Calls Try.prog 80 #[.slice A0 l0.length c0] w fun e w' => e = .returned (.int .i64 r) ∧ Drawn0 w w' := by
 have HR0 := Aside0.mk hr0
 have HC0 := Aside0.mk hc0
 clear hr0 hc0
 have H : (impl_first.l0 k l0 (l0.length : Int) 0) = some r := h
 clear h
 have H' := Aside0.mk H
 clear H
 go_enter Try.func80, Try.ntmps80
 go_wp2
 go_loopg [7] k (fun kq v7 w' => ∃ (x7_1 : Int), v7 = .int .i64 x7_1 ∧ Aside0 (impl_first.l0 kq l0 (l0.length : Int) x7_1 = some r) ∧ Aside0 (kq ≤ k) ∧ Drawn0 w w')
 case atStart => exact ⟨(0), rs_, H', ⟨Nat.le_refl _⟩, by repeat (first | exact Drawn0.refl _ | apply Drawn0.step)⟩
 case round =>
  clear H'
  obtain ⟨x7_1, rfl, HA, HK1, ⟨m1, rfl⟩⟩ := hrel
  cases gk with
  | zero => exact absurd HA.out (by simp [impl_first.l0])
  | succ k1 =>
   have H := HA.out
   clear HA
   simp only [impl_first.l0] at H
   by_cases c2 : x7_1 < (l0.length : Int)
   ·
    rw [if_pos c2] at H
    have c2b0 : decide (x7_1 < (l0.length : Int)) = true := decide_eq_true c2
    clear c2
    by_cases c3 : 0 ≤ x7_1
    ·
     rw [if_pos c3] at H
     have c3b0 : decide (0 ≤ x7_1) = true := decide_eq_true c3
     clear c3
     by_cases c4 : x7_1 < (l0.length : Int)
     ·
      rw [if_pos c4] at H
      have c4b0 : decide (x7_1 < (l0.length : Int)) = true := decide_eq_true c4
      clear c4
      by_cases c5 : (rd l0 x7_1) = 0
      ·
       rw [if_pos c5] at H
       have c5b0 : ((rd l0 x7_1) == 0) = true := beq_iff_eq.mpr c5
       have c5b1 : ((rd l0 x7_1) != 0) = false := bne_eq_false_iff_eq.mpr c5
       clear c5
       have H' := Aside0.mk H
       clear H
       have pB0 : 0 ≤ (x7_1 : Int) := of_decide_eq_true (by first | (with_reducible assumption) | assumption)
       have qB0 : x7_1 < (l0.length : Int) := of_decide_eq_true (by first | (with_reducible assumption) | assumption)
       obtain ⟨adB0, eB0, hxB0_0⟩ := Kd.at_int HR0.out x7_1 pB0 qB0
       cases eB0
       replace pB0 := eq_true pB0
       replace qB0 := eq_true qB0
       go_wp2
       go_roundg k1
       case measure => have := HK1.out; omega
       case rel => exact ⟨(wrap64 (x7_1 + 1)), rs_, H', ⟨by have := HK1.out; omega⟩, by repeat (first | exact Drawn0.refl _ | apply Drawn0.step)⟩
      ·
       rw [if_neg c5] at H
       have c5b0 : ((rd l0 x7_1) == 0) = false := beq_eq_false_iff_ne.mpr c5
       have c5b1 : ((rd l0 x7_1) != 0) = true := bne_iff_ne.mpr c5
       obtain rfl := Option.some.inj H
       have pB0 : 0 ≤ (x7_1 : Int) := of_decide_eq_true (by first | (with_reducible assumption) | assumption)
       have qB0 : x7_1 < (l0.length : Int) := of_decide_eq_true (by first | (with_reducible assumption) | assumption)
       obtain ⟨adB0, eB0, hxB0_0⟩ := Kd.at_int HR0.out x7_1 pB0 qB0
       cases eB0
       replace pB0 := eq_true pB0
       replace qB0 := eq_true qB0
       go_wp2
       go_ret
       exact ⟨by first | rfl | (simp; done) | (simp [*]; done), by repeat (first | exact Drawn0.refl _ | apply Drawn0.step)⟩
     ·
      rw [if_neg c4] at H
      exact absurd H (by simp)
    ·
     rw [if_neg c3] at H
     exact absurd H (by simp)
   ·
    rw [if_neg c2] at H
    have c2b0 : decide (x7_1 < (l0.length : Int)) = false := decide_eq_false c2
    clear c2
    obtain rfl := Option.some.inj H
    go_wp2
    go_ret
    exact ⟨by first | rfl | (simp; done) | (simp [*]; done), by repeat (first | exact Drawn0.refl _ | apply Drawn0.step)⟩

def impl_Rat_sign.f (a0_0 : Bool) (l0_1 : List Int) (l0_2 : List Int) : Option (Int) := (impl_Rat_isZero.f a0_0 l0_1 l0_2).bind fun tD0 => (if tD0 = true then (some 0) else (if a0_0 = true then (some (-1)) else (some 1)))
set_option maxHeartbeats 8000000 in
set_option maxRecDepth 100000 in
theorem impl_Rat_sign.calls (a0_0 : Bool) (A0_1 : Option Addr) (c0_1 : Nat) (l0_1 : List Int) (A0_2 : Option Addr) (c0_2 : Nat) (l0_2 : List Int) (r : Int) (w : World) (hr0_1 : Kd.C (Kd.int .i64) w A0_1 l0_1.length l0_1) (hc0_1 : l0_1.length ≤ c0_1) (hr0_2 : Kd.C (Kd.int .i64) w A0_2 l0_2.length l0_2) (hc0_2 : l0_2.length ≤ c0_2) (h : impl_Rat_sign.f a0_0 l0_1 l0_2 = some r) :
  Calls Try.prog 104 #[.agg #[.bool a0_0, .slice A0_1 l0_1.length c0_1, .slice A0_2 l0_2.length c0_2]] w fun e w' => e = .returned (.int .i64 r) ∧ Below w.heap.size w w' := by
 have hu24 := Try.underlying24
 have HR0_1 := Aside0.mk hr0_1
 have HC0_1 := Aside0.mk hc0_1
 clear hr0_1 hc0_1
 have HR0_2 := Aside0.mk hr0_2
 have HC0_2 := Aside0.mk hc0_2
 clear hr0_2 hc0_2
 have HB := Aside0.mk (Below.refl w.heap.size w)
 have H : ((impl_Rat_isZero.f a0_0 l0_1 l0_2).bind fun tD0 => (if tD0 = true then (some 0) else (if a0_0 = true then (some (-1)) else (some 1)))) = some r := h
 clear h
 replace H := Option.bind_eq_some_iff.mp H
 obtain ⟨tD0, A20, H⟩ := H
 replace H : (if tD0 = true then (some 0) else (if a0_0 = true then (some (-1)) else (some 1))) = some r := H
 have A2 := Aside0.mk A20
 clear A20
 by_cases c3 : tD0 = true
 ·
  subst c3
  rw [if_pos rfl] at H
  obtain rfl := Option.some.inj H
  go_enter Try.func104, Try.ntmps104
  go_wp2_with (first | ((with_reducible refine gate_dst (N := 1) rfl ?_); refine bx_ (N := 1) (cs := #[.bool a0_0, .slice A0_1 l0_1.length c0_1, .slice A0_2 l0_2.length c0_2]) (t := 24) ?_; intro gbB1 hg w4 hbox hb; have BKB1 := Aside0.mk (hbox); have GWB1 := geh hg HB; have GEB1 := geh hg HB; replace HB := bst HB hb; clear hb hbox hg; obtain ⟨hcz5_0, hcz5_1, hcz5_2, hfz5_0, hfz5_1, hfz5_2⟩ := bc3 BKB1) | ((with_reducible refine gate_callee (f := 59) rfl ?_); refine gL_ (some 5) Try.func59 #[.agg #[.bool a0_0, .slice A0_1 l0_1.length c0_1, .slice A0_2 l0_2.length c0_2]] ?_; (with_reducible refine (impl_Rat_isZero.calls a0_0 _ _ l0_1 _ _ l0_2 true _ ?side1 ?side2 ?side3 ?side4 A2.out).mono ?_); (case side1 => exact crC (Kd.C_below HR0_1.out HB.out)); (case side2 => exact HC0_1.out); (case side3 => exact crC (Kd.C_below HR0_2.out HB.out)); (case side4 => exact HC0_2.out); rintro e w6 ⟨rfl, hb⟩; refine ⟨_, rfl, ?_⟩; replace BKB1 := bkb BKB1 hb; replace HB := bst HB hb; (try clear hb); (try clear hb2); (try clear hk); (try clear hi)))
  go_ret
  exact ⟨er_, blw HB⟩
 ·
  replace c3 := Bool.eq_false_iff.mpr c3
  subst c3
  rw [if_neg (show ¬ (false = true) by decide)] at H
  by_cases c7 : a0_0 = true
  ·
   subst c7
   rw [if_pos rfl] at H
   obtain rfl := Option.some.inj H
   go_enter Try.func104, Try.ntmps104
   go_wp2_with (first | ((with_reducible refine gate_dst (N := 1) rfl ?_); refine bx_ (N := 1) (cs := #[.bool true, .slice A0_1 l0_1.length c0_1, .slice A0_2 l0_2.length c0_2]) (t := 24) ?_; intro gbB1 hg w8 hbox hb; have BKB1 := Aside0.mk (hbox); have GWB1 := geh hg HB; have GEB1 := geh hg HB; replace HB := bst HB hb; clear hb hbox hg; obtain ⟨hcz9_0, hcz9_1, hcz9_2, hfz9_0, hfz9_1, hfz9_2⟩ := bc3 BKB1) | ((with_reducible refine gate_callee (f := 59) rfl ?_); refine gL_ (some 5) Try.func59 #[.agg #[.bool true, .slice A0_1 l0_1.length c0_1, .slice A0_2 l0_2.length c0_2]] ?_; (with_reducible refine (impl_Rat_isZero.calls true _ _ l0_1 _ _ l0_2 false _ ?side1 ?side2 ?side3 ?side4 A2.out).mono ?_); (case side1 => exact crC (Kd.C_below HR0_1.out HB.out)); (case side2 => exact HC0_1.out); (case side3 => exact crC (Kd.C_below HR0_2.out HB.out)); (case side4 => exact HC0_2.out); rintro e w10 ⟨rfl, hb⟩; refine ⟨_, rfl, ?_⟩; replace BKB1 := bkb BKB1 hb; replace HB := bst HB hb; (try clear hb); (try clear hb2); (try clear hk); (try clear hi); obtain ⟨hcz11_0, hcz11_1, hcz11_2, hfz11_0, hfz11_1, hfz11_2⟩ := bc3 BKB1))
   go_ret
   exact ⟨er_, blw HB⟩
  ·
   replace c7 := Bool.eq_false_iff.mpr c7
   subst c7
   rw [if_neg (show ¬ (false = true) by decide)] at H
   obtain rfl := Option.some.inj H
   go_enter Try.func104, Try.ntmps104
   go_wp2_with (first | ((with_reducible refine gate_dst (N := 1) rfl ?_); refine bx_ (N := 1) (cs := #[.bool false, .slice A0_1 l0_1.length c0_1, .slice A0_2 l0_2.length c0_2]) (t := 24) ?_; intro gbB1 hg w12 hbox hb; have BKB1 := Aside0.mk (hbox); have GWB1 := geh hg HB; have GEB1 := geh hg HB; replace HB := bst HB hb; clear hb hbox hg; obtain ⟨hcz13_0, hcz13_1, hcz13_2, hfz13_0, hfz13_1, hfz13_2⟩ := bc3 BKB1) | ((with_reducible refine gate_callee (f := 59) rfl ?_); refine gL_ (some 5) Try.func59 #[.agg #[.bool false, .slice A0_1 l0_1.length c0_1, .slice A0_2 l0_2.length c0_2]] ?_; (with_reducible refine (impl_Rat_isZero.calls false _ _ l0_1 _ _ l0_2 false _ ?side1 ?side2 ?side3 ?side4 A2.out).mono ?_); (case side1 => exact crC (Kd.C_below HR0_1.out HB.out)); (case side2 => exact HC0_1.out); (case side3 => exact crC (Kd.C_below HR0_2.out HB.out)); (case side4 => exact HC0_2.out); rintro e w14 ⟨rfl, hb⟩; refine ⟨_, rfl, ?_⟩; replace BKB1 := bkb BKB1 hb; replace HB := bst HB hb; (try clear hb); (try clear hb2); (try clear hk); (try clear hi); obtain ⟨hcz15_0, hcz15_1, hcz15_2, hfz15_0, hfz15_1, hfz15_2⟩ := bc3 BKB1))
   go_ret
   exact ⟨er_, blw HB⟩

def impl_Rat_times.f (k : Nat) (a0_0 : Bool) (l0_1 : List Int) (l0_2 : List Int) (a1_0 : Bool) (l1_1 : List Int) (l1_2 : List Int) : Option (Bool × List Int × List Int) := (impl_natMul.f k l0_1 l1_1).bind fun tB5 => ((impl_natMul.f k l0_2 l1_2).bind fun tB2 => ((impl_lowest.f k (a0_0 != a1_0) tB5 tB2).bind fun btA8 => (some (btA8.1, btA8.2.1, btA8.2.2))))
def impl_Rat_times.T1 : Bool × List (List Nat × List Nat) := (true, [([], []), ([0], [0]), ([], []), ([2], [2]), ([1, 3], [1, 3]), ([], []), ([5], [5]), ([], []), ([7], [7]), ([6, 8], [6, 8]), ([], []), ([10], [10]), ([], []), ([12], [12]), ([11, 13, 9], [11, 13]), ([4, 9, 14, 14], [4, 9, 14]), ([15, 15, 0, 1, 2, 3, 4, 5, 6, 7, 8, 9, 10, 11, 12, 13, 14, 15], [15])])
def impl_Rat_times.B1 : List Nat := [0, 1, 0, 4, 15, 0, 32, 0, 128, 480, 0, 1024, 0, 4096, 16352, 32767, 65535]
theorem impl_Rat_times.tab1 : rtab .any (opsOf Try.f73 1) = impl_Rat_times.T1 := by kernel_rfl
theorem impl_Rat_times.bits1 : waitsOk impl_Rat_times.T1.2 impl_Rat_times.B1 = true := by kernel_rfl
set_option maxHeartbeats 8000000 in
set_option maxRecDepth 100000 in
theorem impl_Rat_times.calls (k : Nat) (a0_0 : Bool) (A0_1 : Option Addr) (c0_1 : Nat) (l0_1 : List Int) (A0_2 : Option Addr) (c0_2 : Nat) (l0_2 : List Int) (a1_0 : Bool) (A1_1 : Option Addr) (c1_1 : Nat) (l1_1 : List Int) (A1_2 : Option Addr) (c1_2 : Nat) (l1_2 : List Int) (r1 : Bool) (r2 : List Int) (r3 : List Int) (w : World) (hr0_1 : Kd.C (Kd.int .i64) w A0_1 l0_1.length l0_1) (hc0_1 : l0_1.length ≤ c0_1) (hr0_2 : Kd.C (Kd.int .i64) w A0_2 l0_2.length l0_2) (hc0_2 : l0_2.length ≤ c0_2) (hr1_1 : Kd.C (Kd.int .i64) w A1_1 l1_1.length l1_1) (hc1_1 : l1_1.length ≤ c1_1) (hr1_2 : Kd.C (Kd.int .i64) w A1_2 l1_2.length l1_2) (hc1_2 : l1_2.length ≤ c1_2) (h : impl_Rat_times.f k a0_0 l0_1 l0_2 a1_0 l1_1 l1_2 = some (r1, r2, r3)) :
  Calls Try.prog 73 #[.agg #[.bool a0_0, .slice A0_1 l0_1.length c0_1, .slice A0_2 l0_2.length c0_2], .agg #[.bool a1_0, .slice A1_1 l1_1.length c1_1, .slice A1_2 l1_2.length c1_2]] w fun e w' => ∃ v1_ v2_ : Value, e = .returned (.agg #[.bool r1, v1_, v2_]) ∧ Kd.R (Kd.int .i64) 3 w' w.heap.size (fun k_ => nO k_ v2_) v1_ r2 ∧ Kd.R (Kd.int .i64) 3 w' w.heap.size (fun k_ => nO k_ v1_) v2_ r3 ∧ Below w.heap.size w w' := by
 have hu24 := Try.underlying24
 have HR0_1 := Aside0.mk hr0_1
 have HC0_1 := Aside0.mk hc0_1
 clear hr0_1 hc0_1
 have HR0_2 := Aside0.mk hr0_2
 have HC0_2 := Aside0.mk hc0_2
 clear hr0_2 hc0_2
 have HR1_1 := Aside0.mk hr1_1
 have HC1_1 := Aside0.mk hc1_1
 clear hr1_1 hc1_1
 have HR1_2 := Aside0.mk hr1_2
 have HC1_2 := Aside0.mk hc1_2
 clear hr1_2 hc1_2
 have HB := Aside0.mk (Below.refl w.heap.size w)
 have H : ((impl_natMul.f k l0_1 l1_1).bind fun tB5 => ((impl_natMul.f k l0_2 l1_2).bind fun tB2 => ((impl_lowest.f k (a0_0 != a1_0) tB5 tB2).bind fun btA8 => (some (btA8.1, btA8.2.1, btA8.2.2))))) = some (r1, r2, r3) := h
 clear h
 replace H := Option.bind_eq_some_iff.mp H
 obtain ⟨tB5, A30, H⟩ := H
 replace H : ((impl_natMul.f k l0_2 l1_2).bind fun tB2 => ((impl_lowest.f k (a0_0 != a1_0) tB5 tB2).bind fun btA8 => (some (btA8.1, btA8.2.1, btA8.2.2)))) = some (r1, r2, r3) := H
 have A3 := Aside0.mk A30
 clear A30
 replace H := Option.bind_eq_some_iff.mp H
 obtain ⟨tB2, A40, H⟩ := H
 replace H : ((impl_lowest.f k (a0_0 != a1_0) tB5 tB2).bind fun btA8 => (some (btA8.1, btA8.2.1, btA8.2.2))) = some (r1, r2, r3) := H
 have A4 := Aside0.mk A40
 clear A40
 replace H := Option.bind_eq_some_iff.mp H
 obtain ⟨⟨tA8, tC6, tC7⟩, A50, H⟩ := H
 replace H : (some (tA8, tC6, tC7)) = some (r1, r2, r3) := H
 have A5 := Aside0.mk A50
 clear A50
 simp only [Option.some.injEq, Prod.mk.injEq] at H
 obtain ⟨rfl, rfl, rfl⟩ := H
 go_enter Try.func73, Try.ntmps73
 try go_wp2_with (first | ((with_reducible refine gate_dst (N := 2) rfl ?_); refine bx_ (N := 2) (cs := #[.bool a0_0, .slice A0_1 l0_1.length c0_1, .slice A0_2 l0_2.length c0_2]) (t := 24) ?_; intro gbA1 hg w6 hbox hb; have BKA1 := Aside0.mk (hbox); have GWA1 := geh hg HB; have GEA1 := geh hg HB; replace HB := bst HB hb; clear hb hbox hg) | ((with_reducible refine gate_dst (N := 3) rfl ?_); refine bx_ (N := 3) (cs := #[.bool a1_0, .slice A1_1 l1_1.length c1_1, .slice A1_2 l1_2.length c1_2]) (t := 24) ?_; intro gbA3 hg w7 hbox hb; have BKA3 := Aside0.mk (hbox); have GWA3 := geh hg HB; have GEA3 := geh hg HB; replace HB := bst HB hb; have NBA1_A3 := nlt hg BKA1; have NBA3_A1 := ngt hg BKA1; replace BKA1 := bkb BKA1 hb; clear hb hbox hg) | ((with_reducible refine gate_dst (N := 4) rfl ?_); refine bx_ (N := 4) (cs := #[.bool false, .slice none 0 0, .slice none 0 0]) (t := 24) ?_; intro gbA0 hg w8 hbox hb; have BKA0 := Aside0.mk (hbox); have GWA0 := geh hg HB; have GEA0 := geh hg HB; replace HB := bst HB hb; have NBA1_A0 := nlt hg BKA1; have NBA0_A1 := ngt hg BKA1; replace BKA1 := bkb BKA1 hb; have NBA3_A0 := nlt hg BKA3; have NBA0_A3 := ngt hg BKA3; replace BKA3 := bkb BKA3 hb; clear hb hbox hg))
 replace BKA1 := Aside0.mk (blk_drew BKA1.out)
 replace BKA3 := Aside0.mk (blk_drew BKA3.out)
 replace BKA0 := Aside0.mk (blk_drew BKA0.out)
 replace HB := Aside0.mk (below_drew1 HB.out)
 refine start_ (n := 17) (S := fun w' => w'.cell? ⟨gbA1, 0, none⟩ = some (.bool a0_0) ∧ w'.cell? ⟨gbA1, 1, none⟩ = some (.slice A0_1 l0_1.length c0_1) ∧ w'.cell? ⟨gbA1, 2, none⟩ = some (.slice A0_2 l0_2.length c0_2) ∧ w'.cell? ⟨gbA3, 0, none⟩ = some (.bool a1_0) ∧ w'.cell? ⟨gbA3, 1, none⟩ = some (.slice A1_1 l1_1.length c1_1) ∧ w'.cell? ⟨gbA3, 2, none⟩ = some (.slice A1_2 l1_2.length c1_2)) (ds := []) (bm 17 0) (by kernel_rfl) rfl rfl ⟨bce BKA1 0 _, bce BKA1 1 _, bce BKA1 2 _, bce BKA3 0 _, bce BKA3 1 _, bce BKA3 2 _⟩ (fun hHeld => ?_); refine with_tabW impl_Rat_times.tab1 impl_Rat_times.bits1 (fun HT_ HW_ => ?_)
 generalize w8.drew = w9 at BKA1 BKA3 BKA0 HB hHeld ⊢
 refine pu_ 0 (some 5) (bm 17 1) HT_.out ?_
 refine pu_ 2 (some 7) (bm 17 5) HT_.out ?_
 refine pu_ 5 (some 10) (bm 17 37) HT_.out ?_
 refine pu_ 7 (some 12) (bm 17 165) HT_.out ?_
 refine pu_ 10 (some 15) (bm 17 1189) HT_.out ?_
 refine pu_ 12 (some 17) (bm 17 5285) HT_.out ?_
 refine tk_ 1 (some 6) (bm 17 5287) HT_.out HW_.out hHeld ?_
 refine tk_ 3 (some 8) (bm 17 5295) HT_.out HW_.out hHeld ?_
 refine pu_ 4 (some 9) (bm 17 5311) HT_.out ?_
 refine tk_ 6 (some 11) (bm 17 5375) HT_.out HW_.out hHeld ?_
 refine tk_ 8 (some 13) (bm 17 5631) HT_.out HW_.out hHeld ?_
 refine tk_ 11 (some 16) (bm 17 7679) HT_.out HW_.out hHeld ?_
 refine tk_ 13 (some 18) (bm 17 15871) HT_.out HW_.out hHeld ?_
 refine one_ (i := 9) (N := some 14) (bm 17 16383) rfl rfl (one_of HT_.out (by kernel_rfl)) (by decide) (fun K hK => ?_)
 refine g_ Try.func95 #[.slice A0_1 l0_1.length c0_1, .slice A1_1 l1_1.length c1_1] ?_
 with_reducible refine (impl_natMul.calls k _ _ l0_1 _ _ l1_1 tB5 _ ?side1 ?side2 ?side3 ?side4 A3.out).mono ?_
 (case side1 => exact crC (Kd.C_below HR0_1.out HB.out))
 (case side2 => exact HC0_1.out)
 (case side3 => exact crC (Kd.C_below HR1_1.out HB.out))
 (case side4 => exact HC1_1.out)
 rintro e w10 ⟨vD8, rfl, ho0, hb⟩
 refine ⟨_, rfl, ?_⟩
 have HOB3 := lwR ho0 HB
 replace BKA1 := bkb BKA1 hb
 replace BKA3 := bkb BKA3 hb
 replace BKA0 := bkb BKA0 hb
 replace HB := bst HB hb
 (try clear hb)
 (try clear hb2)
 (try clear hk)
 (try clear hi)
 (try clear ho0)
 refine hK.out _ _ ⟨bce BKA1 0 _, bce BKA1 1 _, bce BKA1 2 _, bce BKA3 0 _, bce BKA3 1 _, bce BKA3 2 _⟩ (fun hHeld => ?_)
 clear hK K
 refine nm_ 14 ?_
 refine one_ (i := 14) (N := some 19) (bm 17 32767) rfl rfl (one_of HT_.out (by kernel_rfl)) (by decide) (fun K hK => ?_)
 refine g_ Try.func95 #[.slice A0_2 l0_2.length c0_2, .slice A1_2 l1_2.length c1_2] ?_
 with_reducible refine (impl_natMul.calls k _ _ l0_2 _ _ l1_2 tB2 _ ?side1 ?side2 ?side3 ?side4 A4.out).mono ?_
 (case side1 => exact crC (Kd.C_below HR0_2.out HB.out))
 (case side2 => exact HC0_2.out)
 (case side3 => exact crC (Kd.C_below HR1_2.out HB.out))
 (case side4 => exact HC1_2.out)
 rintro e w11 ⟨vD9, rfl, ho0, hb⟩
 refine ⟨_, rfl, ?_⟩
 have HOB6 := lwR (nwR ho0 HOB3) HB
 replace HOB3 := eldR HOB3 (Kd.R_base ho0) hb
 replace BKA1 := bkb BKA1 hb
 replace BKA3 := bkb BKA3 hb
 replace BKA0 := bkb BKA0 hb
 replace HB := bst HB hb
 (try clear hb)
 (try clear hb2)
 (try clear hk)
 (try clear hi)
 (try clear ho0)
 obtain ⟨Ao12, co12, eo12⟩ := Kd.R_slice HOB3.out
 (first | subst eo12 | (injection eo12 with f1_ f2_ f3_; have f4_ := f1_.symm; have f5_ := f3_.symm; clear f1_ f2_ f3_; subst f4_; subst f5_))
 obtain ⟨Ao13, co13, eo13⟩ := Kd.R_slice HOB6.out
 (first | subst eo13 | (injection eo13 with f1_ f2_ f3_; have f4_ := f1_.symm; have f5_ := f3_.symm; clear f1_ f2_ f3_; subst f4_; subst f5_))
 refine hK.out _ _ ⟨bce BKA1 0 _, bce BKA1 1 _, bce BKA1 2 _, bce BKA3 0 _, bce BKA3 1 _, bce BKA3 2 _⟩ (fun hHeld => ?_)
 clear hK K
 refine nm_ 19 ?_
 refine one_ (i := 15) (N := some 20) (bm 17 65535) rfl rfl (one_of HT_.out (by kernel_rfl)) (by decide) (fun K hK => ?_)
 refine g_ Try.func94 #[.bool (a0_0 != a1_0), .slice Ao12 tB5.length co12, .slice Ao13 tB2.length co13] ?_
 with_reducible refine (impl_lowest.calls k (a0_0 != a1_0) _ _ tB5 _ _ tB2 tA8 tC6 tC7 _ ?side1 ?side2 ?side3 ?side4 A5.out).mono ?_
 (case side1 => exact crC (Kd.R_reads' HOB3.out).2.2)
 (case side2 => exact (Kd.R_reads' HOB3.out).2.1)
 (case side3 => exact crC (Kd.R_reads' HOB6.out).2.2)
 (case side4 => exact (Kd.R_reads' HOB6.out).2.1)
 rintro e w14 ⟨vE0, vE1, rfl, ho0, ho1, hb⟩
 refine ⟨_, rfl, ?_⟩
 have HOD1 := lwR (nwR (nwR ho0 HOB3) HOB6) HB
 have HOD2 := lwR (nwR (nwR ho1 HOB3) HOB6) HB
 replace HOB3 := tldR HOB3 hb (Kd.R_base ho0) (Kd.R_base ho1)
 replace HOB6 := tldR HOB6 hb (Kd.R_base ho0) (Kd.R_base ho1)
 replace BKA1 := bkb BKA1 hb
 replace BKA3 := bkb BKA3 hb
 replace BKA0 := bkb BKA0 hb
 replace HB := bst HB hb
 (try clear hb)
 (try clear hb2)
 (try clear hk)
 (try clear hi)
 (try clear ho0)
 (try clear ho1)
 obtain ⟨Ao16, co16, eo16⟩ := Kd.R_slice HOD1.out
 (first | subst eo16 | (injection eo16 with f1_ f2_ f3_; have f4_ := f1_.symm; have f5_ := f3_.symm; clear f1_ f2_ f3_; subst f4_; subst f5_))
 obtain ⟨Ao18, co18, eo18⟩ := Kd.R_slice HOD2.out
 (first | subst eo18 | (injection eo18 with f1_ f2_ f3_; have f4_ := f1_.symm; have f5_ := f3_.symm; clear f1_ f2_ f3_; subst f4_; subst f5_))
 refine hK.out _ _ ⟨bce BKA1 0 _, bce BKA1 1 _, bce BKA1 2 _, bce BKA3 0 _, bce BKA3 1 _, bce BKA3 2 _⟩ (fun hHeld => ?_)
 clear hK K
 refine nm_ 20 ?_
 refine one_ (i := 16) (N := none) (bm 17 131071) rfl rfl (one_of HT_.out (by kernel_rfl)) (by decide) (fun K hK => ?_)
 have hs15 : w14.cell? ⟨gbA0, 0, none⟩ = some (.bool false) := bce BKA0 0 _
 have hfs15 := blk_frozen BKA0.out 0
 have hns15_0 := NBA1_A0.out
 have hns15_1 := NBA3_A0.out
 have hms15_0 := NBA0_A1.out
 have hms15_1 := NBA0_A3.out
 have hs17 : w14.cell? ⟨gbA0, 1, none⟩ = some (.slice none 0 0) := bce BKA0 1 _
 have hfs17 := blk_frozen BKA0.out 1
 have hns17_0 := NBA1_A0.out
 have hns17_1 := NBA3_A0.out
 have hms17_0 := NBA0_A1.out
 have hms17_1 := NBA0_A3.out
 have hs19 : w14.cell? ⟨gbA0, 2, none⟩ = some (.slice none 0 0) := bce BKA0 2 _
 have hfs19 := blk_frozen BKA0.out 2
 have hns19_0 := NBA1_A0.out
 have hns19_1 := NBA3_A0.out
 have hms19_0 := NBA0_A1.out
 have hms19_1 := NBA0_A3.out
 refine skip_ (w1 := ?_) (by rfl) rfl ?_ ?_
 rotate_left
 ·
  go_simp
  rfl
 refine hK.out _ _ ⟨((cell_far (p := ⟨gbA0, _, none⟩) NBA1_A0.out _).trans (((cell_far (p := ⟨gbA0, _, none⟩) NBA1_A0.out _).trans (((cell_far (p := ⟨gbA0, _, none⟩) NBA1_A0.out _).trans (hHeld.1)))))), ((cell_far (p := ⟨gbA0, _, none⟩) NBA1_A0.out _).trans (((cell_far (p := ⟨gbA0, _, none⟩) NBA1_A0.out _).trans (((cell_far (p := ⟨gbA0, _, none⟩) NBA1_A0.out _).trans (hHeld.2.1)))))), ((cell_far (p := ⟨gbA0, _, none⟩) NBA1_A0.out _).trans (((cell_far (p := ⟨gbA0, _, none⟩) NBA1_A0.out _).trans (((cell_far (p := ⟨gbA0, _, none⟩) NBA1_A0.out _).trans (hHeld.2.2.1)))))), ((cell_far (p := ⟨gbA0, _, none⟩) NBA3_A0.out _).trans (((cell_far (p := ⟨gbA0, _, none⟩) NBA3_A0.out _).trans (((cell_far (p := ⟨gbA0, _, none⟩) NBA3_A0.out _).trans (hHeld.2.2.2.1)))))), ((cell_far (p := ⟨gbA0, _, none⟩) NBA3_A0.out _).trans (((cell_far (p := ⟨gbA0, _, none⟩) NBA3_A0.out _).trans (((cell_far (p := ⟨gbA0, _, none⟩) NBA3_A0.out _).trans (hHeld.2.2.2.2.1)))))), ((cell_far (p := ⟨gbA0, _, none⟩) NBA3_A0.out _).trans (((cell_far (p := ⟨gbA0, _, none⟩) NBA3_A0.out _).trans (((cell_far (p := ⟨gbA0, _, none⟩) NBA3_A0.out _).trans (hHeld.2.2.2.2.2))))))⟩ (fun hHeld => ?_)
 clear hK K
 refine done_ (done_of HT_.out (by kernel_rfl)) ?_
 try go_wp2
 refine bodyPost_ret (results_cell_row rfl _ _ gbA0 24 #[.bool tA8, .slice Ao16 tC6.length co16, .slice Ao18 tC7.length co18] (0, 0) _ rfl (bp3 BKA0 _ _ _) Try.underlying24 rfl (by kernel_rfl)) rfl ?_
 exact ⟨_, _, er_, (crN HOD1 BKA0 fun _ hk => hk.1.1.1), (crN HOD2 BKA0 fun _ hk => hk.1.1.1), blw HB⟩

def spec_l02Own.f (a0_0 : Bool) (l0_1 : List Int) (l0_2 : List Int) : Option (Bool × List Int × List Int) := (some (([] : List Int) : List Int)).bind fun yA6 => (if yA6.length + l0_1.length < 17592186044416 then ((some (([] : List Int) : List Int)).bind fun yA4 => (if yA4.length + l0_2.length < 17592186044416 then (some (a0_0, (yA6 ++ l0_1), (yA4 ++ l0_2))) else (none))) else (none))
def spec_l02Own.T1 : Bool × List (List Nat × List Nat) := (true, [([], []), ([0], [0]), ([], []), ([], []), ([3], [3]), ([2, 4], [2, 4]), ([], []), ([], []), ([7], [7]), ([6, 8, 5], [6, 8]), ([1, 5, 9], [1, 5, 9]), ([10, 9, 0, 1, 2, 3, 4, 5, 6, 7, 8, 9, 10], [10])])
def spec_l02Own.B1 : List Nat := [0, 1, 0, 0, 8, 28, 0, 0, 128, 508, 1023, 2047]
theorem spec_l02Own.tab1 : rtab .any (opsOf Try.f63 1) = spec_l02Own.T1 := by kernel_rfl
theorem spec_l02Own.bits1 : waitsOk spec_l02Own.T1.2 spec_l02Own.B1 = true := by kernel_rfl
set_option maxHeartbeats 8000000 in
set_option maxRecDepth 100000 in
theorem spec_l02Own.calls (a0_0 : Bool) (A0_1 : Option Addr) (c0_1 : Nat) (l0_1 : List Int) (A0_2 : Option Addr) (c0_2 : Nat) (l0_2 : List Int) (r1 : Bool) (r2 : List Int) (r3 : List Int) (w : World) (hr0_1 : Kd.C (Kd.int .i64) w A0_1 l0_1.length l0_1) (hc0_1 : l0_1.length ≤ c0_1) (hr0_2 : Kd.C (Kd.int .i64) w A0_2 l0_2.length l0_2) (hc0_2 : l0_2.length ≤ c0_2) (h : spec_l02Own.f a0_0 l0_1 l0_2 = some (r1, r2, r3)) :
  Calls Try.prog 63 #[.agg #[.bool a0_0, .slice A0_1 l0_1.length c0_1, .slice A0_2 l0_2.length c0_2]] w fun e w' => ∃ v1_ v2_ : Value, e = .returned (.agg #[.bool r1, v1_, v2_]) ∧ Kd.R (Kd.int .i64) 3 w' w.heap.size (fun k_ => nO k_ v2_) v1_ r2 ∧ Kd.R (Kd.int .i64) 3 w' w.heap.size (fun k_ => nO k_ v1_) v2_ r3 ∧ Below w.heap.size w w' := by
 have hu24 := Try.underlying24
 have HR0_1 := Aside0.mk hr0_1
 have HC0_1 := Aside0.mk hc0_1
 clear hr0_1 hc0_1
 have HR0_2 := Aside0.mk hr0_2
 have HC0_2 := Aside0.mk hc0_2
 clear hr0_2 hc0_2
 have HB := Aside0.mk (Below.refl w.heap.size w)
 have H : ((some (([] : List Int) : List Int)).bind fun yA6 => (if yA6.length + l0_1.length < 17592186044416 then ((some (([] : List Int) : List Int)).bind fun yA4 => (if yA4.length + l0_2.length < 17592186044416 then (some (a0_0, (yA6 ++ l0_1), (yA4 ++ l0_2))) else (none))) else (none))) = some (r1, r2, r3) := h
 clear h
 obtain ⟨yA6, hy270⟩ : ∃ y_ : List Int, y_ = (([] : List Int)) := ⟨_, rfl⟩
 replace H : (if yA6.length + l0_1.length < 17592186044416 then ((some (([] : List Int) : List Int)).bind fun yA4 => (if yA4.length + l0_2.length < 17592186044416 then (some (a0_0, (yA6 ++ l0_1), (yA4 ++ l0_2))) else (none))) else (none)) = some (r1, r2, r3) := by subst hy270; first | with_reducible exact H | with_reducible exact (Option.bind_some _ _).symm.trans H | exact H
 have NyA6 := Aside0.mk hy270
 clear hy270
 by_cases c2 : yA6.length + l0_1.length < 17592186044416
 ·
  rw [if_pos c2] at H
  have LMc2 := Aside0.mk c2
  clear c2
  obtain ⟨yB1, hy273⟩ : ∃ y_ : List Int, y_ = (yA6 ++ l0_1) := ⟨_, rfl⟩
  replace H : ((some (([] : List Int) : List Int)).bind fun yA4 => (if yA4.length + l0_2.length < 17592186044416 then (some (a0_0, yB1, (yA4 ++ l0_2))) else (none))) = some (r1, r2, r3) := by subst hy273; first | with_reducible exact H | with_reducible exact (Option.bind_some _ _).symm.trans H | exact H
  have NyB1 := Aside0.mk hy273
  clear hy273
  obtain ⟨yA4, hy276⟩ : ∃ y_ : List Int, y_ = (([] : List Int)) := ⟨_, rfl⟩
  replace H : (if yA4.length + l0_2.length < 17592186044416 then (some (a0_0, yB1, (yA4 ++ l0_2))) else (none)) = some (r1, r2, r3) := by subst hy276; first | with_reducible exact H | with_reducible exact (Option.bind_some _ _).symm.trans H | exact H
  have NyA4 := Aside0.mk hy276
  clear hy276
  by_cases c3 : yA4.length + l0_2.length < 17592186044416
  ·
   rw [if_pos c3] at H
   have LMc3 := Aside0.mk c3
   clear c3
   obtain ⟨yB6, hy279⟩ : ∃ y_ : List Int, y_ = (yA4 ++ l0_2) := ⟨_, rfl⟩
   replace H : (some (a0_0, yB1, yB6)) = some (r1, r2, r3) := by subst hy279; first | with_reducible exact H | with_reducible exact (Option.bind_some _ _).symm.trans H | exact H
   have NyB6 := Aside0.mk hy279
   clear hy279
   simp only [Option.some.injEq, Prod.mk.injEq] at H
   obtain ⟨rfl, rfl, rfl⟩ := H
   go_enter Try.func63, Try.ntmps63
   try go_wp2_with (first | ((with_reducible refine gate_dst (N := 1) rfl ?_); refine bx_ (N := 1) (cs := #[.bool a0_0, .slice A0_1 l0_1.length c0_1, .slice A0_2 l0_2.length c0_2]) (t := 24) ?_; intro gbA0 hg w4 hbox hb; have BKA0 := Aside0.mk (hbox); have GWA0 := geh hg HB; have GEA0 := geh hg HB; replace HB := bst HB hb; clear hb hbox hg) | ((with_reducible refine gate_dst (N := 2) rfl ?_); refine bx_ (N := 2) (cs := #[.bool false, .slice none 0 0, .slice none 0 0]) (t := 24) ?_; intro gbA1 hg w5 hbox hb; have BKA1 := Aside0.mk (hbox); have GWA1 := geh hg HB; have GEA1 := geh hg HB; replace HB := bst HB hb; have NBA0_A1 := nlt hg BKA0; have NBA1_A0 := ngt hg BKA0; replace BKA0 := bkb BKA0 hb; clear hb hbox hg))
   replace BKA0 := Aside0.mk (blk_drew BKA0.out)
   replace BKA1 := Aside0.mk (blk_drew BKA1.out)
   replace HB := Aside0.mk (below_drew1 HB.out)
   refine start_ (n := 12) (S := fun w' => w'.cell? ⟨gbA0, 0, none⟩ = some (.bool a0_0) ∧ w'.cell? ⟨gbA0, 1, none⟩ = some (.slice A0_1 l0_1.length c0_1) ∧ w'.cell? ⟨gbA0, 2, none⟩ = some (.slice A0_2 l0_2.length c0_2)) (ds := []) (bm 12 0) (by kernel_rfl) rfl rfl ⟨bce BKA0 0 _, bce BKA0 1 _, bce BKA0 2 _⟩ (fun hHeld => ?_); refine with_tabW spec_l02Own.tab1 spec_l02Own.bits1 (fun HT_ HW_ => ?_)
   generalize w5.drew = w6 at BKA0 BKA1 HB hHeld ⊢
   refine pu_ 0 (some 3) (bm 12 1) HT_.out ?_
   refine pu_ 3 (some 6) (bm 12 9) HT_.out ?_
   refine pu_ 7 (some 10) (bm 12 137) HT_.out ?_
   refine tk_ 1 (some 4) (bm 12 139) HT_.out HW_.out hHeld ?_
   refine tk_ 4 (some 7) (bm 12 155) HT_.out HW_.out hHeld ?_
   refine tk_ 8 (some 11) (bm 12 411) HT_.out HW_.out hHeld ?_
   refine join_ (σ := Value × Value × Value) 3 (bm 12 511) (fun s_ => [(5, s_.1), (8, s_.2.1), (9, s_.2.2)]) (fun s_ w' => (w'.cell? ⟨gbA0, 0, none⟩ = some (.bool a0_0) ∧ w'.cell? ⟨gbA0, 1, none⟩ = some (.slice A0_1 l0_1.length c0_1) ∧ w'.cell? ⟨gbA0, 2, none⟩ = some (.slice A0_2 l0_2.length c0_2)) ∧ (Kd.R (Kd.int .i64) 3 w' w.heap.size (fun k_ => nO k_ s_.2.2) s_.2.1 yB1) ∧ (Kd.R (Kd.int .i64) 3 w' w.heap.size (fun k_ => nO k_ s_.2.1) s_.2.2 yA4) ∧ (w'.heap[gbA0]? = some (.cells #[.bool a0_0, .slice A0_1 l0_1.length c0_1, .slice A0_2 l0_2.length c0_2] 24 (0, 0))) ∧ (w'.heap[gbA1]? = some (.cells #[.bool false, .slice none 0 0, .slice none 0 0] 24 (0, 0))) ∧ (Below w.heap.size w w')) ?_ ?_
   rotate_left
   ·
    intro hCont
    refine two_ (i := 2) (j := 6) (Ni := some 5) (Nj := some 9) (bm 12 415) (bm 12 475) rfl rfl rfl rfl (two_of HT_.out (by kernel_rfl)) (by decide) (by decide) (fun K hK => ?_) (fun K hK => ?_)
    ·
     skip
     refine Kd.R_lit_step (Kd.int .i64) _ 3 ?hg (N := 5) ?hd (xs := ([] : List Int)) (inner := []) (ok := fun _ => True) (okp := fun _ => True) ?hr ?hp (fun _ hk => hk) trivial (Below.refl _ _) (Nat.le_refl _) (by simp) ?_; (case hd => rfl); (case hg => rfl); (case hr => first | (go_simp; done) | (go_simp; rfl)); (case hp => exact (Reps.none _ _))
     intro vB4 w7 ho8 hb hg_ hnew_
     clear hg_ hnew_
     (first | rw [← NyA6.out] at ho8 | (simp only [Int.reduceToNat] at ho8; rw [← NyA6.out] at ho8))
     have HOA7 := lwR ho8 HB
     replace BKA0 := bkb BKA0 hb
     replace BKA1 := bkb BKA1 hb
     replace HB := bst HB hb
     clear hb ho8
     refine hK.out _ _ ⟨bce BKA0 0 _, bce BKA0 1 _, bce BKA0 2 _⟩ (fun hHeld => ?_)
     clear hK K
     refine nm_ 5 ?_
     refine two_ (i := 5) (j := 6) (Ni := some 8) (Nj := some 9) (bm 12 447) (bm 12 479) rfl rfl rfl rfl (two_of HT_.out (by kernel_rfl)) (by decide) (by decide) (fun K hK => ?_) (fun K hK => ?_)
     ·
      skip
      refine Kd.R_append_rows_step (Kd.int .i64) (w0 := w) w.heap.size (by rfl) (.tmp 5) (.tmp 7) 22 3 (.int .i64 0) 8 rfl Try.underlying22 info3 rfl (by decide) (by omega) vB4 yA6 l0_1 _ _ _ (fun _ => True) (fun _ => False) rfl rfl ?aO ?aR (fun _ _ h => h) (fun _ h => h.elim) ?aF ?aB ?aS ?aL ?_
      (case aR => exact crC (Kd.C_below HR0_1.out HB.out))
      (case aB => exact (blw HB))
      (case aF => exact (fun _ _ => trivial))
      (case aO => exact (crR HOA7))
      (case aS => exact (bsz HB))
      (case aL => have := LMc2.out; omega)
      intro vB2 w9 ho hb hg hat
      rw [← NyB1.out] at ho
      replace BKA0 := Aside0.mk (blk_grown (g := gbA0) (o := .cells #[.bool a0_0, .slice A0_1 l0_1.length c0_1, .slice A0_2 l0_2.length c0_2] 24 (0, 0)) (crb BKA0) hg (Kd.R_ne HOA7.out BKA0.out (by decide)))
      replace BKA1 := Aside0.mk (blk_grown (g := gbA1) (o := .cells #[.bool false, .slice none 0 0, .slice none 0 0] 24 (0, 0)) (crb BKA1) hg (Kd.R_ne HOA7.out BKA1.out (by decide)))
      replace HB := Aside0.mk (hb)
      have HOA9 := Aside0.mk (ho)
      clear HOA7
      clear ho hb hg hat
      refine hK.out _ _ ⟨bce BKA0 0 _, bce BKA0 1 _, bce BKA0 2 _⟩ (fun hHeld => ?_)
      clear hK K
      refine nm_ 8 ?_
      refine one_ (i := 6) (N := some 9) (bm 12 511) rfl rfl (one_of HT_.out (by kernel_rfl)) (by decide) (fun K hK => ?_)
      refine Kd.R_lit_step (Kd.int .i64) _ 3 ?hg (N := 9) ?hd (xs := ([] : List Int)) (inner := []) (ok := fun _ => True) (okp := fun _ => True) ?hr ?hp (fun _ hk => hk) trivial (Below.refl _ _) (Nat.le_refl _) (by simp) ?_; (case hd => rfl); (case hg => rfl); (case hr => first | (go_simp; done) | (go_simp; rfl)); (case hp => exact (Reps.none _ _))
      intro vB0 w10 ho11 hb hg_ hnew_
      clear hg_ hnew_
      (first | rw [← NyA4.out] at ho11 | (simp only [Int.reduceToNat] at ho11; rw [← NyA4.out] at ho11))
      have HOA5 := lwR (nwR ho11 HOA9) HB
      replace HOA9 := eldR HOA9 (Kd.R_base ho11) hb
      replace BKA0 := bkb BKA0 hb
      replace BKA1 := bkb BKA1 hb
      replace HB := bst HB hb
      clear hb ho11
      refine hK.out _ _ ⟨bce BKA0 0 _, bce BKA0 1 _, bce BKA0 2 _⟩ (fun hHeld => ?_)
      clear hK K
      refine nm_ 9 ?_
      exact nq_ (hCont (vB4, vB2, vB0) _ ⟨hHeld, (crM HOA9 fun _ hk => hk.2), (crM HOA5 fun _ hk => hk.2), (crb BKA0), (crb BKA1), (blw HB)⟩)
     ·
      skip
      refine Kd.R_lit_step (Kd.int .i64) _ 3 ?hg (N := 9) ?hd (xs := ([] : List Int)) (inner := []) (ok := fun _ => True) (okp := fun _ => True) ?hr ?hp (fun _ hk => hk) trivial (Below.refl _ _) (Nat.le_refl _) (by simp) ?_; (case hd => rfl); (case hg => rfl); (case hr => first | (go_simp; done) | (go_simp; rfl)); (case hp => exact (Reps.none _ _))
      intro vB0 w9 ho10 hb hg_ hnew_
      clear hg_ hnew_
      (first | rw [← NyA4.out] at ho10 | (simp only [Int.reduceToNat] at ho10; rw [← NyA4.out] at ho10))
      have HOA5 := lwR (nwR ho10 HOA7) HB
      replace HOA7 := eldR HOA7 (Kd.R_base ho10) hb
      replace BKA0 := bkb BKA0 hb
      replace BKA1 := bkb BKA1 hb
      replace HB := bst HB hb
      clear hb ho10
      refine hK.out _ _ ⟨bce BKA0 0 _, bce BKA0 1 _, bce BKA0 2 _⟩ (fun hHeld => ?_)
      clear hK K
      refine nm_ 9 ?_
      refine one_ (i := 5) (N := some 8) (bm 12 511) rfl rfl (one_of HT_.out (by kernel_rfl)) (by decide) (fun K hK => ?_)
      refine Kd.R_append_rows_step (Kd.int .i64) (w0 := w) w.heap.size (by rfl) (.tmp 5) (.tmp 7) 22 3 (.int .i64 0) 8 rfl Try.underlying22 info3 rfl (by decide) (by omega) vB4 yA6 l0_1 _ _ _ (fun k_ => nO k_ vB0) (fun _ => False) rfl rfl ?aO ?aR (fun _ _ h => h) (fun _ h => h.elim) ?aF ?aB ?aS ?aL ?_
      (case aR => exact crC (Kd.C_below HR0_1.out HB.out))
      (case aB => exact (blw HB))
      (case aF => exact (fun k_ hk => Kd.fresh' (Kd.R_lt (crR HOA5)) k_ hk))
      (case aO => exact (crM HOA7 fun _ hk => hk.2))
      (case aS => exact (bsz HB))
      (case aL => have := LMc2.out; omega)
      intro vB2 w11 ho hb hg hat
      rw [← NyB1.out] at ho
      replace BKA0 := Aside0.mk (blk_grown (g := gbA0) (o := .cells #[.bool a0_0, .slice A0_1 l0_1.length c0_1, .slice A0_2 l0_2.length c0_2] 24 (0, 0)) (crb BKA0) hg (Kd.R_ne HOA7.out BKA0.out (by decide)))
      replace BKA1 := Aside0.mk (blk_grown (g := gbA1) (o := .cells #[.bool false, .slice none 0 0, .slice none 0 0] 24 (0, 0)) (crb BKA1) hg (Kd.R_ne HOA7.out BKA1.out (by decide)))
      replace HOA5 := Aside0.mk (Kd.R_after (ok := (fun _ => True)) (crR HOA5) hg hat)
      replace HB := Aside0.mk (hb)
      have HOA9 := Aside0.mk (ho)
      clear HOA7
      clear ho hb hg hat
      refine hK.out _ _ ⟨bce BKA0 0 _, bce BKA0 1 _, bce BKA0 2 _⟩ (fun hHeld => ?_)
      clear hK K
      refine nm_ 8 ?_
      exact nq_ (hCont (vB4, vB2, vB0) _ ⟨hHeld, (crR HOA9), (crM HOA5 fun _ hk => hk.2), (crb BKA0), (crb BKA1), (blw HB)⟩)
    ·
     skip
     refine Kd.R_lit_step (Kd.int .i64) _ 3 ?hg (N := 9) ?hd (xs := ([] : List Int)) (inner := []) (ok := fun _ => True) (okp := fun _ => True) ?hr ?hp (fun _ hk => hk) trivial (Below.refl _ _) (Nat.le_refl _) (by simp) ?_; (case hd => rfl); (case hg => rfl); (case hr => first | (go_simp; done) | (go_simp; rfl)); (case hp => exact (Reps.none _ _))
     intro vB0 w7 ho8 hb hg_ hnew_
     clear hg_ hnew_
     (first | rw [← NyA4.out] at ho8 | (simp only [Int.reduceToNat] at ho8; rw [← NyA4.out] at ho8))
     have HOA5 := lwR ho8 HB
     replace BKA0 := bkb BKA0 hb
     replace BKA1 := bkb BKA1 hb
     replace HB := bst HB hb
     clear hb ho8
     refine hK.out _ _ ⟨bce BKA0 0 _, bce BKA0 1 _, bce BKA0 2 _⟩ (fun hHeld => ?_)
     clear hK K
     refine nm_ 9 ?_
     refine one_ (i := 2) (N := some 5) (bm 12 479) rfl rfl (one_of HT_.out (by kernel_rfl)) (by decide) (fun K hK => ?_)
     refine Kd.R_lit_step (Kd.int .i64) _ 3 ?hg (N := 5) ?hd (xs := ([] : List Int)) (inner := []) (ok := fun _ => True) (okp := fun _ => True) ?hr ?hp (fun _ hk => hk) trivial (Below.refl _ _) (Nat.le_refl _) (by simp) ?_; (case hd => rfl); (case hg => rfl); (case hr => first | (go_simp; done) | (go_simp; rfl)); (case hp => exact (Reps.none _ _))
     intro vB4 w9 ho10 hb hg_ hnew_
     clear hg_ hnew_
     (first | rw [← NyA6.out] at ho10 | (simp only [Int.reduceToNat] at ho10; rw [← NyA6.out] at ho10))
     have HOA7 := lwR (nwR ho10 HOA5) HB
     replace HOA5 := eldR HOA5 (Kd.R_base ho10) hb
     replace BKA0 := bkb BKA0 hb
     replace BKA1 := bkb BKA1 hb
     replace HB := bst HB hb
     clear hb ho10
     refine hK.out _ _ ⟨bce BKA0 0 _, bce BKA0 1 _, bce BKA0 2 _⟩ (fun hHeld => ?_)
     clear hK K
     refine nm_ 5 ?_
     refine one_ (i := 5) (N := some 8) (bm 12 511) rfl rfl (one_of HT_.out (by kernel_rfl)) (by decide) (fun K hK => ?_)
     refine Kd.R_append_rows_step (Kd.int .i64) (w0 := w) w.heap.size (by rfl) (.tmp 5) (.tmp 7) 22 3 (.int .i64 0) 8 rfl Try.underlying22 info3 rfl (by decide) (by omega) vB4 yA6 l0_1 _ _ _ (fun k_ => nO k_ vB0) (fun _ => False) rfl rfl ?aO ?aR (fun _ _ h => h) (fun _ h => h.elim) ?aF ?aB ?aS ?aL ?_
     (case aR => exact crC (Kd.C_below HR0_1.out HB.out))
     (case aB => exact (blw HB))
     (case aF => exact (fun k_ hk => Kd.fresh' (Kd.R_lt (crR HOA5)) k_ hk))
     (case aO => exact (crM HOA7 fun _ hk => hk.2))
     (case aS => exact (bsz HB))
     (case aL => have := LMc2.out; omega)
     intro vB2 w11 ho hb hg hat
     rw [← NyB1.out] at ho
     replace BKA0 := Aside0.mk (blk_grown (g := gbA0) (o := .cells #[.bool a0_0, .slice A0_1 l0_1.length c0_1, .slice A0_2 l0_2.length c0_2] 24 (0, 0)) (crb BKA0) hg (Kd.R_ne HOA7.out BKA0.out (by decide)))
     replace BKA1 := Aside0.mk (blk_grown (g := gbA1) (o := .cells #[.bool false, .slice none 0 0, .slice none 0 0] 24 (0, 0)) (crb BKA1) hg (Kd.R_ne HOA7.out BKA1.out (by decide)))
     replace HOA5 := Aside0.mk (Kd.R_after (ok := (fun _ => True)) (crR HOA5) hg hat)
     replace HB := Aside0.mk (hb)
     have HOA9 := Aside0.mk (ho)
     clear HOA7
     clear ho hb hg hat
     refine hK.out _ _ ⟨bce BKA0 0 _, bce BKA0 1 _, bce BKA0 2 _⟩ (fun hHeld => ?_)
     clear hK K
     refine nm_ 8 ?_
     exact nq_ (hCont (vB4, vB2, vB0) _ ⟨hHeld, (crR HOA9), (crM HOA5 fun _ hk => hk.2), (crb BKA0), (crb BKA1), (blw HB)⟩)
   rintro ⟨vB4, vB2, vB0⟩ w12 ⟨hS_, h0_, h1_, h2_, h3_, h4_⟩
   have HOA9 : Aside0 (Kd.R (Kd.int .i64) 3 w12 w.heap.size (fun k_ => nO k_ vB0) vB2 yB1) := ⟨h0_⟩
   have HOA5 : Aside0 (Kd.R (Kd.int .i64) 3 w12 w.heap.size (fun k_ => nO k_ vB2) vB0 yA4) := ⟨h1_⟩
   replace BKA0 : Aside0 (w12.heap[gbA0]? = some (.cells #[.bool a0_0, .slice A0_1 l0_1.length c0_1, .slice A0_2 l0_2.length c0_2] 24 (0, 0))) := ⟨h2_⟩
   replace BKA1 : Aside0 (w12.heap[gbA1]? = some (.cells #[.bool false, .slice none 0 0, .slice none 0 0] 24 (0, 0))) := ⟨h3_⟩
   replace HB : Aside0 (Below w.heap.size w w12) := ⟨h4_⟩
   clear h0_ h1_ h2_ h3_ h4_
   have hHeld : w12.cell? ⟨gbA0, 0, none⟩ = some (.bool a0_0) ∧ w12.cell? ⟨gbA0, 1, none⟩ = some (.slice A0_1 l0_1.length c0_1) ∧ w12.cell? ⟨gbA0, 2, none⟩ = some (.slice A0_2 l0_2.length c0_2) := hS_
   refine np_ ?_
   refine one_ (i := 9) (N := some 12) (bm 12 1023) rfl rfl (one_of HT_.out (by kernel_rfl)) (by decide) (fun K hK => ?_)
   refine Kd.R_append_rows_step (Kd.int .i64) (w0 := w) w.heap.size (by rfl) (.tmp 9) (.tmp 11) 22 3 (.int .i64 0) 8 rfl Try.underlying22 info3 rfl (by decide) (by omega) vB0 yA4 l0_2 _ _ _ (fun k_ => nO k_ vB2) (fun _ => False) rfl rfl ?aO ?aR (fun _ _ h => h) (fun _ h => h.elim) ?aF ?aB ?aS ?aL ?_
   (case aR => exact crC (Kd.C_below HR0_2.out HB.out))
   (case aB => exact (blw HB))
   (case aF => exact (fun k_ hk => Kd.fresh' (Kd.R_lt (crR HOA9)) k_ hk))
   (case aO => exact (crR HOA5))
   (case aS => exact (bsz HB))
   (case aL => have := LMc3.out; omega)
   intro vC2 w13 ho hb hg hat
   rw [← NyB6.out] at ho
   replace BKA0 := Aside0.mk (blk_grown (g := gbA0) (o := .cells #[.bool a0_0, .slice A0_1 l0_1.length c0_1, .slice A0_2 l0_2.length c0_2] 24 (0, 0)) (crb BKA0) hg (Kd.R_ne HOA5.out BKA0.out (by decide)))
   replace BKA1 := Aside0.mk (blk_grown (g := gbA1) (o := .cells #[.bool false, .slice none 0 0, .slice none 0 0] 24 (0, 0)) (crb BKA1) hg (Kd.R_ne HOA5.out BKA1.out (by decide)))
   replace HOA9 := Aside0.mk (Kd.R_after (ok := (fun _ => True)) (crM HOA9 fun _ hk => ⟨trivial, hk⟩) hg hat)
   replace HB := Aside0.mk (hb)
   have HOB9 := Aside0.mk (ho)
   clear HOA5
   clear ho hb hg hat
   obtain ⟨Ao14, co14, eo14⟩ := Kd.R_slice HOB9.out
   (first | subst eo14 | (injection eo14 with f1_ f2_ f3_; have f4_ := f1_.symm; have f5_ := f3_.symm; clear f1_ f2_ f3_; subst f4_; subst f5_))
   obtain ⟨Ao15, co15, eo15⟩ := Kd.R_slice HOA9.out
   (first | subst eo15 | (injection eo15 with f1_ f2_ f3_; have f4_ := f1_.symm; have f5_ := f3_.symm; clear f1_ f2_ f3_; subst f4_; subst f5_))
   refine hK.out _ _ ⟨bce BKA0 0 _, bce BKA0 1 _, bce BKA0 2 _⟩ (fun hHeld => ?_)
   clear hK K
   refine nm_ 12 ?_
   refine pu_ 10 (some 13) (bm 12 2047) HT_.out ?_
   refine one_ (i := 11) (N := none) (bm 12 4095) rfl rfl (one_of HT_.out (by kernel_rfl)) (by decide) (fun K hK => ?_)
   have hs16 : w13.cell? ⟨gbA1, 0, none⟩ = some (.bool false) := bce BKA1 0 _
   have hfs16 := blk_frozen BKA1.out 0
   have hns16_0 := NBA0_A1.out
   have hms16_0 := NBA1_A0.out
   have hs17 : w13.cell? ⟨gbA1, 1, none⟩ = some (.slice none 0 0) := bce BKA1 1 _
   have hfs17 := blk_frozen BKA1.out 1
   have hns17_0 := NBA0_A1.out
   have hms17_0 := NBA1_A0.out
   have hs18 : w13.cell? ⟨gbA1, 2, none⟩ = some (.slice none 0 0) := bce BKA1 2 _
   have hfs18 := blk_frozen BKA1.out 2
   have hns18_0 := NBA0_A1.out
   have hms18_0 := NBA1_A0.out
   refine skip_ (w1 := ?_) (by rfl) rfl ?_ ?_
   rotate_left
   ·
    go_simp
    rfl
   refine hK.out _ _ ⟨((cell_far (p := ⟨gbA1, _, none⟩) NBA0_A1.out _).trans (((cell_far (p := ⟨gbA1, _, none⟩) NBA0_A1.out _).trans (((cell_far (p := ⟨gbA1, _, none⟩) NBA0_A1.out _).trans (hHeld.1)))))), ((cell_far (p := ⟨gbA1, _, none⟩) NBA0_A1.out _).trans (((cell_far (p := ⟨gbA1, _, none⟩) NBA0_A1.out _).trans (((cell_far (p := ⟨gbA1, _, none⟩) NBA0_A1.out _).trans (hHeld.2.1)))))), ((cell_far (p := ⟨gbA1, _, none⟩) NBA0_A1.out _).trans (((cell_far (p := ⟨gbA1, _, none⟩) NBA0_A1.out _).trans (((cell_far (p := ⟨gbA1, _, none⟩) NBA0_A1.out _).trans (hHeld.2.2))))))⟩ (fun hHeld => ?_)
   clear hK K
   refine done_ (done_of HT_.out (by kernel_rfl)) ?_
   try go_wp2
   refine bodyPost_ret (results_cell_row rfl _ _ gbA1 24 #[.bool a0_0, .slice Ao15 yB1.length co15, .slice Ao14 yB6.length co14] (0, 0) _ rfl (bp3 BKA1 _ _ _) Try.underlying24 rfl (by kernel_rfl)) rfl ?_
   exact ⟨_, _, er_, (crN HOA9 BKA1 fun _ hk => hk.1.2), (crN HOB9 BKA1 fun _ hk => hk.1), blw HB⟩
  ·
   rw [if_neg c3] at H
   exact absurd H (by simp)
 ·
  rw [if_neg c2] at H
  exact absurd H (by simp)

def spec_l02Fits.f (a0_0 : Bool) (l0_1 : List Int) (l0_2 : List Int) : Option (Bool) := if (l0_1.length : Int) ≤ 40 then (some (decide ((l0_2.length : Int) ≤ 40))) else (some false)
set_option maxHeartbeats 8000000 in
set_option maxRecDepth 100000 in
theorem spec_l02Fits.calls (a0_0 : Bool) (A0_1 : Option Addr) (c0_1 : Nat) (l0_1 : List Int) (A0_2 : Option Addr) (c0_2 : Nat) (l0_2 : List Int) (r : Bool) (w : World) (hr0_1 : Kd.C (Kd.int .i64) w A0_1 l0_1.length l0_1) (hc0_1 : l0_1.length ≤ c0_1) (hr0_2 : Kd.C (Kd.int .i64) w A0_2 l0_2.length l0_2) (hc0_2 : l0_2.length ≤ c0_2) (h : spec_l02Fits.f a0_0 l0_1 l0_2 = some r) :
  Calls Try.prog 105 #[.agg #[.bool a0_0, .slice A0_1 l0_1.length c0_1, .slice A0_2 l0_2.length c0_2]] w fun e w' => e = .returned (.bool r) ∧ Below w.heap.size w w' := by
 have hu24 := Try.underlying24
 have HR0_1 := Aside0.mk hr0_1
 have HC0_1 := Aside0.mk hc0_1
 clear hr0_1 hc0_1
 have HR0_2 := Aside0.mk hr0_2
 have HC0_2 := Aside0.mk hc0_2
 clear hr0_2 hc0_2
 have HB := Aside0.mk (Below.refl w.heap.size w)
 have H : (if (l0_1.length : Int) ≤ 40 then (some (decide ((l0_2.length : Int) ≤ 40))) else (some false)) = some r := h
 clear h
 by_cases c2 : (l0_1.length : Int) ≤ 40
 ·
  rw [if_pos c2] at H
  have c2b0 : decide ((l0_1.length : Int) ≤ 40) = true := decide_eq_true c2
  have c2b1 : decide (l0_1.length ≤ 40) = true := decide_eq_true (by omega)
  clear c2
  obtain rfl := Option.some.inj H
  go_enter Try.func105, Try.ntmps105
  go_wp2_with (first | ((with_reducible refine gate_dst (N := 1) rfl ?_); (try (refine gate_guard (by rfl) ?_; dsimp only)); refine bx_ (N := 1) (cs := #[.bool a0_0, .slice A0_1 l0_1.length c0_1, .slice A0_2 l0_2.length c0_2]) (t := 24) ?_; intro gbB3 hg w3 hbox hb; have BKB3 := Aside0.mk (hbox); have GWB3 := geh hg HB; have GEB3 := geh hg HB; replace HB := bst HB hb; clear hb hbox hg; obtain ⟨hcz4_0, hcz4_1, hcz4_2, hfz4_0, hfz4_1, hfz4_2⟩ := bc3 BKB3))
  go_ret
  exact ⟨er_, blw HB⟩
 ·
  rw [if_neg c2] at H
  have c2b0 : decide ((l0_1.length : Int) ≤ 40) = false := decide_eq_false c2
  have c2b1 : decide (l0_1.length ≤ 40) = false := decide_eq_false (by omega)
  clear c2
  obtain rfl := Option.some.inj H
  go_enter Try.func105, Try.ntmps105
  go_wp2_with (first | ((with_reducible refine gate_dst (N := 1) rfl ?_); (try (refine gate_guard (by rfl) ?_; dsimp only)); refine bx_ (N := 1) (cs := #[.bool a0_0, .slice A0_1 l0_1.length c0_1, .slice A0_2 l0_2.length c0_2]) (t := 24) ?_; intro gbB3 hg w5 hbox hb; have BKB3 := Aside0.mk (hbox); have GWB3 := geh hg HB; have GEB3 := geh hg HB; replace HB := bst HB hb; clear hb hbox hg; obtain ⟨hcz6_0, hcz6_1, hcz6_2, hfz6_0, hfz6_1, hfz6_2⟩ := bc3 BKB3))
  go_ret
  exact ⟨er_, blw HB⟩

def spec_l02Fit.f (a0_0 : Bool) (l0_1 : List Int) (l0_2 : List Int) : Option (Bool × List Int × List Int × Int) := (spec_l02Fits.f a0_0 l0_1 l0_2).bind fun tB5 => (if tB5 = true then ((spec_l02Own.f a0_0 l0_1 l0_2).bind fun btA8 => (some (btA8.1, btA8.2.1, btA8.2.2, 0))) else (some (false, ([] : List Int), ([] : List Int), 7)))
set_option maxHeartbeats 8000000 in
set_option maxRecDepth 100000 in
theorem spec_l02Fit.calls (a0_0 : Bool) (A0_1 : Option Addr) (c0_1 : Nat) (l0_1 : List Int) (A0_2 : Option Addr) (c0_2 : Nat) (l0_2 : List Int) (r1 : Bool) (r2 : List Int) (r3 : List Int) (r4 : Int) (w : World) (hr0_1 : Kd.C (Kd.int .i64) w A0_1 l0_1.length l0_1) (hc0_1 : l0_1.length ≤ c0_1) (hr0_2 : Kd.C (Kd.int .i64) w A0_2 l0_2.length l0_2) (hc0_2 : l0_2.length ≤ c0_2) (h : spec_l02Fit.f a0_0 l0_1 l0_2 = some (r1, r2, r3, r4)) :
  Calls Try.prog 70 #[.agg #[.bool a0_0, .slice A0_1 l0_1.length c0_1, .slice A0_2 l0_2.length c0_2]] w fun e w' => ∃ v1_ v2_ : Value, e = .returned (.tuple #[.agg #[.bool r1, v1_, v2_], .int .i64 r4]) ∧ Kd.R (Kd.int .i64) 3 w' w.heap.size (fun k_ => nO k_ v2_) v1_ r2 ∧ Kd.R (Kd.int .i64) 3 w' w.heap.size (fun k_ => nO k_ v1_) v2_ r3 ∧ Below w.heap.size w w' := by
 have hu24 := Try.underlying24
 have HR0_1 := Aside0.mk hr0_1
 have HC0_1 := Aside0.mk hc0_1
 clear hr0_1 hc0_1
 have HR0_2 := Aside0.mk hr0_2
 have HC0_2 := Aside0.mk hc0_2
 clear hr0_2 hc0_2
 have HB := Aside0.mk (Below.refl w.heap.size w)
 have H : ((spec_l02Fits.f a0_0 l0_1 l0_2).bind fun tB5 => (if tB5 = true then ((spec_l02Own.f a0_0 l0_1 l0_2).bind fun btA8 => (some (btA8.1, btA8.2.1, btA8.2.2, 0))) else (some (false, ([] : List Int), ([] : List Int), 7)))) = some (r1, r2, r3, r4) := h
 clear h
 replace H := Option.bind_eq_some_iff.mp H
 obtain ⟨tB5, A20, H⟩ := H
 replace H : (if tB5 = true then ((spec_l02Own.f a0_0 l0_1 l0_2).bind fun btA8 => (some (btA8.1, btA8.2.1, btA8.2.2, 0))) else (some (false, ([] : List Int), ([] : List Int), 7))) = some (r1, r2, r3, r4) := H
 have A2 := Aside0.mk A20
 clear A20
 by_cases c3 : tB5 = true
 ·
  subst c3
  rw [if_pos rfl] at H
  replace H := Option.bind_eq_some_iff.mp H
  obtain ⟨⟨tA8, tB7, tB8⟩, A40, H⟩ := H
  replace H : (some (tA8, tB7, tB8, 0)) = some (r1, r2, r3, r4) := H
  have A4 := Aside0.mk A40
  clear A40
  simp only [Option.some.injEq, Prod.mk.injEq] at H
  obtain ⟨rfl, rfl, rfl, rfl⟩ := H
  go_enter Try.func70, Try.ntmps70
  go_wp2_with (first | ((with_reducible refine gate_dst (N := 1) rfl ?_); refine bx_ (N := 1) (cs := #[.bool a0_0, .slice A0_1 l0_1.length c0_1, .slice A0_2 l0_2.length c0_2]) (t := 24) ?_; intro gbA2 hg w5 hbox hb; have BKA2 := Aside0.mk (hbox); have GWA2 := geh hg HB; have GEA2 := geh hg HB; replace HB := bst HB hb; clear hb hbox hg) | ((with_reducible refine gate_dst (N := 2) rfl ?_); refine bx_ (N := 2) (cs := #[.bool false, .slice none 0 0, .slice none 0 0]) (t := 24) ?_; intro gbA3 hg w6 hbox hb; have BKA3 := Aside0.mk (hbox); have GWA3 := geh hg HB; have GEA3 := geh hg HB; replace HB := bst HB hb; have NBA2_A3 := nlt hg BKA2; have NBA3_A2 := ngt hg BKA2; replace BKA2 := bkb BKA2 hb; clear hb hbox hg; have hnb7 := NBA2_A3.out; have hnc7 := NBA3_A2.out; obtain ⟨hcz8_0, hcz8_1, hcz8_2, hfz8_0, hfz8_1, hfz8_2⟩ := bc3 BKA2) | ((with_reducible refine gate_callee (f := 105) rfl ?_); refine gL_ (some 5) Try.func105 #[.agg #[.bool a0_0, .slice A0_1 l0_1.length c0_1, .slice A0_2 l0_2.length c0_2]] ?_; (with_reducible refine (spec_l02Fits.calls a0_0 _ _ l0_1 _ _ l0_2 true _ ?side1 ?side2 ?side3 ?side4 A2.out).mono ?_); (case side1 => exact crC (Kd.C_below HR0_1.out HB.out)); (case side2 => exact HC0_1.out); (case side3 => exact crC (Kd.C_below HR0_2.out HB.out)); (case side4 => exact HC0_2.out); rintro e w9 ⟨rfl, hb⟩; refine ⟨_, rfl, ?_⟩; replace BKA2 := bkb BKA2 hb; replace BKA3 := bkb BKA3 hb; replace HB := bst HB hb; (try clear hb); (try clear hb2); (try clear hk); (try clear hi); obtain ⟨hcz10_0, hcz10_1, hcz10_2, hfz10_0, hfz10_1, hfz10_2⟩ := bc3 BKA2) | ((with_reducible refine gate_callee (f := 63) rfl ?_); refine gL_ (some 9) Try.func63 #[.agg #[.bool a0_0, .slice A0_1 l0_1.length c0_1, .slice A0_2 l0_2.length c0_2]] ?_; (with_reducible refine (spec_l02Own.calls a0_0 _ _ l0_1 _ _ l0_2 tA8 tB7 tB8 _ ?side1 ?side2 ?side3 ?side4 A4.out).mono ?_); (case side1 => exact crC (Kd.C_below HR0_1.out HB.out)); (case side2 => exact HC0_1.out); (case side3 => exact crC (Kd.C_below HR0_2.out HB.out)); (case side4 => exact HC0_2.out); rintro e w11 ⟨vC3, vC4, rfl, ho0, ho1, hb⟩; refine ⟨_, rfl, ?_⟩; have HOC0 := lwR ho0 HB; have HOC1 := lwR ho1 HB; replace BKA2 := bkb BKA2 hb; replace BKA3 := bkb BKA3 hb; replace HB := bst HB hb; (try clear hb); (try clear hb2); (try clear hk); (try clear hi); (try clear ho0); (try clear ho1); obtain ⟨hcz12_0, hcz12_1, hcz12_2, hfz12_0, hfz12_1, hfz12_2⟩ := bc3 BKA3; obtain ⟨Ao13, co13, eo13⟩ := Kd.R_slice HOC0.out; subst eo13; obtain ⟨Ao14, co14, eo14⟩ := Kd.R_slice HOC1.out; subst eo14))
  refine bodyPost_ret (results_ct rfl _ _ gbA3 24 #[.bool tA8, .slice Ao13 tB7.length co13, .slice Ao14 tB8.length co14] (0, 0) _ rfl (bp3 BKA3 _ _ _) Try.underlying24 rfl (by kernel_rfl)) rfl ?_
  exact ⟨_, _, er_, (crN HOC0 BKA3 fun _ hk => hk.1), (crN HOC1 BKA3 fun _ hk => hk.1), blw HB⟩
 ·
  replace c3 := Bool.eq_false_iff.mpr c3
  subst c3
  rw [if_neg (show ¬ (false = true) by decide)] at H
  simp only [Option.some.injEq, Prod.mk.injEq] at H
  obtain ⟨rfl, rfl, rfl, rfl⟩ := H
  go_enter Try.func70, Try.ntmps70
  go_wp2_with (first | ((with_reducible refine gate_dst (N := 1) rfl ?_); refine bx_ (N := 1) (cs := #[.bool a0_0, .slice A0_1 l0_1.length c0_1, .slice A0_2 l0_2.length c0_2]) (t := 24) ?_; intro gbA2 hg w15 hbox hb; have BKA2 := Aside0.mk (hbox); have GWA2 := geh hg HB; have GEA2 := geh hg HB; replace HB := bst HB hb; clear hb hbox hg) | ((with_reducible refine gate_dst (N := 2) rfl ?_); refine bx_ (N := 2) (cs := #[.bool false, .slice none 0 0, .slice none 0 0]) (t := 24) ?_; intro gbA3 hg w16 hbox hb; have BKA3 := Aside0.mk (hbox); have GWA3 := geh hg HB; have GEA3 := geh hg HB; replace HB := bst HB hb; have NBA2_A3 := nlt hg BKA2; have NBA3_A2 := ngt hg BKA2; replace BKA2 := bkb BKA2 hb; clear hb hbox hg; have hnb17 := NBA2_A3.out; have hnc17 := NBA3_A2.out; obtain ⟨hcz18_0, hcz18_1, hcz18_2, hfz18_0, hfz18_1, hfz18_2⟩ := bc3 BKA2) | ((with_reducible refine gate_callee (f := 105) rfl ?_); refine gL_ (some 5) Try.func105 #[.agg #[.bool a0_0, .slice A0_1 l0_1.length c0_1, .slice A0_2 l0_2.length c0_2]] ?_; (with_reducible refine (spec_l02Fits.calls a0_0 _ _ l0_1 _ _ l0_2 false _ ?side1 ?side2 ?side3 ?side4 A2.out).mono ?_); (case side1 => exact crC (Kd.C_below HR0_1.out HB.out)); (case side2 => exact HC0_1.out); (case side3 => exact crC (Kd.C_below HR0_2.out HB.out)); (case side4 => exact HC0_2.out); rintro e w19 ⟨rfl, hb⟩; refine ⟨_, rfl, ?_⟩; replace BKA2 := bkb BKA2 hb; replace BKA3 := bkb BKA3 hb; replace HB := bst HB hb; (try clear hb); (try clear hb2); (try clear hk); (try clear hi); obtain ⟨hcz20_0, hcz20_1, hcz20_2, hfz20_0, hfz20_1, hfz20_2⟩ := bc3 BKA3))
  refine bodyPost_ret (results_ct rfl _ _ gbA3 24 #[.bool false, .slice none 0 0, .slice none 0 0] (0, 0) _ rfl (bp3 BKA3 _ _ _) Try.underlying24 rfl (by kernel_rfl)) rfl ?_
  exact ⟨_, _, er_, by first | exact Kd.R_nil _ _ _ _ _ | exact Kd.N_nil _ _ _ _ _ | exact Kd.V_nil _ _ _ _ _ | exact Kd.Q_nil _ _ _ _ _ | exact Kd.S_nil _ _ _ _ _, by first | exact Kd.R_nil _ _ _ _ _ | exact Kd.N_nil _ _ _ _ _ | exact Kd.V_nil _ _ _ _ _ | exact Kd.Q_nil _ _ _ _ _ | exact Kd.S_nil _ _ _ _ _, blw HB⟩

mutual
def spec_l01Add.l0 : Nat → List Int → List Int → List Int → Int → Int → Option (List Int)
 | 0, _, _, _, _, _ => none
 | k + 1, x0, x1, x5, x6, x7 => if x7 < (x0.length : Int) then (spec_l01Add.j1 k x0 x1 x5 x6 x7 true) else (if x7 < (x1.length : Int) then (spec_l01Add.j1 k x0 x1 x5 x6 x7 true) else (spec_l01Add.j1 k x0 x1 x5 x6 x7 (decide (x6 > 0))))
def spec_l01Add.j1 : Nat → List Int → List Int → List Int → Int → Int → Bool → Option (List Int)
 | 0, _, _, _, _, _, _ => none
 | k + 1, x0, x1, x5, x6, x7, x22 => if x22 = true then (if x7 < (x0.length : Int) then (if 0 ≤ x7 then (if x7 < (x1.length : Int) then (if x5.length < 17592186044416 then (spec_l01Add.l0 k x0 x1 (x5 ++ [Int.tmod (wrap64 ((wrap64 (x6 + (rd x0 x7))) + (rd x1 x7))) 10000]) (wrap64 (Int.tdiv (wrap64 ((wrap64 (x6 + (rd x0 x7))) + (rd x1 x7))) 10000)) (wrap64 (x7 + 1))) else (none)) else (if x5.length < 17592186044416 then (spec_l01Add.l0 k x0 x1 (x5 ++ [Int.tmod (wrap64 (x6 + (rd x0 x7))) 10000]) (wrap64 (Int.tdiv (wrap64 (x6 + (rd x0 x7))) 10000)) (wrap64 (x7 + 1))) else (none))) else (none)) else (if x7 < (x1.length : Int) then (if 0 ≤ x7 then (if x5.length < 17592186044416 then (spec_l01Add.l0 k x0 x1 (x5 ++ [Int.tmod (wrap64 (x6 + (rd x1 x7))) 10000]) (wrap64 (Int.tdiv (wrap64 (x6 + (rd x1 x7))) 10000)) (wrap64 (x7 + 1))) else (none)) else (none)) else (if x5.length < 17592186044416 then (spec_l01Add.l0 k x0 x1 (x5 ++ [Int.tmod x6 10000]) (wrap64 (Int.tdiv x6 10000)) (wrap64 (x7 + 1))) else (none)))) else (some x5)
end
def spec_l01Add.f (k : Nat) (l0 : List Int) (l1 : List Int) : Option (List Int) := spec_l01Add.l0 k l0 l1 (([] : List Int)) 0 0
set_option maxHeartbeats 8000000 in
set_option maxRecDepth 100000 in
theorem spec_l01Add.calls (k : Nat) (A0 : Option Addr) (c0 : Nat) (l0 : List Int) (A1 : Option Addr) (c1 : Nat) (l1 : List Int) (r : List Int) (w : World) (hr0 : Kd.C (Kd.int .i64) w A0 l0.length l0) (hc0 : l0.length ≤ c0) (hr1 : Kd.C (Kd.int .i64) w A1 l1.length l1) (hc1 : l1.length ≤ c1) (h : spec_l01Add.f k l0 l1 = some r) :
  Calls Try.prog 107 #[.slice A0 l0.length c0, .slice A1 l1.length c1] w fun e w' => ∃ v0_ : Value, e = .returned (v0_) ∧ Kd.R (Kd.int .i64) 3 w' w.heap.size (fun _ => True) v0_ r ∧ Below w.heap.size w w' := by
 have HR0 := Aside0.mk hr0
 have HC0 := Aside0.mk hc0
 clear hr0 hc0
 have HR1 := Aside0.mk hr1
 have HC1 := Aside0.mk hc1
 clear hr1 hc1
 have HB := Aside0.mk (Below.refl w.heap.size w)
 have H : (spec_l01Add.l0 k l0 l1 (([] : List Int)) 0 0) = some r := h
 clear h
 obtain ⟨yA6, hy800⟩ : ∃ y_ : List Int, y_ = (([] : List Int)) := ⟨_, rfl⟩
 replace H : (spec_l01Add.l0 k l0 l1 yA6 0 0) = some r := by subst hy800; first | with_reducible exact H | with_reducible exact (Option.bind_some _ _).symm.trans H | exact H
 have NyA6 := Aside0.mk hy800
 clear hy800
 have H' := Aside0.mk H
 clear H
 go_enter Try.func107, Try.ntmps107
 go_wp2_with (first | ((with_reducible refine gate_dst (N := 8) rfl ?_); (try (refine gate_guard (by rfl) ?_; dsimp only)); refine Kd.R_lit (Kd.int .i64) _ 3 ?hg (N := 8) ?hd (xs := ([] : List Int)) (inner := []) (ok := fun _ => True) (okp := fun _ => True) ?hr ?hp (fun _ hk => hk) trivial (Below.refl _ _) (Nat.le_refl _) (by simp) ?_; (case hd => rfl); (case hg => rfl); (case hr => first | (go_simp; done) | (go_simp; rfl)); (case hp => exact (Reps.none _ _)); intro vC6 w3 ho4 hb hg_ hnew_; clear hg_ hnew_; (first | rw [← NyA6.out] at ho4 | (simp only [Int.reduceToNat] at ho4; rw [← NyA6.out] at ho4)); have HOB6 := lwR ho4 HB; replace HB := bst HB hb; clear hb ho4))
 go_loopg [5, 6, 7] k (fun kq v5 v6 v7 w' => ∃ (x5_1 : List Int) (x6_1 : Int) (x7_1 : Int), v6 = .int .i64 x6_1 ∧ v7 = .int .i64 x7_1 ∧ Aside0 (spec_l01Add.l0 kq l0 l1 x5_1 x6_1 x7_1 = some r) ∧ Aside0 (kq ≤ k) ∧ Aside0 (Kd.R (Kd.int .i64) 3 w' w.heap.size (fun _ => True) v5 x5_1) ∧ Aside0 (Below w.heap.size w w'))
 case atStart => exact ⟨(yA6), (0), (0), rs_, rs_, H', ⟨Nat.le_refl _⟩, ⟨crR HOB6⟩, ⟨blw HB⟩⟩
 case round =>
  clear H'
  try clear c1
  try clear p2
  obtain ⟨x5_1, x6_1, x7_1, rfl, rfl, HA, HK1, HO_5, HB⟩ := hrel
  cases gk with
  | zero => exact absurd HA.out (by simp [spec_l01Add.l0])
  | succ k1 =>
   have H := HA.out
   clear HA
   simp only [spec_l01Add.l0] at H
   have HC5 := Aside0.mk H
   clear H
   go_upto_region 4 with (fail)
   go_cut [22] (fun v22 wc => ∃ (kq : Nat) (x22_4 : Bool), v22 = .bool x22_4 ∧ Aside0 (spec_l01Add.j1 kq l0 l1 x5_1 x6_1 x7_1 x22_4 = some r) ∧ Aside0 (kq ≤ k1) ∧ Aside0 (Kd.R (Kd.int .i64) 3 wc w.heap.size (fun _ => True) u5 x5_1) ∧ Aside0 (Below w.heap.size w wc))
   case first =>
    have H := HC5.out
    clear HC5
    by_cases c6 : x7_1 < (l0.length : Int)
    ·
     rw [if_pos c6] at H
     have c6b0 : decide (x7_1 < (l0.length : Int)) = true := decide_eq_true c6
     clear c6
     (first | rw [c6b0] | (simp only [i64_w, i32_w]; rw [c6b0]) | skip)
     have H' := Aside0.mk H
     clear H
     go_wp2
     go_meet
     case rel => exact ⟨_, (true), rs_, H', ⟨by have := HK1.out; first | omega | exact Nat.le_refl _⟩, ⟨crR HO_5⟩, ⟨blw HB⟩⟩
    ·
     rw [if_neg c6] at H
     have c6b0 : decide (x7_1 < (l0.length : Int)) = false := decide_eq_false c6
     clear c6
     (first | rw [c6b0] | (simp only [i64_w, i32_w]; rw [c6b0]) | skip)
     by_cases c7 : x7_1 < (l1.length : Int)
     ·
      rw [if_pos c7] at H
      have c7b0 : decide (x7_1 < (l1.length : Int)) = true := decide_eq_true c7
      clear c7
      have H' := Aside0.mk H
      clear H
      go_wp2
      go_meet
      case rel => exact ⟨_, (true), rs_, H', ⟨by have := HK1.out; first | omega | exact Nat.le_refl _⟩, ⟨crR HO_5⟩, ⟨blw HB⟩⟩
     ·
      rw [if_neg c7] at H
      have c7b0 : decide (x7_1 < (l1.length : Int)) = false := decide_eq_false c7
      clear c7
      have H' := Aside0.mk H
      clear H
      go_wp2
      go_meet
      case rel => exact ⟨_, (decide (x6_1 > 0)), rs_, H', ⟨by have := HK1.out; first | omega | exact Nat.le_refl _⟩, ⟨crR HO_5⟩, ⟨blw HB⟩⟩
   case rest =>
    clear HC5
    try clear c1
    try clear p2
    try clear c6
    try clear c6b0
    try clear c7
    try clear c7b0
    try clear p2
    obtain ⟨kq, x22_4, rfl, HA, HJ4, HO_5, HB⟩ := hcut
    cases kq with
    | zero => exact absurd HA.out (by simp [spec_l01Add.j1])
    | succ kj4 =>
     have H := HA.out
     clear HA
     simp only [spec_l01Add.j1] at H
     by_cases c8 : x22_4 = true
     ·
      subst c8
      rw [if_pos rfl] at H
      by_cases c9 : x7_1 < (l0.length : Int)
      ·
       rw [if_pos c9] at H
       have c9b0 : decide (x7_1 < (l0.length : Int)) = true := decide_eq_true c9
       clear c9
       by_cases c10 : 0 ≤ x7_1
       ·
        rw [if_pos c10] at H
        have c10b0 : decide (0 ≤ x7_1) = true := decide_eq_true c10
        clear c10
        by_cases c11 : x7_1 < (l1.length : Int)
        ·
         rw [if_pos c11] at H
         have c11b0 : decide (x7_1 < (l1.length : Int)) = true := decide_eq_true c11
         clear c11
         by_cases c12 : x5_1.length < 17592186044416
         ·
          rw [if_pos c12] at H
          have LMc12 := Aside0.mk c12
          clear c12
          obtain ⟨yA8, hy805⟩ : ∃ y_ : List Int, y_ = (x5_1 ++ [Int.tmod (wrap64 ((wrap64 (x6_1 + (rd l0 x7_1))) + (rd l1 x7_1))) 10000]) := ⟨_, rfl⟩
          replace H : (spec_l01Add.l0 kj4 l0 l1 yA8 (wrap64 (Int.tdiv (wrap64 ((wrap64 (x6_1 + (rd l0 x7_1))) + (rd l1 x7_1))) 10000)) (wrap64 (x7_1 + 1))) = some r := by subst hy805; first | with_reducible exact H | with_reducible exact (Option.bind_some _ _).symm.trans H | exact H
          have NyA8 := Aside0.mk hy805
          clear hy805
          have H' := Aside0.mk H
          clear H
          have pA0 : 0 ≤ (x7_1 : Int) := of_decide_eq_true (by first | (with_reducible assumption) | assumption)
          have qA0 : x7_1 < (l0.length : Int) := of_decide_eq_true (by first | (with_reducible assumption) | assumption)
          obtain ⟨adA0, eA0, hxA0_0⟩ := Kd.at_int HR0.out x7_1 pA0 qA0
          cases eA0
          replace hxA0_0 := (HB.out.cell (World.block_lt_of_cell? w _ hxA0_0)).trans hxA0_0
          replace pA0 := eq_true pA0
          replace qA0 := eq_true qA0
          have pA2 : 0 ≤ (x7_1 : Int) := of_decide_eq_true (by first | (with_reducible assumption) | assumption)
          have qA2 : x7_1 < (l1.length : Int) := of_decide_eq_true (by first | (with_reducible assumption) | assumption)
          obtain ⟨adA2, eA2, hxA2_0⟩ := Kd.at_int HR1.out x7_1 pA2 qA2
          cases eA2
          replace hxA2_0 := (HB.out.cell (World.block_lt_of_cell? w _ hxA2_0)).trans hxA2_0
          replace pA2 := eq_true pA2
          replace qA2 := eq_true qA2
          go_wp2_with (first | ((with_reducible refine gate_builtin (b := .append) (xs := #[.tmp 45, .tmp 48]) rfl ?_); (try (refine gate_guard (by rfl) ?_; dsimp only)); at_builtin; refine Kd.R_append (Kd.int .i64) (w0 := w) w.heap.size rfl (.tmp 45) (.tmp 48) 22 3 (.int .i64 0) 8 rfl Try.underlying22 info3 rfl (by decide) (by omega) u5 x5_1 (Int.tmod (wrap64 ((wrap64 (x6_1 + (rd l0 x7_1))) + (rd l1 x7_1))) 10000) [.int .i64 (Int.tmod (wrap64 ((wrap64 (x6_1 + (rd l0 x7_1))) + (rd l1 x7_1))) 10000)] (fun _ => True) (fun _ => False) rfl rfl ?aP (fun _ hk => hk.elim) ?aF ?aO ?aB ?aS ?aL ?_; (case aP => exact rfl); (case aB => exact (blw HB)); (case aF => exact (fun _ _ => trivial)); (case aO => exact (crR HO_5)); (case aS => exact (bsz HB)); (case aL => have := LMc12.out; omega); intro vC7 w13 ho hb hg hat; rw [← NyA8.out] at ho; replace HB := Aside0.mk (hb); have HOB7 := Aside0.mk (ho); clear HO_5; clear ho hb hg hat))
          go_roundg kj4
          case measure => have := HK1.out; have := HJ4.out; omega
          case rel => exact ⟨(yA8), (wrap64 (Int.tdiv (wrap64 ((wrap64 (x6_1 + (rd l0 x7_1))) + (rd l1 x7_1))) 10000)), (wrap64 (x7_1 + 1)), rs_, rs_, H', ⟨by have := HK1.out; have := HJ4.out; omega⟩, ⟨crR HOB7⟩, ⟨blw HB⟩⟩
         ·
          rw [if_neg c12] at H
          exact absurd H (by simp)
        ·
         rw [if_neg c11] at H
         have c11b0 : decide (x7_1 < (l1.length : Int)) = false := decide_eq_false c11
         clear c11
         by_cases c14 : x5_1.length < 17592186044416
         ·
          rw [if_pos c14] at H
          have LMc14 := Aside0.mk c14
          clear c14
          obtain ⟨yA9, hy808⟩ : ∃ y_ : List Int, y_ = (x5_1 ++ [Int.tmod (wrap64 (x6_1 + (rd l0 x7_1))) 10000]) := ⟨_, rfl⟩
          replace H : (spec_l01Add.l0 kj4 l0 l1 yA9 (wrap64 (Int.tdiv (wrap64 (x6_1 + (rd l0 x7_1))) 10000)) (wrap64 (x7_1 + 1))) = some r := by subst hy808; first | with_reducible exact H | with_reducible exact (Option.bind_some _ _).symm.trans H | exact H
          have NyA9 := Aside0.mk hy808
          clear hy808
          have H' := Aside0.mk H
          clear H
          have pA0 : 0 ≤ (x7_1 : Int) := of_decide_eq_true (by first | (with_reducible assumption) | assumption)
          have qA0 : x7_1 < (l0.length : Int) := of_decide_eq_true (by first | (with_reducible assumption) | assumption)
          obtain ⟨adA0, eA0, hxA0_0⟩ := Kd.at_int HR0.out x7_1 pA0 qA0
          cases eA0
          replace hxA0_0 := (HB.out.cell (World.block_lt_of_cell? w _ hxA0_0)).trans hxA0_0
          replace pA0 := eq_true pA0
          replace qA0 := eq_true qA0
          go_wp2_with (first | ((with_reducible refine gate_builtin (b := .append) (xs := #[.tmp 45, .tmp 48]) rfl ?_); (try (refine gate_guard (by rfl) ?_; dsimp only)); at_builtin; refine Kd.R_append (Kd.int .i64) (w0 := w) w.heap.size rfl (.tmp 45) (.tmp 48) 22 3 (.int .i64 0) 8 rfl Try.underlying22 info3 rfl (by decide) (by omega) u5 x5_1 (Int.tmod (wrap64 (x6_1 + (rd l0 x7_1))) 10000) [.int .i64 (Int.tmod (wrap64 (x6_1 + (rd l0 x7_1))) 10000)] (fun _ => True) (fun _ => False) rfl rfl ?aP (fun _ hk => hk.elim) ?aF ?aO ?aB ?aS ?aL ?_; (case aP => exact rfl); (case aB => exact (blw HB)); (case aF => exact (fun _ _ => trivial)); (case aO => exact (crR HO_5)); (case aS => exact (bsz HB)); (case aL => have := LMc14.out; omega); intro vC8 w15 ho hb hg hat; rw [← NyA9.out] at ho; replace HB := Aside0.mk (hb); have HOB8 := Aside0.mk (ho); clear HO_5; clear ho hb hg hat))
          go_roundg kj4
          case measure => have := HK1.out; have := HJ4.out; omega
          case rel => exact ⟨(yA9), (wrap64 (Int.tdiv (wrap64 (x6_1 + (rd l0 x7_1))) 10000)), (wrap64 (x7_1 + 1)), rs_, rs_, H', ⟨by have := HK1.out; have := HJ4.out; omega⟩, ⟨crR HOB8⟩, ⟨blw HB⟩⟩
         ·
          rw [if_neg c14] at H
          exact absurd H (by simp)
       ·
        rw [if_neg c10] at H
        exact absurd H (by simp)
      ·
       rw [if_neg c9] at H
       have c9b0 : decide (x7_1 < (l0.length : Int)) = false := decide_eq_false c9
       clear c9
       by_cases c16 : x7_1 < (l1.length : Int)
       ·
        rw [if_pos c16] at H
        have c16b0 : decide (x7_1 < (l1.length : Int)) = true := decide_eq_true c16
        clear c16
        by_cases c17 : 0 ≤ x7_1
        ·
         rw [if_pos c17] at H
         have c17b0 : decide (0 ≤ x7_1) = true := decide_eq_true c17
         clear c17
         by_cases c18 : x5_1.length < 17592186044416
         ·
          rw [if_pos c18] at H
          have LMc18 := Aside0.mk c18
          clear c18
          obtain ⟨yB0, hy812⟩ : ∃ y_ : List Int, y_ = (x5_1 ++ [Int.tmod (wrap64 (x6_1 + (rd l1 x7_1))) 10000]) := ⟨_, rfl⟩
          replace H : (spec_l01Add.l0 kj4 l0 l1 yB0 (wrap64 (Int.tdiv (wrap64 (x6_1 + (rd l1 x7_1))) 10000)) (wrap64 (x7_1 + 1))) = some r := by subst hy812; first | with_reducible exact H | with_reducible exact (Option.bind_some _ _).symm.trans H | exact H
          have NyB0 := Aside0.mk hy812
          clear hy812
          have H' := Aside0.mk H
          clear H
          have pA3 : 0 ≤ (x7_1 : Int) := of_decide_eq_true (by first | (with_reducible assumption) | assumption)
          have qA3 : x7_1 < (l1.length : Int) := of_decide_eq_true (by first | (with_reducible assumption) | assumption)
          obtain ⟨adA3, eA3, hxA3_0⟩ := Kd.at_int HR1.out x7_1 pA3 qA3
          cases eA3
          replace hxA3_0 := (HB.out.cell (World.block_lt_of_cell? w _ hxA3_0)).trans hxA3_0
          replace pA3 := eq_true pA3
          replace qA3 := eq_true qA3
          go_wp2_with (first | ((with_reducible refine gate_builtin (b := .append) (xs := #[.tmp 45, .tmp 48]) rfl ?_); (try (refine gate_guard (by rfl) ?_; dsimp only)); at_builtin; refine Kd.R_append (Kd.int .i64) (w0 := w) w.heap.size rfl (.tmp 45) (.tmp 48) 22 3 (.int .i64 0) 8 rfl Try.underlying22 info3 rfl (by decide) (by omega) u5 x5_1 (Int.tmod (wrap64 (x6_1 + (rd l1 x7_1))) 10000) [.int .i64 (Int.tmod (wrap64 (x6_1 + (rd l1 x7_1))) 10000)] (fun _ => True) (fun _ => False) rfl rfl ?aP (fun _ hk => hk.elim) ?aF ?aO ?aB ?aS ?aL ?_; (case aP => exact rfl); (case aB => exact (blw HB)); (case aF => exact (fun _ _ => trivial)); (case aO => exact (crR HO_5)); (case aS => exact (bsz HB)); (case aL => have := LMc18.out; omega); intro vC9 w19 ho hb hg hat; rw [← NyB0.out] at ho; replace HB := Aside0.mk (hb); have HOB9 := Aside0.mk (ho); clear HO_5; clear ho hb hg hat))
          go_roundg kj4
          case measure => have := HK1.out; have := HJ4.out; omega
          case rel => exact ⟨(yB0), (wrap64 (Int.tdiv (wrap64 (x6_1 + (rd l1 x7_1))) 10000)), (wrap64 (x7_1 + 1)), rs_, rs_, H', ⟨by have := HK1.out; have := HJ4.out; omega⟩, ⟨crR HOB9⟩, ⟨blw HB⟩⟩
         ·
          rw [if_neg c18] at H
          exact absurd H (by simp)
        ·
         rw [if_neg c17] at H
         exact absurd H (by simp)
       ·
        rw [if_neg c16] at H
        have c16b0 : decide (x7_1 < (l1.length : Int)) = false := decide_eq_false c16
        clear c16
        by_cases c20 : x5_1.length < 17592186044416
        ·
         rw [if_pos c20] at H
         have LMc20 := Aside0.mk c20
         clear c20
         obtain ⟨yB1, hy815⟩ : ∃ y_ : List Int, y_ = (x5_1 ++ [Int.tmod x6_1 10000]) := ⟨_, rfl⟩
         replace H : (spec_l01Add.l0 kj4 l0 l1 yB1 (wrap64 (Int.tdiv x6_1 10000)) (wrap64 (x7_1 + 1))) = some r := by subst hy815; first | with_reducible exact H | with_reducible exact (Option.bind_some _ _).symm.trans H | exact H
         have NyB1 := Aside0.mk hy815
         clear hy815
         have H' := Aside0.mk H
         clear H
         go_wp2_with (first | ((with_reducible refine gate_builtin (b := .append) (xs := #[.tmp 45, .tmp 48]) rfl ?_); (try (refine gate_guard (by rfl) ?_; dsimp only)); at_builtin; refine Kd.R_append (Kd.int .i64) (w0 := w) w.heap.size rfl (.tmp 45) (.tmp 48) 22 3 (.int .i64 0) 8 rfl Try.underlying22 info3 rfl (by decide) (by omega) u5 x5_1 (Int.tmod x6_1 10000) [.int .i64 (Int.tmod x6_1 10000)] (fun _ => True) (fun _ => False) rfl rfl ?aP (fun _ hk => hk.elim) ?aF ?aO ?aB ?aS ?aL ?_; (case aP => exact rfl); (case aB => exact (blw HB)); (case aF => exact (fun _ _ => trivial)); (case aO => exact (crR HO_5)); (case aS => exact (bsz HB)); (case aL => have := LMc20.out; omega); intro vD0 w21 ho hb hg hat; rw [← NyB1.out] at ho; replace HB := Aside0.mk (hb); have HOC0 := Aside0.mk (ho); clear HO_5; clear ho hb hg hat))
         go_roundg kj4
         case measure => have := HK1.out; have := HJ4.out; omega
         case rel => exact ⟨(yB1), (wrap64 (Int.tdiv x6_1 10000)), (wrap64 (x7_1 + 1)), rs_, rs_, H', ⟨by have := HK1.out; have := HJ4.out; omega⟩, ⟨crR HOC0⟩, ⟨blw HB⟩⟩
        ·
         rw [if_neg c20] at H
         exact absurd H (by simp)
     ·
      replace c8 := Bool.eq_false_iff.mpr c8
      subst c8
      rw [if_neg (show ¬ (false = true) by decide)] at H
      obtain rfl := Option.some.inj H
      go_wp2
      go_ret
      exact ⟨_, er_, by (with_reducible repeat (first | apply Kd.R_alloc | apply Kd.R_drewN | apply Kd.R_drew)); exact HO_5.out, blw HB⟩

mutual
def impl_natAdd.l0 : Nat → List Int → List Int → List Int → Int → Int → Option (List Int)
 | 0, _, _, _, _, _ => none
 | k + 1, x0, x1, x5, x6, x7 => if (x0.length : Int) < (x1.length : Int) then (if x7 < (x1.length : Int) then (impl_natAdd.j1 k x0 x1 x5 x6 x7 true) else (impl_natAdd.j1 k x0 x1 x5 x6 x7 (decide (x6 > 0)))) else (if x7 < (x0.length : Int) then (impl_natAdd.j1 k x0 x1 x5 x6 x7 true) else (impl_natAdd.j1 k x0 x1 x5 x6 x7 (decide (x6 > 0))))
def impl_natAdd.j1 : Nat → List Int → List Int → List Int → Int → Int → Bool → Option (List Int)
 | 0, _, _, _, _, _, _ => none
 | k + 1, x0, x1, x5, x6, x7, x19 => if x19 = true then (if x7 < (x0.length : Int) then (if 0 ≤ x7 then (if x7 < (x1.length : Int) then (if x5.length < 17592186044416 then (impl_natAdd.l0 k x0 x1 (x5 ++ [Int.tmod (wrap64 ((wrap64 (x6 + (rd x0 x7))) + (rd x1 x7))) 10000]) (wrap64 (Int.tdiv (wrap64 ((wrap64 (x6 + (rd x0 x7))) + (rd x1 x7))) 10000)) (wrap64 (x7 + 1))) else (none)) else (if x5.length < 17592186044416 then (impl_natAdd.l0 k x0 x1 (x5 ++ [Int.tmod (wrap64 (x6 + (rd x0 x7))) 10000]) (wrap64 (Int.tdiv (wrap64 (x6 + (rd x0 x7))) 10000)) (wrap64 (x7 + 1))) else (none))) else (none)) else (if x7 < (x1.length : Int) then (if 0 ≤ x7 then (if x5.length < 17592186044416 then (impl_natAdd.l0 k x0 x1 (x5 ++ [Int.tmod (wrap64 (x6 + (rd x1 x7))) 10000]) (wrap64 (Int.tdiv (wrap64 (x6 + (rd x1 x7))) 10000)) (wrap64 (x7 + 1))) else (none)) else (none)) else (if x5.length < 17592186044416 then (impl_natAdd.l0 k x0 x1 (x5 ++ [Int.tmod x6 10000]) (wrap64 (Int.tdiv x6 10000)) (wrap64 (x7 + 1))) else (none)))) else (some x5)
end
def impl_natAdd.f (k : Nat) (l0 : List Int) (l1 : List Int) : Option (List Int) := impl_natAdd.l0 k l0 l1 (([] : List Int)) 0 0
set_option maxHeartbeats 8000000 in
set_option maxRecDepth 100000 in
theorem impl_natAdd.calls (k : Nat) (A0 : Option Addr) (c0 : Nat) (l0 : List Int) (A1 : Option Addr) (c1 : Nat) (l1 : List Int) (r : List Int) (w : World) (hr0 : Kd.C (Kd.int .i64) w A0 l0.length l0) (hc0 : l0.length ≤ c0) (hr1 : Kd.C (Kd.int .i64) w A1 l1.length l1) (hc1 : l1.length ≤ c1) (h : impl_natAdd.f k l0 l1 = some r) :
  Calls Try.prog 76 #[.slice A0 l0.length c0, .slice A1 l1.length c1] w fun e w' => ∃ v0_ : Value, e = .returned (v0_) ∧ Kd.R (Kd.int .i64) 3 w' w.heap.size (fun _ => True) v0_ r ∧ Below w.heap.size w w' := by
 have HR0 := Aside0.mk hr0
 have HC0 := Aside0.mk hc0
 clear hr0 hc0
 have HR1 := Aside0.mk hr1
 have HC1 := Aside0.mk hc1
 clear hr1 hc1
 have HB := Aside0.mk (Below.refl w.heap.size w)
 have H : (impl_natAdd.l0 k l0 l1 (([] : List Int)) 0 0) = some r := h
 clear h
 obtain ⟨yA7, hy870⟩ : ∃ y_ : List Int, y_ = (([] : List Int)) := ⟨_, rfl⟩
 replace H : (impl_natAdd.l0 k l0 l1 yA7 0 0) = some r := by subst hy870; first | with_reducible exact H | with_reducible exact (Option.bind_some _ _).symm.trans H | exact H
 have NyA7 := Aside0.mk hy870
 clear hy870
 have H' := Aside0.mk H
 clear H
 go_enter Try.func76, Try.ntmps76
 go_wp2_with (first | ((with_reducible refine gate_dst (N := 8) rfl ?_); refine Kd.R_lit (Kd.int .i64) _ 3 ?hg (N := 8) ?hd (xs := ([] : List Int)) (inner := []) (ok := fun _ => True) (okp := fun _ => True) ?hr ?hp (fun _ hk => hk) trivial (Below.refl _ _) (Nat.le_refl _) (by simp) ?_; (case hd => rfl); (case hg => rfl); (case hr => first | (go_simp; done) | (go_simp; rfl)); (case hp => exact (Reps.none _ _)); intro vD1 w3 ho4 hb hg_ hnew_; clear hg_ hnew_; (first | rw [← NyA7.out] at ho4 | (simp only [Int.reduceToNat] at ho4; rw [← NyA7.out] at ho4)); have HOC1 := lwR ho4 HB; replace HB := bst HB hb; clear hb ho4))
 go_loopg [5, 6, 7] k (fun kq v5 v6 v7 w' => ∃ (x5_1 : List Int) (x6_1 : Int) (x7_1 : Int), v6 = .int .i64 x6_1 ∧ v7 = .int .i64 x7_1 ∧ Aside0 (impl_natAdd.l0 kq l0 l1 x5_1 x6_1 x7_1 = some r) ∧ Aside0 (kq ≤ k) ∧ Aside0 (Kd.R (Kd.int .i64) 3 w' w.heap.size (fun _ => True) v5 x5_1) ∧ Aside0 (Below w.heap.size w w'))
 case atStart => exact ⟨(yA7), (0), (0), rs_, rs_, H', ⟨Nat.le_refl _⟩, ⟨crR HOC1⟩, ⟨blw HB⟩⟩
 case round =>
  clear H'
  try clear c1
  try clear p2
  obtain ⟨x5_1, x6_1, x7_1, rfl, rfl, HA, HK1, HO_5, HB⟩ := hrel
  cases gk with
  | zero => exact absurd HA.out (by simp [impl_natAdd.l0])
  | succ k1 =>
   have H := HA.out
   clear HA
   simp only [impl_natAdd.l0] at H
   have HC5 := Aside0.mk H
   clear H
   go_upto_region 3 with (fail)
   go_cut [19] (fun v19 wc => ∃ (kq : Nat) (x19_4 : Bool), v19 = .bool x19_4 ∧ Aside0 (impl_natAdd.j1 kq l0 l1 x5_1 x6_1 x7_1 x19_4 = some r) ∧ Aside0 (kq ≤ k1) ∧ Aside0 (Kd.R (Kd.int .i64) 3 wc w.heap.size (fun _ => True) u5 x5_1) ∧ Aside0 (Below w.heap.size w wc))
   case first =>
    have H := HC5.out
    clear HC5
    by_cases c6 : (l0.length : Int) < (l1.length : Int)
    ·
     rw [if_pos c6] at H
     have c6i := eq_true c6
     have c6b0 : decide ((l0.length : Int) < (l1.length : Int)) = true := decide_eq_true c6
     have c6b1 : decide (l0.length < l1.length) = true := decide_eq_true (Int.ofNat_lt.mp c6)
     clear c6
     by_cases c7 : x7_1 < (l1.length : Int)
     ·
      rw [if_pos c7] at H
      have c7b0 : decide (x7_1 < (l1.length : Int)) = true := decide_eq_true c7
      clear c7
      (first | rw [c7b0] | (simp only [i64_w, i32_w]; rw [c7b0]) | skip)
      have H' := Aside0.mk H
      clear H
      go_wp2
      go_meet
      case rel => exact ⟨_, (true), rs_, H', ⟨by have := HK1.out; first | omega | exact Nat.le_refl _⟩, ⟨crR HO_5⟩, ⟨blw HB⟩⟩
     ·
      rw [if_neg c7] at H
      have c7b0 : decide (x7_1 < (l1.length : Int)) = false := decide_eq_false c7
      clear c7
      (first | rw [c7b0] | (simp only [i64_w, i32_w]; rw [c7b0]) | skip)
      have H' := Aside0.mk H
      clear H
      go_wp2
      go_meet
      case rel => exact ⟨_, (decide (x6_1 > 0)), rs_, H', ⟨by have := HK1.out; first | omega | exact Nat.le_refl _⟩, ⟨crR HO_5⟩, ⟨blw HB⟩⟩
    ·
     rw [if_neg c6] at H
     have c6i := eq_false c6
     have c6b0 : decide ((l0.length : Int) < (l1.length : Int)) = false := decide_eq_false c6
     have c6b1 : decide (l0.length < l1.length) = false := decide_eq_false (fun h => c6 (Int.ofNat_lt.mpr h))
     clear c6
     by_cases c8 : x7_1 < (l0.length : Int)
     ·
      rw [if_pos c8] at H
      have c8b0 : decide (x7_1 < (l0.length : Int)) = true := decide_eq_true c8
      clear c8
      have H' := Aside0.mk H
      clear H
      go_wp2
      go_meet
      case rel => exact ⟨_, (true), rs_, H', ⟨by have := HK1.out; first | omega | exact Nat.le_refl _⟩, ⟨crR HO_5⟩, ⟨blw HB⟩⟩
     ·
      rw [if_neg c8] at H
      have c8b0 : decide (x7_1 < (l0.length : Int)) = false := decide_eq_false c8
      clear c8
      have H' := Aside0.mk H
      clear H
      go_wp2
      go_meet
      case rel => exact ⟨_, (decide (x6_1 > 0)), rs_, H', ⟨by have := HK1.out; first | omega | exact Nat.le_refl _⟩, ⟨crR HO_5⟩, ⟨blw HB⟩⟩
   case rest =>
    clear HC5
    try clear c1
    try clear p2
    try clear c6
    try clear c6b0
    try clear c6b1
    try clear c7
    try clear c7b0
    try clear c8
    try clear c8b0
    try clear p2
    obtain ⟨kq, x19_4, rfl, HA, HJ4, HO_5, HB⟩ := hcut
    cases kq with
    | zero => exact absurd HA.out (by simp [impl_natAdd.j1])
    | succ kj4 =>
     have H := HA.out
     clear HA
     simp only [impl_natAdd.j1] at H
     by_cases c9 : x19_4 = true
     ·
      subst c9
      rw [if_pos rfl] at H
      by_cases c10 : x7_1 < (l0.length : Int)
      ·
       rw [if_pos c10] at H
       have c10b0 : decide (x7_1 < (l0.length : Int)) = true := decide_eq_true c10
       clear c10
       by_cases c11 : 0 ≤ x7_1
       ·
        rw [if_pos c11] at H
        have c11b0 : decide (0 ≤ x7_1) = true := decide_eq_true c11
        clear c11
        by_cases c12 : x7_1 < (l1.length : Int)
        ·
         rw [if_pos c12] at H
         have c12b0 : decide (x7_1 < (l1.length : Int)) = true := decide_eq_true c12
         clear c12
         by_cases c13 : x5_1.length < 17592186044416
         ·
          rw [if_pos c13] at H
          have LMc13 := Aside0.mk c13
          clear c13
          obtain ⟨yB2, hy875⟩ : ∃ y_ : List Int, y_ = (x5_1 ++ [Int.tmod (wrap64 ((wrap64 (x6_1 + (rd l0 x7_1))) + (rd l1 x7_1))) 10000]) := ⟨_, rfl⟩
          replace H : (impl_natAdd.l0 kj4 l0 l1 yB2 (wrap64 (Int.tdiv (wrap64 ((wrap64 (x6_1 + (rd l0 x7_1))) + (rd l1 x7_1))) 10000)) (wrap64 (x7_1 + 1))) = some r := by subst hy875; first | with_reducible exact H | with_reducible exact (Option.bind_some _ _).symm.trans H | exact H
          have NyB2 := Aside0.mk hy875
          clear hy875
          have H' := Aside0.mk H
          clear H
          have pA1 : 0 ≤ (x7_1 : Int) := of_decide_eq_true (by first | (with_reducible assumption) | assumption)
          have qA1 : x7_1 < (l0.length : Int) := of_decide_eq_true (by first | (with_reducible assumption) | assumption)
          obtain ⟨adA1, eA1, hxA1_0⟩ := Kd.at_int HR0.out x7_1 pA1 qA1
          cases eA1
          replace hxA1_0 := (HB.out.cell (World.block_lt_of_cell? w _ hxA1_0)).trans hxA1_0
          replace pA1 := eq_true pA1
          replace qA1 := eq_true qA1
          have pA4 : 0 ≤ (x7_1 : Int) := of_decide_eq_true (by first | (with_reducible assumption) | assumption)
          have qA4 : x7_1 < (l1.length : Int) := of_decide_eq_true (by first | (with_reducible assumption) | assumption)
          obtain ⟨adA4, eA4, hxA4_0⟩ := Kd.at_int HR1.out x7_1 pA4 qA4
          cases eA4
          replace hxA4_0 := (HB.out.cell (World.block_lt_of_cell? w _ hxA4_0)).trans hxA4_0
          replace pA4 := eq_true pA4
          replace qA4 := eq_true qA4
          go_wp2_with (first | ((with_reducible refine gate_builtin (b := .append) (xs := #[.tmp 42, .tmp 45]) rfl ?_); at_builtin; refine Kd.R_append (Kd.int .i64) (w0 := w) w.heap.size rfl (.tmp 42) (.tmp 45) 22 3 (.int .i64 0) 8 rfl Try.underlying22 info3 rfl (by decide) (by omega) u5 x5_1 (Int.tmod (wrap64 ((wrap64 (x6_1 + (rd l0 x7_1))) + (rd l1 x7_1))) 10000) [.int .i64 (Int.tmod (wrap64 ((wrap64 (x6_1 + (rd l0 x7_1))) + (rd l1 x7_1))) 10000)] (fun _ => True) (fun _ => False) rfl rfl ?aP (fun _ hk => hk.elim) ?aF ?aO ?aB ?aS ?aL ?_; (case aP => exact rfl); (case aB => exact (blw HB)); (case aF => exact (fun _ _ => trivial)); (case aO => exact (crR HO_5)); (case aS => exact (bsz HB)); (case aL => have := LMc13.out; omega); intro vD2 w14 ho hb hg hat; rw [← NyB2.out] at ho; replace HB := Aside0.mk (hb); have HOC2 := Aside0.mk (ho); clear HO_5; clear ho hb hg hat))
          go_roundg kj4
          case measure => have := HK1.out; have := HJ4.out; omega
          case rel => exact ⟨(yB2), (wrap64 (Int.tdiv (wrap64 ((wrap64 (x6_1 + (rd l0 x7_1))) + (rd l1 x7_1))) 10000)), (wrap64 (x7_1 + 1)), rs_, rs_, H', ⟨by have := HK1.out; have := HJ4.out; omega⟩, ⟨crR HOC2⟩, ⟨blw HB⟩⟩
         ·
          rw [if_neg c13] at H
          exact absurd H (by simp)
        ·
         rw [if_neg c12] at H
         have c12b0 : decide (x7_1 < (l1.length : Int)) = false := decide_eq_false c12
         clear c12
         by_cases c15 : x5_1.length < 17592186044416
         ·
          rw [if_pos c15] at H
          have LMc15 := Aside0.mk c15
          clear c15
          obtain ⟨yB3, hy878⟩ : ∃ y_ : List Int, y_ = (x5_1 ++ [Int.tmod (wrap64 (x6_1 + (rd l0 x7_1))) 10000]) := ⟨_, rfl⟩
          replace H : (impl_natAdd.l0 kj4 l0 l1 yB3 (wrap64 (Int.tdiv (wrap64 (x6_1 + (rd l0 x7_1))) 10000)) (wrap64 (x7_1 + 1))) = some r := by subst hy878; first | with_reducible exact H | with_reducible exact (Option.bind_some _ _).symm.trans H | exact H
          have NyB3 := Aside0.mk hy878
          clear hy878
          have H' := Aside0.mk H
          clear H
          have pA1 : 0 ≤ (x7_1 : Int) := of_decide_eq_true (by first | (with_reducible assumption) | assumption)
          have qA1 : x7_1 < (l0.length : Int) := of_decide_eq_true (by first | (with_reducible assumption) | assumption)
          obtain ⟨adA1, eA1, hxA1_0⟩ := Kd.at_int HR0.out x7_1 pA1 qA1
          cases eA1
          replace hxA1_0 := (HB.out.cell (World.block_lt_of_cell? w _ hxA1_0)).trans hxA1_0
          replace pA1 := eq_true pA1
          replace qA1 := eq_true qA1
          go_wp2_with (first | ((with_reducible refine gate_builtin (b := .append) (xs := #[.tmp 42, .tmp 45]) rfl ?_); at_builtin; refine Kd.R_append (Kd.int .i64) (w0 := w) w.heap.size rfl (.tmp 42) (.tmp 45) 22 3 (.int .i64 0) 8 rfl Try.underlying22 info3 rfl (by decide) (by omega) u5 x5_1 (Int.tmod (wrap64 (x6_1 + (rd l0 x7_1))) 10000) [.int .i64 (Int.tmod (wrap64 (x6_1 + (rd l0 x7_1))) 10000)] (fun _ => True) (fun _ => False) rfl rfl ?aP (fun _ hk => hk.elim) ?aF ?aO ?aB ?aS ?aL ?_; (case aP => exact rfl); (case aB => exact (blw HB)); (case aF => exact (fun _ _ => trivial)); (case aO => exact (crR HO_5)); (case aS => exact (bsz HB)); (case aL => have := LMc15.out; omega); intro vD3 w16 ho hb hg hat; rw [← NyB3.out] at ho; replace HB := Aside0.mk (hb); have HOC3 := Aside0.mk (ho); clear HO_5; clear ho hb hg hat))
          go_roundg kj4
          case measure => have := HK1.out; have := HJ4.out; omega
          case rel => exact ⟨(yB3), (wrap64 (Int.tdiv (wrap64 (x6_1 + (rd l0 x7_1))) 10000)), (wrap64 (x7_1 + 1)), rs_, rs_, H', ⟨by have := HK1.out; have := HJ4.out; omega⟩, ⟨crR HOC3⟩, ⟨blw HB⟩⟩
         ·
          rw [if_neg c15] at H
          exact absurd H (by simp)
       ·
        rw [if_neg c11] at H
        exact absurd H (by simp)
      ·
       rw [if_neg c10] at H
       have c10b0 : decide (x7_1 < (l0.length : Int)) = false := decide_eq_false c10
       clear c10
       by_cases c17 : x7_1 < (l1.length : Int)
       ·
        rw [if_pos c17] at H
        have c17b0 : decide (x7_1 < (l1.length : Int)) = true := decide_eq_true c17
        clear c17
        by_cases c18 : 0 ≤ x7_1
        ·
         rw [if_pos c18] at H
         have c18b0 : decide (0 ≤ x7_1) = true := decide_eq_true c18
         clear c18
         by_cases c19 : x5_1.length < 17592186044416
         ·
          rw [if_pos c19] at H
          have LMc19 := Aside0.mk c19
          clear c19
          obtain ⟨yB4, hy882⟩ : ∃ y_ : List Int, y_ = (x5_1 ++ [Int.tmod (wrap64 (x6_1 + (rd l1 x7_1))) 10000]) := ⟨_, rfl⟩
          replace H : (impl_natAdd.l0 kj4 l0 l1 yB4 (wrap64 (Int.tdiv (wrap64 (x6_1 + (rd l1 x7_1))) 10000)) (wrap64 (x7_1 + 1))) = some r := by subst hy882; first | with_reducible exact H | with_reducible exact (Option.bind_some _ _).symm.trans H | exact H
          have NyB4 := Aside0.mk hy882
          clear hy882
          have H' := Aside0.mk H
          clear H
          have pA5 : 0 ≤ (x7_1 : Int) := of_decide_eq_true (by first | (with_reducible assumption) | assumption)
          have qA5 : x7_1 < (l1.length : Int) := of_decide_eq_true (by first | (with_reducible assumption) | assumption)
          obtain ⟨adA5, eA5, hxA5_0⟩ := Kd.at_int HR1.out x7_1 pA5 qA5
          cases eA5
          replace hxA5_0 := (HB.out.cell (World.block_lt_of_cell? w _ hxA5_0)).trans hxA5_0
          replace pA5 := eq_true pA5
          replace qA5 := eq_true qA5
          go_wp2_with (first | ((with_reducible refine gate_builtin (b := .append) (xs := #[.tmp 42, .tmp 45]) rfl ?_); at_builtin; refine Kd.R_append (Kd.int .i64) (w0 := w) w.heap.size rfl (.tmp 42) (.tmp 45) 22 3 (.int .i64 0) 8 rfl Try.underlying22 info3 rfl (by decide) (by omega) u5 x5_1 (Int.tmod (wrap64 (x6_1 + (rd l1 x7_1))) 10000) [.int .i64 (Int.tmod (wrap64 (x6_1 + (rd l1 x7_1))) 10000)] (fun _ => True) (fun _ => False) rfl rfl ?aP (fun _ hk => hk.elim) ?aF ?aO ?aB ?aS ?aL ?_; (case aP => exact rfl); (case aB => exact (blw HB)); (case aF => exact (fun _ _ => trivial)); (case aO => exact (crR HO_5)); (case aS => exact (bsz HB)); (case aL => have := LMc19.out; omega); intro vD4 w20 ho hb hg hat; rw [← NyB4.out] at ho; replace HB := Aside0.mk (hb); have HOC4 := Aside0.mk (ho); clear HO_5; clear ho hb hg hat))
          go_roundg kj4
          case measure => have := HK1.out; have := HJ4.out; omega
          case rel => exact ⟨(yB4), (wrap64 (Int.tdiv (wrap64 (x6_1 + (rd l1 x7_1))) 10000)), (wrap64 (x7_1 + 1)), rs_, rs_, H', ⟨by have := HK1.out; have := HJ4.out; omega⟩, ⟨crR HOC4⟩, ⟨blw HB⟩⟩
         ·
          rw [if_neg c19] at H
          exact absurd H (by simp)
        ·
         rw [if_neg c18] at H
         exact absurd H (by simp)
       ·
        rw [if_neg c17] at H
        have c17b0 : decide (x7_1 < (l1.length : Int)) = false := decide_eq_false c17
        clear c17
        by_cases c21 : x5_1.length < 17592186044416
        ·
         rw [if_pos c21] at H
         have LMc21 := Aside0.mk c21
         clear c21
         obtain ⟨yB5, hy885⟩ : ∃ y_ : List Int, y_ = (x5_1 ++ [Int.tmod x6_1 10000]) := ⟨_, rfl⟩
         replace H : (impl_natAdd.l0 kj4 l0 l1 yB5 (wrap64 (Int.tdiv x6_1 10000)) (wrap64 (x7_1 + 1))) = some r := by subst hy885; first | with_reducible exact H | with_reducible exact (Option.bind_some _ _).symm.trans H | exact H
         have NyB5 := Aside0.mk hy885
         clear hy885
         have H' := Aside0.mk H
         clear H
         go_wp2_with (first | ((with_reducible refine gate_builtin (b := .append) (xs := #[.tmp 42, .tmp 45]) rfl ?_); at_builtin; refine Kd.R_append (Kd.int .i64) (w0 := w) w.heap.size rfl (.tmp 42) (.tmp 45) 22 3 (.int .i64 0) 8 rfl Try.underlying22 info3 rfl (by decide) (by omega) u5 x5_1 (Int.tmod x6_1 10000) [.int .i64 (Int.tmod x6_1 10000)] (fun _ => True) (fun _ => False) rfl rfl ?aP (fun _ hk => hk.elim) ?aF ?aO ?aB ?aS ?aL ?_; (case aP => exact rfl); (case aB => exact (blw HB)); (case aF => exact (fun _ _ => trivial)); (case aO => exact (crR HO_5)); (case aS => exact (bsz HB)); (case aL => have := LMc21.out; omega); intro vD5 w22 ho hb hg hat; rw [← NyB5.out] at ho; replace HB := Aside0.mk (hb); have HOC5 := Aside0.mk (ho); clear HO_5; clear ho hb hg hat))
         go_roundg kj4
         case measure => have := HK1.out; have := HJ4.out; omega
         case rel => exact ⟨(yB5), (wrap64 (Int.tdiv x6_1 10000)), (wrap64 (x7_1 + 1)), rs_, rs_, H', ⟨by have := HK1.out; have := HJ4.out; omega⟩, ⟨crR HOC5⟩, ⟨blw HB⟩⟩
        ·
         rw [if_neg c21] at H
         exact absurd H (by simp)
     ·
      replace c9 := Bool.eq_false_iff.mpr c9
      subst c9
      rw [if_neg (show ¬ (false = true) by decide)] at H
      obtain rfl := Option.some.inj H
      go_wp2
      go_ret
      exact ⟨_, er_, by (with_reducible repeat (first | apply Kd.R_alloc | apply Kd.R_drewN | apply Kd.R_drew)); exact HO_5.out, blw HB⟩

end Go.Proofs.Ytacdaijalkkogaa.Q
