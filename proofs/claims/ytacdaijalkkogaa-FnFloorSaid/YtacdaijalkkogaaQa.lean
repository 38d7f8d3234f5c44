-- several texts of this claim in one
import Derived.Test.YtacdaijalkkogaaProg
import Derived.Below
import Derived.Deep.Draws
import Derived.Deep.AppendLies
import Derived.Maps.AppendAt
import Derived.OwnWalk
import Derived.Laws.BytesArg
import Derived.Laws.MakeOwn
import Derived.Laws.OwnMore
import Derived.Deep.OwnRows
import Derived.Tactics
import Derived.Lib.ConvBytes
import Derived.Laws.Slices
import Derived.WalkKit
import Derived.KernelRfl
import Derived.RowKit3
import Derived.Deep.LoopGhost
import Derived.Deep.QuietTactic
import Derived.BigQuiet
import Derived.WideLaws
import Derived.Deep.DeepCutAuto
import Derived.Deep.CutBlock
import Derived.Deep.RegionHeld3
import Derived.Laws.Rows
import Derived.Lib.AppendStr
import Derived.ArgAppend
import Derived.Laws.IdiomCopy
import Derived.OrdersHeld
import Derived.Laws.BitsLemmas
import Derived.RowKit
import Derived.RangeFuncBox
import Derived.RangeFuncLeaves
import Derived.Shelf.Abstract
import Derived.OwnWalkIn
import Derived.TacticsInMore
import Derived.LoopNIn
import Derived.LoopIn
import Derived.Lib.Hide
import Derived.Lib.SliceRun
import Derived.Test.YtacdaijalkkogaaPn
import Derived.RangeFuncNested
import Derived.RangeFuncCalls
import Derived.Test.YtacdaijalkkogaaWords
import Derived.Laws.StructEq
namespace Go.Proofs.Ytacdaijalkkogaa.Q
open Go.RowKit Go.Proofs.YtacdaijalkkogaaW.PrintWords Go.Proofs.YtacdaijalkkogaaW.PrintLast Go.Proofs.YtacdaijalkkogaaW.PrintMore
attribute [local go_sem] max2_int min2_int max_two min_two max_three min_three max_four min_four   -- for this text's walks alone
set_option linter.unusedVariables false
set_option linter.unusedSimpArgs false
def errW : Option Int → Value
 | none => .nilIface
 | some c => .iface 0 (.int .i64 c)
theorem errW_none : errW none = .nilIface := rfl
theorem errW_some (c : Int) : errW (some c) = .iface 0 (.int .i64 c) := rfl

theorem info3 : (Try.prog.info? 3).map (fun i => (i.zero, i.size, i.bytes)) = some (some (.int .i64 0), 1, 8) := by kernel_rfl
-- the values' own types
structure S24 where
 f0 : Bool
 f1 : (List Int)
 f2 : (List Int)
def z24 : S24 := ⟨false, ([] : List Int), ([] : List Int)⟩
def k24 : Kd S24 := Kd.iso (Kd.pair Kd.bool (Kd.pair (Kd.slice 3 (Kd.int .i64)) (Kd.slice 3 (Kd.int .i64)))) (fun x : S24 => (x.f0, x.f1, x.f2))
theorem k24_open {w : World} {x : S24} {cs : List Value} (h : k24.K w x cs) : ∃ A1 c1 A2 c2, cs = [.bool x.f0, .slice A1 x.f1.length c1, .slice A2 x.f2.length c2] ∧ x.f1.length ≤ c1 ∧ (Kd.int .i64).C w A1 x.f1.length x.f1 ∧ x.f2.length ≤ c2 ∧ (Kd.int .i64).C w A2 x.f2.length x.f2 := by
 obtain ⟨_, _, rfl, rfl, ⟨_, _, rfl, ⟨A1, c1, rfl, l1, g1⟩, ⟨A2, c2, rfl, l2, g2⟩⟩⟩ := h
 exact ⟨A1, c1, A2, c2, rfl, l1, g1, l2, g2⟩
theorem k24_mk (w : World) (x : S24) {A1 : Option Addr} {c1 : Nat} (l1 : x.f1.length ≤ c1) (g1 : (Kd.int .i64).C w A1 x.f1.length x.f1) {A2 : Option Addr} {c2 : Nat} (l2 : x.f2.length ≤ c2) (g2 : (Kd.int .i64).C w A2 x.f2.length x.f2) : k24.K w x [.bool x.f0, .slice A1 x.f1.length c1, .slice A2 x.f2.length c2] := ⟨[.bool x.f0], [.slice A1 x.f1.length c1, .slice A2 x.f2.length c2], rfl, rfl, ⟨[.slice A1 x.f1.length c1], [.slice A2 x.f2.length c2], rfl, ⟨A1, c1, rfl, l1, g1⟩, ⟨A2, c2, rfl, l2, g2⟩⟩⟩
theorem k24_mkF (W : World) (ok : Nat → Prop) (x : S24) {A1 : Option Addr} {c1 : Nat} (l1 : x.f1.length ≤ c1) (g1 : Kd.F (Kd.int .i64) W ok A1 x.f1.length x.f1) {A2 : Option Addr} {c2 : Nat} (l2 : x.f2.length ≤ c2) (g2 : Kd.F (Kd.int .i64) W ok A2 x.f2.length x.f2) : Kd.FK k24 W ok x [.bool x.f0, .slice A1 x.f1.length c1, .slice A2 x.f2.length c2] := fun W2 hW => k24_mk W2 x l1 (g1 W2 hW) l2 (g2 W2 hW)
def rd_T24 (xs : List S24) (i : Int) : S24 := xs.getD i.toNat z24
theorem at_T24 {w : World} {A : Option Addr} {n : Nat} {xs : List S24} (h : Kd.C k24 w A n xs) (i : Int) (h0 : 0 ≤ i) (h1 : i < n) : ∃ ad A1 c1 A2 c2, A = some ad ∧ w.cell? (ad.add (i.toNat * 3)) = some (.bool (rd_T24 xs i).f0) ∧ w.cell? ⟨(ad.add (i.toNat * 3)).block, (ad.add (i.toNat * 3)).off + 1, none⟩ = some (.slice A1 (rd_T24 xs i).f1.length c1) ∧ w.cell? ⟨(ad.add (i.toNat * 3)).block, (ad.add (i.toNat * 3)).off + 2, none⟩ = some (.slice A2 (rd_T24 xs i).f2.length c2) ∧ (rd_T24 xs i).f1.length ≤ c1 ∧ (Kd.int .i64).C w A1 (rd_T24 xs i).f1.length (rd_T24 xs i).f1 ∧ (rd_T24 xs i).f2.length ≤ c2 ∧ (Kd.int .i64).C w A2 (rd_T24 xs i).f2.length (rd_T24 xs i).f2 := by
 obtain ⟨ad, c, e, _, hK, hc0⟩ := Kd.C_get h z24 i h0 h1
 have hc : ∀ j u, c[j]? = some u → w.cell? (ad.add (i.toNat * 3 + j)) = some u := hc0
 obtain ⟨A1, c1, A2, c2, rfl, l1, g1, l2, g2⟩ := k24_open hK
 exact ⟨ad, A1, c1, A2, c2, e, hc 0 _ rfl, by rw [← add_field _ _ 1 (by omega)]; exact hc 1 _ rfl, by rw [← add_field _ _ 2 (by omega)]; exact hc 2 _ rfl, l1, g1, l2, g2⟩

structure S30 where
 f0 : Bool
 f1 : (List Int)
 f2 : (List Int)
def badLimb (x : Int) : Bool := decide (x < 0) || decide (10000 ≤ x)
def natOKB (l : List Int) : Bool := decide (l.length ≤ 40) && (decide (l.length = 0) || !decide (l[l.length - 1]?.getD 0 = 0)) && l.all (fun x => !badLimb x)
theorem natOK_test (x : Int) (w : World) : Calls Try.prog 98 #[.int .i64 x] w fun e w' => e = .returned (.bool (badLimb x)) ∧ w = w' := by
 by_cases h1 : x < 0
 ·
  go_enter Try.func98, Try.ntmps98
  go_wp2
  go_ret
  exact ⟨by simp [badLimb, h1], rfl⟩
 ·
  by_cases h2 : 10000 ≤ x
  ·
   go_enter Try.func98, Try.ntmps98
   go_wp2
   go_ret
   exact ⟨by simp [badLimb, h2], rfl⟩
  ·
   go_enter Try.func98, Try.ntmps98
   go_wp2
   go_ret
   exact ⟨by simp [badLimb, h1, h2], rfl⟩
def IdxBad (l : List Int) (w : World) (e : Ending) (w' : World) : Prop := ∃ r : Int, e = .returned (.int .i64 r) ∧ (decide (0 ≤ r)) = l.any badLimb ∧ w = w'
theorem any_bad_take {l : List Int} {k : Nat} (hk : k < l.length) (h : ∀ j, j < k → badLimb (l[j]?.getD 0) = false) (hb : badLimb (l[k]?.getD 0) = true) : l.any badLimb = true := by
 rw [List.any_eq_true]
 refine ⟨l[k], List.getElem_mem hk, ?_⟩
 simpa [hk] using hb
theorem any_bad_none {l : List Int} (h : ∀ j, j < l.length → badLimb (l[j]?.getD 0) = false) : l.any badLimb = false := by
 rw [List.any_eq_false]
 intro x hx
 obtain ⟨j, hj, rfl⟩ := List.getElem_of_mem hx
 have := h j hj
 simpa [hj] using this
set_option maxHeartbeats 1000000 in
theorem natOK_index (A0 : Option Addr) (n c0 : Nat) (l : List Int) (w : World) (hn : n = l.length) (hlen : n ≤ 9223372036854775807) (hr : 0 < n → ∃ ad, A0 = some ad ∧ ∀ j, j < n → w.cell? (ad.add j) = some (.int .i64 (l[j]?.getD 0))) :
  Calls Try.prog 117 #[.slice A0 n c0, .func (.func 98) #[] #[]] w (IdxBad l w) := by
 have HN := Lib.hid hn
 clear hn
 rcases Nat.eq_zero_or_pos n with h0 | h0
 ·
  have HR := Lib.hid hr
  clear hr
  subst h0
  go_enter Try.func117, Try.ntmps117
  go_wp2
  go_loop [8] (fun i => i = .int .i64 0) (fun _ => 0)
  case atStart => rfl
  case round =>
   obtain rfl := hrel
   go_wp2
   go_ret
   refine ⟨-1, rfl, ?_, rfl⟩
   rw [any_bad_none (fun j hj => by have := HN.out; omega)]
   decide
 ·
  obtain ⟨ad, rfl, hc⟩ := hr h0
  have HC := Lib.hid hc
  clear hr hc
  go_enter Try.func117, Try.ntmps117
  go_wp2
  go_loop [8] (fun i => ∃ k : Nat, k ≤ n ∧ i = .int .i64 k ∧ Hid (∀ j, j < k → badLimb (l[j]?.getD 0) = false)) (fun i => n - (intOf i).toNat)
  case atStart => exact ⟨0, Nat.zero_le _, rfl, Lib.hid (fun j hj => by omega)⟩
  case round =>
   obtain ⟨k, hk, rfl, HK⟩ := hrel
   by_cases hlt : k < n
   ·
    have hcell : w.cell? (ad.add k) = some (.int .i64 (l[k]?.getD 0)) := HC.out k hlt
    cases hb : badLimb (l[k]?.getD 0) with
    | true =>
     have HB := Lib.hid hb
     clear hb
     go_wp2_with (go_at_call 98; refine (natOK_test _ _).mono ?_; rintro e w' ⟨rfl, rfl⟩; rw [HB.out])
     go_ret
     refine ⟨k, rfl, ?_, rfl⟩
     rw [any_bad_take (by have := HN.out; omega) HK.out HB.out]
     simp
    | false =>
     have HB := Lib.hid hb
     clear hb
     go_wp2_with (go_at_call 98; refine (natOK_test _ _).mono ?_; rintro e w' ⟨rfl, rfl⟩; rw [HB.out])
     go_round
     case rel => exact ⟨k + 1, by omega, by go_num, Lib.hid (fun j hj => by
      by_cases e : j = k
      ·
       subst e; exact HB.out
      ·
       exact HK.out j (by omega))⟩
     case measure => simp [intOf]; omega
   ·
    obtain rfl : k = n := by omega
    go_wp2
    go_ret
    refine ⟨-1, rfl, ?_, rfl⟩
    rw [any_bad_none (fun j hj => HK.out j (by have := HN.out; omega))]
    decide
theorem natOK_contains (A0 : Option Addr) (n c0 : Nat) (l : List Int) (w : World) (hn : n = l.length) (hlen : n ≤ 9223372036854775807) (hr : 0 < n → ∃ ad, A0 = some ad ∧ ∀ j, j < n → w.cell? (ad.add j) = some (.int .i64 (l[j]?.getD 0))) :
  Calls Try.prog 97 #[.slice A0 n c0, .func (.func 98) #[] #[]] w fun e w' => e = .returned (.bool (l.any badLimb)) ∧ w = w' := by
 have hC := natOK_index A0 n c0 l w hn hlen hr
 have HC := Lib.hid hC
 clear hC hn hr
 go_enter Try.func97, Try.ntmps97
 go_wp2_with (go_at_call 117; refine HC.out.mono ?_; rintro e w' ⟨r, rfl, hd, rfl⟩)
 go_ret
 exact ⟨by rw [← hd]; rfl, rfl⟩
theorem natOKB_zero {l : List Int} {m : Nat} (hm : m + 1 = l.length) (hz : l[m]?.getD 0 = 0) : natOKB l = false := by
 unfold natOKB
 have h0 : decide (l.length = 0) = false := decide_eq_false (by omega)
 rw [show l.length - 1 = m by omega, hz, h0]
 simp
theorem natOK_row {w : World} {A0 : Option Addr} {l : List Int} (h : Kd.C (Kd.int .i64) w A0 l.length l) : l.length ≤ 9223372036854775807 ∧ (0 < l.length → ∃ ad, A0 = some ad ∧ ∀ j, j < l.length → w.cell? (ad.add j) = some (.int .i64 (l[j]?.getD 0))) := by
 refine ⟨h.2.1, fun hn => ?_⟩
 obtain ⟨ad, e, hc⟩ := h.2.2 hn
 refine ⟨ad, e, fun j hj => ?_⟩
 obtain ⟨c, hs, hr, hcell⟩ := hc j l[j] (List.getElem?_eq_getElem hj)
 have hr' : c = [.int .i64 l[j]] := hr
 subst hr'
 have := hcell 0 _ rfl
 rw [show j * (Kd.int IntKind.i64).sz + 0 = j from Nat.mul_one j] at this
 simpa [hj] using this
set_option maxHeartbeats 1000000 in
theorem natOK_any (A0 : Option Addr) (n c0 : Nat) (l : List Int) (w : World) (hn : n = l.length) (hlen : n ≤ 9223372036854775807) (hr : 0 < n → ∃ ad, A0 = some ad ∧ ∀ j, j < n → w.cell? (ad.add j) = some (.int .i64 (l[j]?.getD 0))) :
  Calls Try.prog 58 #[.slice A0 n c0] w fun e w' => e = .returned (.bool (natOKB l)) ∧ w = w' := by
 have hC := natOK_contains A0 n c0 l w hn hlen hr
 have HC := Lib.hid hC
 have HN := Lib.hid hn
 have HR := Lib.hid hr
 clear hC hn hr
 by_cases h1 : 40 < n
 ·
  go_enter Try.func58, Try.ntmps58
  go_wp2
  go_ret
  exact ⟨by have := HN.out; congr 2; simp [natOKB]; omega, rfl⟩
 ·
  rcases Nat.eq_zero_or_pos n with h0 | h0
  ·
   subst h0
   go_enter Try.func58, Try.ntmps58
   go_wp2_with (go_at_call 97; refine HC.out.mono ?_; rintro e w' ⟨rfl, rfl⟩)
   go_ret
   exact ⟨by have := HN.out; obtain rfl : l = [] := List.length_eq_zero_iff.1 this.symm; rfl, rfl⟩
  ·
   obtain ⟨ad, rfl, hc⟩ := HR.out h0
   obtain ⟨m, rfl⟩ : ∃ m, n = m + 1 := ⟨n - 1, by omega⟩
   have hcell := hc m (by omega)
   clear hc
   by_cases hz : l[m]?.getD 0 = 0
   ·
    rw [hz] at hcell
    go_enter Try.func58, Try.ntmps58
    go_wp2
    go_ret
    exact ⟨by rw [natOKB_zero HN.out hz]; rfl, rfl⟩
   ·
    obtain ⟨z, hz'⟩ : ∃ z, l[m]?.getD 0 = z := ⟨_, rfl⟩
    rw [hz'] at hcell hz
    have hz1 : (z == 0) = false := by simpa using hz
    have HZ := Lib.hid hz'
    clear hz'
    go_enter Try.func58, Try.ntmps58
    go_wp2_with (go_at_call 97; refine HC.out.mono ?_; rintro e w' ⟨rfl, rfl⟩)
    go_ret
    exact ⟨by
     have hm := HN.out
     congr 2
     have e1 : natOKB l = l.all (fun x => !badLimb x) := by
      unfold natOKB
      rw [← hm, Nat.add_sub_cancel, HZ.out]
      simp [hz]; omega
     rw [e1, List.all_eq_not_any_not]; simp, rfl⟩
def impl_NatOK.f (l0 : List Int) : Option (Bool) := some (natOKB l0)
theorem impl_NatOK.calls (A0 : Option Addr) (c0 : Nat) (l0 : List Int) (r : Bool) (w : World) (hr0 : Kd.C (Kd.int .i64) w A0 l0.length l0) (hc0 : l0.length ≤ c0) (h : impl_NatOK.f l0 = some r) :
  Calls Try.prog 58 #[.slice A0 l0.length c0] w fun e w' => e = .returned (.bool r) ∧ Drawn0 w w' := by
 obtain rfl := Option.some.inj h
 obtain ⟨h1, h2⟩ := natOK_row hr0
 refine (natOK_any A0 _ c0 l0 w rfl h1 h2).mono ?_
 rintro e w' ⟨rfl, rfl⟩
 exact ⟨rfl, Drawn0.refl _⟩

def spec_l01In.f (a0 : Int) (a1 : Int) (a2 : Int) : Option (Bool) := if a1 ≤ a0 then (some (decide (a0 ≤ a2))) else (some false)
set_option maxHeartbeats 8000000 in
set_option maxRecDepth 100000 in
theorem spec_l01In.calls (a0 : Int) (a1 : Int) (a2 : Int) (r : Bool) (w : World) (h : spec_l01In.f a0 a1 a2 = some r) :
  Calls Try.prog 45 #[.int .i64 a0, .int .i64 a1, .int .i64 a2] w fun e w' => e = .returned (.bool r) ∧ Drawn0 w w' := by
 have H : (if a1 ≤ a0 then (some (decide (a0 ≤ a2))) else (some false)) = some r := h
 clear h
 by_cases c4 : a1 ≤ a0
 ·
  rw [if_pos c4] at H
  have c4b0 : decide (a1 ≤ a0) = true := decide_eq_true c4
  clear c4
  obtain rfl := Option.some.inj H
  go_enter Try.func45, Try.ntmps45
  go_wp2
  go_ret
  exact ⟨by first | rfl | (simp; done) | (simp [*]; done), by repeat (first | exact Drawn0.refl _ | apply Drawn0.step)⟩
 ·
  rw [if_neg c4] at H
  have c4b0 : decide (a1 ≤ a0) = false := decide_eq_false c4
  clear c4
  obtain rfl := Option.some.inj H
  go_enter Try.func45, Try.ntmps45
  go_wp2
  go_ret
  exact ⟨by first | rfl | (simp; done) | (simp [*]; done), by repeat (first | exact Drawn0.refl _ | apply Drawn0.step)⟩

def spec_NatOK.l0 : Nat → List Int → Int → Option (Bool)
 | 0, _, _ => none
 | k + 1, x0, x3 => if x3 < (x0.length : Int) then (if 0 ≤ x3 then ((spec_l01In.f (rd x0 x3) 0 9999).bind fun tA2 => (if tA2 = true then (spec_NatOK.l0 k x0 (wrap64 (x3 + 1))) else (some false))) else (none)) else (if (x0.length : Int) ≤ 40 then (if (x0.length : Int) = 0 then (some true) else (if 0 ≤ (wrap64 ((x0.length : Int) - 1)) then (if (wrap64 ((x0.length : Int) - 1)) < (x0.length : Int) then (some (decide ((rd x0 (wrap64 ((x0.length : Int) - 1))) > 0))) else (none)) else (none))) else (some false))
def spec_NatOK.f (k : Nat) (l0 : List Int) : Option (Bool) := if (l0.length : Int) > 4096 then (some false) else (spec_NatOK.l0 k l0 0)
set_option maxHeartbeats 8000000 in
set_option maxRecDepth 100000 in
theorem spec_NatOK.calls (k : Nat) (A0 : Option Addr) (c0 : Nat) (l0 : List Int) (r : Bool) (w : World) (hr0 : Kd.C (Kd.int .i64) w A0 l0.length l0) (hc0 : l0.length ≤ c0) (h : spec_NatOK.f k l0 = some r) :
  Calls Try.prog 54 #[.slice A0 l0.length c0] w fun e w' => e = .returned (.bool r) ∧ Drawn0 w w' := by
 have HR0 := Aside0.mk hr0
 have HC0 := Aside0.mk hc0
 clear hr0 hc0
 have H : (if (l0.length : Int) > 4096 then (some false) else (spec_NatOK.l0 k l0 0)) = some r := h
 clear h
 by_cases c2 : (l0.length : Int) > 4096
 ·
  rw [if_pos c2] at H
  have c2b0 : decide (4096 < (l0.length : Int)) = true := decide_eq_true c2
  have c2b1 : decide (4096 < l0.length) = true := decide_eq_true (by omega)
  clear c2
  obtain rfl := Option.some.inj H
  go_enter Try.func54, Try.ntmps54
  go_wp2
  go_ret
  exact ⟨by first | rfl | (simp; done) | (simp [*]; done), by repeat (first | exact Drawn0.refl _ | apply Drawn0.step)⟩
 ·
  rw [if_neg c2] at H
  have c2b0 : decide (4096 < (l0.length : Int)) = false := decide_eq_false c2
  have c2b1 : decide (4096 < l0.length) = false := decide_eq_false (by omega)
  clear c2
  have H' := Aside0.mk H
  clear H
  go_enter Try.func54, Try.ntmps54
  go_wp2
  go_loopg [3] k (fun kq v3 w' => ∃ (x3_1 : Int), v3 = .int .i64 x3_1 ∧ Aside0 (spec_NatOK.l0 kq l0 x3_1 = some r) ∧ Aside0 (kq ≤ k) ∧ Drawn0 w w')
  case atStart => exact ⟨(0), rs_, H', ⟨Nat.le_refl _⟩, by repeat (first | exact Drawn0.refl _ | apply Drawn0.step)⟩
  case round =>
   clear H'
   try clear c2
   try clear c2b0
   try clear c2b1
   try clear p2
   obtain ⟨x3_1, rfl, HA, HK1, ⟨m1, rfl⟩⟩ := hrel
   cases gk with
   | zero => exact absurd HA.out (by simp [spec_NatOK.l0])
   | succ k1 =>
    have H := HA.out
    clear HA
    simp only [spec_NatOK.l0] at H
    by_cases c3 : x3_1 < (l0.length : Int)
    ·
     rw [if_pos c3] at H
     have c3b0 : decide (x3_1 < (l0.length : Int)) = true := decide_eq_true c3
     clear c3
     by_cases c4 : 0 ≤ x3_1
     ·
      rw [if_pos c4] at H
      have c4b0 : decide (0 ≤ x3_1) = true := decide_eq_true c4
      clear c4
      replace H := Option.bind_eq_some_iff.mp H
      obtain ⟨tA2, A50, H⟩ := H
      replace H : (if tA2 = true then (spec_NatOK.l0 k1 l0 (wrap64 (x3_1 + 1))) else (some false)) = some r := H
      have A5 := Aside0.mk A50
      clear A50
      by_cases c6 : tA2 = true
      ·
       subst c6
       rw [if_pos rfl] at H
       have H' := Aside0.mk H
       clear H
       have pA0 : 0 ≤ (x3_1 : Int) := of_decide_eq_true (by first | (with_reducible assumption) | assumption)
       have qA0 : x3_1 < (l0.length : Int) := of_decide_eq_true (by first | (with_reducible assumption) | assumption)
       obtain ⟨adA0, eA0, hxA0_0⟩ := Kd.at_int HR0.out x3_1 pA0 qA0
       cases eA0
       replace pA0 := eq_true pA0
       replace qA0 := eq_true qA0
       go_wp2_with (first | ((with_reducible refine gate_callee (f := 45) rfl ?_); refine gL_ (some 17) Try.func45 #[.int .i64 (rd l0 x3_1), .int .i64 0, .int .i64 9999] ?_; (with_reducible refine (spec_l01In.calls (rd l0 x3_1) 0 9999 true _ A5.out).mono ?_); rintro e w' ⟨rfl, ⟨nd, rfl⟩⟩; refine ⟨_, rfl, ?_⟩))
       go_roundg k1
       case measure => have := HK1.out; omega
       case rel => exact ⟨(wrap64 (x3_1 + 1)), rs_, H', ⟨by have := HK1.out; omega⟩, by repeat (first | exact Drawn0.refl _ | apply Drawn0.step)⟩
      ·
       replace c6 := Bool.eq_false_iff.mpr c6
       subst c6
       rw [if_neg (show ¬ (false = true) by decide)] at H
       obtain rfl := Option.some.inj H
       have pA0 : 0 ≤ (x3_1 : Int) := of_decide_eq_true (by first | (with_reducible assumption) | assumption)
       have qA0 : x3_1 < (l0.length : Int) := of_decide_eq_true (by first | (with_reducible assumption) | assumption)
       obtain ⟨adA0, eA0, hxA0_0⟩ := Kd.at_int HR0.out x3_1 pA0 qA0
       cases eA0
       replace pA0 := eq_true pA0
       replace qA0 := eq_true qA0
       go_wp2_with (first | ((with_reducible refine gate_callee (f := 45) rfl ?_); refine gL_ (some 17) Try.func45 #[.int .i64 (rd l0 x3_1), .int .i64 0, .int .i64 9999] ?_; (with_reducible refine (spec_l01In.calls (rd l0 x3_1) 0 9999 false _ A5.out).mono ?_); rintro e w' ⟨rfl, ⟨nd, rfl⟩⟩; refine ⟨_, rfl, ?_⟩))
       go_ret
       exact ⟨by first | rfl | (simp; done) | (simp [*]; done), by repeat (first | exact Drawn0.refl _ | apply Drawn0.step)⟩
     ·
      rw [if_neg c4] at H
      exact absurd H (by simp)
    ·
     rw [if_neg c3] at H
     have c3b0 : decide (x3_1 < (l0.length : Int)) = false := decide_eq_false c3
     clear c3
     by_cases c7 : (l0.length : Int) ≤ 40
     ·
      rw [if_pos c7] at H
      have c7b0 : decide ((l0.length : Int) ≤ 40) = true := decide_eq_true c7
      have c7b1 : decide (l0.length ≤ 40) = true := decide_eq_true (by omega)
      clear c7
      by_cases c8 : (l0.length : Int) = 0
      ·
       rw [if_pos c8] at H
       have c8b0 : ((l0.length : Int) == 0) = true := beq_iff_eq.mpr c8
       have c8b1 : ((l0.length : Int) != 0) = false := bne_eq_false_iff_eq.mpr c8
       clear c8
       obtain rfl := Option.some.inj H
       go_wp2
       go_ret
       exact ⟨by first | rfl | (simp; done) | (simp [*]; done), by repeat (first | exact Drawn0.refl _ | apply Drawn0.step)⟩
      ·
       rw [if_neg c8] at H
       have c8b0 : ((l0.length : Int) == 0) = false := beq_eq_false_iff_ne.mpr c8
       have c8b1 : ((l0.length : Int) != 0) = true := bne_iff_ne.mpr c8
       have c8b2 : ¬ (l0 = []) := fun h_ => c8 (by rw [h_]; rfl)
       obtain ⟨ji9, hji9⟩ : ∃ j_ : Int, (wrap64 ((l0.length : Int) - 1)) = j_ := ⟨_, rfl⟩
       replace H : (if 0 ≤ (ji9) then (if (ji9) < (l0.length : Int) then (some (decide ((rd l0 (ji9)) > 0))) else (none)) else (none)) = some r := by first | (rw [hji9] at H; exact H) | (simp only [hji9] at H ⊢; exact H)
       have hji9w : (IntKind.i64.wrap ((l0.length : Int) - 1)) = ji9 := (i64_w _).trans hji9
       by_cases c10 : 0 ≤ (ji9)
       ·
        rw [if_pos c10] at H
        have c10b0 : decide (0 ≤ (ji9)) = true := decide_eq_true c10
        clear c10
        by_cases c11 : (ji9) < (l0.length : Int)
        ·
         rw [if_pos c11] at H
         have c11b0 : decide ((ji9) < (l0.length : Int)) = true := decide_eq_true c11
         clear c11
         obtain rfl := Option.some.inj H
         have pA1 : 0 ≤ ((ji9) : Int) := of_decide_eq_true (by first | (with_reducible assumption) | assumption)
         have qA1 : (ji9) < (l0.length : Int) := of_decide_eq_true (by first | (with_reducible assumption) | assumption)
         obtain ⟨adA1, eA1, hxA1_0⟩ := Kd.at_int HR0.out (ji9) pA1 qA1
         cases eA1
         replace pA1 := eq_true pA1
         replace qA1 := eq_true qA1
         go_wp2
         go_ret
         exact ⟨by first | rfl | (simp; done) | (simp only [← hji9] <;> (first | rfl | simp)) | (simp [*]; done), by repeat (first | exact Drawn0.refl _ | apply Drawn0.step)⟩
        ·
         rw [if_neg c11] at H
         exact absurd H (by simp)
       ·
        rw [if_neg c10] at H
        exact absurd H (by simp)
     ·
      rw [if_neg c7] at H
      have c7b0 : decide ((l0.length : Int) ≤ 40) = false := decide_eq_false c7
      have c7b1 : decide (l0.length ≤ 40) = false := decide_eq_false (by omega)
      clear c7
      obtain rfl := Option.some.inj H
      go_wp2
      go_ret
      exact ⟨by first | rfl | (simp; done) | (simp [*]; done), by repeat (first | exact Drawn0.refl _ | apply Drawn0.step)⟩

attribute [local go_sem] Oper.semAt_some
def dn (n k : Nat) : List Nat := (List.range k).map fun j => n - 1 - j
theorem dn_succ (n k : Nat) : dn n (k + 1) = dn n k ++ [n - 1 - k] := by simp [dn, List.range_succ]
theorem dn_length (n k : Nat) : (dn n k).length = k := by simp [dn]
theorem dn_mem {n k j : Nat} (hj : j < n) (h : n - k ≤ j) : j ∈ dn n k := by
 simp only [dn, List.mem_map, List.mem_range]
 exact ⟨n - 1 - j, by omega, by omega⟩

/-- The cells of S read as they read. -/
def CK (S : Addr → Prop) (A B : World) : Prop := ∀ p v, S p → A.cell? p = some v → B.cell? p = some v
theorem CK.refl (S : Addr → Prop) (A : World) : CK S A A := fun _ _ _ h => h
theorem CK.trans {S : Addr → Prop} {A B C : World} (h : CK S A B) (k : CK S B C) : CK S A C := fun p v hp hv => k p v hp (h p v hp hv)
theorem CK.putObj {S : Addr → Prop} (W : World) (l : Nat) (o o' : Obj) (h : W.heap[l]? = some o) (hc : o.isCells = false) : CK S W (W.putObj l o') :=
 fun p v _ hv => cell_kept hv (grownBy_putObj' W l o') (fun r e => by cases e; exact ⟨_, h, hc⟩)
/-- The cells that slices.Backward reads: its box, the slice's cells. -/
def BwS (Bs : Nat) (A : Option Addr) (n : Nat) (p : Addr) : Prop := p = ⟨Bs, 0, none⟩ ∨ ∃ ad j, A = some ad ∧ j < n ∧ p = ad.add j

set_option maxRecDepth 100000 in
set_option maxHeartbeats 2000000 in
theorem bw1_in (F : Fence) (m : Nat) (h75 : F.fn 118) (hro : F.round = none) (hm : 1 ≤ m) (l Bs : Nat) (ad : Addr) (n cap : Nat) (zs : List Int) (hreach : n ≤ 9223372036854775807) (J Jx : List {j : Nat // j < n} → World → Prop)
  (hY : ∀ pre x W, J pre W → pre.length < n → YieldAt F (m - 1) Try.prog l #[.int .i64 (x.1 : Int), .int .i64 (zs[x.1]?.getD 0)] W fun e W' =>
   (e = .returned (.bool true) ∧ J (pre ++ [x]) W' ∧ CK (BwS Bs (some ad) n) W W') ∨ (e = .returned (.bool false) ∧ Jx (pre ++ [x]) W'))
  (W : World) (hBs : W.cell? ⟨Bs, 0, none⟩ = some (.slice (some ad) n cap)) (hn : 0 < n) (hc : ∀ j, j < n → W.cell? (ad.add j) = some (.int .i64 (zs[j]?.getD 0))) (h0 : J [] W) :
  CallsIn F m Try.prog 118 #[.func (.yield l) #[] #[], .pointer (some ⟨Bs, 0, none⟩)] W fun e W' => (∃ v, e = .returned v) ∧
   ((∃ ys : List {j : Nat // j < n}, ys.map (·.1) = dn n n ∧ J ys W') ∨ (∃ pre : List {j : Nat // j < n}, (∃ k, k ≤ n ∧ pre.map (·.1) = dn n k) ∧ Jx pre W')) := by
 refine callsIn_of_wp Try.func118 rfl h75 ?_ hro
 simp only [Try.ntmps118, List.size_toArray, List.length_cons, List.length_nil, Nat.reduceAdd, Nat.reduceSub, Array.replicate_succ, Array.replicate_zero, List.push_toArray, List.append_toArray, List.nil_append, List.cons_append]
 gi_wp2
 gi_loopw [3] (fun i wr => ∃ (k : Nat) (pre : List {j : Nat // j < n}), k ≤ n ∧ i = .int .i64 ((n : Int) - 1 - k) ∧ pre.map (·.1) = dn n k ∧ J pre wr ∧ CK (BwS Bs (some ad) n) W wr)
  (fun i _ => (intOf i + 1).toNat)
 case atStart => exact ⟨0, [], Nat.zero_le _, by simp, rfl, h0, CK.refl _ _⟩
 case round =>
  obtain ⟨k, pre, hk, rfl, hpre, hJs, hnx⟩ := hrel
  have hlen : pre.length = k := by have := congrArg List.length hpre; simpa [dn_length] using this
  have hbs' : wr.cell? ⟨Bs, 0, none⟩ = some (.slice (some ad) n cap) := hnx _ _ (.inl rfl) hBs
  by_cases hlt : k < n
  ·
   obtain ⟨j, hj, hjn⟩ : ∃ j : Nat, (n : Int) - 1 - k = (j : Int) ∧ j < n := ⟨n - 1 - k, by omega, by omega⟩
   have hcx : wr.cell? (ad.add j) = some (.int .i64 (zs[j]?.getD 0)) := hnx _ _ (.inr ⟨ad, j, rfl, hjn, rfl⟩) (hc j hjn)
   have hdj : dn n (k + 1) = dn n k ++ [j] := by rw [dn_succ]; congr 2; omega
   obtain ⟨fn, tmps, assign, body, hy, hR⟩ := hY pre ⟨j, hjn⟩ wr hJs (by omega)
   dsimp only at hy
   have HL := Lib.hid hlen
   have HD := Lib.hid hdj
   have HJ := Lib.hid hj
   clear hlen hdj
   rw [hj]
   clear hj
   have hj0 : (0 : Int) ≤ (j : Int) := by omega
   gi_wp2
   refine hR.mono ?_
   rintro e W3 (⟨rfl, hJ3, hk3⟩ | ⟨rfl, hJx3⟩)
   ·
    gi_wp2
    go_roundw
    case rel => exact ⟨k + 1, pre ++ [⟨j, hjn⟩], by omega, by have := HJ.out; go_num, by rw [HD.out, List.map_append, hpre]; rfl, hJ3, hnx.trans hk3⟩
    case measure => first | (simp [intOf]; done) | (simp [intOf]; omega)
   ·
    gi_wp2
    refine bodyPost_ret (results_none rfl _ _ _) rfl ?_
    exact ⟨⟨_, rfl⟩, .inr ⟨pre ++ [⟨j, hjn⟩], ⟨k + 1, by omega, by rw [HD.out, List.map_append, hpre]; rfl⟩, hJx3⟩⟩
  ·
   obtain rfl : k = n := by omega
   have hneg : (k : Int) - 1 - k = -1 := by omega
   rw [hneg]
   clear hneg
   gi_wp2
   go_end0
   exact ⟨⟨_, rfl⟩, .inl ⟨pre, hpre, hJs⟩⟩

set_option maxRecDepth 100000 in
set_option maxHeartbeats 1000000 in
theorem bw1_nil_in (F : Fence) (m : Nat) (h75 : F.fn 118) (hro : F.round = none) (l Bs : Nat) (A : Option Addr) (cap : Nat) (α : Type) (J : List α → World → Prop) (W : World) (hBs : W.cell? ⟨Bs, 0, none⟩ = some (.slice A 0 cap)) (h0 : J [] W) :
  CallsIn F m Try.prog 118 #[.func (.yield l) #[] #[], .pointer (some ⟨Bs, 0, none⟩)] W fun e W' => (∃ v, e = .returned v) ∧ J [] W' := by
 refine callsIn_of_wp Try.func118 rfl h75 ?_ hro
 simp only [Try.ntmps118, List.size_toArray, List.length_cons, List.length_nil, Nat.reduceAdd, Nat.reduceSub, Array.replicate_succ, Array.replicate_zero, List.push_toArray, List.append_toArray, List.nil_append, List.cons_append]
 gi_wp2
 gi_loopw [3] (fun i wr => i = .int .i64 (-1) ∧ J [] wr) (fun _ _ => 0)
 case atStart => exact ⟨rfl, h0⟩
 case round =>
  obtain ⟨rfl, hJs⟩ := hrel
  gi_wp2
  go_end0
  exact ⟨⟨_, rfl⟩, hJs⟩

set_option maxHeartbeats 1000000 in
theorem bw_in (F : Fence) (m : Nat) (h67 : F.fn 99) (hro : F.round = none) (a : Option Addr) (len cap : Nat) (w : World) :
  CallsIn F m Try.prog 99 #[.slice a len cap] w fun e w' => e = .returned (.func (.func 118) #[] #[.pointer (some ⟨w.heap.size, 0, none⟩)]) ∧ w' = w.alloc (.cells #[.slice a len cap] 22) := by
 refine callsIn_of_wp Try.func99 rfl h67 ?_ hro
 simp only [Try.ntmps99, List.size_toArray, List.length_cons, List.length_nil, Nat.reduceAdd, Nat.reduceSub, Array.replicate_succ, Array.replicate_zero, List.push_toArray, List.append_toArray, List.nil_append, List.cons_append]
 gi_wp2
 go_ret
 exact ⟨rfl, rfl⟩

/-- What a slice that is read holds. -/
def BwRow (W : World) (A : Option Addr) (n : Nat) (zs : List Int) : Prop :=
 n ≤ 9223372036854775807 ∧ (0 < n → ∃ ad, A = some ad ∧ ∀ j, j < n → W.cell? (ad.add j) = some (.int .i64 (zs[j]?.getD 0)))
theorem BwRow.below {n : Nat} {W W' : World} {A : Option Addr} {zs : List Int} (h : BwRow W A n zs) (hb : Below W.heap.size W W') : BwRow W' A n zs :=
 ⟨h.1, fun hn => by
  obtain ⟨ad, e, hc⟩ := h.2 hn
  exact ⟨ad, e, fun j hj => (hb.cell (World.block_lt_of_cell? W _ (hc j hj))).trans (hc j hj)⟩⟩
theorem BwRow.of {w : World} {A : Option Addr} {zs : List Int} (h : Kd.C (Kd.int .i64) w A zs.length zs) : BwRow w A zs.length zs := by
 refine ⟨h.2.1, fun hn => ?_⟩
 obtain ⟨ad, e, hc⟩ := h.2.2 hn
 refine ⟨ad, e, fun j hj => ?_⟩
 obtain ⟨c, hs, hr, hcell⟩ := hc j zs[j] (List.getElem?_eq_getElem hj)
 have hr' : c = [.int .i64 zs[j]] := hr
 subst hr'
 have := hcell 0 _ rfl
 rw [show j * (Kd.int IntKind.i64).sz + 0 = j from Nat.mul_one j] at this
 simpa [hj] using this

theorem bw_stops (F : Fence) (m : Nat) (h75 : F.fn 118) (hro : F.round = none) (hm : 1 ≤ m) (Bs : Nat) (A : Option Addr) (n cap : Nat) (zs : List Int) (w : World) (hBs : Bs < w.heap.size)
  (hc : w.cell? ⟨Bs, 0, none⟩ = some (.slice A n cap)) (hI : BwRow w A n zs) :
  SeqStopsK F m Try.prog 118 #[.pointer (some ⟨Bs, 0, none⟩)] (fun x : {j : Nat // j < n} => #[Value.int .i64 (x.1 : Int), Value.int .i64 (zs[x.1]?.getD 0)]) (CK (BwS Bs A n)) (fun ys => ys.map (·.1) = dn n n)
   (fun pre => ∃ k, k ≤ n ∧ pre.map (·.1) = dn n k) n w := fun l J Jx W hW _ _ hY h0 => by
 have hc' := (hW.cell (p := ⟨Bs, 0, none⟩) hBs).trans hc
 have hI' := hI.below hW
 rcases Nat.eq_zero_or_pos n with rfl | hn
 ·
  exact (bw1_nil_in F m h75 hro l Bs A cap _ J W hc' h0).mono fun e W' ⟨he, hj⟩ => ⟨he, .inl ⟨[], rfl, hj⟩⟩
 ·
  obtain ⟨ad, rfl, hcs⟩ := hI'.2 hn
  exact bw1_in F m h75 hro hm l Bs ad n cap zs hI'.1 J Jx hY W hc' hn hcs h0

def ncmpAux (a b : List Int) : Nat → Int
 | 0 => 0
 | k + 1 => if a[k]?.getD 0 = b[k]?.getD 0 then ncmpAux a b k else if a[k]?.getD 0 < b[k]?.getD 0 then -1 else 1
def ncmp (a b : List Int) : Int := if a.length = b.length then ncmpAux a b a.length else if a.length < b.length then -1 else 1
theorem ncmpAux_eq {a b : List Int} : ∀ {k : Nat}, (∀ j, j < k → a[j]?.getD 0 = b[j]?.getD 0) → ncmpAux a b k = 0
 | 0, _ => rfl
 | k + 1, h => by rw [ncmpAux, if_pos (h k (by omega))]; exact ncmpAux_eq fun j hj => h j (by omega)
theorem ncmpAux_at {a b : List Int} {i : Nat} (hne : a[i]?.getD 0 ≠ b[i]?.getD 0) : ∀ {k : Nat}, i < k → (∀ j, i < j → j < k → a[j]?.getD 0 = b[j]?.getD 0) → ncmpAux a b k = if a[i]?.getD 0 < b[i]?.getD 0 then -1 else 1
 | k + 1, hi, h => by
  by_cases e : i = k
  ·
   subst e; rw [ncmpAux, if_neg hne]
  ·
   rw [ncmpAux, if_pos (h k (by omega) (by omega))]; exact ncmpAux_at hne (by omega) fun j h1 h2 => h j h1 (by omega)

/-- A round has left: all behind are alike, this one parts; the result is stored. -/
def NcEnd (B n : Nat) (l0 l1 : List Int) (c : Code) (pre : List {j : Nat // j < n}) (W : World) : Prop :=
 c = .ret ∧ ∃ ini last, pre = ini ++ [last] ∧ (∀ p ∈ ini, l0[p.1]?.getD 0 = l1[p.1]?.getD 0) ∧ l0[last.1]?.getD 0 ≠ l1[last.1]?.getD 0 ∧ W.cell? ⟨B, 0, none⟩ = some (.int .i64 (if l0[last.1]?.getD 0 < l1[last.1]?.getD 0 then -1 else 1))
set_option maxRecDepth 100000 in
set_option maxHeartbeats 4000000 in
theorem natCmp_in (F : Fence) (m : Nat) (h48 : F.fn 60) (h67 : F.fn 99) (h75 : F.fn 118) (hro : F.round = none) (hm : 3 ≤ m) (A0 A1 : Option Addr) (n c0 c1 : Nat) (l0 l1 : List Int) (w : World) (hI0 : BwRow w A0 n l0) (hI1 : BwRow w A1 n l1) :
  CallsIn F m Try.prog 60 #[.slice A0 n c0, .slice A1 n c1] w fun e W' => e = .returned (.int .i64 (ncmpAux l0 l1 n)) ∧ Below w.heap.size w W' := by
 have h1 : 1 ≤ m := by omega
 have hl0 := hI0.1
 refine callsIn_of_wp_marks Try.func60 rfl h48 ?_ hro
 simp only [Try.ntmps60, List.size_toArray, List.length_cons, List.length_nil, Nat.reduceAdd, Nat.reduceSub, Array.replicate_succ, Array.replicate_zero, List.push_toArray, List.append_toArray, List.nil_append, List.cons_append]
 gi_wp2_with (gi_at_call 99; refine (bw_in F (m - 1) h67 hro _ _ _ _).mono ?_; rintro e w' ⟨rfl, rfl⟩)
 have bB := Boxed.new w 22 (.slice A1 n c1)
 have bR := Boxed.new (w.alloc (.cells #[.slice A1 n c1] 22)) 3 (.int .i64 0)
 have bN := Boxed.new ((w.alloc (.cells #[.slice A1 n c1] 22)).alloc (.cells #[.int .i64 0] 3)) 22 (.slice A0 n c0)
 rw [World.size_alloc] at bR
 rw [World.size_alloc, World.size_alloc] at bN
 have hB0 : Below w.heap.size w (((w.alloc (.cells #[.slice A1 n c1] 22)).alloc (.cells #[.int .i64 0] 3)).alloc (.cells #[.slice A0 n c0] 22)) := (((Below.refl _ w).alloc (Nat.le_refl _) _).alloc (by simp) _).alloc (by simp; omega) _
 refine wpIn_rangeFunc_ownG hro h1 (gf := 118) (lb := #[.pointer (some ⟨w.heap.size + 1 + 1, 0, none⟩)]) rfl h75 (enters_of Try.func118 (by kernel_rfl) rfl)
  (bw_stops F (m - 1) h75 hro (by omega) (w.heap.size + 1 + 1) A0 n c0 l0 _ (by simp) bN.cell (hI0.below hB0)) CK.trans (fun W l o o' _ h hc _ => CK.putObj W l o o' h hc) (Below.refl _ _) (fun _ => rfl)
  (fun pre W => ((∀ p ∈ pre, l0[p.1]?.getD 0 = l1[p.1]?.getD 0) ∧ W.cell? ⟨w.heap.size, 0, none⟩ = some (.slice A1 n c1) ∧ W.cell? ⟨w.heap.size + 1, 0, none⟩ = some (.int .i64 0) ∧ W.frozen? ⟨w.heap.size + 1, 0, none⟩ = false) ∧ Below w.heap.size w W)
  (fun c pre W => NcEnd (w.heap.size + 1) n l0 l1 c pre W ∧ Below w.heap.size w W)
  (OwnFrom.and (Own.from (fun s A B row hs hg hr => ⟨hs.1, cell_kept hs.2.1 hg hr, cell_kept hs.2.2.1 hg hr, (frozen_kept hs.2.2.1 hg hr).trans hs.2.2.2⟩) _) (ownFrom_below (Nat.le_refl _) (by simp; omega)))
  (fun c => OwnFrom.and (Own.from (fun s A B row hs hg hr => by obtain ⟨hc, ini, last, e1, e2, e3, e4⟩ := hs; exact ⟨hc, ini, last, e1, e2, e3, cell_kept e4 hg hr⟩) _) (ownFrom_below (Nat.le_refl _) (by simp; omega)))
  ⟨⟨by simp, ((bB.alloc _).alloc _).cell, (bR.alloc _).cell, (bR.alloc _).frozen⟩, hB0⟩
  (fun x => { tmps := #[.slice A0 n c0, .slice A1 n c1, undef, .pointer (some ⟨w.heap.size, 0, none⟩), .pointer (some ⟨w.heap.size + 1, 0, none⟩), .int .i64 (x.1 : Int), .int .i64 (l0[x.1]?.getD 0), .slice A0 n c0, .int .i64 n, .slice A1 n c1, .int .i64 n, .bool false, undef, undef, undef, undef, undef, .slice A0 n c0, .func (.func 118) #[] #[.pointer (some ⟨w.heap.size + 1 + 1, 0, none⟩)], .int .i64 (x.1 : Int), .int .i64 (l0[x.1]?.getD 0), undef, undef, undef, undef, undef, undef, undef, undef, undef, undef, undef, undef], defers := [] }) ?assign ?body ?done ?stop
 case assign =>
  intro l x W K hK
  gi_wp2
  exact hK
 case body =>
  rintro l pre ⟨j, hj⟩ W ⟨⟨hp, hcb, hcr, hfr⟩, hB⟩ _
  obtain ⟨ad1, rfl, hc1⟩ := hI1.2 (by omega)
  have hx : W.cell? (ad1.add j) = some (.int .i64 (l1[j]?.getD 0)) := (hB.cell (World.block_lt_of_cell? w _ (hc1 _ hj))).trans (hc1 _ hj)
  clear hc1
  dsimp only
  obtain ⟨y0, hy0⟩ : ∃ y, l0[j]?.getD 0 = y := ⟨_, rfl⟩
  obtain ⟨y1, hy1⟩ : ∃ y, l1[j]?.getD 0 = y := ⟨_, rfl⟩
  simp only [hy0]
  rw [hy1] at hx
  have HY0 := Lib.hid hy0
  have HY1 := Lib.hid hy1
  have HP := Lib.hid hp
  clear hy0 hy1 hp
  by_cases heq : y0 = y1
  ·
   subst heq
   gi_wp2
   exact ⟨KeepsFrom.refl _ _, CK.refl _ _, ⟨fun p hp' => (List.mem_append.1 hp').elim (HP.out p) (fun e => by simp at e; subst e; exact HY0.out.trans HY1.out.symm), hcb, hcr, hfr⟩, hB⟩
  ·
   have hne1 : (y0 == y1) = false := by simpa using heq
   have hne2 : (y0 != y1) = true := by simpa using heq
   by_cases hlt : y0 < y1
   ·
    gi_wp2
    refine ⟨(KeepsOthers.setCell _ _ _).from _, ⟨rfl, pre, ⟨j, hj⟩, rfl, HP.out, by rw [HY0.out, HY1.out]; exact heq, ?_⟩, hB.setCell (p := ⟨w.heap.size + 1, 0, none⟩) (by simp) _⟩
    rw [HY0.out, HY1.out, if_pos hlt]
    exact World.cell?_setCell_same' _ _ _ (by rw [hcr]; rfl)
   ·
    gi_wp2
    refine ⟨(KeepsOthers.setCell _ _ _).from _, ⟨rfl, pre, ⟨j, hj⟩, rfl, HP.out, by rw [HY0.out, HY1.out]; exact heq, ?_⟩, hB.setCell (p := ⟨w.heap.size + 1, 0, none⟩) (by simp) _⟩
    rw [HY0.out, HY1.out, if_neg (by omega)]
    exact World.cell?_setCell_same' _ _ _ (by rw [hcr]; rfl)
 case done =>
  rintro D ys W hD hys ⟨⟨hp, hcb, hcr, hfr⟩, hB⟩ hK
  have HP := Lib.hid hp
  have HS := Lib.hid hys
  clear hp hys
  gi_wp2
  have hK' := (KeepsOthers.setCell W ⟨w.heap.size + 1, 0, none⟩ (.int .i64 0)).same D _ hK rfl
  refine ⟨by simp, .inl ⟨_, _, rfl, run_takeDeferred hK', ?_⟩⟩
  have hc5 := cell_kept (World.cell?_setCell_same' W ⟨w.heap.size + 1, 0, none⟩ (.int .i64 0) (by rw [hcr]; rfl)) (grownBy_putObj' _ D (.deferred none)) (fun r e => by cases e; exact ⟨_, hK', rfl⟩)
  refine ⟨.int .i64 0, ?_, ?_, (hB.setCell (p := ⟨w.heap.size + 1, 0, none⟩) (by simp) _).trans (belowK_b (w := w) (Nat.le_refl _) _ D _ _ (by simp at hD; omega) hK' rfl rfl)⟩
  ·
   simp [results, Try.f60, go_sem, hc5]
  ·
   rw [ncmpAux_eq]
   intro j hj
   have hm : j ∈ ys.map (·.1) := by rw [HS.out]; exact dn_mem hj (by omega)
   obtain ⟨p, hp, rfl⟩ := List.mem_map.1 hm
   exact HP.out p hp
 case stop =>
  rintro D c pre W hD hpre ⟨⟨rfl, ini, last, e1, e2, e3, hcr⟩, hB⟩ hK
  have H1 := Lib.hid hpre
  have H2 := Lib.hid e1
  have H3 := Lib.hid e2
  have H4 := Lib.hid e3
  clear hpre e1 e2 e3
  gi_wp2
  refine ⟨by simp, .inl ⟨_, _, rfl, run_takeDeferred hK, ?_⟩⟩
  have hc5 := cell_kept hcr (grownBy_putObj' _ D (.deferred none)) (fun r e => by cases e; exact ⟨_, hK, rfl⟩)
  refine ⟨.int .i64 (if l0[last.1]?.getD 0 < l1[last.1]?.getD 0 then -1 else 1), ?_, ?_, hB.trans (belowK_b (w := w) (Nat.le_refl _) W D _ _ (by simp at hD; omega) hK rfl rfl)⟩
  ·
   simp [results, Try.f60, go_sem, hc5]
  ·
   obtain ⟨k, hk, hkp⟩ := H1.out
   rw [H2.out] at hkp
   obtain ⟨k', rfl⟩ : ∃ k', k = k' + 1 := by
    cases k with
    | zero => simp [dn] at hkp
    | succ k' => exact ⟨k', rfl⟩
   rw [dn_succ, List.map_append] at hkp
   obtain ⟨f1, f2⟩ := List.append_inj' hkp rfl
   have f3 : last.1 = n - 1 - k' := by simpa using f2
   rw [ncmpAux_at H4.out last.2]
   intro j h1 h2
   have hm : j ∈ ini.map (·.1) := by rw [f1]; exact dn_mem h2 (by omega)
   obtain ⟨p, hp, rfl⟩ := List.mem_map.1 hm
   exact H3.out p hp
def impl_natCmp.f (l0 : List Int) (l1 : List Int) : Option (Int) := some (ncmp l0 l1)
set_option maxRecDepth 100000 in
set_option maxHeartbeats 1000000 in
theorem impl_natCmp.calls (A0 : Option Addr) (c0 : Nat) (l0 : List Int) (A1 : Option Addr) (c1 : Nat) (l1 : List Int) (r : Int) (w : World) (hr0 : Kd.C (Kd.int .i64) w A0 l0.length l0) (hc0 : l0.length ≤ c0) (hr1 : Kd.C (Kd.int .i64) w A1 l1.length l1) (hc1 : l1.length ≤ c1) (h : impl_natCmp.f l0 l1 = some r) :
  Calls Try.prog 60 #[.slice A0 l0.length c0, .slice A1 l1.length c1] w fun e w' => e = .returned (.int .i64 r) ∧ Below w.heap.size w w' := by
 obtain rfl := Option.some.inj h
 have hI0 := BwRow.of hr0
 have hI1 := BwRow.of hr1
 unfold ncmp
 by_cases hl : l0.length = l1.length
 ·
  rw [if_pos hl]
  rw [← hl] at hI1 ⊢
  exact (callsIn_wide (n := 3)).1 (natCmp_in Fence.wide 3 trivial trivial trivial rfl (by omega) A0 A1 l0.length c0 c1 l0 l1 w hI0 hI1)
 ·
  rw [if_neg hl]
  clear h hr0 hr1 hI0 hI1 hc0 hc1
  obtain ⟨n0, hn0⟩ : ∃ n, l0.length = n := ⟨_, rfl⟩
  obtain ⟨n1, hn1⟩ : ∃ n, l1.length = n := ⟨_, rfl⟩
  rw [hn0, hn1] at hl ⊢
  clear hn0 hn1
  have hne1 : ((n0 : Int) == (n1 : Int)) = false := by simp; omega
  have hne2 : ((n0 : Int) != (n1 : Int)) = true := by simp; omega
  have hne3 : (n0 == n1) = false := by simpa using hl
  by_cases hlt : n0 < n1
  ·
   rw [if_pos hlt]
   go_enter Try.func60, Try.ntmps60
   go_wp2
   exact bodyPost_ret (v := .int .i64 (-1)) (by simp [results, Try.results60, go_sem]) rfl ⟨rfl, ((Below.refl _ _).alloc (Nat.le_refl _) _).alloc (by simp) _⟩
  ·
   rw [if_neg hlt]
   go_enter Try.func60, Try.ntmps60
   go_wp2
   exact bodyPost_ret (v := .int .i64 1) (by simp [results, Try.results60, go_sem]) rfl ⟨rfl, ((Below.refl _ _).alloc (Nat.le_refl _) _).alloc (by simp) _⟩

def spec_l01Bit.f (a0 : Bool) : Option (Int) := if a0 = true then (some 1) else (some 0)
set_option maxHeartbeats 8000000 in
set_option maxRecDepth 100000 in
theorem spec_l01Bit.calls (a0 : Bool) (r : Int) (w : World) (h : spec_l01Bit.f a0 = some r) :
  Calls Try.prog 96 #[.bool a0] w fun e w' => e = .returned (.int .i64 r) ∧ Drawn0 w w' := by
 have H : (if a0 = true then (some 1) else (some 0)) = some r := h
 clear h
 by_cases c2 : a0 = true
 ·
  subst c2
  rw [if_pos rfl] at H
  obtain rfl := Option.some.inj H
  go_enter Try.func96, Try.ntmps96
  go_wp2
  go_ret
  exact ⟨by first | rfl | (simp; done) | (simp [*]; done), by repeat (first | exact Drawn0.refl _ | apply Drawn0.step)⟩
 ·
  replace c2 := Bool.eq_false_iff.mpr c2
  subst c2
  rw [if_neg (show ¬ (false = true) by decide)] at H
  obtain rfl := Option.some.inj H
  go_enter Try.func96, Try.ntmps96
  go_wp2
  go_ret
  exact ⟨by first | rfl | (simp; done) | (simp [*]; done), by repeat (first | exact Drawn0.refl _ | apply Drawn0.step)⟩

def spec_l01Cmp.l0 : Nat → List Int → List Int → Int → Option (Int)
 | 0, _, _, _ => none
 | k + 1, x0, x1, x5 => if x5 ≥ 0 then (if 0 ≤ x5 then (if x5 < (x0.length : Int) then (if x5 < (x1.length : Int) then (if (rd x0 x5) = (rd x1 x5) then (spec_l01Cmp.l0 k x0 x1 (wrap64 (x5 - 1))) else ((spec_l01Bit.f (decide ((rd x0 x5) > (rd x1 x5)))).bind fun tA5 => (some (wrap64 ((wrap64 (2 * tA5)) - 1))))) else (none)) else (none)) else (none)) else (some 0)
def spec_l01Cmp.f (k : Nat) (l0 : List Int) (l1 : List Int) : Option (Int) := if (l0.length : Int) = (l1.length : Int) then (spec_l01Cmp.l0 k l0 l1 (wrap64 ((l0.length : Int) - 1))) else ((spec_l01Bit.f (decide ((l0.length : Int) > (l1.length : Int)))).bind fun tA4 => (some (wrap64 ((wrap64 (2 * tA4)) - 1))))
set_option maxHeartbeats 8000000 in
set_option maxRecDepth 100000 in
theorem spec_l01Cmp.calls (k : Nat) (A0 : Option Addr) (c0 : Nat) (l0 : List Int) (A1 : Option Addr) (c1 : Nat) (l1 : List Int) (r : Int) (w : World) (hr0 : Kd.C (Kd.int .i64) w A0 l0.length l0) (hc0 : l0.length ≤ c0) (hr1 : Kd.C (Kd.int .i64) w A1 l1.length l1) (hc1 : l1.length ≤ c1) (h : spec_l01Cmp.f k l0 l1 = some r) :
  Calls Try.prog 55 #[.slice A0 l0.length c0, .slice A1 l1.length c1] w fun e w' => e = .returned (.int .i64 r) ∧ Drawn0 w w' := by
 have HR0 := Aside0.mk hr0
 have HC0 := Aside0.mk hc0
 clear hr0 hc0
 have HR1 := Aside0.mk hr1
 have HC1 := Aside0.mk hc1
 clear hr1 hc1
 have H : (if (l0.length : Int) = (l1.length : Int) then (spec_l01Cmp.l0 k l0 l1 (wrap64 ((l0.length : Int) - 1))) else ((spec_l01Bit.f (decide ((l0.length : Int) > (l1.length : Int)))).bind fun tA4 => (some (wrap64 ((wrap64 (2 * tA4)) - 1))))) = some r := h
 clear h
 by_cases c3 : (l0.length : Int) = (l1.length : Int)
 ·
  rw [if_pos c3] at H
  have c3b0 : ((l0.length : Int) == (l1.length : Int)) = true := beq_iff_eq.mpr c3
  have c3b1 : ((l0.length : Int) != (l1.length : Int)) = false := bne_eq_false_iff_eq.mpr c3
  have c3b2 : (l0.length == l1.length) = true := by first | simpa using c3 | (simp at c3 ⊢; omega)
  clear c3
  have H' := Aside0.mk H
  clear H
  go_enter Try.func55, Try.ntmps55
  go_wp2
  repeat (go_quiet (fail); try go_wp2)
  go_loopg [5] k (fun kq v5 w' => ∃ (x5_1 : Int), v5 = .int .i64 x5_1 ∧ Aside0 (spec_l01Cmp.l0 kq l0 l1 x5_1 = some r) ∧ Aside0 (kq ≤ k) ∧ Drawn0 w w')
  case atStart => exact ⟨(wrap64 ((l0.length : Int) - 1)), rs_, H', ⟨Nat.le_refl _⟩, by repeat (first | exact Drawn0.refl _ | apply Drawn0.step)⟩
  case round =>
   clear H'
   try clear c1
   try clear p2
   try clear c3
   try clear c3b0
   try clear c3b1
   try clear c3b2
   obtain ⟨x5_1, rfl, HA, HK1, ⟨m1, rfl⟩⟩ := hrel
   cases gk with
   | zero => exact absurd HA.out (by simp [spec_l01Cmp.l0])
   | succ k1 =>
    have H := HA.out
    clear HA
    simp only [spec_l01Cmp.l0] at H
    by_cases c4 : x5_1 ≥ 0
    ·
     rw [if_pos c4] at H
     have c4b0 : decide (0 ≤ x5_1) = true := decide_eq_true c4
     clear c4
     by_cases c5 : 0 ≤ x5_1
     ·
      rw [if_pos c5] at H
      have c5b0 : decide (0 ≤ x5_1) = true := decide_eq_true c5
      clear c5
      by_cases c6 : x5_1 < (l0.length : Int)
      ·
       rw [if_pos c6] at H
       have c6b0 : decide (x5_1 < (l0.length : Int)) = true := decide_eq_true c6
       clear c6
       by_cases c7 : x5_1 < (l1.length : Int)
       ·
        rw [if_pos c7] at H
        have c7b0 : decide (x5_1 < (l1.length : Int)) = true := decide_eq_true c7
        clear c7
        by_cases c8 : (rd l0 x5_1) = (rd l1 x5_1)
        ·
         rw [if_pos c8] at H
         have c8b0 : ((rd l0 x5_1) == (rd l1 x5_1)) = true := beq_iff_eq.mpr c8
         have c8b1 : ((rd l0 x5_1) != (rd l1 x5_1)) = false := bne_eq_false_iff_eq.mpr c8
         clear c8
         have H' := Aside0.mk H
         clear H
         have pA0 : 0 ≤ (x5_1 : Int) := of_decide_eq_true (by first | (with_reducible assumption) | assumption)
         have qA0 : x5_1 < (l0.length : Int) := of_decide_eq_true (by first | (with_reducible assumption) | assumption)
         obtain ⟨adA0, eA0, hxA0_0⟩ := Kd.at_int HR0.out x5_1 pA0 qA0
         cases eA0
         replace pA0 := eq_true pA0
         replace qA0 := eq_true qA0
         have pA1 : 0 ≤ (x5_1 : Int) := of_decide_eq_true (by first | (with_reducible assumption) | assumption)
         have qA1 : x5_1 < (l1.length : Int) := of_decide_eq_true (by first | (with_reducible assumption) | assumption)
         obtain ⟨adA1, eA1, hxA1_0⟩ := Kd.at_int HR1.out x5_1 pA1 qA1
         cases eA1
         replace pA1 := eq_true pA1
         replace qA1 := eq_true qA1
         go_wp2
         repeat (go_quiet (fail); try go_wp2)
         go_roundg k1
         case measure => have := HK1.out; omega
         case rel => exact ⟨(wrap64 (x5_1 - 1)), rs_, H', ⟨by have := HK1.out; omega⟩, by repeat (first | exact Drawn0.refl _ | apply Drawn0.step)⟩
        ·
         rw [if_neg c8] at H
         have c8b0 : ((rd l0 x5_1) == (rd l1 x5_1)) = false := beq_eq_false_iff_ne.mpr c8
         have c8b1 : ((rd l0 x5_1) != (rd l1 x5_1)) = true := bne_iff_ne.mpr c8
         replace H := Option.bind_eq_some_iff.mp H
         obtain ⟨tA5, A90, H⟩ := H
         replace H : (some (wrap64 ((wrap64 (2 * tA5)) - 1))) = some r := H
         have A9 := Aside0.mk A90
         clear A90
         obtain rfl := Option.some.inj H
         have pA0 : 0 ≤ (x5_1 : Int) := of_decide_eq_true (by first | (with_reducible assumption) | assumption)
         have qA0 : x5_1 < (l0.length : Int) := of_decide_eq_true (by first | (with_reducible assumption) | assumption)
         obtain ⟨adA0, eA0, hxA0_0⟩ := Kd.at_int HR0.out x5_1 pA0 qA0
         cases eA0
         replace pA0 := eq_true pA0
         replace qA0 := eq_true qA0
         have pA1 : 0 ≤ (x5_1 : Int) := of_decide_eq_true (by first | (with_reducible assumption) | assumption)
         have qA1 : x5_1 < (l1.length : Int) := of_decide_eq_true (by first | (with_reducible assumption) | assumption)
         obtain ⟨adA1, eA1, hxA1_0⟩ := Kd.at_int HR1.out x5_1 pA1 qA1
         cases eA1
         replace pA1 := eq_true pA1
         replace qA1 := eq_true qA1
         have pA2 : 0 ≤ (x5_1 : Int) := of_decide_eq_true (by first | (with_reducible assumption) | assumption)
         have qA2 : x5_1 < (l0.length : Int) := of_decide_eq_true (by first | (with_reducible assumption) | assumption)
         obtain ⟨adA2, eA2, hxA2_0⟩ := Kd.at_int HR0.out x5_1 pA2 qA2
         obtain rfl : adA0 = adA2 := (by injection eA2)
         replace pA2 := eq_true pA2
         replace qA2 := eq_true qA2
         have pA3 : 0 ≤ (x5_1 : Int) := of_decide_eq_true (by first | (with_reducible assumption) | assumption)
         have qA3 : x5_1 < (l1.length : Int) := of_decide_eq_true (by first | (with_reducible assumption) | assumption)
         obtain ⟨adA3, eA3, hxA3_0⟩ := Kd.at_int HR1.out x5_1 pA3 qA3
         obtain rfl : adA1 = adA3 := (by injection eA3)
         replace pA3 := eq_true pA3
         replace qA3 := eq_true qA3
         go_wp2_with (first | (go_at_call 96; (with_reducible refine (spec_l01Bit.calls (decide ((rd l0 x5_1) > (rd l1 x5_1))) tA5 _ A9.out).mono ?_); rintro e w' ⟨rfl, ⟨nd, rfl⟩⟩; (try first | exact ⟨rfl, _, World.drewN_drewN _ _ _⟩ | exact ⟨rfl, _, Eq.trans (World.drewN_drewN _ _ _) (congrArg (World.drewN _) (Nat.add_assoc _ _ _))⟩)))
         repeat (go_quiet (first | (go_at_call 96; (with_reducible refine (spec_l01Bit.calls (decide ((rd l0 x5_1) > (rd l1 x5_1))) tA5 _ A9.out).mono ?_); rintro e w' ⟨rfl, ⟨nd, rfl⟩⟩; (try first | exact ⟨rfl, _, World.drewN_drewN _ _ _⟩ | exact ⟨rfl, _, Eq.trans (World.drewN_drewN _ _ _) (congrArg (World.drewN _) (Nat.add_assoc _ _ _))⟩))); try go_wp2_with (first | (go_at_call 96; (with_reducible refine (spec_l01Bit.calls (decide ((rd l0 x5_1) > (rd l1 x5_1))) tA5 _ A9.out).mono ?_); rintro e w' ⟨rfl, ⟨nd, rfl⟩⟩; (try first | exact ⟨rfl, _, World.drewN_drewN _ _ _⟩ | exact ⟨rfl, _, Eq.trans (World.drewN_drewN _ _ _) (congrArg (World.drewN _) (Nat.add_assoc _ _ _))⟩))))
         go_ret
         exact ⟨by first | rfl | (simp; done) | (simp [*]; done), by repeat (first | exact Drawn0.refl _ | apply Drawn0.step)⟩
       ·
        rw [if_neg c7] at H
        exact absurd H (by simp)
      ·
       rw [if_neg c6] at H
       exact absurd H (by simp)
     ·
      rw [if_neg c5] at H
      exact absurd H (by simp)
    ·
     rw [if_neg c4] at H
     have c4b0 : decide (0 ≤ x5_1) = false := decide_eq_false c4
     clear c4
     obtain rfl := Option.some.inj H
     go_wp2
     repeat (go_quiet (fail); try go_wp2)
     go_ret
     exact ⟨by first | rfl | (simp; done) | (simp [*]; done), by repeat (first | exact Drawn0.refl _ | apply Drawn0.step)⟩
 ·
  rw [if_neg c3] at H
  have c3b0 : ((l0.length : Int) == (l1.length : Int)) = false := beq_eq_false_iff_ne.mpr c3
  have c3b1 : ((l0.length : Int) != (l1.length : Int)) = true := bne_iff_ne.mpr c3
  have c3b2 : (l0.length == l1.length) = false := by first | simpa using c3 | (simp at c3 ⊢; omega)
  replace H := Option.bind_eq_some_iff.mp H
  obtain ⟨tA4, AA6, H⟩ := H
  replace H : (some (wrap64 ((wrap64 (2 * tA4)) - 1))) = some r := H
  have A10 := Aside0.mk AA6
  clear AA6
  obtain rfl := Option.some.inj H
  go_enter Try.func55, Try.ntmps55
  go_wp2_with (first | (go_at_call 96; (with_reducible refine (spec_l01Bit.calls (decide (l1.length < l0.length)) tA4 _ (by rw [show decide (l1.length < l0.length) = decide ((l0.length : Int) > (l1.length : Int)) from by simp]; exact A10.out)).mono ?_); rintro e w' ⟨rfl, ⟨nd, rfl⟩⟩; (try first | exact ⟨rfl, _, World.drewN_drewN _ _ _⟩ | exact ⟨rfl, _, Eq.trans (World.drewN_drewN _ _ _) (congrArg (World.drewN _) (Nat.add_assoc _ _ _))⟩)))
  repeat (go_quiet (first | (go_at_call 96; (with_reducible refine (spec_l01Bit.calls (decide (l1.length < l0.length)) tA4 _ (by rw [show decide (l1.length < l0.length) = decide ((l0.length : Int) > (l1.length : Int)) from by simp]; exact A10.out)).mono ?_); rintro e w' ⟨rfl, ⟨nd, rfl⟩⟩; (try first | exact ⟨rfl, _, World.drewN_drewN _ _ _⟩ | exact ⟨rfl, _, Eq.trans (World.drewN_drewN _ _ _) (congrArg (World.drewN _) (Nat.add_assoc _ _ _))⟩))); try go_wp2_with (first | (go_at_call 96; (with_reducible refine (spec_l01Bit.calls (decide (l1.length < l0.length)) tA4 _ (by rw [show decide (l1.length < l0.length) = decide ((l0.length : Int) > (l1.length : Int)) from by simp]; exact A10.out)).mono ?_); rintro e w' ⟨rfl, ⟨nd, rfl⟩⟩; (try first | exact ⟨rfl, _, World.drewN_drewN _ _ _⟩ | exact ⟨rfl, _, Eq.trans (World.drewN_drewN _ _ _) (congrArg (World.drewN _) (Nat.add_assoc _ _ _))⟩))))
  go_ret
  exact ⟨by first | rfl | (simp; done) | (simp [*]; done), by repeat (first | exact Drawn0.refl _ | apply Drawn0.step)⟩

def impl_trimmed.l0 : Nat → List Int → Int → Option (List Int)
 | 0, _, _ => none
 | k + 1, x0, x3 => if x3 > 0 then (if 0 ≤ (wrap64 (x3 - 1)) then (if (wrap64 (x3 - 1)) < (x0.length : Int) then (if (rd x0 (wrap64 (x3 - 1))) = 0 then (impl_trimmed.l0 k x0 (wrap64 (x3 - 1))) else (if 0 ≤ x3 then (if x3 ≤ (x0.length : Int) then (some (x0.take (x3 : Int).toNat)) else (none)) else (none))) else (none)) else (none)) else (if 0 ≤ x3 then (if x3 ≤ (x0.length : Int) then (some (x0.take (x3 : Int).toNat)) else (none)) else (none))
def impl_trimmed.f (k : Nat) (l0 : List Int) : Option (List Int) := impl_trimmed.l0 k l0 (l0.length : Int)
theorem impl_trimmed.mono_l : ∀ k, (∀ y0 y1, LeO (impl_trimmed.l0 k y0 y1) (impl_trimmed.l0 (k + 1) y0 y1))
 | 0 => fun _ _ r h => by simp [impl_trimmed.l0] at h
 | k + 1 => by
  have ih0 := impl_trimmed.mono_l k
  ·
   intro y0 y1
   unfold impl_trimmed.l0
   repeat' first
   | (with_reducible exact ih0 _ _)
   | (with_reducible exact LeO.refl _)
   | (with_reducible exact LeO.none _)
   | (with_reducible refine LeO.ite ?_ ?_)
   | (with_reducible refine LeO.bind ?_ (fun _ => ?_))
   | exact ih0 _ _
   | exact LeO.none _
   | refine LeO.ite ?_ ?_
   | refine LeO.bind ?_ (fun _ => ?_)
theorem impl_trimmed.mono : ∀ a0 k, LeO (impl_trimmed.f k a0) (impl_trimmed.f (k + 1) a0) := by
 intro a0 k
 have ih0 := impl_trimmed.mono_l k
 unfold impl_trimmed.f
 repeat' first
   | (with_reducible exact ih0 _ _)
   | (with_reducible exact LeO.refl _)
   | (with_reducible exact LeO.none _)
   | (with_reducible refine LeO.ite ?_ ?_)
   | (with_reducible refine LeO.bind ?_ (fun _ => ?_))
   | exact ih0 _ _
   | exact LeO.none _
   | refine LeO.ite ?_ ?_
   | refine LeO.bind ?_ (fun _ => ?_)
set_option maxHeartbeats 8000000 in
set_option maxRecDepth 100000 in
theorem impl_trimmed.calls (k : Nat) (P0_ : Nat → Prop) (uA1_ : Value) (l0 : List Int) (r : List Int) (w0 w : World) (hB : Below w0.heap.size w0 w) (ho0 : Kd.R (Kd.int .i64) 3 w w0.heap.size P0_ uA1_ l0) (h : impl_trimmed.f k l0 = some r) :
  Calls Try.prog 108 #[uA1_] w fun e w' => ∃ v0_ : Value, e = .returned (v0_) ∧ Kd.R (Kd.int .i64) 3 w' w0.heap.size (fun k_ => (P0_ k_ ∨ w.heap.size ≤ k_)) v0_ r ∧ Below w0.heap.size w0 w' ∧ Kept w w' (fun k_ => P0_ k_) := by
 have HO0 := Aside0.mk (show Kd.R (Kd.int .i64) 3 w w0.heap.size (fun k_ => (P0_ k_ ∨ w.heap.size ≤ k_)) uA1_ l0 from Kd.R_mono ho0 (fun k_ hk => (.inl hk)))
 have HK := Aside0.mk (Kept.refl w (fun k_ => P0_ k_))
 have HW0 := Aside0.mk hB.size
 have HB := Aside0.mk hB
 clear hB
 have H : (impl_trimmed.l0 k l0 (l0.length : Int)) = some r := h
 clear h
 have H' := Aside0.mk H
 clear H
 obtain ⟨Ao2, co2, eo2⟩ := Kd.R_slice HO0.out
 subst eo2
 go_enter Try.func108, Try.ntmps108
 go_wp2
 go_loopg [3] k (fun kq v3 w' => ∃ (x3_1 : Int), v3 = .int .i64 x3_1 ∧ Aside0 (impl_trimmed.l0 kq l0 x3_1 = some r) ∧ Aside0 (kq ≤ k) ∧ Aside0 (Kd.R (Kd.int .i64) 3 w' w0.heap.size (fun k_ => (P0_ k_ ∨ w.heap.size ≤ k_)) (.slice Ao2 l0.length co2) l0) ∧ Aside0 (Kept w w' (fun k_ => P0_ k_)) ∧ Aside0 (Below w0.heap.size w0 w'))
 case atStart => exact ⟨((l0.length : Int)), rs_, H', ⟨Nat.le_refl _⟩, ⟨crR HO0⟩, ⟨by repeat (first | (with_reducible first | exact HK.out | apply Kept.alloc | apply Kept.drewN | apply Kept.drew) | exact HK.out)⟩, ⟨blw HB⟩⟩
 case round =>
  clear H'
  try clear c1
  try clear p2
  obtain ⟨x3_1, rfl, HA, HK1, HO_0, HK, HB⟩ := hrel
  cases gk with
  | zero => exact absurd HA.out (by simp [impl_trimmed.l0])
  | succ k1 =>
   have H := HA.out
   clear HA
   simp only [impl_trimmed.l0] at H
   by_cases c3 : x3_1 > 0
   ·
    rw [if_pos c3] at H
    have c3b0 : decide (0 < x3_1) = true := decide_eq_true c3
    clear c3
    obtain ⟨ji4, hji4⟩ : ∃ j_ : Int, (wrap64 (x3_1 - 1)) = j_ := ⟨_, rfl⟩
    replace H : (if 0 ≤ (ji4) then (if (ji4) < (l0.length : Int) then (if (rd l0 (ji4)) = 0 then (impl_trimmed.l0 k1 l0 ji4) else (if 0 ≤ x3_1 then (if x3_1 ≤ (l0.length : Int) then (some (l0.take (x3_1 : Int).toNat)) else (none)) else (none))) else (none)) else (none)) = some r := by first | (rw [hji4] at H; exact H) | (simp only [hji4] at H ⊢; exact H)
    have hji4w : (IntKind.i64.wrap (x3_1 - 1)) = ji4 := (i64_w _).trans hji4
    by_cases c5 : 0 ≤ (ji4)
    ·
     rw [if_pos c5] at H
     have c5b0 : decide (0 ≤ (ji4)) = true := decide_eq_true c5
     clear c5
     by_cases c6 : (ji4) < (l0.length : Int)
     ·
      rw [if_pos c6] at H
      have c6b0 : decide ((ji4) < (l0.length : Int)) = true := decide_eq_true c6
      clear c6
      by_cases c7 : (rd l0 (ji4)) = 0
      ·
       rw [if_pos c7] at H
       have c7b0 : ((rd l0 (ji4)) == 0) = true := beq_iff_eq.mpr c7
       have c7b1 : ((rd l0 (ji4)) != 0) = false := bne_eq_false_iff_eq.mpr c7
       clear c7
       have H' := Aside0.mk H
       clear H
       have pA0 : 0 ≤ ((ji4) : Int) := of_decide_eq_true (by first | (with_reducible assumption) | assumption)
       have qA0 : (ji4) < (l0.length : Int) := of_decide_eq_true (by first | (with_reducible assumption) | assumption)
       obtain ⟨adA0, eA0, hxA0_0⟩ := Kd.at_int (Kd.R_reads' HO_0.out).2.2 (ji4) pA0 qA0
       cases eA0
       replace pA0 := eq_true pA0
       replace qA0 := eq_true qA0
       go_wp2
       go_roundg k1
       case measure => have := HK1.out; omega
       case rel => exact ⟨(ji4), (by first | rfl | (simp; done) | (simp only [← hji4] <;> (first | rfl | simp)) | (simp [*]; done)), H', ⟨by have := HK1.out; omega⟩, ⟨crR HO_0⟩, ⟨by repeat (first | (with_reducible first | exact HK.out | apply Kept.alloc | apply Kept.drewN | apply Kept.drew) | exact HK.out)⟩, ⟨blw HB⟩⟩
      ·
       rw [if_neg c7] at H
       have c7b0 : ((rd l0 (ji4)) == 0) = false := beq_eq_false_iff_ne.mpr c7
       have c7b1 : ((rd l0 (ji4)) != 0) = true := bne_iff_ne.mpr c7
       by_cases c8 : 0 ≤ x3_1
       ·
        rw [if_pos c8] at H
        have c8b0 := eq_true c8
        have c8b1 : decide (0 ≤ x3_1) = true := decide_eq_true c8
        clear c8
        by_cases c9 : x3_1 ≤ (l0.length : Int)
        ·
         rw [if_pos c9] at H
         have c9b0 := eq_true c9
         have c9b1 : decide (x3_1 ≤ (l0.length : Int)) = true := decide_eq_true c9
         clear c9
         obtain ⟨yA2, hy109⟩ : ∃ y_ : List Int, y_ = (l0.take (x3_1 : Int).toNat) := ⟨_, rfl⟩
         replace H : (some yA2) = some r := by subst hy109; first | with_reducible exact H | with_reducible exact (Option.bind_some _ _).symm.trans H | exact H
         have NyA2 := Aside0.mk hy109
         clear hy109
         obtain rfl := Option.some.inj H
         have pA0 : 0 ≤ ((ji4) : Int) := of_decide_eq_true (by first | (with_reducible assumption) | assumption)
         have qA0 : (ji4) < (l0.length : Int) := of_decide_eq_true (by first | (with_reducible assumption) | assumption)
         obtain ⟨adA0, eA0, hxA0_0⟩ := Kd.at_int (Kd.R_reads' HO_0.out).2.2 (ji4) pA0 qA0
         cases eA0
         replace pA0 := eq_true pA0
         replace qA0 := eq_true qA0
         have q10 : (x3_1 : Int) ≤ ((l0.length : Int) : Int) := of_decide_eq_true (by first | (with_reducible assumption) | assumption)
         obtain ⟨i010, hiA4, _, hsz10, _⟩ := info_parts info3
         have hcut10 := cut_to (P := Try.prog) 22 3 .i64 Try.underlying22 hiA4 (some adA0) l0.length co2 x3_1 (of_decide_eq_true (by first | (with_reducible assumption) | assumption)) q10 (Kd.R_reads' HO_0.out).2.1
         have hr10 := Kd.R_take (m := (x3_1 : Int).toNat) HO_0.out (by omega)
         have hy10 : yA2.length = (x3_1 : Int).toNat := (by rw [NyA2.out, List.length_take]; omega)
         rw [← NyA2.out] at hr10
         rw [← hy10] at hr10 hcut10
         clear hy10 hiA4 hsz10 HO_0
         have HOA6 := Aside0.mk hr10
         clear hr10
         replace q10 := eq_true q10
         go_wp2
         go_ret
         exact ⟨_, by first | rfl | (simp [errW_none, errW_some] <;> rfl) | (simp only [← hji4]; first | rfl | (simp [errW_none, errW_some] <;> rfl)) | (simp [*, errW_none, errW_some] <;> rfl), by (with_reducible repeat (first | apply Kd.R_alloc | apply Kd.R_drewN | apply Kd.R_drew)); exact HOA6.out, by repeat (first | (with_reducible first | exact HB.out | apply below_alloc | apply pw_below_drewN | apply below_drew1) | exact HB.out), by repeat (first | (with_reducible first | exact HK.out | apply Kept.alloc | apply Kept.drewN | apply Kept.drew) | exact HK.out)⟩
        ·
         rw [if_neg c9] at H
         exact absurd H (by simp)
       ·
        rw [if_neg c8] at H
        exact absurd H (by simp)
     ·
      rw [if_neg c6] at H
      exact absurd H (by simp)
    ·
     rw [if_neg c5] at H
     exact absurd H (by simp)
   ·
    rw [if_neg c3] at H
    have c3b0 : decide (0 < x3_1) = false := decide_eq_false c3
    clear c3
    by_cases c11 : 0 ≤ x3_1
    ·
     rw [if_pos c11] at H
     have c11b0 := eq_true c11
     have c11b1 : decide (0 ≤ x3_1) = true := decide_eq_true c11
     clear c11
     by_cases c12 : x3_1 ≤ (l0.length : Int)
     ·
      rw [if_pos c12] at H
      have c12b0 := eq_true c12
      have c12b1 : decide (x3_1 ≤ (l0.length : Int)) = true := decide_eq_true c12
      clear c12
      obtain ⟨yA3, hy112⟩ : ∃ y_ : List Int, y_ = (l0.take (x3_1 : Int).toNat) := ⟨_, rfl⟩
      replace H : (some yA3) = some r := by subst hy112; first | with_reducible exact H | with_reducible exact (Option.bind_some _ _).symm.trans H | exact H
      have NyA3 := Aside0.mk hy112
      clear hy112
      obtain rfl := Option.some.inj H
      have q13 : (x3_1 : Int) ≤ ((l0.length : Int) : Int) := of_decide_eq_true (by first | (with_reducible assumption) | assumption)
      obtain ⟨i013, hiA5, _, hsz13, _⟩ := info_parts info3
      have hcut13 := cut_to (P := Try.prog) 22 3 .i64 Try.underlying22 hiA5 Ao2 l0.length co2 x3_1 (of_decide_eq_true (by first | (with_reducible assumption) | assumption)) q13 (Kd.R_reads' HO_0.out).2.1
      have hr13 := Kd.R_take (m := (x3_1 : Int).toNat) HO_0.out (by omega)
      have hy13 : yA3.length = (x3_1 : Int).toNat := (by rw [NyA3.out, List.length_take]; omega)
      rw [← NyA3.out] at hr13
      rw [← hy13] at hr13 hcut13
      clear hy13 hiA5 hsz13 HO_0
      have HOA7 := Aside0.mk hr13
      clear hr13
      replace q13 := eq_true q13
      go_wp2
      go_ret
      exact ⟨_, er_, by (with_reducible repeat (first | apply Kd.R_alloc | apply Kd.R_drewN | apply Kd.R_drew)); exact HOA7.out, by repeat (first | (with_reducible first | exact HB.out | apply below_alloc | apply pw_below_drewN | apply below_drew1) | exact HB.out), by repeat (first | (with_reducible first | exact HK.out | apply Kept.alloc | apply Kept.drewN | apply Kept.drew) | exact HK.out)⟩
     ·
      rw [if_neg c12] at H
      exact absurd H (by simp)
    ·
     rw [if_neg c11] at H
     exact absurd H (by simp)

/-- How long a list of limbs is without noughts at its end, of its first k. -/
def tlen (l : List Int) : Nat → Nat
 | 0 => 0
 | k + 1 => if l[k]?.getD 0 = 0 then tlen l k else k + 1
def spec_l01Trim.f (l0 : List Int) : Option (List Int) := if l0.length * 8 ≤ 140737488355328 then some (l0.take (tlen l0 l0.length)) else none
theorem trim_take {w : World} {ad : Addr} {l : List Int} {k : Nat} (hk : k ≤ l.length) (h : Kd.C (Kd.int .i64) w (some ad) l.length l) : Kd.C (Kd.int .i64) w (some ad) k (l.take k) := by
 refine ⟨by simp [hk], Nat.le_trans hk h.2.1, fun hn => ?_⟩
 obtain ⟨ad', e, hc⟩ := h.2.2 (by omega)
 refine ⟨ad', e, fun j p hj => hc j p ?_⟩
 have hjk : j < k := by
  have := (List.getElem?_eq_some_iff.1 hj).1
  simp at this; omega
 rw [List.getElem?_take_of_lt hjk] at hj
 exact hj
set_option maxHeartbeats 2000000 in
set_option maxRecDepth 100000 in
theorem spec_l01Trim.calls (A0 : Option Addr) (c0 : Nat) (l0 : List Int) (r : List Int) (w : World) (hr0 : Kd.C (Kd.int .i64) w A0 l0.length l0) (hc0 : l0.length ≤ c0) (h : spec_l01Trim.f l0 = some r) :
  Calls Try.prog 116 #[.slice A0 l0.length c0] w fun e w' => ∃ v0_ : Value, e = .returned (v0_) ∧ Kd.R (Kd.int .i64) 3 w' w.heap.size (fun _ => True) v0_ r ∧ Below w.heap.size w w' := by

 unfold spec_l01Trim.f at h
 by_cases hb : l0.length * 8 ≤ 140737488355328
 ·
  rw [if_pos hb] at h
  obtain rfl := Option.some.inj h
  clear h
  cases A0 with
  | none =>
   have hz : l0 = [] := by
    rcases Nat.eq_zero_or_pos l0.length with h0 | h0
    ·
     exact List.length_eq_zero_iff.1 h0
    ·
     obtain ⟨ad, e, _⟩ := hr0.2.2 h0
     cases e
   subst hz
   clear hr0
   go_enter Try.func116, Try.ntmps116
   go_wp2
   go_loop [3] (fun i => i = .int .i64 0) (fun _ => 0)
   case atStart => rfl
   case round =>
    obtain rfl := hrel
    go_wp2_with (at_builtin; refine Kd.R_append_row (Value.int .i64) (0 : Int) (h1 := fun _ => rfl) (w0 := w) w.heap.size rfl (.tmp 18) (.tmp 21) 22 3 (.int .i64 0) 8 rfl Try.underlying22 info3 rfl (by decide) _ [] [] _ _ _ (fun _ => True) rfl rfl (fun _ _ => trivial) ?aO ?aR ?aB (by simp) (by simp) ?_)
    case aO => exact Kd.R_of_own (World.ownsRow_made w #[] 0 (Nat.le_refl _) (Nat.zero_le _) rfl) (fun _ _ => trivial)
    case aR => exact ⟨rfl, by simp, fun hn => absurd hn (by simp)⟩
    case aB => exact (Below.refl _ w).alloc (Nat.le_refl _) _
    intro v1 w1 ho hB _ _
    go_wp2
    go_ret
    exact ⟨_, rfl, ho, hB⟩
  | some ad =>
   obtain ⟨n, hn⟩ : ∃ n, l0.length = n := ⟨_, rfl⟩
   have HR := Aside0.mk hr0
   have hm := hr0.2.1
   have HI : Hid (∀ j, j < n → w.cell? (ad.add j) = some (.int .i64 (l0[j]?.getD 0))) := Lib.hid (fun j hj => by
    have hj' : j < l0.length := by omega
    obtain ⟨ad', e, hc⟩ := hr0.2.2 (by omega)
    cases e
    obtain ⟨c, hs, hr, hcell⟩ := hc j (l0[j]'hj') (List.getElem?_eq_getElem hj')
    have hr' : c = [.int .i64 (l0[j]'hj')] := hr
    subst hr'
    have := hcell 0 _ rfl
    rw [show j * (Kd.int IntKind.i64).sz + 0 = j from Nat.mul_one j] at this
    simpa [hj'] using this)
   have HN := Lib.hid hn
   rw [hn] at hm hc0 hb ⊢
   clear hr0 hn
   go_enter Try.func116, Try.ntmps116
   go_wp2
   go_loop [3] (fun i => ∃ k : Nat, k ≤ n ∧ i = .int .i64 k ∧ Hid (tlen l0 n = tlen l0 k)) (fun i => (intOf i).toNat)
   case atStart => exact ⟨n, Nat.le_refl _, rfl, Lib.hid rfl⟩
   case round =>
    obtain ⟨k, hk, rfl, HT⟩ := hrel
    by_cases hk0 : k = 0
    ·
     subst hk0
     go_wp2_with (at_builtin; refine Kd.R_append_row (Value.int .i64) (0 : Int) (h1 := fun _ => rfl) (w0 := w) w.heap.size rfl (.tmp 18) (.tmp 21) 22 3 (.int .i64 0) 8 rfl Try.underlying22 info3 rfl (by decide) _ [] (l0.take 0) _ _ _ (fun _ => True) rfl rfl (fun _ _ => trivial) ?bO ?bR ?bB (by simp) (by simp) ?_)
     case bO => exact Kd.R_of_own (World.ownsRow_made w #[] 0 (Nat.le_refl _) (Nat.zero_le _) rfl) (fun _ _ => trivial)
     case bR => exact ⟨rfl, by simp, fun hn => absurd hn (by simp)⟩
     case bB => exact (Below.refl _ w).alloc (Nat.le_refl _) _
     intro v1 w1 ho hB _ _
     go_wp2
     go_ret
     exact ⟨_, rfl, by rw [HT.out]; exact ho, hB⟩
    ·
     obtain ⟨j, rfl⟩ : ∃ j, k = j + 1 := ⟨k - 1, by omega⟩
     have hcell := HI.out j (by omega)
     by_cases hz : l0[j]?.getD 0 = 0
     ·
      rw [hz] at hcell
      have HZ := Lib.hid hz
      clear hz
      go_wp2
      go_round
      case rel => exact ⟨j, by omega, rfl, Lib.hid (by rw [HT.out, tlen, if_pos HZ.out])⟩
      case measure => simp [intOf]
     ·
      obtain ⟨z, hz'⟩ : ∃ z, l0[j]?.getD 0 = z := ⟨_, rfl⟩
      rw [hz'] at hcell hz
      have hz1 : (z == 0) = false := by simpa using hz
      have HT' : Hid (tlen l0 n = j + 1) := Lib.hid (by rw [HT.out, tlen, if_neg (by rw [hz']; exact hz)])
      clear hz'
      go_wp2_with (at_builtin; refine Kd.R_append_row (Value.int .i64) (0 : Int) (h1 := fun _ => rfl) (w0 := w) w.heap.size rfl (.tmp 18) (.tmp 21) 22 3 (.int .i64 0) 8 rfl Try.underlying22 info3 rfl (by decide) _ [] (l0.take (j + 1)) _ _ _ (fun _ => True) rfl rfl (fun _ _ => trivial) ?cO ?cR ?cB (by simp) ?cL ?_)
      case cO => exact Kd.R_of_own (World.ownsRow_made w #[] 0 (Nat.le_refl _) (Nat.zero_le _) rfl) (fun _ _ => trivial)
      case cR => exact Kd.C_below (trim_take (by rw [HN.out]; exact hk) HR.out) ((Below.refl _ w).alloc (Nat.le_refl _) _)
      case cB => exact (Below.refl _ w).alloc (Nat.le_refl _) _
      case cL => omega
      intro v1 w1 ho hB _ _
      go_wp2
      go_ret
      exact ⟨_, rfl, by rw [HT'.out]; exact ho, hB⟩
 ·
  rw [if_neg hb] at h
  exact absurd h (by simp)

def slices_Clone_int_int.f (l0 : List Int) : Option (List Int) := if l0.length * 8 ≤ 140737488355328 then some l0 else none
set_option maxHeartbeats 2000000 in
set_option maxRecDepth 100000 in
theorem slices_Clone_int_int.calls (A0 : Option Addr) (c0 : Nat) (l0 : List Int) (r : List Int) (w : World) (hr0 : Kd.C (Kd.int .i64) w A0 l0.length l0) (hc0 : l0.length ≤ c0) (h : slices_Clone_int_int.f l0 = some r) :
  Calls Try.prog 102 #[.slice A0 l0.length c0] w fun e w' => ∃ v0_ : Value, e = .returned (v0_) ∧ Kd.R (Kd.int .i64) 3 w' w.heap.size (fun _ => True) v0_ r ∧ Below w.heap.size w w' := by

 unfold slices_Clone_int_int.f at h
 by_cases hb : l0.length * 8 ≤ 140737488355328
 ·
  rw [if_pos hb] at h
  obtain rfl := Option.some.inj h
  clear h
  have q0 : ∀ (w : World) (a : Option Addr) (n c n' c' : Nat), (binOp .eql 22 (.slice a n c) (.slice none n' c')).run Try.prog w = .ok (.bool a.isNone) w := fun w a n c n' c' => Lib.run_eql_slice_nil w _ _ a n c n' c' Try.underlying22
  obtain ⟨n, hn⟩ : ∃ n, n = l0.length := ⟨_, rfl⟩
  have HR := Aside0.mk hr0
  clear hr0
  cases A0 with
  | none =>
   have hz : l0 = [] := by
    rcases Nat.eq_zero_or_pos l0.length with h0 | h0
    ·
     exact List.length_eq_zero_iff.1 h0
    ·
     obtain ⟨ad, e, _⟩ := HR.out.2.2 h0
     cases e
   subst hz
   clear hn
   go_enter Try.func102, Try.ntmps102
   go_wp2
   go_ret
   exact ⟨_, rfl, Kd.R_nil _ _ _ _ _, Below.refl _ _⟩
  | some ad =>
   clear hn
   go_enter Try.func102, Try.ntmps102
   go_wp2_with (at_builtin; refine Kd.R_append_row (Value.int .i64) (0 : Int) (h1 := fun _ => rfl) (w0 := w) w.heap.size rfl (.tmp 5) (.tmp 6) 22 3 (.int .i64 0) 8 rfl Try.underlying22 info3 rfl (by decide) _ [] l0 _ _ _ (fun _ => True) rfl rfl (fun _ _ => trivial) ?aO ?aR ?aB ?aS ?aL ?_)
   case aO => exact Kd.R_of_own (World.ownsRow_made w #[] 0 (Nat.le_refl _) (Nat.zero_le _) rfl) (fun _ _ => trivial)
   case aR => exact Kd.C_below HR.out ((Below.refl _ w).alloc (Nat.le_refl _) _)
   case aB => exact (Below.refl _ w).alloc (Nat.le_refl _) _
   case aS => simp
   case aL => simpa using hb
   intro v1 w1 ho hB _ _
   go_wp2
   go_ret
   exact ⟨_, rfl, ho, hB⟩
 ·
  rw [if_neg hb] at h
  exact absurd h (by simp)

def spec_l01Sub.l0 : Nat → List Int → List Int → List Int → Int → Int → Option (List Int)
 | 0, _, _, _, _, _ => none
 | k + 1, x0, x1, x5, x6, x7 => if x7 < (x0.length : Int) then (if 0 ≤ x7 then (if x7 < (x1.length : Int) then ((spec_l01Bit.f (decide ((wrap64 ((wrap64 ((rd x0 x7) - x6)) - (rd x1 x7))) < 0))).bind fun tA5 => (if x5.length < 17592186044416 then (spec_l01Sub.l0 k x0 x1 (x5 ++ [wrap64 ((wrap64 ((wrap64 ((rd x0 x7) - x6)) - (rd x1 x7))) + (wrap64 (tA5 * 10000)))]) tA5 (wrap64 (x7 + 1))) else (none))) else ((spec_l01Bit.f (decide ((wrap64 ((rd x0 x7) - x6)) < 0))).bind fun tA6 => (if x5.length < 17592186044416 then (spec_l01Sub.l0 k x0 x1 (x5 ++ [wrap64 ((wrap64 ((rd x0 x7) - x6)) + (wrap64 (tA6 * 10000)))]) tA6 (wrap64 (x7 + 1))) else (none)))) else (none)) else ((spec_l01Trim.f x5).bind fun tB4 => (some tB4))
def spec_l01Sub.f (k : Nat) (l0 : List Int) (l1 : List Int) : Option (List Int) := spec_l01Sub.l0 k l0 l1 (([] : List Int)) 0 0
set_option maxHeartbeats 8000000 in
set_option maxRecDepth 100000 in
theorem spec_l01Sub.calls (k : Nat) (A0 : Option Addr) (c0 : Nat) (l0 : List Int) (A1 : Option Addr) (c1 : Nat) (l1 : List Int) (r : List Int) (w : World) (hr0 : Kd.C (Kd.int .i64) w A0 l0.length l0) (hc0 : l0.length ≤ c0) (hr1 : Kd.C (Kd.int .i64) w A1 l1.length l1) (hc1 : l1.length ≤ c1) (h : spec_l01Sub.f k l0 l1 = some r) :
  Calls Try.prog 111 #[.slice A0 l0.length c0, .slice A1 l1.length c1] w fun e w' => ∃ v0_ : Value, e = .returned (v0_) ∧ Kd.R (Kd.int .i64) 3 w' w.heap.size (fun _ => True) v0_ r ∧ Below w.heap.size w w' := by
 have HR0 := Aside0.mk hr0
 have HC0 := Aside0.mk hc0
 clear hr0 hc0
 have HR1 := Aside0.mk hr1
 have HC1 := Aside0.mk hc1
 clear hr1 hc1
 have HB := Aside0.mk (Below.refl w.heap.size w)
 have H : (spec_l01Sub.l0 k l0 l1 (([] : List Int)) 0 0) = some r := h
 clear h
 obtain ⟨yB2, hy189⟩ : ∃ y_ : List Int, y_ = (([] : List Int)) := ⟨_, rfl⟩
 replace H : (spec_l01Sub.l0 k l0 l1 yB2 0 0) = some r := by subst hy189; first | with_reducible exact H | with_reducible exact (Option.bind_some _ _).symm.trans H | exact H
 have NyB2 := Aside0.mk hy189
 clear hy189
 have H' := Aside0.mk H
 clear H
 go_enter Try.func111, Try.ntmps111
 go_wp2_with (first | ((with_reducible refine gate_dst (N := 9) rfl ?_); refine Kd.R_lit (Kd.int .i64) _ 3 ?hg (N := 9) ?hd (xs := ([] : List Int)) (inner := []) (ok := fun _ => True) (okp := fun _ => True) ?hr ?hp (fun _ hk => hk) trivial (Below.refl _ _) (Nat.le_refl _) (by simp) ?_; (case hd => rfl); (case hg => rfl); (case hr => first | (go_simp; done) | (go_simp; rfl)); (case hp => exact (Reps.none _ _)); intro vC7 w3 ho4 hb hg_ hnew_; clear hg_ hnew_; (first | rw [← NyB2.out] at ho4 | (simp only [Int.reduceToNat] at ho4; rw [← NyB2.out] at ho4)); have HOC1 := lwR ho4 HB; replace HB := bst HB hb; clear hb ho4))
 go_loopg [5, 6, 7] k (fun kq v5 v6 v7 w' => ∃ (x5_1 : List Int) (x6_1 : Int) (x7_1 : Int), v6 = .int .i64 x6_1 ∧ v7 = .int .i64 x7_1 ∧ Aside0 (spec_l01Sub.l0 kq l0 l1 x5_1 x6_1 x7_1 = some r) ∧ Aside0 (kq ≤ k) ∧ Aside0 (Kd.R (Kd.int .i64) 3 w' w.heap.size (fun _ => True) v5 x5_1) ∧ Aside0 (Below w.heap.size w w'))
 case atStart => exact ⟨(yB2), (0), (0), rs_, rs_, H', ⟨Nat.le_refl _⟩, ⟨crR HOC1⟩, ⟨blw HB⟩⟩
 case round =>
  clear H'
  try clear c1
  try clear p2
  obtain ⟨x5_1, x6_1, x7_1, rfl, rfl, HA, HK1, HO_5, HB⟩ := hrel
  cases gk with
  | zero => exact absurd HA.out (by simp [spec_l01Sub.l0])
  | succ k1 =>
   have H := HA.out
   clear HA
   simp only [spec_l01Sub.l0] at H
   by_cases c5 : x7_1 < (l0.length : Int)
   ·
    rw [if_pos c5] at H
    have c5b0 : decide (x7_1 < (l0.length : Int)) = true := decide_eq_true c5
    clear c5
    by_cases c6 : 0 ≤ x7_1
    ·
     rw [if_pos c6] at H
     have c6b0 : decide (0 ≤ x7_1) = true := decide_eq_true c6
     clear c6
     by_cases c7 : x7_1 < (l1.length : Int)
     ·
      rw [if_pos c7] at H
      have c7b0 : decide (x7_1 < (l1.length : Int)) = true := decide_eq_true c7
      clear c7
      replace H := Option.bind_eq_some_iff.mp H
      obtain ⟨tA5, A80, H⟩ := H
      replace H : (if x5_1.length < 17592186044416 then (spec_l01Sub.l0 k1 l0 l1 (x5_1 ++ [wrap64 ((wrap64 ((wrap64 ((rd l0 x7_1) - x6_1)) - (rd l1 x7_1))) + (wrap64 (tA5 * 10000)))]) tA5 (wrap64 (x7_1 + 1))) else (none)) = some r := H
      have A8 := Aside0.mk A80
      clear A80
      by_cases c9 : x5_1.length < 17592186044416
      ·
       rw [if_pos c9] at H
       have LMc9 := Aside0.mk c9
       clear c9
       obtain ⟨yB5, hy195⟩ : ∃ y_ : List Int, y_ = (x5_1 ++ [wrap64 ((wrap64 ((wrap64 ((rd l0 x7_1) - x6_1)) - (rd l1 x7_1))) + (wrap64 (tA5 * 10000)))]) := ⟨_, rfl⟩
       replace H : (spec_l01Sub.l0 k1 l0 l1 yB5 tA5 (wrap64 (x7_1 + 1))) = some r := by subst hy195; first | with_reducible exact H | with_reducible exact (Option.bind_some _ _).symm.trans H | exact H
       have NyB5 := Aside0.mk hy195
       clear hy195
       have H' := Aside0.mk H
       clear H
       have pA3 : 0 ≤ (x7_1 : Int) := of_decide_eq_true (by first | (with_reducible assumption) | assumption)
       have qA3 : x7_1 < (l0.length : Int) := of_decide_eq_true (by first | (with_reducible assumption) | assumption)
       obtain ⟨adA3, eA3, hxA3_0⟩ := Kd.at_int HR0.out x7_1 pA3 qA3
       cases eA3
       replace hxA3_0 := (HB.out.cell (World.block_lt_of_cell? w _ hxA3_0)).trans hxA3_0
       replace pA3 := eq_true pA3
       replace qA3 := eq_true qA3
       have pA4 : 0 ≤ (x7_1 : Int) := of_decide_eq_true (by first | (with_reducible assumption) | assumption)
       have qA4 : x7_1 < (l1.length : Int) := of_decide_eq_true (by first | (with_reducible assumption) | assumption)
       obtain ⟨adA4, eA4, hxA4_0⟩ := Kd.at_int HR1.out x7_1 pA4 qA4
       cases eA4
       replace hxA4_0 := (HB.out.cell (World.block_lt_of_cell? w _ hxA4_0)).trans hxA4_0
       replace pA4 := eq_true pA4
       replace qA4 := eq_true qA4
       go_wp2_with (first | ((with_reducible refine gate_callee (f := 96) rfl ?_); refine gL_ (some 34) Try.func96 #[.bool (decide ((wrap64 ((wrap64 ((rd l0 x7_1) - x6_1)) - (rd l1 x7_1))) < 0))] ?_; (with_reducible refine (spec_l01Bit.calls (decide ((wrap64 ((wrap64 ((rd l0 x7_1) - x6_1)) - (rd l1 x7_1))) < 0)) tA5 _ A8.out).mono ?_); rintro e w' ⟨rfl, ⟨nd, rfl⟩⟩; refine ⟨_, rfl, ?_⟩) | ((with_reducible refine gate_builtin (b := .append) (xs := #[.tmp 35, .tmp 40]) rfl ?_); at_builtin; refine Kd.R_append (Kd.int .i64) (w0 := w) w.heap.size rfl (.tmp 35) (.tmp 40) 22 3 (.int .i64 0) 8 rfl Try.underlying22 info3 rfl (by decide) (by omega) u5 x5_1 (wrap64 ((wrap64 ((wrap64 ((rd l0 x7_1) - x6_1)) - (rd l1 x7_1))) + (wrap64 (tA5 * 10000)))) [.int .i64 (wrap64 ((wrap64 ((wrap64 ((rd l0 x7_1) - x6_1)) - (rd l1 x7_1))) + (wrap64 (tA5 * 10000))))] (fun _ => True) (fun _ => False) rfl rfl ?aP (fun _ hk => hk.elim) ?aF ?aO ?aB ?aS ?aL ?_; (case aP => exact rfl); (case aB => exact (blw HB)); (case aF => exact (fun _ _ => trivial)); (case aO => exact (crR HO_5)); (case aS => exact (bsz HB)); (case aL => have := LMc9.out; omega); intro vC8 w10 ho hb hg hat; rw [← NyB5.out] at ho; replace HB := Aside0.mk (hb); have HOC2 := Aside0.mk (ho); clear HO_5; clear ho hb hg hat))
       go_roundg k1
       case measure => have := HK1.out; omega
       case rel => exact ⟨(yB5), (tA5), (wrap64 (x7_1 + 1)), rs_, rs_, H', ⟨by have := HK1.out; omega⟩, ⟨crR HOC2⟩, ⟨blw HB⟩⟩
      ·
       rw [if_neg c9] at H
       exact absurd H (by simp)
     ·
      rw [if_neg c7] at H
      have c7b0 : decide (x7_1 < (l1.length : Int)) = false := decide_eq_false c7
      clear c7
      replace H := Option.bind_eq_some_iff.mp H
      obtain ⟨tA6, AB8, H⟩ := H
      replace H : (if x5_1.length < 17592186044416 then (spec_l01Sub.l0 k1 l0 l1 (x5_1 ++ [wrap64 ((wrap64 ((rd l0 x7_1) - x6_1)) + (wrap64 (tA6 * 10000)))]) tA6 (wrap64 (x7_1 + 1))) else (none)) = some r := H
      have A11 := Aside0.mk AB8
      clear AB8
      by_cases c12 : x5_1.length < 17592186044416
      ·
       rw [if_pos c12] at H
       have LMc12 := Aside0.mk c12
       clear c12
       obtain ⟨yB6, hy199⟩ : ∃ y_ : List Int, y_ = (x5_1 ++ [wrap64 ((wrap64 ((rd l0 x7_1) - x6_1)) + (wrap64 (tA6 * 10000)))]) := ⟨_, rfl⟩
       replace H : (spec_l01Sub.l0 k1 l0 l1 yB6 tA6 (wrap64 (x7_1 + 1))) = some r := by subst hy199; first | with_reducible exact H | with_reducible exact (Option.bind_some _ _).symm.trans H | exact H
       have NyB6 := Aside0.mk hy199
       clear hy199
       have H' := Aside0.mk H
       clear H
       have pA3 : 0 ≤ (x7_1 : Int) := of_decide_eq_true (by first | (with_reducible assumption) | assumption)
       have qA3 : x7_1 < (l0.length : Int) := of_decide_eq_true (by first | (with_reducible assumption) | assumption)
       obtain ⟨adA3, eA3, hxA3_0⟩ := Kd.at_int HR0.out x7_1 pA3 qA3
       cases eA3
       replace hxA3_0 := (HB.out.cell (World.block_lt_of_cell? w _ hxA3_0)).trans hxA3_0
       replace pA3 := eq_true pA3
       replace qA3 := eq_true qA3
       go_wp2_with (first | ((with_reducible refine gate_callee (f := 96) rfl ?_); refine gL_ (some 34) Try.func96 #[.bool (decide ((wrap64 ((rd l0 x7_1) - x6_1)) < 0))] ?_; (with_reducible refine (spec_l01Bit.calls (decide ((wrap64 ((rd l0 x7_1) - x6_1)) < 0)) tA6 _ A11.out).mono ?_); rintro e w' ⟨rfl, ⟨nd, rfl⟩⟩; refine ⟨_, rfl, ?_⟩) | ((with_reducible refine gate_builtin (b := .append) (xs := #[.tmp 35, .tmp 40]) rfl ?_); at_builtin; refine Kd.R_append (Kd.int .i64) (w0 := w) w.heap.size rfl (.tmp 35) (.tmp 40) 22 3 (.int .i64 0) 8 rfl Try.underlying22 info3 rfl (by decide) (by omega) u5 x5_1 (wrap64 ((wrap64 ((rd l0 x7_1) - x6_1)) + (wrap64 (tA6 * 10000)))) [.int .i64 (wrap64 ((wrap64 ((rd l0 x7_1) - x6_1)) + (wrap64 (tA6 * 10000))))] (fun _ => True) (fun _ => False) rfl rfl ?aP (fun _ hk => hk.elim) ?aF ?aO ?aB ?aS ?aL ?_; (case aP => exact rfl); (case aB => exact (blw HB)); (case aF => exact (fun _ _ => trivial)); (case aO => exact (crR HO_5)); (case aS => exact (bsz HB)); (case aL => have := LMc12.out; omega); intro vC9 w13 ho hb hg hat; rw [← NyB6.out] at ho; replace HB := Aside0.mk (hb); have HOC3 := Aside0.mk (ho); clear HO_5; clear ho hb hg hat))
       go_roundg k1
       case measure => have := HK1.out; omega
       case rel => exact ⟨(yB6), (tA6), (wrap64 (x7_1 + 1)), rs_, rs_, H', ⟨by have := HK1.out; omega⟩, ⟨crR HOC3⟩, ⟨blw HB⟩⟩
      ·
       rw [if_neg c12] at H
       exact absurd H (by simp)
    ·
     rw [if_neg c6] at H
     exact absurd H (by simp)
   ·
    rw [if_neg c5] at H
    have c5b0 : decide (x7_1 < (l0.length : Int)) = false := decide_eq_false c5
    clear c5
    replace H := Option.bind_eq_some_iff.mp H
    obtain ⟨tB4, AB9, H⟩ := H
    replace H : (some tB4) = some r := H
    have A14 := Aside0.mk AB9
    clear AB9
    obtain rfl := Option.some.inj H
    obtain ⟨Ao15, co15, eo15⟩ := Kd.R_slice HO_5.out
    subst eo15
    go_wp2_with (first | ((with_reducible refine gate_callee (f := 116) rfl ?_); refine gL_ (some 43) Try.func116 #[.slice Ao15 x5_1.length co15] ?_; (with_reducible refine (spec_l01Trim.calls _ _ x5_1 tB4 _ ?side1 ?side2 A14.out).mono ?_); (case side1 => exact crC (Kd.R_reads' HO_5.out).2.2); (case side2 => exact (Kd.R_reads' HO_5.out).2.1); rintro e w16 ⟨vD0, rfl, ho0, hb⟩; refine ⟨_, rfl, ?_⟩; have HOC4 := lwR (nwR ho0 HO_5) HB; replace HO_5 := eldR HO_5 (Kd.R_base ho0) hb; replace HB := bst HB hb; (try clear hb); (try clear hb2); (try clear hk); (try clear hi); (try clear ho0)))
    go_ret
    exact ⟨_, er_, by (with_reducible repeat (first | apply Kd.R_alloc | apply Kd.R_drewN | apply Kd.R_drew)); exact Kd.R_mono HOC4.out (fun _ hk => trivial), blw HB⟩

def impl_natSub.l0 : Nat → List Int → List Int → Int → Int → Int → Option (List Int)
 | 0, _, _, _, _, _ => none
 | k + 1, x1, x5, x6, x12, x13 => if x13 < x12 then (if 0 ≤ x13 then (if x13 < (x5.length : Int) then (if x13 < (x1.length : Int) then (if (wrap64 ((wrap64 ((rd x5 x13) - x6)) - (rd x1 x13))) < 0 then (impl_natSub.l0 k x1 (x5.set (x13 : Int).toNat (wrap64 ((wrap64 ((wrap64 ((rd x5 x13) - x6)) - (rd x1 x13))) + 10000))) 1 x12 (wrap64 (x13 + 1))) else (impl_natSub.l0 k x1 (x5.set (x13 : Int).toNat (wrap64 ((wrap64 ((rd x5 x13) - x6)) - (rd x1 x13)))) 0 x12 (wrap64 (x13 + 1)))) else (if (wrap64 ((rd x5 x13) - x6)) < 0 then (impl_natSub.l0 k x1 (x5.set (x13 : Int).toNat (wrap64 ((wrap64 ((rd x5 x13) - x6)) + 10000))) 1 x12 (wrap64 (x13 + 1))) else (impl_natSub.l0 k x1 (x5.set (x13 : Int).toNat (wrap64 ((rd x5 x13) - x6))) 0 x12 (wrap64 (x13 + 1))))) else (none)) else (none)) else ((impl_trimmed.f k x5).bind fun tB1 => (some tB1))
def impl_natSub.f (k : Nat) (l0 : List Int) (l1 : List Int) : Option (List Int) := (slices_Clone_int_int.f l0).bind fun tA2 => (impl_natSub.l0 k l1 tA2 0 (tA2.length : Int) 0)
set_option maxHeartbeats 8000000 in
set_option maxRecDepth 100000 in
theorem impl_natSub.calls (k : Nat) (A0 : Option Addr) (c0 : Nat) (l0 : List Int) (A1 : Option Addr) (c1 : Nat) (l1 : List Int) (r : List Int) (w : World) (hr0 : Kd.C (Kd.int .i64) w A0 l0.length l0) (hc0 : l0.length ≤ c0) (hr1 : Kd.C (Kd.int .i64) w A1 l1.length l1) (hc1 : l1.length ≤ c1) (h : impl_natSub.f k l0 l1 = some r) :
  Calls Try.prog 112 #[.slice A0 l0.length c0, .slice A1 l1.length c1] w fun e w' => ∃ v0_ : Value, e = .returned (v0_) ∧ Kd.R (Kd.int .i64) 3 w' w.heap.size (fun _ => True) v0_ r ∧ Below w.heap.size w w' := by
 have HR0 := Aside0.mk hr0
 have HC0 := Aside0.mk hc0
 clear hr0 hc0
 have HR1 := Aside0.mk hr1
 have HC1 := Aside0.mk hc1
 clear hr1 hc1
 have HB := Aside0.mk (Below.refl w.heap.size w)
 have H : ((slices_Clone_int_int.f l0).bind fun tA2 => (impl_natSub.l0 k l1 tA2 0 (tA2.length : Int) 0)) = some r := h
 clear h
 replace H := Option.bind_eq_some_iff.mp H
 obtain ⟨tA2, A30, H⟩ := H
 replace H : (impl_natSub.l0 k l1 tA2 0 (tA2.length : Int) 0) = some r := H
 have A3 := Aside0.mk A30
 clear A30
 have H' := Aside0.mk H
 clear H
 go_enter Try.func112, Try.ntmps112
 go_wp2_with (first | ((with_reducible refine gate_callee (f := 102) rfl ?_); refine gL_ (some 10) Try.func102 #[.slice A0 l0.length c0] ?_; (with_reducible refine (slices_Clone_int_int.calls _ _ l0 tA2 _ ?side1 ?side2 A3.out).mono ?_); (case side1 => repeat (first | exact HR0.out | (with_reducible refine Kd.C_alloc ?_ _) | (with_reducible refine Kd.C_drewN ?_ _) | (with_reducible refine Kd.C_drew ?_))); (case side2 => exact HC0.out); rintro e w4 ⟨vC5, rfl, ho0, hb⟩; refine ⟨_, rfl, ?_⟩; have HOB3 := lwR ho0 HB; replace HB := bst HB hb; (try clear hb); (try clear hb2); (try clear hk); (try clear hi); (try clear ho0); obtain ⟨Ao5, co5, eo5⟩ := Kd.R_slice HOB3.out; subst eo5))
 go_loopg [6, 13] k (fun kq v6 v13 w' => ∃ (x5_1 : List Int) (x6_1 : Int) (x13_1 : Int), v6 = .int .i64 x6_1 ∧ v13 = .int .i64 x13_1 ∧ Aside0 (impl_natSub.l0 kq l1 x5_1 x6_1 (tA2.length : Int) x13_1 = some r) ∧ Aside0 (kq ≤ k) ∧ Aside0 (Kd.R (Kd.int .i64) 3 w' w.heap.size (fun _ => True) (.slice Ao5 tA2.length co5) x5_1) ∧ Aside0 (Below w.heap.size w w'))
 case atStart => exact ⟨(tA2), (0), (0), rs_, rs_, H', ⟨Nat.le_refl _⟩, ⟨crR HOB3⟩, ⟨blw HB⟩⟩
 case round =>
  clear H'
  try clear c1
  try clear p2
  obtain ⟨x5_1, x6_1, x13_1, rfl, rfl, HA, HK1, HO_5, HB⟩ := hrel
  have hl5_1 := (Kd.R_reads' HO_5.out).1
  rw [hl5_1] at HO_5
  (try simp only [hl5_1])
  cases gk with
  | zero => exact absurd HA.out (by simp [impl_natSub.l0])
  | succ k1 =>
   have H := HA.out
   clear HA
   simp only [impl_natSub.l0] at H
   by_cases c6 : x13_1 < (tA2.length : Int)
   ·
    rw [if_pos c6] at H
    have c6b0 : decide (x13_1 < (tA2.length : Int)) = true := decide_eq_true c6
    clear c6
    by_cases c7 : 0 ≤ x13_1
    ·
     rw [if_pos c7] at H
     have c7b0 : decide (0 ≤ x13_1) = true := decide_eq_true c7
     clear c7
     by_cases c8 : x13_1 < (x5_1.length : Int)
     ·
      rw [if_pos c8] at H
      have c8b0 : decide (x13_1 < (x5_1.length : Int)) = true := decide_eq_true c8
      clear c8
      by_cases c9 : x13_1 < (l1.length : Int)
      ·
       rw [if_pos c9] at H
       have c9b0 : decide (x13_1 < (l1.length : Int)) = true := decide_eq_true c9
       clear c9
       by_cases c10 : (wrap64 ((wrap64 ((rd x5_1 x13_1) - x6_1)) - (rd l1 x13_1))) < 0
       ·
        rw [if_pos c10] at H
        have c10b0 : decide ((wrap64 ((wrap64 ((rd x5_1 x13_1) - x6_1)) - (rd l1 x13_1))) < 0) = true := decide_eq_true c10
        clear c10
        obtain ⟨yA7, hy1133⟩ : ∃ y_ : List Int, y_ = (x5_1.set (x13_1 : Int).toNat (wrap64 ((wrap64 ((wrap64 ((rd x5_1 x13_1) - x6_1)) - (rd l1 x13_1))) + 10000))) := ⟨_, rfl⟩
        replace H : (impl_natSub.l0 k1 l1 yA7 1 (tA2.length : Int) (wrap64 (x13_1 + 1))) = some r := by subst hy1133; first | with_reducible exact H | with_reducible exact (Option.bind_some _ _).symm.trans H | exact H
        have NyA7 := Aside0.mk hy1133
        clear hy1133
        have H' := Aside0.mk H
        clear H
        have pA0 : 0 ≤ (x13_1 : Int) := of_decide_eq_true (by first | (with_reducible assumption) | assumption)
        have qA0 : x13_1 < (x5_1.length : Int) := of_decide_eq_true (by first | (with_reducible assumption) | assumption)
        obtain ⟨adA0, eA0, hxA0_0⟩ := Kd.at_int (Kd.R_reads' HO_5.out).2.2 x13_1 pA0 qA0
        cases eA0
        replace pA0 := eq_true pA0
        replace qA0 := eq_true qA0
        have pA1 : 0 ≤ (x13_1 : Int) := of_decide_eq_true (by first | (with_reducible assumption) | assumption)
        have qA1 : x13_1 < (l1.length : Int) := of_decide_eq_true (by first | (with_reducible assumption) | assumption)
        obtain ⟨adA1, eA1, hxA1_0⟩ := Kd.at_int HR1.out x13_1 pA1 qA1
        cases eA1
        replace hxA1_0 := (HB.out.cell (World.block_lt_of_cell? w _ hxA1_0)).trans hxA1_0
        replace pA1 := eq_true pA1
        replace qA1 := eq_true qA1
        have p11 : 0 ≤ (x13_1 : Int) := of_decide_eq_true (by first | (with_reducible assumption) | assumption)
        have q11 : (x13_1 : Int) < ((x5_1.length : Int) : Int) := of_decide_eq_true (by first | (with_reducible assumption) | assumption)
        obtain ⟨go11, co11, eo11, gb11, gl11, cl11, HG11⟩ := Kd.R_form HO_5.out (by omega)
        (first | cases eo11 | (injection eo11 with ea_ en_ ec_; (first | subst ea_ | (injection ea_ with ea_; subst ea_)); subst ec_; clear en_))
        have GB11 := Aside0.mk gb11
        have GG11 := Aside0.mk HG11
        clear gb11 gl11 HG11
        (first | simp only [add_plain] at hxA0_0 | skip)
        obtain ⟨hx11_0, hf11_0⟩ := Kd.R_celln 0 HO_5.out (x13_1 : Int) p11 q11
        replace p11 := eq_true p11
        replace q11 := eq_true q11
        have HP12 := Kd.R_putg HO_5.out (x13_1 : Int) (wrap64 ((wrap64 ((wrap64 ((rd x5_1 x13_1) - x6_1)) - (rd l1 x13_1))) + 10000))
        go_wp2_with (first | ((with_reducible refine gate_store (t := 3) (p := 39) rfl ?_); refine store_event (t := 3) (p := 39) (v := ?vo_w13) (w1 := (wr.setCell ⟨go11, (x13_1 : Int).toNat, none⟩ (.int .i64 (wrap64 ((wrap64 ((wrap64 ((rd x5_1 x13_1) - x6_1)) - (rd l1 x13_1))) + 10000))))) ?hg ?ho ?hn ?hr ?_; (case ho => rfl); (case hg => rfl); (case hn => rfl); (case hr => first | (go_simp; done) | (go_simp; rfl)); intro w13 hw; have hg : wr.grownBy w13 (some go11) := (by rw [hw]; exact HP12.2); have hp_ : Kd.R (Kd.int .i64) 3 w13 w.heap.size (fun _ => True) (.slice (some ⟨go11, 0, none⟩) x5_1.length co5) yA7 := (by rw [hw, NyA7.out]; exact HP12.1); clear HP12; replace HO_5 := Aside0.mk (hp_); replace HB := Aside0.mk ((by rw [hw]; exact below_set (HB.out) GB11.out : Below w.heap.size w w13)); clear hg hw hp_))
        (try simp only [← hl5_1])
        go_roundg k1
        case measure => have := HK1.out; omega
        case rel => exact ⟨(yA7), (1), (wrap64 (x13_1 + 1)), rs_, rs_, H', ⟨by have := HK1.out; omega⟩, ⟨by (try simp only [hl5_1]); (with_reducible repeat (first | apply Kd.R_alloc | apply Kd.R_drewN | apply Kd.R_drew)); exact HO_5.out⟩, ⟨blw HB⟩⟩
       ·
        rw [if_neg c10] at H
        have c10b0 : decide ((wrap64 ((wrap64 ((rd x5_1 x13_1) - x6_1)) - (rd l1 x13_1))) < 0) = false := decide_eq_false c10
        clear c10
        obtain ⟨yA8, hy1134⟩ : ∃ y_ : List Int, y_ = (x5_1.set (x13_1 : Int).toNat (wrap64 ((wrap64 ((rd x5_1 x13_1) - x6_1)) - (rd l1 x13_1)))) := ⟨_, rfl⟩
        replace H : (impl_natSub.l0 k1 l1 yA8 0 (tA2.length : Int) (wrap64 (x13_1 + 1))) = some r := by subst hy1134; first | with_reducible exact H | with_reducible exact (Option.bind_some _ _).symm.trans H | exact H
        have NyA8 := Aside0.mk hy1134
        clear hy1134
        have H' := Aside0.mk H
        clear H
        have pA0 : 0 ≤ (x13_1 : Int) := of_decide_eq_true (by first | (with_reducible assumption) | assumption)
        have qA0 : x13_1 < (x5_1.length : Int) := of_decide_eq_true (by first | (with_reducible assumption) | assumption)
        obtain ⟨adA0, eA0, hxA0_0⟩ := Kd.at_int (Kd.R_reads' HO_5.out).2.2 x13_1 pA0 qA0
        cases eA0
        replace pA0 := eq_true pA0
        replace qA0 := eq_true qA0
        have pA1 : 0 ≤ (x13_1 : Int) := of_decide_eq_true (by first | (with_reducible assumption) | assumption)
        have qA1 : x13_1 < (l1.length : Int) := of_decide_eq_true (by first | (with_reducible assumption) | assumption)
        obtain ⟨adA1, eA1, hxA1_0⟩ := Kd.at_int HR1.out x13_1 pA1 qA1
        cases eA1
        replace hxA1_0 := (HB.out.cell (World.block_lt_of_cell? w _ hxA1_0)).trans hxA1_0
        replace pA1 := eq_true pA1
        replace qA1 := eq_true qA1
        have p14 : 0 ≤ (x13_1 : Int) := of_decide_eq_true (by first | (with_reducible assumption) | assumption)
        have q14 : (x13_1 : Int) < ((x5_1.length : Int) : Int) := of_decide_eq_true (by first | (with_reducible assumption) | assumption)
        obtain ⟨go14, co14, eo14, gb14, gl14, cl14, HG14⟩ := Kd.R_form HO_5.out (by omega)
        (first | cases eo14 | (injection eo14 with ea_ en_ ec_; (first | subst ea_ | (injection ea_ with ea_; subst ea_)); subst ec_; clear en_))
        have GB14 := Aside0.mk gb14
        have GG14 := Aside0.mk HG14
        clear gb14 gl14 HG14
        (first | simp only [add_plain] at hxA0_0 | skip)
        obtain ⟨hx14_0, hf14_0⟩ := Kd.R_celln 0 HO_5.out (x13_1 : Int) p14 q14
        replace p14 := eq_true p14
        replace q14 := eq_true q14
        have HP15 := Kd.R_putg HO_5.out (x13_1 : Int) (wrap64 ((wrap64 ((rd x5_1 x13_1) - x6_1)) - (rd l1 x13_1)))
        go_wp2_with (first | ((with_reducible refine gate_store (t := 3) (p := 39) rfl ?_); refine store_event (t := 3) (p := 39) (v := ?vo_w16) (w1 := (wr.setCell ⟨go14, (x13_1 : Int).toNat, none⟩ (.int .i64 (wrap64 ((wrap64 ((rd x5_1 x13_1) - x6_1)) - (rd l1 x13_1)))))) ?hg ?ho ?hn ?hr ?_; (case ho => rfl); (case hg => rfl); (case hn => rfl); (case hr => first | (go_simp; done) | (go_simp; rfl)); intro w16 hw; have hg : wr.grownBy w16 (some go14) := (by rw [hw]; exact HP15.2); have hp_ : Kd.R (Kd.int .i64) 3 w16 w.heap.size (fun _ => True) (.slice (some ⟨go14, 0, none⟩) x5_1.length co5) yA8 := (by rw [hw, NyA8.out]; exact HP15.1); clear HP15; replace HO_5 := Aside0.mk (hp_); replace HB := Aside0.mk ((by rw [hw]; exact below_set (HB.out) GB14.out : Below w.heap.size w w16)); clear hg hw hp_))
        (try simp only [← hl5_1])
        go_roundg k1
        case measure => have := HK1.out; omega
        case rel => exact ⟨(yA8), (0), (wrap64 (x13_1 + 1)), rs_, rs_, H', ⟨by have := HK1.out; omega⟩, ⟨by (try simp only [hl5_1]); (with_reducible repeat (first | apply Kd.R_alloc | apply Kd.R_drewN | apply Kd.R_drew)); exact HO_5.out⟩, ⟨blw HB⟩⟩
      ·
       rw [if_neg c9] at H
       have c9b0 : decide (x13_1 < (l1.length : Int)) = false := decide_eq_false c9
       clear c9
       by_cases c17 : (wrap64 ((rd x5_1 x13_1) - x6_1)) < 0
       ·
        rw [if_pos c17] at H
        have c17b0 : decide ((wrap64 ((rd x5_1 x13_1) - x6_1)) < 0) = true := decide_eq_true c17
        clear c17
        obtain ⟨yA9, hy1135⟩ : ∃ y_ : List Int, y_ = (x5_1.set (x13_1 : Int).toNat (wrap64 ((wrap64 ((rd x5_1 x13_1) - x6_1)) + 10000))) := ⟨_, rfl⟩
        replace H : (impl_natSub.l0 k1 l1 yA9 1 (tA2.length : Int) (wrap64 (x13_1 + 1))) = some r := by subst hy1135; first | with_reducible exact H | with_reducible exact (Option.bind_some _ _).symm.trans H | exact H
        have NyA9 := Aside0.mk hy1135
        clear hy1135
        have H' := Aside0.mk H
        clear H
        have pA0 : 0 ≤ (x13_1 : Int) := of_decide_eq_true (by first | (with_reducible assumption) | assumption)
        have qA0 : x13_1 < (x5_1.length : Int) := of_decide_eq_true (by first | (with_reducible assumption) | assumption)
        obtain ⟨adA0, eA0, hxA0_0⟩ := Kd.at_int (Kd.R_reads' HO_5.out).2.2 x13_1 pA0 qA0
        cases eA0
        replace pA0 := eq_true pA0
        replace qA0 := eq_true qA0
        have p18 : 0 ≤ (x13_1 : Int) := of_decide_eq_true (by first | (with_reducible assumption) | assumption)
        have q18 : (x13_1 : Int) < ((x5_1.length : Int) : Int) := of_decide_eq_true (by first | (with_reducible assumption) | assumption)
        obtain ⟨go18, co18, eo18, gb18, gl18, cl18, HG18⟩ := Kd.R_form HO_5.out (by omega)
        (first | cases eo18 | (injection eo18 with ea_ en_ ec_; (first | subst ea_ | (injection ea_ with ea_; subst ea_)); subst ec_; clear en_))
        have GB18 := Aside0.mk gb18
        have GG18 := Aside0.mk HG18
        clear gb18 gl18 HG18
        (first | simp only [add_plain] at hxA0_0 | skip)
        obtain ⟨hx18_0, hf18_0⟩ := Kd.R_celln 0 HO_5.out (x13_1 : Int) p18 q18
        replace p18 := eq_true p18
        replace q18 := eq_true q18
        have HP19 := Kd.R_putg HO_5.out (x13_1 : Int) (wrap64 ((wrap64 ((rd x5_1 x13_1) - x6_1)) + 10000))
        go_wp2_with (first | ((with_reducible refine gate_store (t := 3) (p := 39) rfl ?_); refine store_event (t := 3) (p := 39) (v := ?vo_w20) (w1 := (wr.setCell ⟨go18, (x13_1 : Int).toNat, none⟩ (.int .i64 (wrap64 ((wrap64 ((rd x5_1 x13_1) - x6_1)) + 10000))))) ?hg ?ho ?hn ?hr ?_; (case ho => rfl); (case hg => rfl); (case hn => rfl); (case hr => first | (go_simp; done) | (go_simp; rfl)); intro w20 hw; have hg : wr.grownBy w20 (some go18) := (by rw [hw]; exact HP19.2); have hp_ : Kd.R (Kd.int .i64) 3 w20 w.heap.size (fun _ => True) (.slice (some ⟨go18, 0, none⟩) x5_1.length co5) yA9 := (by rw [hw, NyA9.out]; exact HP19.1); clear HP19; replace HO_5 := Aside0.mk (hp_); replace HB := Aside0.mk ((by rw [hw]; exact below_set (HB.out) GB18.out : Below w.heap.size w w20)); clear hg hw hp_))
        (try simp only [← hl5_1])
        go_roundg k1
        case measure => have := HK1.out; omega
        case rel => exact ⟨(yA9), (1), (wrap64 (x13_1 + 1)), rs_, rs_, H', ⟨by have := HK1.out; omega⟩, ⟨by (try simp only [hl5_1]); (with_reducible repeat (first | apply Kd.R_alloc | apply Kd.R_drewN | apply Kd.R_drew)); exact HO_5.out⟩, ⟨blw HB⟩⟩
       ·
        rw [if_neg c17] at H
        have c17b0 : decide ((wrap64 ((rd x5_1 x13_1) - x6_1)) < 0) = false := decide_eq_false c17
        clear c17
        obtain ⟨yB0, hy1136⟩ : ∃ y_ : List Int, y_ = (x5_1.set (x13_1 : Int).toNat (wrap64 ((rd x5_1 x13_1) - x6_1))) := ⟨_, rfl⟩
        replace H : (impl_natSub.l0 k1 l1 yB0 0 (tA2.length : Int) (wrap64 (x13_1 + 1))) = some r := by subst hy1136; first | with_reducible exact H | with_reducible exact (Option.bind_some _ _).symm.trans H | exact H
        have NyB0 := Aside0.mk hy1136
        clear hy1136
        have H' := Aside0.mk H
        clear H
        have pA0 : 0 ≤ (x13_1 : Int) := of_decide_eq_true (by first | (with_reducible assumption) | assumption)
        have qA0 : x13_1 < (x5_1.length : Int) := of_decide_eq_true (by first | (with_reducible assumption) | assumption)
        obtain ⟨adA0, eA0, hxA0_0⟩ := Kd.at_int (Kd.R_reads' HO_5.out).2.2 x13_1 pA0 qA0
        cases eA0
        replace pA0 := eq_true pA0
        replace qA0 := eq_true qA0
        have p21 : 0 ≤ (x13_1 : Int) := of_decide_eq_true (by first | (with_reducible assumption) | assumption)
        have q21 : (x13_1 : Int) < ((x5_1.length : Int) : Int) := of_decide_eq_true (by first | (with_reducible assumption) | assumption)
        obtain ⟨go21, co21, eo21, gb21, gl21, cl21, HG21⟩ := Kd.R_form HO_5.out (by omega)
        (first | cases eo21 | (injection eo21 with ea_ en_ ec_; (first | subst ea_ | (injection ea_ with ea_; subst ea_)); subst ec_; clear en_))
        have GB21 := Aside0.mk gb21
        have GG21 := Aside0.mk HG21
        clear gb21 gl21 HG21
        (first | simp only [add_plain] at hxA0_0 | skip)
        obtain ⟨hx21_0, hf21_0⟩ := Kd.R_celln 0 HO_5.out (x13_1 : Int) p21 q21
        replace p21 := eq_true p21
        replace q21 := eq_true q21
        have HP22 := Kd.R_putg HO_5.out (x13_1 : Int) (wrap64 ((rd x5_1 x13_1) - x6_1))
        go_wp2_with (first | ((with_reducible refine gate_store (t := 3) (p := 39) rfl ?_); refine store_event (t := 3) (p := 39) (v := ?vo_w23) (w1 := (wr.setCell ⟨go21, (x13_1 : Int).toNat, none⟩ (.int .i64 (wrap64 ((rd x5_1 x13_1) - x6_1))))) ?hg ?ho ?hn ?hr ?_; (case ho => rfl); (case hg => rfl); (case hn => rfl); (case hr => first | (go_simp; done) | (go_simp; rfl)); intro w23 hw; have hg : wr.grownBy w23 (some go21) := (by rw [hw]; exact HP22.2); have hp_ : Kd.R (Kd.int .i64) 3 w23 w.heap.size (fun _ => True) (.slice (some ⟨go21, 0, none⟩) x5_1.length co5) yB0 := (by rw [hw, NyB0.out]; exact HP22.1); clear HP22; replace HO_5 := Aside0.mk (hp_); replace HB := Aside0.mk ((by rw [hw]; exact below_set (HB.out) GB21.out : Below w.heap.size w w23)); clear hg hw hp_))
        (try simp only [← hl5_1])
        go_roundg k1
        case measure => have := HK1.out; omega
        case rel => exact ⟨(yB0), (0), (wrap64 (x13_1 + 1)), rs_, rs_, H', ⟨by have := HK1.out; omega⟩, ⟨by (try simp only [hl5_1]); (with_reducible repeat (first | apply Kd.R_alloc | apply Kd.R_drewN | apply Kd.R_drew)); exact HO_5.out⟩, ⟨blw HB⟩⟩
     ·
      rw [if_neg c8] at H
      exact absurd H (by simp)
    ·
     rw [if_neg c7] at H
     exact absurd H (by simp)
   ·
    rw [if_neg c6] at H
    have c6b0 : decide (x13_1 < (tA2.length : Int)) = false := decide_eq_false c6
    (try rw [hl5_1] at c6b0)
    clear c6
    replace H := Option.bind_eq_some_iff.mp H
    obtain ⟨tB1, AC0, H⟩ := H
    replace H : (some tB1) = some r := H
    have A24 := Aside0.mk AC0
    clear AC0
    obtain rfl := Option.some.inj H
    go_wp2_with (first | ((with_reducible refine gate_callee (f := 108) rfl ?_); refine gL_ (some 42) Try.func108 #[.slice Ao5 x5_1.length co5] ?_; (with_reducible refine (impl_trimmed.calls k1 (fun k_ => some k_ = (.slice Ao5 x5_1.length co5 : Value).ownBlock) (.slice Ao5 x5_1.length co5) x5_1 tB1 w _ ?side1 ?side2 A24.out).mono ?_); (case side1 => repeat (first | (with_reducible first | exact HB.out | apply below_alloc | apply pw_below_drewN | apply below_drew1) | exact HB.out)); (case side2 => exact Kd.R_tight rfl HO_5.out); rintro e w25 ⟨vC6, rfl, ho0, hb, hkp⟩; refine ⟨_, rfl, ?_⟩; have HOB7 := Aside0.mk (Kd.R_mono (ok' := fun k_ => True) ho0 (fun k_ hk_ => trivial)); replace HB := Aside0.mk (hb); clear HO_5; (try clear hb); (try clear hkp); (try clear ho0)))
    go_ret
    exact ⟨_, er_, by (with_reducible repeat (first | apply Kd.R_alloc | apply Kd.R_drewN | apply Kd.R_drew)); exact HOB7.out, blw HB⟩

mutual
def spec_l01Mul.l0 : Nat → List Int → List Int → List Int → Int → Option (List Int)
 | 0, _, _, _, _ => none
 | k + 1, x0, x1, x5, x6 => if x6 < (x0.length : Int) then (spec_l01Mul.l1 k x0 x1 x5 x6 0 0) else ((spec_l01Trim.f x5).bind fun tB0 => (some tB0))
def spec_l01Mul.l1 : Nat → List Int → List Int → List Int → Int → Int → Int → Option (List Int)
 | 0, _, _, _, _, _, _ => none
 | k + 1, x0, x1, x5, x6, x7, x8 => if x8 < (x1.length : Int) then (spec_l01Mul.j2 k x0 x1 x5 x6 x7 x8 true) else (spec_l01Mul.j2 k x0 x1 x5 x6 x7 x8 (decide (x7 > 0)))
def spec_l01Mul.j2 : Nat → List Int → List Int → List Int → Int → Int → Int → Bool → Option (List Int)
 | 0, _, _, _, _, _, _, _ => none
 | k + 1, x0, x1, x5, x6, x7, x8, x30 => if x30 = true then (if 0 ≤ (wrap64 (x6 + x8)) then (if (wrap64 (x6 + x8)) < (x5.length : Int) then (if x8 < (x1.length : Int) then (if 0 ≤ x6 then (if x6 < (x0.length : Int) then (if 0 ≤ x8 then (spec_l01Mul.l1 k x0 x1 (x5.set ((wrap64 (x6 + x8)) : Int).toNat (Int.tmod (wrap64 ((wrap64 ((rd x5 (wrap64 (x6 + x8))) + x7)) + (wrap64 ((rd x0 x6) * (rd x1 x8))))) 10000)) x6 (wrap64 (Int.tdiv (wrap64 ((wrap64 ((rd x5 (wrap64 (x6 + x8))) + x7)) + (wrap64 ((rd x0 x6) * (rd x1 x8))))) 10000)) (wrap64 (x8 + 1))) else (none)) else (none)) else (none)) else (spec_l01Mul.l1 k x0 x1 (x5.set ((wrap64 (x6 + x8)) : Int).toNat (Int.tmod (wrap64 ((rd x5 (wrap64 (x6 + x8))) + x7)) 10000)) x6 (wrap64 (Int.tdiv (wrap64 ((rd x5 (wrap64 (x6 + x8))) + x7)) 10000)) (wrap64 (x8 + 1)))) else (none)) else (none)) else (spec_l01Mul.l0 k x0 x1 x5 (wrap64 (x6 + 1)))
end
def spec_l01Mul.f (k : Nat) (l0 : List Int) (l1 : List Int) : Option (List Int) := if 0 ≤ (wrap64 ((wrap64 ((l0.length : Int) + (l1.length : Int))) + 1)) then (if (wrap64 ((wrap64 ((l0.length : Int) + (l1.length : Int))) + 1) : Int).toNat ≤ 35184372088832 then (spec_l01Mul.l0 k l0 l1 (List.replicate (wrap64 ((wrap64 ((l0.length : Int) + (l1.length : Int))) + 1) : Int).toNat 0) 0) else (none)) else (none)
set_option maxHeartbeats 8000000 in
set_option maxRecDepth 100000 in
theorem spec_l01Mul.calls (k : Nat) (A0 : Option Addr) (c0 : Nat) (l0 : List Int) (A1 : Option Addr) (c1 : Nat) (l1 : List Int) (r : List Int) (w : World) (hr0 : Kd.C (Kd.int .i64) w A0 l0.length l0) (hc0 : l0.length ≤ c0) (hr1 : Kd.C (Kd.int .i64) w A1 l1.length l1) (hc1 : l1.length ≤ c1) (h : spec_l01Mul.f k l0 l1 = some r) :
  Calls Try.prog 106 #[.slice A0 l0.length c0, .slice A1 l1.length c1] w fun e w' => ∃ v0_ : Value, e = .returned (v0_) ∧ Kd.R (Kd.int .i64) 3 w' w.heap.size (fun _ => True) v0_ r ∧ Below w.heap.size w w' := by
 have HR0 := Aside0.mk hr0
 have HC0 := Aside0.mk hc0
 clear hr0 hc0
 have HR1 := Aside0.mk hr1
 have HC1 := Aside0.mk hc1
 clear hr1 hc1
 have HB := Aside0.mk (Below.refl w.heap.size w)
 have H : (if 0 ≤ (wrap64 ((wrap64 ((l0.length : Int) + (l1.length : Int))) + 1)) then (if (wrap64 ((wrap64 ((l0.length : Int) + (l1.length : Int))) + 1) : Int).toNat ≤ 35184372088832 then (spec_l01Mul.l0 k l0 l1 (List.replicate (wrap64 ((wrap64 ((l0.length : Int) + (l1.length : Int))) + 1) : Int).toNat 0) 0) else (none)) else (none)) = some r := h
 clear h
 obtain ⟨ji3, hji3⟩ : ∃ j_ : Int, (wrap64 ((wrap64 ((l0.length : Int) + (l1.length : Int))) + 1)) = j_ := ⟨_, rfl⟩
 replace H : (if 0 ≤ (ji3) then (if (ji3 : Int).toNat ≤ 35184372088832 then (spec_l01Mul.l0 k l0 l1 (List.replicate (ji3 : Int).toNat 0) 0) else (none)) else (none)) = some r := by first | (rw [hji3] at H; exact H) | (simp only [hji3] at H ⊢; exact H)
 have hji3w : (IntKind.i64.wrap ((wrap64 ((l0.length : Int) + (l1.length : Int))) + 1)) = ji3 := (i64_w _).trans hji3
 by_cases c4 : 0 ≤ (ji3)
 ·
  rw [if_pos c4] at H
  have c4b0 := eq_true c4
  have c4b1 : decide (0 ≤ (ji3)) = true := decide_eq_true c4
  clear c4
  by_cases c5 : (ji3 : Int).toNat ≤ 35184372088832
  ·
   rw [if_pos c5] at H
   have c5b0 := eq_true c5
   have c5b1 : decide ((ji3 : Int).toNat ≤ 35184372088832) = true := decide_eq_true c5
   clear c5
   obtain ⟨yA9, hy178⟩ : ∃ y_ : List Int, y_ = (List.replicate (ji3 : Int).toNat 0) := ⟨_, rfl⟩
   replace H : (spec_l01Mul.l0 k l0 l1 yA9 0) = some r := by subst hy178; first | with_reducible exact H | with_reducible exact (Option.bind_some _ _).symm.trans H | exact H
   have NyA9 := Aside0.mk hy178
   clear hy178
   have H' := Aside0.mk H
   clear H
   go_enter Try.func106, Try.ntmps106
   go_wp2_with (first | ((with_reducible refine gate_dst (N := 16) rfl ?_); refine Kd.R_make (Kd.int .i64) _ 3 rfl (N := 16) rfl 22 _ _ rfl ji3 rfl rfl Try.underlying22 (.int .i64 0) 8 info3 rfl (by decide) (by omega) 0 (ok := fun _ => True) (okp := fun _ => True) rfl (fun _ hk => hk) trivial (of_decide_eq_true (by first | (with_reducible assumption) | assumption)) (Nat.le_trans (Nat.mul_le_mul_right _ (of_decide_eq_true (by first | (with_reducible assumption) | assumption) : ji3.toNat ≤ 35184372088832)) (by omega)) (Below.refl _ _) (Nat.le_refl _) ?_; intro vB1 w6 ho7 hb hg_ hnew_; clear hg_ hnew_; (first | rw [← NyA9.out] at ho7 | (simp only [Int.reduceToNat] at ho7; rw [← NyA9.out] at ho7)); have HOB6 := lwR ho7 HB; replace HB := bst HB hb; clear hb ho7))
   repeat (go_quiet (first | ((with_reducible refine gate_dst (N := 16) rfl ?_); refine Kd.R_make (Kd.int .i64) _ 3 rfl (N := 16) rfl 22 _ _ rfl ji3 rfl rfl Try.underlying22 (.int .i64 0) 8 info3 rfl (by decide) (by omega) 0 (ok := fun _ => True) (okp := fun _ => True) rfl (fun _ hk => hk) trivial (of_decide_eq_true (by first | (with_reducible assumption) | assumption)) (Nat.le_trans (Nat.mul_le_mul_right _ (of_decide_eq_true (by first | (with_reducible assumption) | assumption) : ji3.toNat ≤ 35184372088832)) (by omega)) (Below.refl _ _) (Nat.le_refl _) ?_; intro vB1 w6 ho7 hb hg_ hnew_; clear hg_ hnew_; (first | rw [← NyA9.out] at ho7 | (simp only [Int.reduceToNat] at ho7; rw [← NyA9.out] at ho7)); have HOB6 := lwR ho7 HB; replace HB := bst HB hb; clear hb ho7)); try go_wp2_with (first | ((with_reducible refine gate_dst (N := 16) rfl ?_); refine Kd.R_make (Kd.int .i64) _ 3 rfl (N := 16) rfl 22 _ _ rfl ji3 rfl rfl Try.underlying22 (.int .i64 0) 8 info3 rfl (by decide) (by omega) 0 (ok := fun _ => True) (okp := fun _ => True) rfl (fun _ hk => hk) trivial (of_decide_eq_true (by first | (with_reducible assumption) | assumption)) (Nat.le_trans (Nat.mul_le_mul_right _ (of_decide_eq_true (by first | (with_reducible assumption) | assumption) : ji3.toNat ≤ 35184372088832)) (by omega)) (Below.refl _ _) (Nat.le_refl _) ?_; intro vB1 w6 ho7 hb hg_ hnew_; clear hg_ hnew_; (first | rw [← NyA9.out] at ho7 | (simp only [Int.reduceToNat] at ho7; rw [← NyA9.out] at ho7)); have HOB6 := lwR ho7 HB; replace HB := bst HB hb; clear hb ho7)))
   go_loopg [6] k (fun kq v6 w' => ∃ (x5_1 : List Int) (x6_1 : Int), v6 = .int .i64 x6_1 ∧ Aside0 (spec_l01Mul.l0 kq l0 l1 x5_1 x6_1 = some r) ∧ Aside0 (kq ≤ k) ∧ Aside0 (Kd.R (Kd.int .i64) 3 w' w.heap.size (fun _ => True) vB1 x5_1) ∧ Aside0 (Below w.heap.size w w'))
   case atStart => exact ⟨(yA9), (0), rs_, H', ⟨Nat.le_refl _⟩, ⟨crR HOB6⟩, ⟨blw HB⟩⟩
   case round =>
    clear H'
    try clear c1
    try clear p2
    try clear c4
    try clear c4b0
    try clear c4b1
    try clear c5
    try clear c5b0
    try clear c5b1
    try clear p6
    obtain ⟨x5_1, x6_1, rfl, HA, HK1, HO_5, HB⟩ := hrel
    cases gk with
    | zero => exact absurd HA.out (by simp [spec_l01Mul.l0])
    | succ k1 =>
     have H := HA.out
     clear HA
     simp only [spec_l01Mul.l0] at H
     by_cases c8 : x6_1 < (l0.length : Int)
     ·
      rw [if_pos c8] at H
      have c8b0 : decide (x6_1 < (l0.length : Int)) = true := decide_eq_true c8
      clear c8
      have H' := Aside0.mk H
      clear H
      go_wp2
      repeat (go_quiet (fail); try go_wp2)
      go_loopg [7, 8] k1 (fun kq v7 v8 w' => ∃ (x5_2 : List Int) (x7_2 : Int) (x8_2 : Int), v7 = .int .i64 x7_2 ∧ v8 = .int .i64 x8_2 ∧ Aside0 (spec_l01Mul.l1 kq l0 l1 x5_2 x6_1 x7_2 x8_2 = some r) ∧ Aside0 (kq ≤ k1) ∧ Aside0 (Kd.R (Kd.int .i64) 3 w' w.heap.size (fun _ => True) vB1 x5_2) ∧ Aside0 (Below w.heap.size w w'))
      case atStart => exact ⟨(x5_1), (0), (0), rs_, rs_, H', ⟨Nat.le_refl _⟩, ⟨crR HO_5⟩, ⟨blw HB⟩⟩
      case round =>
       clear H'
       try clear c1
       try clear p2
       try clear c4
       try clear c4b0
       try clear c4b1
       try clear c5
       try clear c5b0
       try clear c5b1
       try clear p6
       try clear c8
       try clear c8b0
       try clear p2
       try clear p6
       obtain ⟨x5_2, x7_2, x8_2, rfl, rfl, HA, HK2, HO_5, HB⟩ := hrel
       cases gk with
       | zero => exact absurd HA.out (by simp [spec_l01Mul.l1])
       | succ k2 =>
        have H := HA.out
        clear HA
        simp only [spec_l01Mul.l1] at H
        have HC9 := Aside0.mk H
        clear H
        go_upto_region 7 with (fail)
        repeat (go_quiet (fail); go_upto_region 7 with (fail))
        go_cut [30] (fun v30 wc => ∃ (kq : Nat) (x30_8 : Bool), v30 = .bool x30_8 ∧ Aside0 (spec_l01Mul.j2 kq l0 l1 x5_2 x6_1 x7_2 x8_2 x30_8 = some r) ∧ Aside0 (kq ≤ k2) ∧ Aside0 (Kd.R (Kd.int .i64) 3 wc w.heap.size (fun _ => True) vB1 x5_2) ∧ Aside0 (Below w.heap.size w wc))
        case first =>
         have H := HC9.out
         clear HC9
         by_cases c10 : x8_2 < (l1.length : Int)
         ·
          rw [if_pos c10] at H
          have c10b0 : decide (x8_2 < (l1.length : Int)) = true := decide_eq_true c10
          clear c10
          (first | rw [c10b0] | (simp only [i64_w, i32_w]; rw [c10b0]) | skip)
          have H' := Aside0.mk H
          clear H
          go_wp2
          repeat (go_quiet (fail); try go_wp2)
          go_meet
          case rel => exact ⟨_, (true), rs_, H', ⟨by have := HK1.out; have := HK2.out; first | omega | exact Nat.le_refl _⟩, ⟨crR HO_5⟩, ⟨blw HB⟩⟩
         ·
          rw [if_neg c10] at H
          have c10b0 : decide (x8_2 < (l1.length : Int)) = false := decide_eq_false c10
          clear c10
          (first | rw [c10b0] | (simp only [i64_w, i32_w]; rw [c10b0]) | skip)
          have H' := Aside0.mk H
          clear H
          go_wp2
          repeat (go_quiet (fail); try go_wp2)
          go_meet
          case rel => exact ⟨_, (decide (x7_2 > 0)), rs_, H', ⟨by have := HK1.out; have := HK2.out; first | omega | exact Nat.le_refl _⟩, ⟨crR HO_5⟩, ⟨blw HB⟩⟩
        case rest =>
         clear HC9
         try clear c1
         try clear p2
         try clear c4
         try clear c4b0
         try clear c4b1
         try clear c5
         try clear c5b0
         try clear c5b1
         try clear p6
         try clear c8
         try clear c8b0
         try clear c10
         try clear c10b0
         try clear p2
         try clear p6
         obtain ⟨kq, x30_8, rfl, HA, HJ8, HO_5, HB⟩ := hcut
         cases kq with
         | zero => exact absurd HA.out (by simp [spec_l01Mul.j2])
         | succ kj8 =>
          have H := HA.out
          clear HA
          simp only [spec_l01Mul.j2] at H
          by_cases c11 : x30_8 = true
          ·
           subst c11
           rw [if_pos rfl] at H
           obtain ⟨ji12, hji12⟩ : ∃ j_ : Int, (wrap64 (x6_1 + x8_2)) = j_ := ⟨_, rfl⟩
           replace H : (if 0 ≤ (ji12) then (if (ji12) < (x5_2.length : Int) then (if x8_2 < (l1.length : Int) then (if 0 ≤ x6_1 then (if x6_1 < (l0.length : Int) then (if 0 ≤ x8_2 then (spec_l01Mul.l1 kj8 l0 l1 (x5_2.set ((ji12) : Int).toNat (Int.tmod (wrap64 ((wrap64 ((rd x5_2 (ji12)) + x7_2)) + (wrap64 ((rd l0 x6_1) * (rd l1 x8_2))))) 10000)) x6_1 (wrap64 (Int.tdiv (wrap64 ((wrap64 ((rd x5_2 (ji12)) + x7_2)) + (wrap64 ((rd l0 x6_1) * (rd l1 x8_2))))) 10000)) (wrap64 (x8_2 + 1))) else (none)) else (none)) else (none)) else (spec_l01Mul.l1 kj8 l0 l1 (x5_2.set ((ji12) : Int).toNat (Int.tmod (wrap64 ((rd x5_2 (ji12)) + x7_2)) 10000)) x6_1 (wrap64 (Int.tdiv (wrap64 ((rd x5_2 (ji12)) + x7_2)) 10000)) (wrap64 (x8_2 + 1)))) else (none)) else (none)) = some r := by first | (rw [hji12] at H; exact H) | (simp only [hji12] at H ⊢; exact H)
           have hji12w : (IntKind.i64.wrap (x6_1 + x8_2)) = ji12 := (i64_w _).trans hji12
           by_cases c13 : 0 ≤ (ji12)
           ·
            rw [if_pos c13] at H
            have c13b0 : decide (0 ≤ (ji12)) = true := decide_eq_true c13
            clear c13
            by_cases c14 : (ji12) < (x5_2.length : Int)
            ·
             rw [if_pos c14] at H
             have c14b0 : decide ((ji12) < (x5_2.length : Int)) = true := decide_eq_true c14
             clear c14
             by_cases c15 : x8_2 < (l1.length : Int)
             ·
              rw [if_pos c15] at H
              have c15b0 : decide (x8_2 < (l1.length : Int)) = true := decide_eq_true c15
              clear c15
              by_cases c16 : 0 ≤ x6_1
              ·
               rw [if_pos c16] at H
               have c16b0 : decide (0 ≤ x6_1) = true := decide_eq_true c16
               clear c16
               by_cases c17 : x6_1 < (l0.length : Int)
               ·
                rw [if_pos c17] at H
                have c17b0 : decide (x6_1 < (l0.length : Int)) = true := decide_eq_true c17
                clear c17
                by_cases c18 : 0 ≤ x8_2
                ·
                 rw [if_pos c18] at H
                 have c18b0 : decide (0 ≤ x8_2) = true := decide_eq_true c18
                 clear c18
                 obtain ⟨yA7, hy187⟩ : ∃ y_ : List Int, y_ = (x5_2.set ((ji12) : Int).toNat (Int.tmod (wrap64 ((wrap64 ((rd x5_2 (ji12)) + x7_2)) + (wrap64 ((rd l0 x6_1) * (rd l1 x8_2))))) 10000)) := ⟨_, rfl⟩
                 replace H : (spec_l01Mul.l1 kj8 l0 l1 yA7 x6_1 (wrap64 (Int.tdiv (wrap64 ((wrap64 ((rd x5_2 (ji12)) + x7_2)) + (wrap64 ((rd l0 x6_1) * (rd l1 x8_2))))) 10000)) (wrap64 (x8_2 + 1))) = some r := by subst hy187; first | with_reducible exact H | with_reducible exact (Option.bind_some _ _).symm.trans H | exact H
                 have NyA7 := Aside0.mk hy187
                 clear hy187
                 have H' := Aside0.mk H
                 clear H
                 obtain ⟨Ao20, co20, eo20⟩ := Kd.R_slice HO_5.out
                 subst eo20
                 have pA0 : 0 ≤ ((ji12) : Int) := of_decide_eq_true (by first | (with_reducible assumption) | assumption)
                 have qA0 : (ji12) < (x5_2.length : Int) := of_decide_eq_true (by first | (with_reducible assumption) | assumption)
                 obtain ⟨adA0, eA0, hxA0_0⟩ := Kd.at_int (Kd.R_reads' HO_5.out).2.2 (ji12) pA0 qA0
                 cases eA0
                 replace pA0 := eq_true pA0
                 replace qA0 := eq_true qA0
                 have pA2 : 0 ≤ (x6_1 : Int) := of_decide_eq_true (by first | (with_reducible assumption) | assumption)
                 have qA2 : x6_1 < (l0.length : Int) := of_decide_eq_true (by first | (with_reducible assumption) | assumption)
                 obtain ⟨adA2, eA2, hxA2_0⟩ := Kd.at_int HR0.out x6_1 pA2 qA2
                 cases eA2
                 replace hxA2_0 := (HB.out.cell (World.block_lt_of_cell? w _ hxA2_0)).trans hxA2_0
                 replace pA2 := eq_true pA2
                 replace qA2 := eq_true qA2
                 have pA3 : 0 ≤ (x8_2 : Int) := of_decide_eq_true (by first | (with_reducible assumption) | assumption)
                 have qA3 : x8_2 < (l1.length : Int) := of_decide_eq_true (by first | (with_reducible assumption) | assumption)
                 obtain ⟨adA3, eA3, hxA3_0⟩ := Kd.at_int HR1.out x8_2 pA3 qA3
                 cases eA3
                 replace hxA3_0 := (HB.out.cell (World.block_lt_of_cell? w _ hxA3_0)).trans hxA3_0
                 replace pA3 := eq_true pA3
                 replace qA3 := eq_true qA3
                 have p19 : 0 ≤ ((ji12) : Int) := of_decide_eq_true (by first | (with_reducible assumption) | assumption)
                 have q19 : ((ji12) : Int) < ((x5_2.length : Int) : Int) := of_decide_eq_true (by first | (with_reducible assumption) | assumption)
                 obtain ⟨go19, co19, eo19, gb19, gl19, cl19, HG19⟩ := Kd.R_form HO_5.out (by omega)
                 (first | cases eo19 | (injection eo19 with ea_ en_ ec_; (first | subst ea_ | (injection ea_ with ea_; subst ea_)); subst ec_; clear en_))
                 have GB19 := Aside0.mk gb19
                 have GG19 := Aside0.mk HG19
                 clear gb19 gl19 HG19
                 (first | simp only [add_plain] at hxA0_0 | skip)
                 obtain ⟨hx19_0, hf19_0⟩ := Kd.R_celln 0 HO_5.out ((ji12) : Int) p19 q19
                 replace p19 := eq_true p19
                 replace q19 := eq_true q19
                 have HP21 := Kd.R_putg HO_5.out ((ji12) : Int) (Int.tmod (wrap64 ((wrap64 ((rd x5_2 (ji12)) + x7_2)) + (wrap64 ((rd l0 x6_1) * (rd l1 x8_2))))) 10000)
                 go_wp2_with (first | ((with_reducible refine gate_store (t := 3) (p := 62) rfl ?_); (try (rw [drewN_self wc]; generalize hq_ : World.drewN wc _ = wc; replace HO_5 := Aside0.mk (Kd.R_at hq_ HO_5.out); replace HB := Aside0.mk (below_at hq_ HB.out); clear hq_; (try (have HP21 := Kd.R_putg HO_5.out ((ji12) : Int) (Int.tmod (wrap64 ((wrap64 ((rd x5_2 (ji12)) + x7_2)) + (wrap64 ((rd l0 x6_1) * (rd l1 x8_2))))) 10000))))); refine store_event (t := 3) (p := 62) (v := ?vo_w22) (w1 := (wc.setCell ⟨go19, ((ji12) : Int).toNat, none⟩ (.int .i64 (Int.tmod (wrap64 ((wrap64 ((rd x5_2 (ji12)) + x7_2)) + (wrap64 ((rd l0 x6_1) * (rd l1 x8_2))))) 10000)))) ?hg ?ho ?hn ?hr ?_; (case ho => rfl); (case hg => rfl); (case hn => rfl); (case hr => first | (go_simp; done) | (go_simp; rfl)); intro w22 hw; have hg : wc.grownBy w22 (some go19) := (by rw [hw]; exact HP21.2); have hp_ : Kd.R (Kd.int .i64) 3 w22 w.heap.size (fun _ => True) (.slice (some ⟨go19, 0, none⟩) x5_2.length co20) yA7 := (by rw [hw, NyA7.out]; exact HP21.1); clear HP21; replace HO_5 := Aside0.mk (hp_); replace HB := Aside0.mk ((by rw [hw]; exact below_set (HB.out) GB19.out : Below w.heap.size w w22)); clear hg hw hp_))
                 repeat (go_quiet (first | ((with_reducible refine gate_store (t := 3) (p := 62) rfl ?_); (try (rw [drewN_self wc]; generalize hq_ : World.drewN wc _ = wc; replace HO_5 := Aside0.mk (Kd.R_at hq_ HO_5.out); replace HB := Aside0.mk (below_at hq_ HB.out); clear hq_; (try (have HP21 := Kd.R_putg HO_5.out ((ji12) : Int) (Int.tmod (wrap64 ((wrap64 ((rd x5_2 (ji12)) + x7_2)) + (wrap64 ((rd l0 x6_1) * (rd l1 x8_2))))) 10000))))); refine store_event (t := 3) (p := 62) (v := ?vo_w22) (w1 := (wc.setCell ⟨go19, ((ji12) : Int).toNat, none⟩ (.int .i64 (Int.tmod (wrap64 ((wrap64 ((rd x5_2 (ji12)) + x7_2)) + (wrap64 ((rd l0 x6_1) * (rd l1 x8_2))))) 10000)))) ?hg ?ho ?hn ?hr ?_; (case ho => rfl); (case hg => rfl); (case hn => rfl); (case hr => first | (go_simp; done) | (go_simp; rfl)); intro w22 hw; have hg : wc.grownBy w22 (some go19) := (by rw [hw]; exact HP21.2); have hp_ : Kd.R (Kd.int .i64) 3 w22 w.heap.size (fun _ => True) (.slice (some ⟨go19, 0, none⟩) x5_2.length co20) yA7 := (by rw [hw, NyA7.out]; exact HP21.1); clear HP21; replace HO_5 := Aside0.mk (hp_); replace HB := Aside0.mk ((by rw [hw]; exact below_set (HB.out) GB19.out : Below w.heap.size w w22)); clear hg hw hp_)); try go_wp2_with (first | ((with_reducible refine gate_store (t := 3) (p := 62) rfl ?_); (try (rw [drewN_self wc]; generalize hq_ : World.drewN wc _ = wc; replace HO_5 := Aside0.mk (Kd.R_at hq_ HO_5.out); replace HB := Aside0.mk (below_at hq_ HB.out); clear hq_; (try (have HP21 := Kd.R_putg HO_5.out ((ji12) : Int) (Int.tmod (wrap64 ((wrap64 ((rd x5_2 (ji12)) + x7_2)) + (wrap64 ((rd l0 x6_1) * (rd l1 x8_2))))) 10000))))); refine store_event (t := 3) (p := 62) (v := ?vo_w22) (w1 := (wc.setCell ⟨go19, ((ji12) : Int).toNat, none⟩ (.int .i64 (Int.tmod (wrap64 ((wrap64 ((rd x5_2 (ji12)) + x7_2)) + (wrap64 ((rd l0 x6_1) * (rd l1 x8_2))))) 10000)))) ?hg ?ho ?hn ?hr ?_; (case ho => rfl); (case hg => rfl); (case hn => rfl); (case hr => first | (go_simp; done) | (go_simp; rfl)); intro w22 hw; have hg : wc.grownBy w22 (some go19) := (by rw [hw]; exact HP21.2); have hp_ : Kd.R (Kd.int .i64) 3 w22 w.heap.size (fun _ => True) (.slice (some ⟨go19, 0, none⟩) x5_2.length co20) yA7 := (by rw [hw, NyA7.out]; exact HP21.1); clear HP21; replace HO_5 := Aside0.mk (hp_); replace HB := Aside0.mk ((by rw [hw]; exact below_set (HB.out) GB19.out : Below w.heap.size w w22)); clear hg hw hp_)))
                 go_roundg kj8
                 case measure => have := HK1.out; have := HK2.out; have := HJ8.out; omega
                 case rel => exact ⟨(yA7), (wrap64 (Int.tdiv (wrap64 ((wrap64 ((rd x5_2 (ji12)) + x7_2)) + (wrap64 ((rd l0 x6_1) * (rd l1 x8_2))))) 10000)), (wrap64 (x8_2 + 1)), (by first | rfl | (simp; done) | (simp only [← hji12] <;> (first | rfl | simp)) | (simp [*]; done)), rs_, H', ⟨by have := HK1.out; have := HK2.out; have := HJ8.out; omega⟩, ⟨by (with_reducible repeat (first | apply Kd.R_alloc | apply Kd.R_drewN | apply Kd.R_drew)); first | exact HO_5.out | (rw [NyA7.out]; exact (Kd.R_putg (Kd.R_drewN HO_5.out _) _ _).1)⟩, ⟨by first | ((repeat (first | (with_reducible first | exact HB.out | apply below_alloc | apply pw_below_drewN | apply below_drew1) | exact HB.out)); done) | exact below_set (pw_below_drewN HB.out _) GB19.out⟩⟩
                ·
                 rw [if_neg c18] at H
                 exact absurd H (by simp)
               ·
                rw [if_neg c17] at H
                exact absurd H (by simp)
              ·
               rw [if_neg c16] at H
               exact absurd H (by simp)
             ·
              rw [if_neg c15] at H
              have c15b0 : decide (x8_2 < (l1.length : Int)) = false := decide_eq_false c15
              clear c15
              obtain ⟨yA8, hy188⟩ : ∃ y_ : List Int, y_ = (x5_2.set ((ji12) : Int).toNat (Int.tmod (wrap64 ((rd x5_2 (ji12)) + x7_2)) 10000)) := ⟨_, rfl⟩
              replace H : (spec_l01Mul.l1 kj8 l0 l1 yA8 x6_1 (wrap64 (Int.tdiv (wrap64 ((rd x5_2 (ji12)) + x7_2)) 10000)) (wrap64 (x8_2 + 1))) = some r := by subst hy188; first | with_reducible exact H | with_reducible exact (Option.bind_some _ _).symm.trans H | exact H
              have NyA8 := Aside0.mk hy188
              clear hy188
              have H' := Aside0.mk H
              clear H
              obtain ⟨Ao24, co24, eo24⟩ := Kd.R_slice HO_5.out
              subst eo24
              have pA0 : 0 ≤ ((ji12) : Int) := of_decide_eq_true (by first | (with_reducible assumption) | assumption)
              have qA0 : (ji12) < (x5_2.length : Int) := of_decide_eq_true (by first | (with_reducible assumption) | assumption)
              obtain ⟨adA0, eA0, hxA0_0⟩ := Kd.at_int (Kd.R_reads' HO_5.out).2.2 (ji12) pA0 qA0
              cases eA0
              replace pA0 := eq_true pA0
              replace qA0 := eq_true qA0
              have p23 : 0 ≤ ((ji12) : Int) := of_decide_eq_true (by first | (with_reducible assumption) | assumption)
              have q23 : ((ji12) : Int) < ((x5_2.length : Int) : Int) := of_decide_eq_true (by first | (with_reducible assumption) | assumption)
              obtain ⟨go23, co23, eo23, gb23, gl23, cl23, HG23⟩ := Kd.R_form HO_5.out (by omega)
              (first | cases eo23 | (injection eo23 with ea_ en_ ec_; (first | subst ea_ | (injection ea_ with ea_; subst ea_)); subst ec_; clear en_))
              have GB23 := Aside0.mk gb23
              have GG23 := Aside0.mk HG23
              clear gb23 gl23 HG23
              (first | simp only [add_plain] at hxA0_0 | skip)
              obtain ⟨hx23_0, hf23_0⟩ := Kd.R_celln 0 HO_5.out ((ji12) : Int) p23 q23
              replace p23 := eq_true p23
              replace q23 := eq_true q23
              have HP25 := Kd.R_putg HO_5.out ((ji12) : Int) (Int.tmod (wrap64 ((rd x5_2 (ji12)) + x7_2)) 10000)
              go_wp2_with (first | ((with_reducible refine gate_store (t := 3) (p := 62) rfl ?_); (try (rw [drewN_self wc]; generalize hq_ : World.drewN wc _ = wc; replace HO_5 := Aside0.mk (Kd.R_at hq_ HO_5.out); replace HB := Aside0.mk (below_at hq_ HB.out); clear hq_; (try (have HP25 := Kd.R_putg HO_5.out ((ji12) : Int) (Int.tmod (wrap64 ((rd x5_2 (ji12)) + x7_2)) 10000))))); refine store_event (t := 3) (p := 62) (v := ?vo_w26) (w1 := (wc.setCell ⟨go23, ((ji12) : Int).toNat, none⟩ (.int .i64 (Int.tmod (wrap64 ((rd x5_2 (ji12)) + x7_2)) 10000)))) ?hg ?ho ?hn ?hr ?_; (case ho => rfl); (case hg => rfl); (case hn => rfl); (case hr => first | (go_simp; done) | (go_simp; rfl)); intro w26 hw; have hg : wc.grownBy w26 (some go23) := (by rw [hw]; exact HP25.2); have hp_ : Kd.R (Kd.int .i64) 3 w26 w.heap.size (fun _ => True) (.slice (some ⟨go23, 0, none⟩) x5_2.length co24) yA8 := (by rw [hw, NyA8.out]; exact HP25.1); clear HP25; replace HO_5 := Aside0.mk (hp_); replace HB := Aside0.mk ((by rw [hw]; exact below_set (HB.out) GB23.out : Below w.heap.size w w26)); clear hg hw hp_))
              repeat (go_quiet (first | ((with_reducible refine gate_store (t := 3) (p := 62) rfl ?_); (try (rw [drewN_self wc]; generalize hq_ : World.drewN wc _ = wc; replace HO_5 := Aside0.mk (Kd.R_at hq_ HO_5.out); replace HB := Aside0.mk (below_at hq_ HB.out); clear hq_; (try (have HP25 := Kd.R_putg HO_5.out ((ji12) : Int) (Int.tmod (wrap64 ((rd x5_2 (ji12)) + x7_2)) 10000))))); refine store_event (t := 3) (p := 62) (v := ?vo_w26) (w1 := (wc.setCell ⟨go23, ((ji12) : Int).toNat, none⟩ (.int .i64 (Int.tmod (wrap64 ((rd x5_2 (ji12)) + x7_2)) 10000)))) ?hg ?ho ?hn ?hr ?_; (case ho => rfl); (case hg => rfl); (case hn => rfl); (case hr => first | (go_simp; done) | (go_simp; rfl)); intro w26 hw; have hg : wc.grownBy w26 (some go23) := (by rw [hw]; exact HP25.2); have hp_ : Kd.R (Kd.int .i64) 3 w26 w.heap.size (fun _ => True) (.slice (some ⟨go23, 0, none⟩) x5_2.length co24) yA8 := (by rw [hw, NyA8.out]; exact HP25.1); clear HP25; replace HO_5 := Aside0.mk (hp_); replace HB := Aside0.mk ((by rw [hw]; exact below_set (HB.out) GB23.out : Below w.heap.size w w26)); clear hg hw hp_)); try go_wp2_with (first | ((with_reducible refine gate_store (t := 3) (p := 62) rfl ?_); (try (rw [drewN_self wc]; generalize hq_ : World.drewN wc _ = wc; replace HO_5 := Aside0.mk (Kd.R_at hq_ HO_5.out); replace HB := Aside0.mk (below_at hq_ HB.out); clear hq_; (try (have HP25 := Kd.R_putg HO_5.out ((ji12) : Int) (Int.tmod (wrap64 ((rd x5_2 (ji12)) + x7_2)) 10000))))); refine store_event (t := 3) (p := 62) (v := ?vo_w26) (w1 := (wc.setCell ⟨go23, ((ji12) : Int).toNat, none⟩ (.int .i64 (Int.tmod (wrap64 ((rd x5_2 (ji12)) + x7_2)) 10000)))) ?hg ?ho ?hn ?hr ?_; (case ho => rfl); (case hg => rfl); (case hn => rfl); (case hr => first | (go_simp; done) | (go_simp; rfl)); intro w26 hw; have hg : wc.grownBy w26 (some go23) := (by rw [hw]; exact HP25.2); have hp_ : Kd.R (Kd.int .i64) 3 w26 w.heap.size (fun _ => True) (.slice (some ⟨go23, 0, none⟩) x5_2.length co24) yA8 := (by rw [hw, NyA8.out]; exact HP25.1); clear HP25; replace HO_5 := Aside0.mk (hp_); replace HB := Aside0.mk ((by rw [hw]; exact below_set (HB.out) GB23.out : Below w.heap.size w w26)); clear hg hw hp_)))
              go_roundg kj8
              case measure => have := HK1.out; have := HK2.out; have := HJ8.out; omega
              case rel => exact ⟨(yA8), (wrap64 (Int.tdiv (wrap64 ((rd x5_2 (ji12)) + x7_2)) 10000)), (wrap64 (x8_2 + 1)), (by first | rfl | (simp; done) | (simp only [← hji12] <;> (first | rfl | simp)) | (simp [*]; done)), rs_, H', ⟨by have := HK1.out; have := HK2.out; have := HJ8.out; omega⟩, ⟨by (with_reducible repeat (first | apply Kd.R_alloc | apply Kd.R_drewN | apply Kd.R_drew)); first | exact HO_5.out | (rw [NyA8.out]; exact (Kd.R_putg (Kd.R_drewN HO_5.out _) _ _).1)⟩, ⟨by first | ((repeat (first | (with_reducible first | exact HB.out | apply below_alloc | apply pw_below_drewN | apply below_drew1) | exact HB.out)); done) | exact below_set (pw_below_drewN HB.out _) GB23.out⟩⟩
            ·
             rw [if_neg c14] at H
             exact absurd H (by simp)
           ·
            rw [if_neg c13] at H
            exact absurd H (by simp)
          ·
           replace c11 := Bool.eq_false_iff.mpr c11
           subst c11
           rw [if_neg (show ¬ (false = true) by decide)] at H
           have H' := Aside0.mk H
           clear H
           go_wp2
           repeat (go_quiet (fail); try go_wp2)
           go_roundg kj8
           case measure => have := HK1.out; have := HK2.out; have := HJ8.out; omega
           case rel => exact ⟨(x5_2), (wrap64 (x6_1 + 1)), rs_, H', ⟨by have := HK1.out; have := HK2.out; have := HJ8.out; omega⟩, ⟨crR HO_5⟩, ⟨blw HB⟩⟩
     ·
      rw [if_neg c8] at H
      have c8b0 : decide (x6_1 < (l0.length : Int)) = false := decide_eq_false c8
      clear c8
      replace H := Option.bind_eq_some_iff.mp H
      obtain ⟨tB0, AB9, H⟩ := H
      replace H : (some tB0) = some r := H
      have A27 := Aside0.mk AB9
      clear AB9
      obtain rfl := Option.some.inj H
      obtain ⟨Ao28, co28, eo28⟩ := Kd.R_slice HO_5.out
      subst eo28
      go_wp2_with (first | (go_at_call 116; (with_reducible refine (spec_l01Trim.calls _ _ x5_1 tB0 _ ?side1 ?side2 A27.out).mono ?_); (case side1 => exact crC (Kd.R_reads' HO_5.out).2.2); (case side2 => exact (Kd.R_reads' HO_5.out).2.1); rintro e w29 ⟨vC0, rfl, ho0, hb⟩; have HOB7 := lwR (nwR ho0 HO_5) HB; replace HO_5 := eldR HO_5 (Kd.R_base ho0) hb; replace HB := bst HB hb; (try clear hb); (try clear hb2); (try clear hk); (try clear hi); (try clear ho0)))
      repeat (go_quiet (first | (go_at_call 116; (with_reducible refine (spec_l01Trim.calls _ _ x5_1 tB0 _ ?side1 ?side2 A27.out).mono ?_); (case side1 => exact crC (Kd.R_reads' HO_5.out).2.2); (case side2 => exact (Kd.R_reads' HO_5.out).2.1); rintro e w29 ⟨vC0, rfl, ho0, hb⟩; have HOB7 := lwR (nwR ho0 HO_5) HB; replace HO_5 := eldR HO_5 (Kd.R_base ho0) hb; replace HB := bst HB hb; (try clear hb); (try clear hb2); (try clear hk); (try clear hi); (try clear ho0))); try go_wp2_with (first | (go_at_call 116; (with_reducible refine (spec_l01Trim.calls _ _ x5_1 tB0 _ ?side1 ?side2 A27.out).mono ?_); (case side1 => exact crC (Kd.R_reads' HO_5.out).2.2); (case side2 => exact (Kd.R_reads' HO_5.out).2.1); rintro e w29 ⟨vC0, rfl, ho0, hb⟩; have HOB7 := lwR (nwR ho0 HO_5) HB; replace HO_5 := eldR HO_5 (Kd.R_base ho0) hb; replace HB := bst HB hb; (try clear hb); (try clear hb2); (try clear hk); (try clear hi); (try clear ho0))))
      go_ret
      exact ⟨_, by first | rfl | (simp [errW_none, errW_some] <;> rfl) | (simp only [← hji3]; first | rfl | (simp [errW_none, errW_some] <;> rfl)) | (simp [*, errW_none, errW_some] <;> rfl), by (with_reducible repeat (first | apply Kd.R_alloc | apply Kd.R_drewN | apply Kd.R_drew)); exact Kd.R_mono HOB7.out (fun _ hk => trivial), blw HB⟩
  ·
   rw [if_neg c5] at H
   exact absurd H (by simp)
 ·
  rw [if_neg c4] at H
  exact absurd H (by simp)

mutual
def impl_natMul.l0 : Nat → List Int → List Int → List Int → Int → Int → Option (List Int)
 | 0, _, _, _, _, _ => none
 | k + 1, x1, x5, x16, x17, x18 => if x18 < x17 then (if 0 ≤ x18 then (if x18 < (x16.length : Int) then (impl_natMul.l1 k x1 x5 x18 (rd x16 x18) 0 0 x16 x17 x18) else (none)) else (none)) else ((impl_trimmed.f k x5).bind fun tB5 => (some tB5))
def impl_natMul.l1 : Nat → List Int → List Int → Int → Int → Int → Int → List Int → Int → Int → Option (List Int)
 | 0, _, _, _, _, _, _, _, _, _ => none
 | k + 1, x1, x5, x6, x7, x8, x9, x16, x17, x18 => if x9 < (x1.length : Int) then (impl_natMul.j2 k x1 x5 x6 x7 x8 x9 x16 x17 x18 true) else (impl_natMul.j2 k x1 x5 x6 x7 x8 x9 x16 x17 x18 (decide (x8 > 0)))
def impl_natMul.j2 : Nat → List Int → List Int → Int → Int → Int → Int → List Int → Int → Int → Bool → Option (List Int)
 | 0, _, _, _, _, _, _, _, _, _, _ => none
 | k + 1, x1, x5, x6, x7, x8, x9, x16, x17, x18, x30 => if x30 = true then (if x9 < (x1.length : Int) then (if 0 ≤ x9 then (if 0 ≤ (wrap64 (x6 + x9)) then (if (wrap64 (x6 + x9)) < (x5.length : Int) then (impl_natMul.l1 k x1 (x5.set ((wrap64 (x6 + x9)) : Int).toNat (Int.tmod (wrap64 ((wrap64 (x8 + (wrap64 (x7 * (rd x1 x9))))) + (rd x5 (wrap64 (x6 + x9))))) 10000)) x6 x7 (wrap64 (Int.tdiv (wrap64 ((wrap64 (x8 + (wrap64 (x7 * (rd x1 x9))))) + (rd x5 (wrap64 (x6 + x9))))) 10000)) (wrap64 (x9 + 1)) x16 x17 x18) else (none)) else (none)) else (none)) else (if 0 ≤ (wrap64 (x6 + x9)) then (if (wrap64 (x6 + x9)) < (x5.length : Int) then (impl_natMul.l1 k x1 (x5.set ((wrap64 (x6 + x9)) : Int).toNat (Int.tmod (wrap64 (x8 + (rd x5 (wrap64 (x6 + x9))))) 10000)) x6 x7 (wrap64 (Int.tdiv (wrap64 (x8 + (rd x5 (wrap64 (x6 + x9))))) 10000)) (wrap64 (x9 + 1)) x16 x17 x18) else (none)) else (none))) else (impl_natMul.l0 k x1 x5 x16 x17 (wrap64 (x18 + 1)))
end
def impl_natMul.f (k : Nat) (l0 : List Int) (l1 : List Int) : Option (List Int) := if 0 ≤ (wrap64 ((l0.length : Int) + (l1.length : Int))) then (if (wrap64 ((l0.length : Int) + (l1.length : Int)) : Int).toNat ≤ 35184372088832 then (impl_natMul.l0 k l1 (List.replicate (wrap64 ((l0.length : Int) + (l1.length : Int)) : Int).toNat 0) l0 (l0.length : Int) 0) else (none)) else (none)
set_option maxHeartbeats 8000000 in
set_option maxRecDepth 100000 in
theorem impl_natMul.calls (k : Nat) (A0 : Option Addr) (c0 : Nat) (l0 : List Int) (A1 : Option Addr) (c1 : Nat) (l1 : List Int) (r : List Int) (w : World) (hr0 : Kd.C (Kd.int .i64) w A0 l0.length l0) (hc0 : l0.length ≤ c0) (hr1 : Kd.C (Kd.int .i64) w A1 l1.length l1) (hc1 : l1.length ≤ c1) (h : impl_natMul.f k l0 l1 = some r) :
  Calls Try.prog 95 #[.slice A0 l0.length c0, .slice A1 l1.length c1] w fun e w' => ∃ v0_ : Value, e = .returned (v0_) ∧ Kd.R (Kd.int .i64) 3 w' w.heap.size (fun _ => True) v0_ r ∧ Below w.heap.size w w' := by
 have HR0 := Aside0.mk hr0
 have HC0 := Aside0.mk hc0
 clear hr0 hc0
 have HR1 := Aside0.mk hr1
 have HC1 := Aside0.mk hc1
 clear hr1 hc1
 have HB := Aside0.mk (Below.refl w.heap.size w)
 have H : (if 0 ≤ (wrap64 ((l0.length : Int) + (l1.length : Int))) then (if (wrap64 ((l0.length : Int) + (l1.length : Int)) : Int).toNat ≤ 35184372088832 then (impl_natMul.l0 k l1 (List.replicate (wrap64 ((l0.length : Int) + (l1.length : Int)) : Int).toNat 0) l0 (l0.length : Int) 0) else (none)) else (none)) = some r := h
 clear h
 obtain ⟨ji3, hji3⟩ : ∃ j_ : Int, (wrap64 ((l0.length : Int) + (l1.length : Int))) = j_ := ⟨_, rfl⟩
 replace H : (if 0 ≤ (ji3) then (if (ji3 : Int).toNat ≤ 35184372088832 then (impl_natMul.l0 k l1 (List.replicate (ji3 : Int).toNat 0) l0 (l0.length : Int) 0) else (none)) else (none)) = some r := by first | (rw [hji3] at H; exact H) | (simp only [hji3] at H ⊢; exact H)
 have hji3w : (IntKind.i64.wrap ((l0.length : Int) + (l1.length : Int))) = ji3 := (i64_w _).trans hji3
 by_cases c4 : 0 ≤ (ji3)
 ·
  rw [if_pos c4] at H
  have c4b0 := eq_true c4
  have c4b1 : decide (0 ≤ (ji3)) = true := decide_eq_true c4
  clear c4
  by_cases c5 : (ji3 : Int).toNat ≤ 35184372088832
  ·
   rw [if_pos c5] at H
   have c5b0 := eq_true c5
   have c5b1 : decide ((ji3 : Int).toNat ≤ 35184372088832) = true := decide_eq_true c5
   clear c5
   obtain ⟨yB2, hy392⟩ : ∃ y_ : List Int, y_ = (List.replicate (ji3 : Int).toNat 0) := ⟨_, rfl⟩
   replace H : (impl_natMul.l0 k l1 yB2 l0 (l0.length : Int) 0) = some r := by subst hy392; first | with_reducible exact H | with_reducible exact (Option.bind_some _ _).symm.trans H | exact H
   have NyB2 := Aside0.mk hy392
   clear hy392
   have H' := Aside0.mk H
   clear H
   go_enter Try.func95, Try.ntmps95
   go_wp2_with (first | ((with_reducible refine gate_dst (N := 15) rfl ?_); refine Kd.R_make (Kd.int .i64) _ 3 rfl (N := 15) rfl 22 _ _ rfl ji3 rfl rfl Try.underlying22 (.int .i64 0) 8 info3 rfl (by decide) (by omega) 0 (ok := fun _ => True) (okp := fun _ => True) rfl (fun _ hk => hk) trivial (of_decide_eq_true (by first | (with_reducible assumption) | assumption)) (Nat.le_trans (Nat.mul_le_mul_right _ (of_decide_eq_true (by first | (with_reducible assumption) | assumption) : ji3.toNat ≤ 35184372088832)) (by omega)) (Below.refl _ _) (Nat.le_refl _) ?_; intro vB8 w6 ho7 hb hg_ hnew_; clear hg_ hnew_; (first | rw [← NyB2.out] at ho7 | (simp only [Int.reduceToNat] at ho7; rw [← NyB2.out] at ho7)); have HOC2 := lwR ho7 HB; replace HB := bst HB hb; clear hb ho7))
   go_loopg [18] k (fun kq v18 w' => ∃ (x5_1 : List Int) (x18_1 : Int), v18 = .int .i64 x18_1 ∧ Aside0 (impl_natMul.l0 kq l1 x5_1 l0 (l0.length : Int) x18_1 = some r) ∧ Aside0 (kq ≤ k) ∧ Aside0 (Kd.R (Kd.int .i64) 3 w' w.heap.size (fun _ => True) vB8 x5_1) ∧ Aside0 (Below w.heap.size w w'))
   case atStart => exact ⟨(yB2), (0), rs_, H', ⟨Nat.le_refl _⟩, ⟨crR HOC2⟩, ⟨blw HB⟩⟩
   case round =>
    clear H'
    try clear c1
    try clear p2
    try clear c4
    try clear c4b0
    try clear c4b1
    try clear c5
    try clear c5b0
    try clear c5b1
    try clear p6
    obtain ⟨x5_1, x18_1, rfl, HA, HK1, HO_5, HB⟩ := hrel
    cases gk with
    | zero => exact absurd HA.out (by simp [impl_natMul.l0])
    | succ k1 =>
     have H := HA.out
     clear HA
     simp only [impl_natMul.l0] at H
     by_cases c8 : x18_1 < (l0.length : Int)
     ·
      rw [if_pos c8] at H
      have c8b0 : decide (x18_1 < (l0.length : Int)) = true := decide_eq_true c8
      clear c8
      by_cases c9 : 0 ≤ x18_1
      ·
       rw [if_pos c9] at H
       have c9b0 : decide (0 ≤ x18_1) = true := decide_eq_true c9
       clear c9
       by_cases c10 : x18_1 < (l0.length : Int)
       ·
        rw [if_pos c10] at H
        have c10b0 : decide (x18_1 < (l0.length : Int)) = true := decide_eq_true c10
        clear c10
        have H' := Aside0.mk H
        clear H
        have pA1 : 0 ≤ (x18_1 : Int) := of_decide_eq_true (by first | (with_reducible assumption) | assumption)
        have qA1 : x18_1 < (l0.length : Int) := of_decide_eq_true (by first | (with_reducible assumption) | assumption)
        obtain ⟨adA1, eA1, hxA1_0⟩ := Kd.at_int HR0.out x18_1 pA1 qA1
        cases eA1
        replace hxA1_0 := (HB.out.cell (World.block_lt_of_cell? w _ hxA1_0)).trans hxA1_0
        replace pA1 := eq_true pA1
        replace qA1 := eq_true qA1
        go_wp2
        go_loopg [8, 9] k1 (fun kq v8 v9 w' => ∃ (x5_2 : List Int) (x8_2 : Int) (x9_2 : Int), v8 = .int .i64 x8_2 ∧ v9 = .int .i64 x9_2 ∧ Aside0 (impl_natMul.l1 kq l1 x5_2 x18_1 (rd l0 x18_1) x8_2 x9_2 l0 (l0.length : Int) x18_1 = some r) ∧ Aside0 (kq ≤ k1) ∧ Aside0 (Kd.R (Kd.int .i64) 3 w' w.heap.size (fun _ => True) vB8 x5_2) ∧ Aside0 (Below w.heap.size w w'))
        case atStart => exact ⟨(x5_1), (0), (0), rs_, rs_, H', ⟨Nat.le_refl _⟩, ⟨crR HO_5⟩, ⟨blw HB⟩⟩
        case round =>
         clear H'
         try clear c1
         try clear p2
         try clear p3
         try clear q3
         try clear hx3
         try clear c4
         try clear c4b0
         try clear c4b1
         try clear c5
         try clear c5b0
         try clear c5b1
         try clear p6
         try clear c8
         try clear c8b0
         try clear c9
         try clear c9b0
         try clear c10
         try clear c10b0
         try clear hxA1_0
         try clear p2
         try clear pA1
         try clear p6
         try clear qA1
         obtain ⟨x5_2, x8_2, x9_2, rfl, rfl, HA, HK2, HO_5, HB⟩ := hrel
         cases gk with
         | zero => exact absurd HA.out (by simp [impl_natMul.l1])
         | succ k2 =>
          have H := HA.out
          clear HA
          simp only [impl_natMul.l1] at H
          have HC11 := Aside0.mk H
          clear H
          go_upto_region 7 with (fail)
          go_cut [30] (fun v30 wc => ∃ (kq : Nat) (x30_10 : Bool), v30 = .bool x30_10 ∧ Aside0 (impl_natMul.j2 kq l1 x5_2 x18_1 (rd l0 x18_1) x8_2 x9_2 l0 (l0.length : Int) x18_1 x30_10 = some r) ∧ Aside0 (kq ≤ k2) ∧ Aside0 (Kd.R (Kd.int .i64) 3 wc w.heap.size (fun _ => True) vB8 x5_2) ∧ Aside0 (Below w.heap.size w wc))
          case first =>
           have H := HC11.out
           clear HC11
           by_cases c12 : x9_2 < (l1.length : Int)
           ·
            rw [if_pos c12] at H
            have c12b0 : decide (x9_2 < (l1.length : Int)) = true := decide_eq_true c12
            clear c12
            (first | rw [c12b0] | (simp only [i64_w, i32_w]; rw [c12b0]) | skip)
            have H' := Aside0.mk H
            clear H
            go_wp2
            go_meet
            case rel => exact ⟨_, (true), rs_, H', ⟨by have := HK1.out; have := HK2.out; first | omega | exact Nat.le_refl _⟩, ⟨crR HO_5⟩, ⟨blw HB⟩⟩
           ·
            rw [if_neg c12] at H
            have c12b0 : decide (x9_2 < (l1.length : Int)) = false := decide_eq_false c12
            clear c12
            (first | rw [c12b0] | (simp only [i64_w, i32_w]; rw [c12b0]) | skip)
            have H' := Aside0.mk H
            clear H
            go_wp2
            go_meet
            case rel => exact ⟨_, (decide (x8_2 > 0)), rs_, H', ⟨by have := HK1.out; have := HK2.out; first | omega | exact Nat.le_refl _⟩, ⟨crR HO_5⟩, ⟨blw HB⟩⟩
          case rest =>
           clear HC11
           try clear c1
           try clear p2
           try clear p3
           try clear q3
           try clear hx3
           try clear c4
           try clear c4b0
           try clear c4b1
           try clear c5
           try clear c5b0
           try clear c5b1
           try clear p6
           try clear c8
           try clear c8b0
           try clear c9
           try clear c9b0
           try clear c10
           try clear c10b0
           try clear c12
           try clear c12b0
           try clear hxA1_0
           try clear p2
           try clear p3
           try clear pA1
           try clear p6
           try clear q3
           try clear qA1
           obtain ⟨kq, x30_10, rfl, HA, HJ10, HO_5, HB⟩ := hcut
           cases kq with
           | zero => exact absurd HA.out (by simp [impl_natMul.j2])
           | succ kj10 =>
            have H := HA.out
            clear HA
            simp only [impl_natMul.j2] at H
            by_cases c13 : x30_10 = true
            ·
             subst c13
             rw [if_pos rfl] at H
             by_cases c14 : x9_2 < (l1.length : Int)
             ·
              rw [if_pos c14] at H
              have c14b0 : decide (x9_2 < (l1.length : Int)) = true := decide_eq_true c14
              clear c14
              by_cases c15 : 0 ≤ x9_2
              ·
               rw [if_pos c15] at H
               have c15b0 : decide (0 ≤ x9_2) = true := decide_eq_true c15
               clear c15
               obtain ⟨ji16, hji16⟩ : ∃ j_ : Int, (wrap64 (x18_1 + x9_2)) = j_ := ⟨_, rfl⟩
               replace H : (if 0 ≤ (ji16) then (if (ji16) < (x5_2.length : Int) then (impl_natMul.l1 kj10 l1 (x5_2.set ((ji16) : Int).toNat (Int.tmod (wrap64 ((wrap64 (x8_2 + (wrap64 ((rd l0 x18_1) * (rd l1 x9_2))))) + (rd x5_2 (ji16)))) 10000)) x18_1 (rd l0 x18_1) (wrap64 (Int.tdiv (wrap64 ((wrap64 (x8_2 + (wrap64 ((rd l0 x18_1) * (rd l1 x9_2))))) + (rd x5_2 (ji16)))) 10000)) (wrap64 (x9_2 + 1)) l0 (l0.length : Int) x18_1) else (none)) else (none)) = some r := by first | (rw [hji16] at H; exact H) | (simp only [hji16] at H ⊢; exact H)
               have hji16w : (IntKind.i64.wrap (x18_1 + x9_2)) = ji16 := (i64_w _).trans hji16
               by_cases c17 : 0 ≤ (ji16)
               ·
                rw [if_pos c17] at H
                have c17b0 : decide (0 ≤ (ji16)) = true := decide_eq_true c17
                clear c17
                by_cases c18 : (ji16) < (x5_2.length : Int)
                ·
                 rw [if_pos c18] at H
                 have c18b0 : decide ((ji16) < (x5_2.length : Int)) = true := decide_eq_true c18
                 clear c18
                 obtain ⟨yB3, hy401⟩ : ∃ y_ : List Int, y_ = (x5_2.set ((ji16) : Int).toNat (Int.tmod (wrap64 ((wrap64 (x8_2 + (wrap64 ((rd l0 x18_1) * (rd l1 x9_2))))) + (rd x5_2 (ji16)))) 10000)) := ⟨_, rfl⟩
                 replace H : (impl_natMul.l1 kj10 l1 yB3 x18_1 (rd l0 x18_1) (wrap64 (Int.tdiv (wrap64 ((wrap64 (x8_2 + (wrap64 ((rd l0 x18_1) * (rd l1 x9_2))))) + (rd x5_2 (ji16)))) 10000)) (wrap64 (x9_2 + 1)) l0 (l0.length : Int) x18_1) = some r := by subst hy401; first | with_reducible exact H | with_reducible exact (Option.bind_some _ _).symm.trans H | exact H
                 have NyB3 := Aside0.mk hy401
                 clear hy401
                 have H' := Aside0.mk H
                 clear H
                 have pA4 : 0 ≤ (x9_2 : Int) := of_decide_eq_true (by first | (with_reducible assumption) | assumption)
                 have qA4 : x9_2 < (l1.length : Int) := of_decide_eq_true (by first | (with_reducible assumption) | assumption)
                 obtain ⟨adA4, eA4, hxA4_0⟩ := Kd.at_int HR1.out x9_2 pA4 qA4
                 cases eA4
                 replace hxA4_0 := (HB.out.cell (World.block_lt_of_cell? w _ hxA4_0)).trans hxA4_0
                 replace pA4 := eq_true pA4
                 replace qA4 := eq_true qA4
                 obtain ⟨Ao20, co20, eo20⟩ := Kd.R_slice HO_5.out
                 subst eo20
                 have pA5 : 0 ≤ ((ji16) : Int) := of_decide_eq_true (by first | (with_reducible assumption) | assumption)
                 have qA5 : (ji16) < (x5_2.length : Int) := of_decide_eq_true (by first | (with_reducible assumption) | assumption)
                 obtain ⟨adA5, eA5, hxA5_0⟩ := Kd.at_int (Kd.R_reads' HO_5.out).2.2 (ji16) pA5 qA5
                 cases eA5
                 replace pA5 := eq_true pA5
                 replace qA5 := eq_true qA5
                 have p19 : 0 ≤ ((ji16) : Int) := of_decide_eq_true (by first | (with_reducible assumption) | assumption)
                 have q19 : ((ji16) : Int) < ((x5_2.length : Int) : Int) := of_decide_eq_true (by first | (with_reducible assumption) | assumption)
                 obtain ⟨go19, co19, eo19, gb19, gl19, cl19, HG19⟩ := Kd.R_form HO_5.out (by omega)
                 (first | cases eo19 | (injection eo19 with ea_ en_ ec_; (first | subst ea_ | (injection ea_ with ea_; subst ea_)); subst ec_; clear en_))
                 have GB19 := Aside0.mk gb19
                 have GG19 := Aside0.mk HG19
                 clear gb19 gl19 HG19
                 (first | simp only [add_plain] at hxA5_0 | skip)
                 obtain ⟨hx19_0, hf19_0⟩ := Kd.R_celln 0 HO_5.out ((ji16) : Int) p19 q19
                 replace p19 := eq_true p19
                 replace q19 := eq_true q19
                 have HP21 := Kd.R_putg HO_5.out ((ji16) : Int) (Int.tmod (wrap64 ((wrap64 (x8_2 + (wrap64 ((rd l0 x18_1) * (rd l1 x9_2))))) + (rd x5_2 (ji16)))) 10000)
                 go_wp2_with (first | ((with_reducible refine gate_store (t := 3) (p := 61) rfl ?_); refine store_event (t := 3) (p := 61) (v := ?vo_w22) (w1 := (wc.setCell ⟨go19, ((ji16) : Int).toNat, none⟩ (.int .i64 (Int.tmod (wrap64 ((wrap64 (x8_2 + (wrap64 ((rd l0 x18_1) * (rd l1 x9_2))))) + (rd x5_2 (ji16)))) 10000)))) ?hg ?ho ?hn ?hr ?_; (case ho => rfl); (case hg => rfl); (case hn => rfl); (case hr => first | (go_simp; done) | (go_simp; rfl)); intro w22 hw; have hg : wc.grownBy w22 (some go19) := (by rw [hw]; exact HP21.2); have hp_ : Kd.R (Kd.int .i64) 3 w22 w.heap.size (fun _ => True) (.slice (some ⟨go19, 0, none⟩) x5_2.length co20) yB3 := (by rw [hw, NyB3.out]; exact HP21.1); clear HP21; replace HO_5 := Aside0.mk (hp_); replace HB := Aside0.mk ((by rw [hw]; exact below_set (HB.out) GB19.out : Below w.heap.size w w22)); clear hg hw hp_))
                 go_roundg kj10
                 case measure => have := HK1.out; have := HK2.out; have := HJ10.out; omega
                 case rel => exact ⟨(yB3), (wrap64 (Int.tdiv (wrap64 ((wrap64 (x8_2 + (wrap64 ((rd l0 x18_1) * (rd l1 x9_2))))) + (rd x5_2 (ji16)))) 10000)), (wrap64 (x9_2 + 1)), (by first | rfl | (simp; done) | (simp only [← hji16] <;> (first | rfl | simp)) | (simp [*]; done)), rs_, H', ⟨by have := HK1.out; have := HK2.out; have := HJ10.out; omega⟩, ⟨crR HO_5⟩, ⟨blw HB⟩⟩
                ·
                 rw [if_neg c18] at H
                 exact absurd H (by simp)
               ·
                rw [if_neg c17] at H
                exact absurd H (by simp)
              ·
               rw [if_neg c15] at H
               exact absurd H (by simp)
             ·
              rw [if_neg c14] at H
              have c14b0 : decide (x9_2 < (l1.length : Int)) = false := decide_eq_false c14
              clear c14
              obtain ⟨ji23, hji23⟩ : ∃ j_ : Int, (wrap64 (x18_1 + x9_2)) = j_ := ⟨_, rfl⟩
              replace H : (if 0 ≤ (ji23) then (if (ji23) < (x5_2.length : Int) then (impl_natMul.l1 kj10 l1 (x5_2.set ((ji23) : Int).toNat (Int.tmod (wrap64 (x8_2 + (rd x5_2 (ji23)))) 10000)) x18_1 (rd l0 x18_1) (wrap64 (Int.tdiv (wrap64 (x8_2 + (rd x5_2 (ji23)))) 10000)) (wrap64 (x9_2 + 1)) l0 (l0.length : Int) x18_1) else (none)) else (none)) = some r := by first | (rw [hji23] at H; exact H) | (simp only [hji23] at H ⊢; exact H)
              have hji23w : (IntKind.i64.wrap (x18_1 + x9_2)) = ji23 := (i64_w _).trans hji23
              by_cases c24 : 0 ≤ (ji23)
              ·
               rw [if_pos c24] at H
               have c24b0 : decide (0 ≤ (ji23)) = true := decide_eq_true c24
               clear c24
               by_cases c25 : (ji23) < (x5_2.length : Int)
               ·
                rw [if_pos c25] at H
                have c25b0 : decide ((ji23) < (x5_2.length : Int)) = true := decide_eq_true c25
                clear c25
                obtain ⟨yB4, hy403⟩ : ∃ y_ : List Int, y_ = (x5_2.set ((ji23) : Int).toNat (Int.tmod (wrap64 (x8_2 + (rd x5_2 (ji23)))) 10000)) := ⟨_, rfl⟩
                replace H : (impl_natMul.l1 kj10 l1 yB4 x18_1 (rd l0 x18_1) (wrap64 (Int.tdiv (wrap64 (x8_2 + (rd x5_2 (ji23)))) 10000)) (wrap64 (x9_2 + 1)) l0 (l0.length : Int) x18_1) = some r := by subst hy403; first | with_reducible exact H | with_reducible exact (Option.bind_some _ _).symm.trans H | exact H
                have NyB4 := Aside0.mk hy403
                clear hy403
                have H' := Aside0.mk H
                clear H
                obtain ⟨Ao27, co27, eo27⟩ := Kd.R_slice HO_5.out
                subst eo27
                have pA6 : 0 ≤ ((ji23) : Int) := of_decide_eq_true (by first | (with_reducible assumption) | assumption)
                have qA6 : (ji23) < (x5_2.length : Int) := of_decide_eq_true (by first | (with_reducible assumption) | assumption)
                obtain ⟨adA6, eA6, hxA6_0⟩ := Kd.at_int (Kd.R_reads' HO_5.out).2.2 (ji23) pA6 qA6
                cases eA6
                replace pA6 := eq_true pA6
                replace qA6 := eq_true qA6
                have p26 : 0 ≤ ((ji23) : Int) := of_decide_eq_true (by first | (with_reducible assumption) | assumption)
                have q26 : ((ji23) : Int) < ((x5_2.length : Int) : Int) := of_decide_eq_true (by first | (with_reducible assumption) | assumption)
                obtain ⟨go26, co26, eo26, gb26, gl26, cl26, HG26⟩ := Kd.R_form HO_5.out (by omega)
                (first | cases eo26 | (injection eo26 with ea_ en_ ec_; (first | subst ea_ | (injection ea_ with ea_; subst ea_)); subst ec_; clear en_))
                have GB26 := Aside0.mk gb26
                have GG26 := Aside0.mk HG26
                clear gb26 gl26 HG26
                (first | simp only [add_plain] at hxA6_0 | skip)
                obtain ⟨hx26_0, hf26_0⟩ := Kd.R_celln 0 HO_5.out ((ji23) : Int) p26 q26
                replace p26 := eq_true p26
                replace q26 := eq_true q26
                have HP28 := Kd.R_putg HO_5.out ((ji23) : Int) (Int.tmod (wrap64 (x8_2 + (rd x5_2 (ji23)))) 10000)
                go_wp2_with (first | ((with_reducible refine gate_store (t := 3) (p := 61) rfl ?_); refine store_event (t := 3) (p := 61) (v := ?vo_w29) (w1 := (wc.setCell ⟨go26, ((ji23) : Int).toNat, none⟩ (.int .i64 (Int.tmod (wrap64 (x8_2 + (rd x5_2 (ji23)))) 10000)))) ?hg ?ho ?hn ?hr ?_; (case ho => rfl); (case hg => rfl); (case hn => rfl); (case hr => first | (go_simp; done) | (go_simp; rfl)); intro w29 hw; have hg : wc.grownBy w29 (some go26) := (by rw [hw]; exact HP28.2); have hp_ : Kd.R (Kd.int .i64) 3 w29 w.heap.size (fun _ => True) (.slice (some ⟨go26, 0, none⟩) x5_2.length co27) yB4 := (by rw [hw, NyB4.out]; exact HP28.1); clear HP28; replace HO_5 := Aside0.mk (hp_); replace HB := Aside0.mk ((by rw [hw]; exact below_set (HB.out) GB26.out : Below w.heap.size w w29)); clear hg hw hp_))
                go_roundg kj10
                case measure => have := HK1.out; have := HK2.out; have := HJ10.out; omega
                case rel => exact ⟨(yB4), (wrap64 (Int.tdiv (wrap64 (x8_2 + (rd x5_2 (ji23)))) 10000)), (wrap64 (x9_2 + 1)), (by first | rfl | (simp; done) | (simp only [← hji23] <;> (first | rfl | simp)) | (simp [*]; done)), rs_, H', ⟨by have := HK1.out; have := HK2.out; have := HJ10.out; omega⟩, ⟨crR HO_5⟩, ⟨blw HB⟩⟩
               ·
                rw [if_neg c25] at H
                exact absurd H (by simp)
              ·
               rw [if_neg c24] at H
               exact absurd H (by simp)
            ·
             replace c13 := Bool.eq_false_iff.mpr c13
             subst c13
             rw [if_neg (show ¬ (false = true) by decide)] at H
             have H' := Aside0.mk H
             clear H
             go_wp2
             go_roundg kj10
             case measure => have := HK1.out; have := HK2.out; have := HJ10.out; omega
             case rel => exact ⟨(x5_2), (wrap64 (x18_1 + 1)), rs_, H', ⟨by have := HK1.out; have := HK2.out; have := HJ10.out; omega⟩, ⟨crR HO_5⟩, ⟨blw HB⟩⟩
       ·
        rw [if_neg c10] at H
        exact absurd H (by simp)
      ·
       rw [if_neg c9] at H
       exact absurd H (by simp)
     ·
      rw [if_neg c8] at H
      have c8b0 : decide (x18_1 < (l0.length : Int)) = false := decide_eq_false c8
      clear c8
      replace H := Option.bind_eq_some_iff.mp H
      obtain ⟨tB5, AC1, H⟩ := H
      replace H : (some tB5) = some r := H
      have A30 := Aside0.mk AC1
      clear AC1
      obtain rfl := Option.some.inj H
      obtain ⟨Ao31, co31, eo31⟩ := Kd.R_slice HO_5.out
      subst eo31
      go_wp2_with (first | ((with_reducible refine gate_callee (f := 108) rfl ?_); refine gL_ (some 64) Try.func108 #[.slice Ao31 x5_1.length co31] ?_; (with_reducible refine (impl_trimmed.calls k1 (fun k_ => some k_ = (.slice Ao31 x5_1.length co31 : Value).ownBlock) (.slice Ao31 x5_1.length co31) x5_1 tB5 w _ ?side1 ?side2 A30.out).mono ?_); (case side1 => repeat (first | (with_reducible first | exact HB.out | apply below_alloc | apply pw_below_drewN | apply below_drew1) | exact HB.out)); (case side2 => exact Kd.R_tight rfl HO_5.out); rintro e w32 ⟨vC4, rfl, ho0, hb, hkp⟩; refine ⟨_, rfl, ?_⟩; have HOC3 := Aside0.mk (Kd.R_mono (ok' := fun k_ => True) ho0 (fun k_ hk_ => trivial)); replace HB := Aside0.mk (hb); clear HO_5; (try clear hb); (try clear hkp); (try clear ho0)))
      go_ret
      exact ⟨_, by first | rfl | (simp [errW_none, errW_some] <;> rfl) | (simp only [← hji3]; first | rfl | (simp [errW_none, errW_some] <;> rfl)) | (simp [*, errW_none, errW_some] <;> rfl), by (with_reducible repeat (first | apply Kd.R_alloc | apply Kd.R_drewN | apply Kd.R_drew)); exact HOC3.out, blw HB⟩
  ·
   rw [if_neg c5] at H
   exact absurd H (by simp)
 ·
  rw [if_neg c4] at H
  exact absurd H (by simp)

end Go.Proofs.Ytacdaijalkkogaa.Q
