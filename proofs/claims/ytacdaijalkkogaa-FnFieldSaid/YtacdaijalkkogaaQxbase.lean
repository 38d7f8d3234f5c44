-- written by a program of this claim's session (myprint.py) out of the translation; Lean checks it.
import Derived.Test.YtacdaijalkkogaaQx0
import Derived.Test.YtacdaijalkkogaaWords
namespace Go.Proofs.Ytacdaijalkkogaa.Q
open Go.RowKit Go.Proofs.YtacdaijalkkogaaW.PrintWords Go.Proofs.YtacdaijalkkogaaW.PrintLast Go.Proofs.YtacdaijalkkogaaW.PrintMore
attribute [local go_sem] max2_int min2_int max_two min_two max_three min_three max_four min_four   -- for this text's walks alone
set_option linter.unusedVariables false
set_option linter.unusedSimpArgs false

def badLimb (x : Int) : Bool := decide (x < 0) || decide (10000 ≤ x)
def natOKB (l : List Int) : Bool := decide (l.length ≤ 40) && (decide (l.length = 0) || !decide (l[l.length - 1]?.getD 0 = 0)) && l.all (fun x => !badLimb x)
theorem natOK_test (x : Int) (w : World) : Calls Try.prog 98 #[.int .i64 x] w fun e w' => e = .returned (.bool (badLimb x)) ∧ w = w' := by
 by_cases h1 : x < 0
 ·
  go_enter Try.func98, Try.ntmps98
  go_wp2
  go_ret
  exact ⟨by simp [badLimb, h1], rfl⟩
 ·
  by_cases h2 : 10000 ≤ x
  ·
   go_enter Try.func98, Try.ntmps98
   go_wp2
   go_ret
   exact ⟨by simp [badLimb, h2], rfl⟩
  ·
   go_enter Try.func98, Try.ntmps98
   go_wp2
   go_ret
   exact ⟨by simp [badLimb, h1, h2], rfl⟩
def IdxBad (l : List Int) (w : World) (e : Ending) (w' : World) : Prop := ∃ r : Int, e = .returned (.int .i64 r) ∧ (decide (0 ≤ r)) = l.any badLimb ∧ w = w'
theorem any_bad_take {l : List Int} {k : Nat} (hk : k < l.length) (h : ∀ j, j < k → badLimb (l[j]?.getD 0) = false) (hb : badLimb (l[k]?.getD 0) = true) : l.any badLimb = true := by
 rw [List.any_eq_true]
 refine ⟨l[k], List.getElem_mem hk, ?_⟩
 simpa [hk] using hb
theorem any_bad_none {l : List Int} (h : ∀ j, j < l.length → badLimb (l[j]?.getD 0) = false) : l.any badLimb = false := by
 rw [List.any_eq_false]
 intro x hx
 obtain ⟨j, hj, rfl⟩ := List.getElem_of_mem hx
 have := h j hj
 simpa [hj] using this
set_option maxHeartbeats 1000000 in
theorem natOK_index (A0 : Option Addr) (n c0 : Nat) (l : List Int) (w : World) (hn : n = l.length) (hlen : n ≤ 9223372036854775807) (hr : 0 < n → ∃ ad, A0 = some ad ∧ ∀ j, j < n → w.cell? (ad.add j) = some (.int .i64 (l[j]?.getD 0))) :
  Calls Try.prog 117 #[.slice A0 n c0, .func (.func 98) #[] #[]] w (IdxBad l w) := by
 have HN := Lib.hid hn
 clear hn
 rcases Nat.eq_zero_or_pos n with h0 | h0
 ·
  have HR := Lib.hid hr
  clear hr
  subst h0
  go_enter Try.func117, Try.ntmps117
  go_wp2
  go_loop [8] (fun i => i = .int .i64 0) (fun _ => 0)
  case atStart => rfl
  case round =>
   obtain rfl := hrel
   go_wp2
   go_ret
   refine ⟨-1, rfl, ?_, rfl⟩
   rw [any_bad_none (fun j hj => by have := HN.out; omega)]
   decide
 ·
  obtain ⟨ad, rfl, hc⟩ := hr h0
  have HC := Lib.hid hc
  clear hr hc
  go_enter Try.func117, Try.ntmps117
  go_wp2
  go_loop [8] (fun i => ∃ k : Nat, k ≤ n ∧ i = .int .i64 k ∧ Hid (∀ j, j < k → badLimb (l[j]?.getD 0) = false)) (fun i => n - (intOf i).toNat)
  case atStart => exact ⟨0, Nat.zero_le _, rfl, Lib.hid (fun j hj => by omega)⟩
  case round =>
   obtain ⟨k, hk, rfl, HK⟩ := hrel
   by_cases hlt : k < n
   ·
    have hcell : w.cell? (ad.add k) = some (.int .i64 (l[k]?.getD 0)) := HC.out k hlt
    cases hb : badLimb (l[k]?.getD 0) with
    | true =>
     have HB := Lib.hid hb
     clear hb
     go_wp2_with (go_at_call 98; refine (natOK_test _ _).mono ?_; rintro e w' ⟨rfl, rfl⟩; rw [HB.out])
     go_ret
     refine ⟨k, rfl, ?_, rfl⟩
     rw [any_bad_take (by have := HN.out; omega) HK.out HB.out]
     simp
    | false =>
     have HB := Lib.hid hb
     clear hb
     go_wp2_with (go_at_call 98; refine (natOK_test _ _).mono ?_; rintro e w' ⟨rfl, rfl⟩; rw [HB.out])
     go_round
     case rel => exact ⟨k + 1, by omega, by go_num, Lib.hid (fun j hj => by
      by_cases e : j = k
      ·
       subst e; exact HB.out
      ·
       exact HK.out j (by omega))⟩
     case measure => simp [intOf]; omega
   ·
    obtain rfl : k = n := by omega
    go_wp2
    go_ret
    refine ⟨-1, rfl, ?_, rfl⟩
    rw [any_bad_none (fun j hj => HK.out j (by have := HN.out; omega))]
    decide
theorem natOK_contains (A0 : Option Addr) (n c0 : Nat) (l : List Int) (w : World) (hn : n = l.length) (hlen : n ≤ 9223372036854775807) (hr : 0 < n → ∃ ad, A0 = some ad ∧ ∀ j, j < n → w.cell? (ad.add j) = some (.int .i64 (l[j]?.getD 0))) :
  Calls Try.prog 97 #[.slice A0 n c0, .func (.func 98) #[] #[]] w fun e w' => e = .returned (.bool (l.any badLimb)) ∧ w = w' := by
 have hC := natOK_index A0 n c0 l w hn hlen hr
 have HC := Lib.hid hC
 clear hC hn hr
 go_enter Try.func97, Try.ntmps97
 go_wp2_with (go_at_call 117; refine HC.out.mono ?_; rintro e w' ⟨r, rfl, hd, rfl⟩)
 go_ret
 exact ⟨by rw [← hd]; rfl, rfl⟩
theorem natOKB_zero {l : List Int} {m : Nat} (hm : m + 1 = l.length) (hz : l[m]?.getD 0 = 0) : natOKB l = false := by
 unfold natOKB
 have h0 : decide (l.length = 0) = false := decide_eq_false (by omega)
 rw [show l.length - 1 = m by omega, hz, h0]
 simp
theorem natOK_row {w : World} {A0 : Option Addr} {l : List Int} (h : Kd.C (Kd.int .i64) w A0 l.length l) : l.length ≤ 9223372036854775807 ∧ (0 < l.length → ∃ ad, A0 = some ad ∧ ∀ j, j < l.length → w.cell? (ad.add j) = some (.int .i64 (l[j]?.getD 0))) := by
 refine ⟨h.2.1, fun hn => ?_⟩
 obtain ⟨ad, e, hc⟩ := h.2.2 hn
 refine ⟨ad, e, fun j hj => ?_⟩
 obtain ⟨c, hs, hr, hcell⟩ := hc j l[j] (List.getElem?_eq_getElem hj)
 have hr' : c = [.int .i64 l[j]] := hr
 subst hr'
 have := hcell 0 _ rfl
 rw [show j * (Kd.int IntKind.i64).sz + 0 = j from Nat.mul_one j] at this
 simpa [hj] using this
set_option maxHeartbeats 1000000 in
theorem natOK_any (A0 : Option Addr) (n c0 : Nat) (l : List Int) (w : World) (hn : n = l.length) (hlen : n ≤ 9223372036854775807) (hr : 0 < n → ∃ ad, A0 = some ad ∧ ∀ j, j < n → w.cell? (ad.add j) = some (.int .i64 (l[j]?.getD 0))) :
  Calls Try.prog 58 #[.slice A0 n c0] w fun e w' => e = .returned (.bool (natOKB l)) ∧ w = w' := by
 have hC := natOK_contains A0 n c0 l w hn hlen hr
 have HC := Lib.hid hC
 have HN := Lib.hid hn
 have HR := Lib.hid hr
 clear hC hn hr
 by_cases h1 : 40 < n
 ·
  go_enter Try.func58, Try.ntmps58
  go_wp2
  go_ret
  exact ⟨by have := HN.out; congr 2; simp [natOKB]; omega, rfl⟩
 ·
  rcases Nat.eq_zero_or_pos n with h0 | h0
  ·
   subst h0
   go_enter Try.func58, Try.ntmps58
   go_wp2_with (go_at_call 97; refine HC.out.mono ?_; rintro e w' ⟨rfl, rfl⟩)
   go_ret
   exact ⟨by have := HN.out; obtain rfl : l = [] := List.length_eq_zero_iff.1 this.symm; rfl, rfl⟩
  ·
   obtain ⟨ad, rfl, hc⟩ := HR.out h0
   obtain ⟨m, rfl⟩ : ∃ m, n = m + 1 := ⟨n - 1, by omega⟩
   have hcell := hc m (by omega)
   clear hc
   by_cases hz : l[m]?.getD 0 = 0
   ·
    rw [hz] at hcell
    go_enter Try.func58, Try.ntmps58
    go_wp2
    go_ret
    exact ⟨by rw [natOKB_zero HN.out hz]; rfl, rfl⟩
   ·
    obtain ⟨z, hz'⟩ : ∃ z, l[m]?.getD 0 = z := ⟨_, rfl⟩
    rw [hz'] at hcell hz
    have hz1 : (z == 0) = false := by simpa using hz
    have HZ := Lib.hid hz'
    clear hz'
    go_enter Try.func58, Try.ntmps58
    go_wp2_with (go_at_call 97; refine HC.out.mono ?_; rintro e w' ⟨rfl, rfl⟩)
    go_ret
    exact ⟨by
     have hm := HN.out
     congr 2
     have e1 : natOKB l = l.all (fun x => !badLimb x) := by
      unfold natOKB
      rw [← hm, Nat.add_sub_cancel, HZ.out]
      simp [hz]; omega
     rw [e1, List.all_eq_not_any_not]; simp, rfl⟩
def impl_NatOK.f (l0 : List Int) : Option (Bool) := some (natOKB l0)
theorem impl_NatOK.calls (A0 : Option Addr) (c0 : Nat) (l0 : List Int) (r : Bool) (w : World) (hr0 : Kd.C (Kd.int .i64) w A0 l0.length l0) (hc0 : l0.length ≤ c0) (h : impl_NatOK.f l0 = some r) :
  Calls Try.prog 58 #[.slice A0 l0.length c0] w fun e w' => e = .returned (.bool r) ∧ Drawn0 w w' := by
 obtain rfl := Option.some.inj h
 obtain ⟨h1, h2⟩ := natOK_row hr0
 refine (natOK_any A0 _ c0 l0 w rfl h1 h2).mono ?_
 rintro e w' ⟨rfl, rfl⟩
 exact ⟨rfl, Drawn0.refl _⟩

def spec_l01In.f (a0 : Int) (a1 : Int) (a2 : Int) : Option (Bool) := if a1 ≤ a0 then (some (decide (a0 ≤ a2))) else (some false)
set_option maxHeartbeats 8000000 in
set_option maxRecDepth 100000 in
theorem spec_l01In.calls (a0 : Int) (a1 : Int) (a2 : Int) (r : Bool) (w : World) (h : spec_l01In.f a0 a1 a2 = some r) :
  Calls Try.prog 45 #[.int .i64 a0, .int .i64 a1, .int .i64 a2] w fun e w' => e = .returned (.bool r) ∧ Drawn0 w w' := by
 have H : (if a1 ≤ a0 then (some (decide (a0 ≤ a2))) else (some false)) = some r := h
 clear h
 by_cases c4 : a1 ≤ a0
 ·
  rw [if_pos c4] at H
  have c4b0 : decide (a1 ≤ a0) = true := decide_eq_true c4
  clear c4
  obtain rfl := Option.some.inj H
  go_enter Try.func45, Try.ntmps45
  go_wp2
  go_ret
  exact ⟨by first | rfl | (simp; done) | (simp [*]; done), by repeat (first | exact Drawn0.refl _ | apply Drawn0.step)⟩
 ·
  rw [if_neg c4] at H
  have c4b0 : decide (a1 ≤ a0) = false := decide_eq_false c4
  clear c4
  obtain rfl := Option.some.inj H
  go_enter Try.func45, Try.ntmps45
  go_wp2
  go_ret
  exact ⟨by first | rfl | (simp; done) | (simp [*]; done), by repeat (first | exact Drawn0.refl _ | apply Drawn0.step)⟩

def spec_NatOK.l0 : Nat → List Int → Int → Option (Bool)
 | 0, _, _ => none
 | k + 1, x0, x3 => if x3 < (x0.length : Int) then (if 0 ≤ x3 then ((spec_l01In.f (rd x0 x3) 0 9999).bind fun tA2 => (if tA2 = true then (spec_NatOK.l0 k x0 (wrap64 (x3 + 1))) else (some false))) else (none)) else (if (x0.length : Int) ≤ 40 then (if (x0.length : Int) = 0 then (some true) else (if 0 ≤ (wrap64 ((x0.length : Int) - 1)) then (if (wrap64 ((x0.length : Int) - 1)) < (x0.length : Int) then (some (decide ((rd x0 (wrap64 ((x0.length : Int) - 1))) > 0))) else (none)) else (none))) else (some false))
def spec_NatOK.f (k : Nat) (l0 : List Int) : Option (Bool) := if (l0.length : Int) > 4096 then (some false) else (spec_NatOK.l0 k l0 0)
theorem spec_NatOK.mono_l : ∀ k, (∀ y0 y1, LeO (spec_NatOK.l0 k y0 y1) (spec_NatOK.l0 (k + 1) y0 y1))
 | 0 => fun _ _ r h => by simp [spec_NatOK.l0] at h
 | k + 1 => by
  have ih0 := spec_NatOK.mono_l k
  ·
   intro y0 y1
   unfold spec_NatOK.l0
   repeat' first
   | (with_reducible exact ih0 _ _)
   | (with_reducible exact LeO.refl _)
   | (with_reducible exact LeO.none _)
   | (with_reducible refine LeO.ite ?_ ?_)
   | (with_reducible refine LeO.bind ?_ (fun _ => ?_))
   | exact ih0 _ _
   | exact LeO.none _
   | refine LeO.ite ?_ ?_
   | refine LeO.bind ?_ (fun _ => ?_)
theorem spec_NatOK.mono : ∀ a0 k, LeO (spec_NatOK.f k a0) (spec_NatOK.f (k + 1) a0) := by
 intro a0 k
 have ih0 := spec_NatOK.mono_l k
 unfold spec_NatOK.f
 repeat' first
   | (with_reducible exact ih0 _ _)
   | (with_reducible exact LeO.refl _)
   | (with_reducible exact LeO.none _)
   | (with_reducible refine LeO.ite ?_ ?_)
   | (with_reducible refine LeO.bind ?_ (fun _ => ?_))
   | exact ih0 _ _
   | exact LeO.none _
   | refine LeO.ite ?_ ?_
   | refine LeO.bind ?_ (fun _ => ?_)
set_option maxHeartbeats 8000000 in
set_option maxRecDepth 100000 in
theorem spec_NatOK.calls (k : Nat) (A0 : Option Addr) (c0 : Nat) (l0 : List Int) (r : Bool) (w : World) (hr0 : Kd.C (Kd.int .i64) w A0 l0.length l0) (hc0 : l0.length ≤ c0) (h : spec_NatOK.f k l0 = some r) :
  Calls Try.prog 54 #[.slice A0 l0.length c0] w fun e w' => e = .returned (.bool r) ∧ Drawn0 w w' := by
 have HR0 := Aside0.mk hr0
 have HC0 := Aside0.mk hc0
 clear hr0 hc0
 have H : (if (l0.length : Int) > 4096 then (some false) else (spec_NatOK.l0 k l0 0)) = some r := h
 clear h
 by_cases c2 : (l0.length : Int) > 4096
 ·
  rw [if_pos c2] at H
  have c2b0 : decide (4096 < (l0.length : Int)) = true := decide_eq_true c2
  have c2b1 : decide (4096 < l0.length) = true := decide_eq_true (by omega)
  clear c2
  obtain rfl := Option.some.inj H
  go_enter Try.func54, Try.ntmps54
  go_wp2
  go_ret
  exact ⟨by first | rfl | (simp; done) | (simp [*]; done), by repeat (first | exact Drawn0.refl _ | apply Drawn0.step)⟩
 ·
  rw [if_neg c2] at H
  have c2b0 : decide (4096 < (l0.length : Int)) = false := decide_eq_false c2
  have c2b1 : decide (4096 < l0.length) = false := decide_eq_false (by omega)
  clear c2
  have H' := Aside0.mk H
  clear H
  go_enter Try.func54, Try.ntmps54
  go_wp2
  go_loopg [3] k (fun kq v3 w' => ∃ (x3_1 : Int), v3 = .int .i64 x3_1 ∧ Aside0 (spec_NatOK.l0 kq l0 x3_1 = some r) ∧ Aside0 (kq ≤ k) ∧ Drawn0 w w')
  case atStart => exact ⟨(0), rs_, H', ⟨Nat.le_refl _⟩, by repeat (first | exact Drawn0.refl _ | apply Drawn0.step)⟩
  case round =>
   clear H'
   try clear c2
   try clear c2b0
   try clear c2b1
   try clear p2
   obtain ⟨x3_1, rfl, HA, HK1, ⟨m1, rfl⟩⟩ := hrel
   cases gk with
   | zero => exact absurd HA.out (by simp [spec_NatOK.l0])
   | succ k1 =>
    have H := HA.out
    clear HA
    simp only [spec_NatOK.l0] at H
    by_cases c3 : x3_1 < (l0.length : Int)
    ·
     rw [if_pos c3] at H
     have c3b0 : decide (x3_1 < (l0.length : Int)) = true := decide_eq_true c3
     clear c3
     by_cases c4 : 0 ≤ x3_1
     ·
      rw [if_pos c4] at H
      have c4b0 : decide (0 ≤ x3_1) = true := decide_eq_true c4
      clear c4
      replace H := Option.bind_eq_some_iff.mp H
      obtain ⟨tA2, A50, H⟩ := H
      replace H : (if tA2 = true then (spec_NatOK.l0 k1 l0 (wrap64 (x3_1 + 1))) else (some false)) = some r := H
      have A5 := Aside0.mk A50
      clear A50
      by_cases c6 : tA2 = true
      ·
       subst c6
       have H1 : (spec_NatOK.l0 k1 l0 (wrap64 (x3_1 + 1))) = some r := by rw [if_pos rfl] at H; exact H
       clear H
       have H := H1
       clear H1
       have H' := Aside0.mk H
       clear H
       have pA0 : 0 ≤ (x3_1 : Int) := of_decide_eq_true (by first | (with_reducible assumption) | assumption)
       have qA0 : x3_1 < (l0.length : Int) := of_decide_eq_true (by first | (with_reducible assumption) | assumption)
       obtain ⟨adA0, eA0, hxA0_0⟩ := Kd.at_int HR0.out x3_1 pA0 qA0
       cases eA0
       replace pA0 := eq_true pA0
       replace qA0 := eq_true qA0
       go_wp2_with (first | ((with_reducible refine gate_callee (f := 45) rfl ?_); refine gL_ (some 17) Try.func45 #[.int .i64 (rd l0 x3_1), .int .i64 0, .int .i64 9999] ?_; (with_reducible refine (spec_l01In.calls (rd l0 x3_1) 0 9999 true _ A5.out).mono ?_); rintro e w' ⟨rfl, ⟨nd, rfl⟩⟩; refine ⟨_, rfl, ?_⟩))
       go_roundg k1
       case measure => have := HK1.out; omega
       case rel => exact ⟨(wrap64 (x3_1 + 1)), rs_, H', ⟨by have := HK1.out; omega⟩, by repeat (first | exact Drawn0.refl _ | apply Drawn0.step)⟩
      ·
       replace c6 := Bool.eq_false_iff.mpr c6
       subst c6
       have H1 : (some false) = some r := by rw [if_neg (show ¬ (false = true) by decide)] at H; exact H
       clear H
       have H := H1
       clear H1
       obtain rfl := Option.some.inj H
       have pA0 : 0 ≤ (x3_1 : Int) := of_decide_eq_true (by first | (with_reducible assumption) | assumption)
       have qA0 : x3_1 < (l0.length : Int) := of_decide_eq_true (by first | (with_reducible assumption) | assumption)
       obtain ⟨adA0, eA0, hxA0_0⟩ := Kd.at_int HR0.out x3_1 pA0 qA0
       cases eA0
       replace pA0 := eq_true pA0
       replace qA0 := eq_true qA0
       go_wp2_with (first | ((with_reducible refine gate_callee (f := 45) rfl ?_); refine gL_ (some 17) Try.func45 #[.int .i64 (rd l0 x3_1), .int .i64 0, .int .i64 9999] ?_; (with_reducible refine (spec_l01In.calls (rd l0 x3_1) 0 9999 false _ A5.out).mono ?_); rintro e w' ⟨rfl, ⟨nd, rfl⟩⟩; refine ⟨_, rfl, ?_⟩))
       go_ret
       exact ⟨by first | rfl | (simp; done) | (simp [*]; done), by repeat (first | exact Drawn0.refl _ | apply Drawn0.step)⟩
     ·
      rw [if_neg c4] at H
      exact absurd H (by simp)
    ·
     rw [if_neg c3] at H
     have c3b0 : decide (x3_1 < (l0.length : Int)) = false := decide_eq_false c3
     clear c3
     by_cases c7 : (l0.length : Int) ≤ 40
     ·
      rw [if_pos c7] at H
      have c7b0 : decide ((l0.length : Int) ≤ 40) = true := decide_eq_true c7
      have c7b1 : decide (l0.length ≤ 40) = true := decide_eq_true (by omega)
      clear c7
      by_cases c8 : (l0.length : Int) = 0
      ·
       rw [if_pos c8] at H
       have c8b0 : ((l0.length : Int) == 0) = true := beq_iff_eq.mpr c8
       have c8b1 : ((l0.length : Int) != 0) = false := bne_eq_false_iff_eq.mpr c8
       clear c8
       obtain rfl := Option.some.inj H
       go_wp2
       go_ret
       exact ⟨by first | rfl | (simp; done) | (simp [*]; done), by repeat (first | exact Drawn0.refl _ | apply Drawn0.step)⟩
      ·
       rw [if_neg c8] at H
       have c8b0 : ((l0.length : Int) == 0) = false := beq_eq_false_iff_ne.mpr c8
       have c8b1 : ((l0.length : Int) != 0) = true := bne_iff_ne.mpr c8
       have c8b2 : ¬ (l0 = []) := fun h_ => c8 (by rw [h_]; rfl)
       obtain ⟨ji9, hji9⟩ : ∃ j_ : Int, (wrap64 ((l0.length : Int) - 1)) = j_ := ⟨_, rfl⟩
       replace H : (if 0 ≤ (ji9) then (if (ji9) < (l0.length : Int) then (some (decide ((rd l0 (ji9)) > 0))) else (none)) else (none)) = some r := by first | (rw [hji9] at H; exact H) | (simp only [hji9] at H ⊢; exact H)
       have hji9w : (IntKind.i64.wrap ((l0.length : Int) - 1)) = ji9 := (i64_w _).trans hji9
       by_cases c10 : 0 ≤ (ji9)
       ·
        rw [if_pos c10] at H
        have c10b0 : decide (0 ≤ (ji9)) = true := decide_eq_true c10
        clear c10
        by_cases c11 : (ji9) < (l0.length : Int)
        ·
         rw [if_pos c11] at H
         have c11b0 : decide ((ji9) < (l0.length : Int)) = true := decide_eq_true c11
         clear c11
         obtain rfl := Option.some.inj H
         have pA1 : 0 ≤ ((ji9) : Int) := of_decide_eq_true (by first | (with_reducible assumption) | assumption)
         have qA1 : (ji9) < (l0.length : Int) := of_decide_eq_true (by first | (with_reducible assumption) | assumption)
         obtain ⟨adA1, eA1, hxA1_0⟩ := Kd.at_int HR0.out (ji9) pA1 qA1
         cases eA1
         replace pA1 := eq_true pA1
         replace qA1 := eq_true qA1
         go_wp2
         go_ret
         exact ⟨by first | rfl | (simp; done) | (simp only [← hji9] <;> (first | rfl | simp)) | (simp [*]; done), by repeat (first | exact Drawn0.refl _ | apply Drawn0.step)⟩
        ·
         rw [if_neg c11] at H
         exact absurd H (by simp)
       ·
        rw [if_neg c10] at H
        exact absurd H (by simp)
     ·
      rw [if_neg c7] at H
      have c7b0 : decide ((l0.length : Int) ≤ 40) = false := decide_eq_false c7
      have c7b1 : decide (l0.length ≤ 40) = false := decide_eq_false (by omega)
      clear c7
      obtain rfl := Option.some.inj H
      go_wp2
      go_ret
      exact ⟨by first | rfl | (simp; done) | (simp [*]; done), by repeat (first | exact Drawn0.refl _ | apply Drawn0.step)⟩

end Go.Proofs.Ytacdaijalkkogaa.Q
