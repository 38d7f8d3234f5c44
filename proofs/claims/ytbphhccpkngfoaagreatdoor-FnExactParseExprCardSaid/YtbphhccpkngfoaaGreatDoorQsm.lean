-- several texts of this claim in one
import Derived.Test.YtbphhccpkngfoaaGreatDoorQx0
import Derived.Test.YtbphhccpkngfoaaGreatDoorWords
namespace Go.Proofs.YtbphhccpkngfoaaGreatDoor.Q
open Go.RowKit Go.Proofs.YtbphhccpkngfoaaGreatDoorW.PrintWords Go.Proofs.YtbphhccpkngfoaaGreatDoorW.PrintLast Go.Proofs.YtbphhccpkngfoaaGreatDoorW.PrintMore
attribute [local go_sem] max2_int min2_int max_two min_two max_three min_three max_four min_four   -- for this text's walks alone
set_option linter.unusedVariables false
set_option linter.unusedSimpArgs false
def impl_first.l0 : Nat → List Int → Int → Int → Option (Int)
 | 0, _, _, _ => none
 | k + 1, x5, x6, x7 => if x7 < x6 then (if 0 ≤ x7 then (if x7 < (x5.length : Int) then (if (rd x5 x7) = 0 then (impl_first.l0 k x5 x6 (wrap64 (x7 + 1))) else (some (rd x5 x7))) else (none)) else (none)) else (some 0)
def impl_first.f (k : Nat) (l0 : List Int) : Option (Int) := impl_first.l0 k l0 (l0.length : Int) 0
set_option maxHeartbeats 8000000 in
set_option maxRecDepth 100000 in
theorem impl_first.calls (k : Nat) (A0 : Option Addr) (c0 : Nat) (l0 : List Int) (r : Int) (w : World) (hr0 : Kd.C (Kd.int .i64) w A0 l0.length l0) (hc0 : l0.length ≤ c0) (h : impl_first.f k l0 = some r) :
  Calls Tryz.prog 21 #[.slice A0 l0.length c0] w fun e w' => e = .returned (.int .i64 r) ∧ Drawn0 w w' := by
 have HR0 := Aside0.mk hr0
 have HC0 := Aside0.mk hc0
 clear hr0 hc0
 have H : (impl_first.l0 k l0 (l0.length : Int) 0) = some r := h
 clear h
 have H' := Aside0.mk H
 clear H
 go_enter Tryz.func21, Tryz.ntmps21
 go_wp2
 go_loopg [7] k (fun kq v7 w' => ∃ (x7_1 : Int), v7 = .int .i64 x7_1 ∧ Aside0 (impl_first.l0 kq l0 (l0.length : Int) x7_1 = some r) ∧ Aside0 (kq ≤ k) ∧ Drawn0 w w')
 case atStart => exact ⟨(0), rs_, H', ⟨Nat.le_refl _⟩, by repeat (first | exact Drawn0.refl _ | apply Drawn0.step)⟩
 case round =>
  clear H'
  obtain ⟨x7_1, rfl, HA, HK1, ⟨m1, rfl⟩⟩ := hrel
  cases gk with
  | zero => exact absurd HA.out (by simp [impl_first.l0])
  | succ k1 =>
   have H := HA.out
   clear HA
   simp only [impl_first.l0] at H
   by_cases c2 : x7_1 < (l0.length : Int)
   ·
    rw [if_pos c2] at H
    have c2b0 : decide (x7_1 < (l0.length : Int)) = true := decide_eq_true c2
    clear c2
    by_cases c3 : 0 ≤ x7_1
    ·
     rw [if_pos c3] at H
     have c3b0 : decide (0 ≤ x7_1) = true := decide_eq_true c3
     clear c3
     by_cases c4 : x7_1 < (l0.length : Int)
     ·
      rw [if_pos c4] at H
      have c4b0 : decide (x7_1 < (l0.length : Int)) = true := decide_eq_true c4
      clear c4
      by_cases c5 : (rd l0 x7_1) = 0
      ·
       rw [if_pos c5] at H
       have c5b0 : ((rd l0 x7_1) == 0) = true := beq_iff_eq.mpr c5
       have c5b1 : ((rd l0 x7_1) != 0) = false := bne_eq_false_iff_eq.mpr c5
       clear c5
       have H' := Aside0.mk H
       clear H
       have pA0 : 0 ≤ (x7_1 : Int) := of_decide_eq_true (by first | (with_reducible assumption) | assumption)
       have qA0 : x7_1 < (l0.length : Int) := of_decide_eq_true (by first | (with_reducible assumption) | assumption)
       obtain ⟨adA0, eA0, hxA0_0⟩ := Kd.at_int HR0.out x7_1 pA0 qA0
       cases eA0
       replace pA0 := eq_true pA0
       replace qA0 := eq_true qA0
       go_wp2
       go_roundg k1
       case measure => have := HK1.out; omega
       case rel => exact ⟨(wrap64 (x7_1 + 1)), rs_, H', ⟨by have := HK1.out; omega⟩, by repeat (first | exact Drawn0.refl _ | apply Drawn0.step)⟩
      ·
       rw [if_neg c5] at H
       have c5b0 : ((rd l0 x7_1) == 0) = false := beq_eq_false_iff_ne.mpr c5
       have c5b1 : ((rd l0 x7_1) != 0) = true := bne_iff_ne.mpr c5
       obtain rfl := Option.some.inj H
       have pA0 : 0 ≤ (x7_1 : Int) := of_decide_eq_true (by first | (with_reducible assumption) | assumption)
       have qA0 : x7_1 < (l0.length : Int) := of_decide_eq_true (by first | (with_reducible assumption) | assumption)
       obtain ⟨adA0, eA0, hxA0_0⟩ := Kd.at_int HR0.out x7_1 pA0 qA0
       cases eA0
       replace pA0 := eq_true pA0
       replace qA0 := eq_true qA0
       go_wp2
       go_ret
       exact ⟨by first | rfl | (simp; done) | (simp [*]; done), by repeat (first | exact Drawn0.refl _ | apply Drawn0.step)⟩
     ·
      rw [if_neg c4] at H
      exact absurd H (by simp)
    ·
     rw [if_neg c3] at H
     exact absurd H (by simp)
   ·
    rw [if_neg c2] at H
    have c2b0 : decide (x7_1 < (l0.length : Int)) = false := decide_eq_false c2
    clear c2
    obtain rfl := Option.some.inj H
    go_wp2
    go_ret
    exact ⟨by first | rfl | (simp; done) | (simp [*]; done), by repeat (first | exact Drawn0.refl _ | apply Drawn0.step)⟩

def impl_unless.f (a0 : Bool) (a1 : Int) : Option (Int) := if a0 = true then (some 0) else (some a1)
set_option maxHeartbeats 8000000 in
set_option maxRecDepth 100000 in
theorem impl_unless.calls (a0 : Bool) (a1 : Int) (r : Int) (w : World) (h : impl_unless.f a0 a1 = some r) :
  Calls Tryz.prog 22 #[.bool a0, .int .i64 a1] w fun e w' => e = .returned (.int .i64 r) ∧ Drawn0 w w' := by
 have H : (if a0 = true then (some 0) else (some a1)) = some r := h
 clear h
 by_cases c3 : a0 = true
 ·
  subst c3
  rw [if_pos rfl] at H
  obtain rfl := Option.some.inj H
  go_enter Tryz.func22, Tryz.ntmps22
  go_wp2
  go_ret
  exact ⟨by first | rfl | (simp; done) | (simp [*]; done), by repeat (first | exact Drawn0.refl _ | apply Drawn0.step)⟩
 ·
  replace c3 := Bool.eq_false_iff.mpr c3
  subst c3
  rw [if_neg (show ¬ (false = true) by decide)] at H
  obtain rfl := Option.some.inj H
  go_enter Tryz.func22, Tryz.ntmps22
  go_wp2
  go_ret
  exact ⟨by first | rfl | (simp; done) | (simp [*]; done), by repeat (first | exact Drawn0.refl _ | apply Drawn0.step)⟩

def spec_l01Bit.f (a0 : Bool) : Option (Int) := if a0 = true then (some 1) else (some 0)
set_option maxHeartbeats 8000000 in
set_option maxRecDepth 100000 in
theorem spec_l01Bit.calls (a0 : Bool) (r : Int) (w : World) (h : spec_l01Bit.f a0 = some r) :
  Calls Tryz.prog 28 #[.bool a0] w fun e w' => e = .returned (.int .i64 r) ∧ Drawn0 w w' := by
 have H : (if a0 = true then (some 1) else (some 0)) = some r := h
 clear h
 by_cases c2 : a0 = true
 ·
  subst c2
  rw [if_pos rfl] at H
  obtain rfl := Option.some.inj H
  go_enter Tryz.func28, Tryz.ntmps28
  go_wp2
  go_ret
  exact ⟨by first | rfl | (simp; done) | (simp [*]; done), by repeat (first | exact Drawn0.refl _ | apply Drawn0.step)⟩
 ·
  replace c2 := Bool.eq_false_iff.mpr c2
  subst c2
  rw [if_neg (show ¬ (false = true) by decide)] at H
  obtain rfl := Option.some.inj H
  go_enter Tryz.func28, Tryz.ntmps28
  go_wp2
  go_ret
  exact ⟨by first | rfl | (simp; done) | (simp [*]; done), by repeat (first | exact Drawn0.refl _ | apply Drawn0.step)⟩

/-- TrimLeft, at the blank. -/
def strings_TrimLeft.f (a0 : ByteArray) (a1 : ByteArray) : Option (ByteArray) := if a1.data = #[32] then some ⟨(Lib.trimLeftB a0.data.toList 32).toArray⟩ else none
theorem strings_TrimLeft.calls (a0 : ByteArray) (a1 : ByteArray) (r : ByteArray) (w : World) (h : strings_TrimLeft.f a0 a1 = some r) :
  Calls Tryz.prog 35 #[.string a0, .string a1] w fun e w' => e = .returned (.string r) ∧ Drawn0 w w' := by
 unfold strings_TrimLeft.f at h
 by_cases e : a1.data = #[32]
 ·
  rw [if_pos e] at h
  obtain rfl := Option.some.inj h
  obtain rfl : a1 = ⟨#[32]⟩ := by cases a1; simp only at e; rw [e]
  refine (Tryz.strings_TrimLeft_one a0 32 (by decide) w).mono ?_
  rintro e w' ⟨rfl, rfl⟩
  exact ⟨rfl, Drawn0.refl _⟩
 ·
  rw [if_neg e] at h
  cases h

def impl_between.f (a0 : Int) (a1 : Int) (a2 : Int) : Option (Bool) := if a1 ≤ a0 then (some (decide (a0 ≤ a2))) else (some false)
set_option maxHeartbeats 8000000 in
set_option maxRecDepth 100000 in
theorem impl_between.calls (a0 : Int) (a1 : Int) (a2 : Int) (r : Bool) (w : World) (h : impl_between.f a0 a1 a2 = some r) :
  Calls Tryz.prog 41 #[.int .i64 a0, .int .i64 a1, .int .i64 a2] w fun e w' => e = .returned (.bool r) ∧ Drawn0 w w' := by
 have H : (if a1 ≤ a0 then (some (decide (a0 ≤ a2))) else (some false)) = some r := h
 clear h
 by_cases c4 : a1 ≤ a0
 ·
  rw [if_pos c4] at H
  have c4b0 : decide (a1 ≤ a0) = true := decide_eq_true c4
  clear c4
  obtain rfl := Option.some.inj H
  go_enter Tryz.func41, Tryz.ntmps41
  go_wp2
  go_ret
  exact ⟨by first | rfl | (simp; done) | (simp [*]; done), by repeat (first | exact Drawn0.refl _ | apply Drawn0.step)⟩
 ·
  rw [if_neg c4] at H
  have c4b0 : decide (a1 ≤ a0) = false := decide_eq_false c4
  clear c4
  obtain rfl := Option.some.inj H
  go_enter Tryz.func41, Tryz.ntmps41
  go_wp2
  go_ret
  exact ⟨by first | rfl | (simp; done) | (simp [*]; done), by repeat (first | exact Drawn0.refl _ | apply Drawn0.step)⟩

def impl_isDigit.f (a0 : Int) : Option (Bool) := if 48 ≤ a0 then (some (decide (a0 ≤ 57))) else (some false)
set_option maxHeartbeats 8000000 in
set_option maxRecDepth 100000 in
theorem impl_isDigit.calls (a0 : Int) (r : Bool) (w : World) (h : impl_isDigit.f a0 = some r) :
  Calls Tryz.prog 70 #[.int .u8 a0] w fun e w' => e = .returned (.bool r) ∧ Drawn0 w w' := by
 have H : (if 48 ≤ a0 then (some (decide (a0 ≤ 57))) else (some false)) = some r := h
 clear h
 by_cases c2 : 48 ≤ a0
 ·
  rw [if_pos c2] at H
  have c2b0 : decide (48 ≤ a0) = true := decide_eq_true c2
  clear c2
  obtain rfl := Option.some.inj H
  go_enter Tryz.func70, Tryz.ntmps70
  go_wp2
  go_ret
  exact ⟨by first | rfl | (simp; done) | (simp [*]; done), by repeat (first | exact Drawn0.refl _ | apply Drawn0.step)⟩
 ·
  rw [if_neg c2] at H
  have c2b0 : decide (48 ≤ a0) = false := decide_eq_false c2
  clear c2
  obtain rfl := Option.some.inj H
  go_enter Tryz.func70, Tryz.ntmps70
  go_wp2
  go_ret
  exact ⟨by first | rfl | (simp; done) | (simp [*]; done), by repeat (first | exact Drawn0.refl _ | apply Drawn0.step)⟩

def impl_digitsOf.l0 : Nat → ByteArray → Int → Option (ByteArray)
 | 0, _, _ => none
 | k + 1, x0, x3 => if x3 < (x0.size : Int) then (if 0 ≤ x3 then ((impl_isDigit.f (bt x0 x3)).bind fun tA0 => (if tA0 = true then (impl_digitsOf.l0 k x0 (wrap64 (x3 + 1))) else (if x3 ≤ (x0.size : Int) then (some (x0.extract 0 (x3 : Int).toNat)) else (none)))) else (none)) else (if 0 ≤ x3 then (if x3 ≤ (x0.size : Int) then (some (x0.extract 0 (x3 : Int).toNat)) else (none)) else (none))
def impl_digitsOf.f (k : Nat) (a0 : ByteArray) : Option (ByteArray) := impl_digitsOf.l0 k a0 0
set_option maxHeartbeats 8000000 in
set_option maxRecDepth 100000 in
theorem impl_digitsOf.calls (k : Nat) (a0 : ByteArray) (r : ByteArray) (w : World) (h : impl_digitsOf.f k a0 = some r) :
  Calls Tryz.prog 52 #[.string a0] w fun e w' => e = .returned (.string r) ∧ Drawn0 w w' := by
 have H : (impl_digitsOf.l0 k a0 0) = some r := h
 clear h
 have H' := Aside0.mk H
 clear H
 go_enter Tryz.func52, Tryz.ntmps52
 go_wp2
 go_loopg [3] k (fun kq v3 w' => ∃ (x3_1 : Int), v3 = .int .i64 x3_1 ∧ Aside0 (impl_digitsOf.l0 kq a0 x3_1 = some r) ∧ Aside0 (kq ≤ k) ∧ Drawn0 w w')
 case atStart => exact ⟨(0), rs_, H', ⟨Nat.le_refl _⟩, by repeat (first | exact Drawn0.refl _ | apply Drawn0.step)⟩
 case round =>
  clear H'
  obtain ⟨x3_1, rfl, HA, HK1, ⟨m1, rfl⟩⟩ := hrel
  cases gk with
  | zero => exact absurd HA.out (by simp [impl_digitsOf.l0])
  | succ k1 =>
   have H := HA.out
   clear HA
   simp only [impl_digitsOf.l0] at H
   by_cases c2 : x3_1 < (a0.size : Int)
   ·
    rw [if_pos c2] at H
    have c2b0 : decide (x3_1 < (a0.size : Int)) = true := decide_eq_true c2
    clear c2
    by_cases c3 : 0 ≤ x3_1
    ·
     rw [if_pos c3] at H
     have c3b0 : decide (0 ≤ x3_1) = true := decide_eq_true c3
     clear c3
     replace H := Option.bind_eq_some_iff.mp H
     obtain ⟨tA0, A50, H⟩ := H
     replace H : (if tA0 = true then (impl_digitsOf.l0 k1 a0 (wrap64 (x3_1 + 1))) else (if x3_1 ≤ (a0.size : Int) then (some (a0.extract 0 (x3_1 : Int).toNat)) else (none))) = some r := H
     have A5 := Aside0.mk A50
     clear A50
     by_cases c6 : tA0 = true
     ·
      subst c6
      rw [if_pos rfl] at H
      have H' := Aside0.mk H
      clear H
      have p4 : 0 ≤ (x3_1 : Int) := of_decide_eq_true (by first | (with_reducible assumption) | assumption)
      have q4 : x3_1 < (a0.size : Int) := of_decide_eq_true (by first | (with_reducible assumption) | assumption)
      have hx4 := bt_at a0 x3_1
      replace p4 := eq_true p4
      replace q4 := eq_true q4
      go_wp2_with (first | (go_at_call 70; (with_reducible refine (impl_isDigit.calls (bt a0 x3_1) true _ A5.out).mono ?_); rintro e w' ⟨rfl, ⟨nd, rfl⟩⟩))
      go_roundg k1
      case measure => have := HK1.out; omega
      case rel => exact ⟨(wrap64 (x3_1 + 1)), rs_, H', ⟨by have := HK1.out; omega⟩, by repeat (first | exact Drawn0.refl _ | apply Drawn0.step)⟩
     ·
      replace c6 := Bool.eq_false_iff.mpr c6
      subst c6
      rw [if_neg (show ¬ (false = true) by decide)] at H
      have c7b0 := eq_true (of_decide_eq_true (by first | (with_reducible assumption) | assumption) : 0 ≤ x3_1)
      by_cases c8 : x3_1 ≤ (a0.size : Int)
      ·
       rw [if_pos c8] at H
       have c8b0 := eq_true c8
       have c8b1 : decide (x3_1 ≤ (a0.size : Int)) = true := decide_eq_true c8
       clear c8
       obtain rfl := Option.some.inj H
       have p4 : 0 ≤ (x3_1 : Int) := of_decide_eq_true (by first | (with_reducible assumption) | assumption)
       have q4 : x3_1 < (a0.size : Int) := of_decide_eq_true (by first | (with_reducible assumption) | assumption)
       have hx4 := bt_at a0 x3_1
       replace p4 := eq_true p4
       replace q4 := eq_true q4
       go_wp2_with (first | (go_at_call 70; (with_reducible refine (impl_isDigit.calls (bt a0 x3_1) false _ A5.out).mono ?_); rintro e w' ⟨rfl, ⟨nd, rfl⟩⟩))
       go_ret
       exact ⟨by first | rfl | (simp; done) | (simp [*]; done), by repeat (first | exact Drawn0.refl _ | apply Drawn0.step)⟩
      ·
       rw [if_neg c8] at H
       exact absurd H (by simp)
    ·
     rw [if_neg c3] at H
     exact absurd H (by simp)
   ·
    rw [if_neg c2] at H
    have c2b0 : decide (x3_1 < (a0.size : Int)) = false := decide_eq_false c2
    clear c2
    by_cases c9 : 0 ≤ x3_1
    ·
     rw [if_pos c9] at H
     have c9b0 := eq_true c9
     have c9b1 : decide (0 ≤ x3_1) = true := decide_eq_true c9
     clear c9
     by_cases c10 : x3_1 ≤ (a0.size : Int)
     ·
      rw [if_pos c10] at H
      have c10b0 := eq_true c10
      have c10b1 : decide (x3_1 ≤ (a0.size : Int)) = true := decide_eq_true c10
      clear c10
      obtain rfl := Option.some.inj H
      go_wp2
      go_ret
      exact ⟨by first | rfl | (simp; done) | (simp [*]; done), by repeat (first | exact Drawn0.refl _ | apply Drawn0.step)⟩
     ·
      rw [if_neg c10] at H
      exact absurd H (by simp)
    ·
     rw [if_neg c9] at H
     exact absurd H (by simp)

abbrev NtTab (w : World) : Prop := Lib.TabIs Tryz.prog w "internal/strconv.uint64pow10" .u64 Lib.pow10Tab
/-- An error's variable: nothing, or an error. -/
def LxVar (b : Nat) (w : World) : Prop := ∃ ev, w.cell? ⟨b, 0, none⟩ = some ev ∧ (ev = .nilIface ∨ ∃ te pe, ev = .iface te pe)
/-- The library's variables as they lie: the table of powers, the two errors. -/
def LxW (w : World) : Prop := NtTab w ∧ LxVar 3 w ∧ LxVar 4 w
theorem lxVar_below {w w' : World} {B b : Nat} (h : LxVar b w) (hb : Below B w w') (hB : w.heap.size ≤ B) : LxVar b w' := by
 obtain ⟨ev, h1, h2⟩ := h
 exact ⟨ev, (hb.cell (p := ⟨b, 0, none⟩) (Nat.lt_of_lt_of_le (Lib.lt_of_cell h1) hB)).trans h1, h2⟩
theorem lxW_below {w w' : World} {B : Nat} (h : LxW w) (hb : Below B w w') (hB : w.heap.size ≤ B) : LxW w' := by
 obtain ⟨g, hg⟩ : ∃ g, Tryz.prog.globalNamed "internal/strconv.uint64pow10" = some g := Option.isSome_iff_exists.1 (by kernel_rfl)
 exact ⟨Joins.tab_stays hg h.1 hb hB, lxVar_below h.2.1 hb hB, lxVar_below h.2.2 hb hB⟩
/-- A small number's digits: what strconv.Atoi reads, and whether it is right. -/
def impl_smallNumber.f (a0 : ByteArray) : Option (Int × Bool) :=
 if a0.size ≤ 281474976710656 then
  match Lib.atoiAll a0.data.toList with
  | .ok v => some (v, decide (v ≤ 999999999) && Lib.itoa v == a0.toList)
  | .«syntax» => some (0, false)
  | .range => some (Lib.atoiSat a0.data.toList, false)
 else none
theorem lx_itoa (x : Int) (h0 : -9223372036854775808 ≤ x) (h1 : x ≤ 9223372036854775807) (W : World) (ht : LxW W) :
  Calls Tryz.prog 72 #[.int .i64 x] W fun e W' => e = .returned (.string ⟨(Lib.itoa x).toArray⟩) ∧ Below W.heap.size W W' := by
 refine (Tryz.strconv_Itoa x h0 h1 W ht.1).mono ?_
 rintro e W' ⟨rfl, k, os, rfl⟩
 exact ⟨rfl, Lib.below_grow _ _ (Nat.le_refl _) _ _⟩
theorem lx_ok (s : ByteArray) (hl : s.size ≤ 281474976710656) (v : Int) (h : Lib.atoiAll s.data.toList = .ok v) (w : World) :
  Calls Tryz.prog 71 #[.string s] w fun e w' => e = .returned (.tuple #[.int .i64 v, .nilIface]) ∧ Below w.heap.size w w' := by
 refine (Tryz.strconv_Atoi_ok s (by omega) v h w).mono ?_
 rintro e w' ⟨rfl, rfl | ⟨t, rfl⟩⟩
 ·
  exact ⟨rfl, Below.refl _ _⟩
 ·
  exact ⟨rfl, Lib.bytesWorld_below _ _ _⟩
theorem lx_no (s : ByteArray) (hl : s.size ≤ 281474976710656) (n : Int) (h : Lib.atoiAll s.data.toList = .«syntax» ∧ n = 0 ∨ Lib.atoiAll s.data.toList = .range ∧ n = Lib.atoiSat s.data.toList) (w : World) (hw : LxW w) :
  Calls Tryz.prog 71 #[.string s] w fun e w' => (∃ N, e = .returned (.tuple #[.int .i64 n, .iface 105 (.pointer (some ⟨N, 0, none⟩))])) ∧ Below w.heap.size w w' := by
 rcases h with ⟨h, rfl⟩ | ⟨h, rfl⟩
 ·
  obtain ⟨ev, h1, h2⟩ := hw.2.1
  refine (Tryz.strconv_Atoi_syntax s hl h ev w h1 h2).mono ?_
  rintro e w' ⟨N, rfl, _, _, hb⟩
  exact ⟨⟨N, rfl⟩, hb⟩
 ·
  obtain ⟨ev, h1, h2⟩ := hw.2.2
  refine (Tryz.strconv_Atoi_range s hl h ev w h1 h2).mono ?_
  rintro e w' ⟨N, rfl, _, _, hb⟩
  exact ⟨⟨N, rfl⟩, hb⟩
set_option maxHeartbeats 4000000 in
set_option maxRecDepth 100000 in
theorem small_no (s : ByteArray) (hl : s.size ≤ 281474976710656) (n : Int) (h : Lib.atoiAll s.data.toList = .«syntax» ∧ n = 0 ∨ Lib.atoiAll s.data.toList = .range ∧ n = Lib.atoiSat s.data.toList) (w : World) (hw : LxW w) :
  Calls Tryz.prog 53 #[.string s] w fun e w' => e = .returned (.tuple #[.int .i64 n, .bool false]) ∧ Below w.heap.size w w' := by
 have C := Lib.hid (lx_no s hl n h w hw)
 clear h hw hl
 go_enter Tryz.func53, Tryz.ntmps53
 go_wp2_with (go_at_call 71; refine C.out.mono ?_; rintro e w' ⟨⟨N, rfl⟩, hb⟩)
 go_ret2
 exact ⟨rfl, hb⟩
set_option maxHeartbeats 4000000 in
set_option maxRecDepth 100000 in
theorem small_ok (s : ByteArray) (hl : s.size ≤ 281474976710656) (v : Int) (h : Lib.atoiAll s.data.toList = .ok v) (w : World) (hw : LxW w) :
  Calls Tryz.prog 53 #[.string s] w fun e w' => e = .returned (.tuple #[.int .i64 v, .bool (decide (v ≤ 999999999) && Lib.itoa v == s.toList)]) ∧ Below w.heap.size w w' := by
 have hbd := Lib.atoiAll_bounds h
 have C := Lib.hid (lx_ok s hl v h w)
 have hbd1 := hbd.1
 have hbd2 := hbd.2
 have D := Lib.hid (fun W (hb : Below w.heap.size w W) => lx_itoa v hbd.1 hbd.2 W (lxW_below hw hb (Nat.le_refl _)))
 clear h hw hl hbd
 go_enter Tryz.func53, Tryz.ntmps53
 by_cases hv : v ≤ 999999999
 ·
  go_wp2_with (first | (go_at_call 71; refine C.out.mono ?_; rintro e w1 ⟨rfl, hb1⟩) | (go_at_call 72; refine (D.out _ hb1).mono ?_; rintro e w2 ⟨rfl, hb2⟩))
  go_ret2
  rw [decide_eq_true hv]
  exact ⟨rfl, hb1.trans (hb2.mono hb1.size)⟩
 ·
  go_wp2_with (go_at_call 71; refine C.out.mono ?_; rintro e w1 ⟨rfl, hb1⟩)
  go_ret2
  rw [decide_eq_false (show ¬ v ≤ 999999999 by omega)]
  exact ⟨rfl, hb1⟩
theorem impl_smallNumber.calls (a0 : ByteArray) (r1 : Int) (r2 : Bool) (w : World) (hg_ : LxW w) (h : impl_smallNumber.f a0 = some (r1, r2)) :
  Calls Tryz.prog 53 #[.string a0] w fun e w' => e = .returned (.tuple #[.int .i64 r1, .bool r2]) ∧ Below w.heap.size w w' := by
 unfold impl_smallNumber.f at h
 by_cases hl : a0.size ≤ 281474976710656
 ·
  rw [if_pos hl] at h
  cases ha : Lib.atoiAll a0.data.toList with
  | ok v =>
   rw [ha] at h
   cases h
   exact small_ok a0 hl _ ha w hg_
  | «syntax» =>
   rw [ha] at h
   cases h
   exact small_no a0 hl 0 (.inl ⟨ha, rfl⟩) w hg_
  | range =>
   rw [ha] at h
   cases h
   exact small_no a0 hl _ (.inr ⟨ha, rfl⟩) w hg_
 ·
  rw [if_neg hl] at h; cases h

/-- Contains, for one byte. -/
def strings_Contains.f (a0 : ByteArray) (a1 : ByteArray) : Option (Bool) := if a1.data.size = 1 then some (decide (0 ≤ Lib.indexByte a0.data.toList (a1.data[0]?.getD 0))) else none
theorem strings_Contains.calls (a0 : ByteArray) (a1 : ByteArray) (r : Bool) (w : World) (h : strings_Contains.f a0 a1 = some r) :
  Calls Tryz.prog 54 #[.string a0, .string a1] w fun e w' => e = .returned (.bool r) ∧ Drawn0 w w' := by
 unfold strings_Contains.f at h
 by_cases e : a1.data.size = 1
 ·
  rw [if_pos e] at h
  obtain rfl := Option.some.inj h
  obtain ⟨c, hc⟩ : ∃ c, a1.data = #[c] := Array.size_eq_one_iff.1 e
  obtain rfl : a1 = ⟨#[c]⟩ := by cases a1; simp only at hc; rw [hc]
  refine (Tryz.strings_Contains_one a0 c w).mono ?_
  rintro e w' ⟨rfl, rfl⟩
  exact ⟨rfl, Drawn0.refl _⟩
 ·
  rw [if_neg e] at h
  cases h

def impl_nextToken.j0 : Nat → ByteArray → Bool → Option (Int × Int × ByteArray × Int)
 | 0, _, _ => none
 | k + 1, x0, x36 => if x36 = true then (if 1 < (x0.size : Int) then (some (2, ((bt x0 1) - 48) % 256, (⟨#[]⟩ : ByteArray), 2)) else (none)) else (if 0 ≤ 1 then (if 1 ≤ (x0.size : Int) then ((strings_Contains.f (⟨#[43, 45, 42, 47, 94, 40, 41]⟩ : ByteArray) (x0.extract 0 1)).bind fun tA4 => (if tA4 = true then (some (3, 0, x0.extract 0 1, 1)) else (some (0, 0, (⟨#[]⟩ : ByteArray), 0)))) else (none)) else (none))
def impl_nextToken.f (k : Nat) (a0 : ByteArray) : Option (Int × Int × ByteArray × Int) := (impl_digitsOf.f k a0).bind fun tA1 => (if tA1.toList = ([] : List UInt8) then (if 0 < (a0.size : Int) then (if (bt a0 0) = 120 then (if (a0.size : Int) > 1 then (if 1 < (a0.size : Int) then ((impl_between.f (wrap64 (bt a0 1)) 48 51).bind fun tA3 => (impl_nextToken.j0 k a0 tA3)) else (none)) else (impl_nextToken.j0 k a0 false)) else (impl_nextToken.j0 k a0 false)) else (none)) else ((impl_smallNumber.f tA1).bind fun btA2 => (if btA2.2 = true then (some (1, btA2.1, (⟨#[]⟩ : ByteArray), (tA1.size : Int))) else (some (0, 0, (⟨#[]⟩ : ByteArray), 0)))))
set_option maxHeartbeats 8000000 in
set_option maxRecDepth 100000 in
theorem impl_nextToken.calls (k : Nat) (a0 : ByteArray) (r1 : Int) (r2 : Int) (r3 : ByteArray) (r4 : Int) (w : World) (hg_ : LxW w) (h : impl_nextToken.f k a0 = some (r1, r2, r3, r4)) :
  Calls Tryz.prog 36 #[.string a0] w fun e w' => e = .returned (.tuple #[.agg #[.int .i64 r1, .int .i64 r2, .string r3], .int .i64 r4]) ∧ Below w.heap.size w w' := by
 have hu51 := Tryz.underlying51
 have HB := Aside0.mk (Below.refl w.heap.size w)
 have HG := Aside0.mk hg_
 clear hg_
 have H : ((impl_digitsOf.f k a0).bind fun tA1 => (if tA1.toList = ([] : List UInt8) then (if 0 < (a0.size : Int) then (if (bt a0 0) = 120 then (if (a0.size : Int) > 1 then (if 1 < (a0.size : Int) then ((impl_between.f (wrap64 (bt a0 1)) 48 51).bind fun tA3 => (impl_nextToken.j0 k a0 tA3)) else (none)) else (impl_nextToken.j0 k a0 false)) else (impl_nextToken.j0 k a0 false)) else (none)) else ((impl_smallNumber.f tA1).bind fun btA2 => (if btA2.2 = true then (some (1, btA2.1, (⟨#[]⟩ : ByteArray), (tA1.size : Int))) else (some (0, 0, (⟨#[]⟩ : ByteArray), 0)))))) = some (r1, r2, r3, r4) := h
 clear h
 replace H := Option.bind_eq_some_iff.mp H
 obtain ⟨tA1, A20, H⟩ := H
 replace H : (if tA1.toList = ([] : List UInt8) then (if 0 < (a0.size : Int) then (if (bt a0 0) = 120 then (if (a0.size : Int) > 1 then (if 1 < (a0.size : Int) then ((impl_between.f (wrap64 (bt a0 1)) 48 51).bind fun tA3 => (impl_nextToken.j0 k a0 tA3)) else (none)) else (impl_nextToken.j0 k a0 false)) else (impl_nextToken.j0 k a0 false)) else (none)) else ((impl_smallNumber.f tA1).bind fun btA2 => (if btA2.2 = true then (some (1, btA2.1, (⟨#[]⟩ : ByteArray), (tA1.size : Int))) else (some (0, 0, (⟨#[]⟩ : ByteArray), 0))))) = some (r1, r2, r3, r4) := H
 have A2 := Aside0.mk A20
 clear A20
 by_cases c3 : tA1.toList = ([] : List UInt8)
 ·
  rw [if_pos c3] at H
  have c3b0 : (tA1.toList == ([] : List UInt8)) = true := beq_iff_eq.mpr c3
  have c3b1 : (tA1.toList != ([] : List UInt8)) = false := bne_eq_false_iff_eq.mpr c3
  clear c3
  have HC4 := Aside0.mk H
  clear H
  go_enter Tryz.func36, Tryz.ntmps36
  go_upto_region 7 with (first | ((with_reducible refine gate_dst (N := 2) rfl ?_); (try (refine gate_guard (by rfl) ?_; dsimp only)); refine bx_ (N := 2) (cs := #[.int .i64 0, .int .i64 0, .string (⟨#[]⟩ : ByteArray)]) (t := 51) ?_; intro gbA0 hg w5 hbox hb; have BKA0 := Aside0.mk (hbox); have GWA0 := geh hg HB; have GEA0 := geh hg HB; replace HB := bst HB hb; clear hb hbox hg) | ((with_reducible refine gate_callee (f := 52) rfl ?_); refine gL_ (some 8) Tryz.func52 #[.string a0] ?_; (with_reducible refine (impl_digitsOf.calls k a0 tA1 _ A2.out).mono ?_); rintro e w' ⟨rfl, ⟨nd, rfl⟩⟩; refine ⟨_, rfl, ?_⟩))
  (try simp only [Act.put, List.setIfInBounds_toArray, List.set_cons_zero, List.set_cons_succ])
  go_cut [36] (fun v36 wc => ∃ (kq : Nat) (x36_3 : Bool), v36 = .bool x36_3 ∧ Aside0 (impl_nextToken.j0 kq a0 x36_3 = some (r1, r2, r3, r4)) ∧ Aside0 (kq ≤ k) ∧ Aside0 (wc.heap[gbA0]? = some (.cells #[.int .i64 0, .int .i64 0, .string (⟨#[]⟩ : ByteArray)] 51 (0, 0))) ∧ Aside0 (Below w.heap.size w wc))
  case first =>
   have H := HC4.out
   clear HC4
   by_cases c6 : 0 < (a0.size : Int)
   ·
    rw [if_pos c6] at H
    have c6b0 : decide (0 < (a0.size : Int)) = true := decide_eq_true c6
    have c6b1 : decide (0 < a0.size) = true := decide_eq_true (by omega)
    clear c6
    (first | rw [c6b0] | (simp only [i64_w, i32_w]; rw [c6b0]) | skip)
    by_cases c8 : (bt a0 0) = 120
    ·
     rw [if_pos c8] at H
     have c8b0 : ((bt a0 0) == 120) = true := beq_iff_eq.mpr c8
     have c8b1 : ((bt a0 0) != 120) = false := bne_eq_false_iff_eq.mpr c8
     clear c8
     by_cases c9 : (a0.size : Int) > 1
     ·
      rw [if_pos c9] at H
      have c9b0 : decide (1 < (a0.size : Int)) = true := decide_eq_true c9
      have c9b1 : decide (1 < a0.size) = true := decide_eq_true (by omega)
      clear c9
      by_cases c10 : 1 < (a0.size : Int)
      ·
       rw [if_pos c10] at H
       have c10b0 : decide (1 < (a0.size : Int)) = true := decide_eq_true c10
       have c10b1 : decide (1 < a0.size) = true := decide_eq_true (by omega)
       clear c10
       replace H := Option.bind_eq_some_iff.mp H
       obtain ⟨tA3, AA5, H⟩ := H
       replace H : (impl_nextToken.j0 k a0 tA3) = some (r1, r2, r3, r4) := H
       have A12 := Aside0.mk AA5
       clear AA5
       have H' := Aside0.mk H
       clear H
       have p7 : 0 ≤ (0 : Int) := (by omega)
       have q7 : 0 < a0.size := (by have : (0 : Int) < (a0.size : Int) := of_decide_eq_true (by first | (with_reducible assumption) | assumption); omega)
       have hx7 : ∀ h : 0 < a0.size, ((a0[0]'h).toNat : Int) = bt a0 0 := bt_at a0 0
       clear p7
       have qi7 : (0 < (a0.size : Int)) = True := eq_true (of_decide_eq_true (by first | (with_reducible assumption) | assumption))
       replace q7 := eq_true q7
       have p11 : 0 ≤ (1 : Int) := (by omega)
       have q11 : 1 < a0.size := (by have : (1 : Int) < (a0.size : Int) := of_decide_eq_true (by first | (with_reducible assumption) | assumption); omega)
       have hx11 : ∀ h : 1 < a0.size, ((a0[1]'h).toNat : Int) = bt a0 1 := bt_at a0 1
       clear p11
       have qi11 : (1 < (a0.size : Int)) = True := eq_true (of_decide_eq_true (by first | (with_reducible assumption) | assumption))
       replace q11 := eq_true q11
       go_wp2_with (first | (go_at_call 41; (with_reducible refine (impl_between.calls (wrap64 (bt a0 1)) 48 51 tA3 _ A12.out).mono ?_); rintro e w' ⟨rfl, ⟨nd, rfl⟩⟩))
       go_meet
       case rel => exact ⟨_, (tA3), rs_, H', ⟨by first | omega | exact Nat.le_refl _⟩, ⟨crb BKA0⟩, ⟨blw HB⟩⟩
      ·
       rw [if_neg c10] at H
       exact absurd H (by simp)
     ·
      rw [if_neg c9] at H
      have c9b0 : decide (1 < (a0.size : Int)) = false := decide_eq_false c9
      have c9b1 : decide (1 < a0.size) = false := decide_eq_false (by omega)
      clear c9
      have H' := Aside0.mk H
      clear H
      have p7 : 0 ≤ (0 : Int) := (by omega)
      have q7 : 0 < a0.size := (by have : (0 : Int) < (a0.size : Int) := of_decide_eq_true (by first | (with_reducible assumption) | assumption); omega)
      have hx7 : ∀ h : 0 < a0.size, ((a0[0]'h).toNat : Int) = bt a0 0 := bt_at a0 0
      clear p7
      have qi7 : (0 < (a0.size : Int)) = True := eq_true (of_decide_eq_true (by first | (with_reducible assumption) | assumption))
      replace q7 := eq_true q7
      go_wp2
      go_meet
      case rel => exact ⟨_, (false), rs_, H', ⟨by first | omega | exact Nat.le_refl _⟩, ⟨crb BKA0⟩, ⟨blw HB⟩⟩
    ·
     rw [if_neg c8] at H
     have c8b0 : ((bt a0 0) == 120) = false := beq_eq_false_iff_ne.mpr c8
     have c8b1 : ((bt a0 0) != 120) = true := bne_iff_ne.mpr c8
     have H' := Aside0.mk H
     clear H
     have p7 : 0 ≤ (0 : Int) := (by omega)
     have q7 : 0 < a0.size := (by have : (0 : Int) < (a0.size : Int) := of_decide_eq_true (by first | (with_reducible assumption) | assumption); omega)
     have hx7 : ∀ h : 0 < a0.size, ((a0[0]'h).toNat : Int) = bt a0 0 := bt_at a0 0
     clear p7
     have qi7 : (0 < (a0.size : Int)) = True := eq_true (of_decide_eq_true (by first | (with_reducible assumption) | assumption))
     replace q7 := eq_true q7
     go_wp2
     go_meet
     case rel => exact ⟨_, (false), rs_, H', ⟨by first | omega | exact Nat.le_refl _⟩, ⟨crb BKA0⟩, ⟨blw HB⟩⟩
   ·
    rw [if_neg c6] at H
    exact absurd H (by simp)
  case rest =>
   clear HC4
   try clear c1
   try clear p1
   try clear q1
   try clear hx1
   try clear qi1
   try clear p2
   try clear c3
   try clear c3b0
   try clear c3b1
   try clear c5
   try clear c6
   try clear c6b0
   try clear c6b1
   try clear p6
   try clear p7
   try clear q7
   try clear hx7
   try clear qi7
   try clear c8
   try clear c8b0
   try clear c8b1
   try clear c9
   try clear c9b0
   try clear c9b1
   try clear c10
   try clear c10b0
   try clear c10b1
   try clear p11
   try clear q11
   try clear hx11
   try clear qi11
   try clear p11
   try clear p7
   try clear q11
   try clear q7
   obtain ⟨kq, x36_3, rfl, HA, HJ3, BKA0, HB⟩ := hcut
   cases kq with
   | zero => exact absurd HA.out (by simp [impl_nextToken.j0])
   | succ kj3 =>
    have H := HA.out
    clear HA
    simp only [impl_nextToken.j0] at H
    by_cases c13 : x36_3 = true
    ·
     subst c13
     rw [if_pos rfl] at H
     by_cases c14 : 1 < (a0.size : Int)
     ·
      rw [if_pos c14] at H
      have c14b0 : decide (1 < (a0.size : Int)) = true := decide_eq_true c14
      have c14b1 : decide (1 < a0.size) = true := decide_eq_true (by omega)
      clear c14
      simp only [Option.some.injEq, Prod.mk.injEq] at H
      obtain ⟨rfl, rfl, rfl, rfl⟩ := H
      have p15 : 0 ≤ (1 : Int) := (by omega)
      have q15 : 1 < a0.size := (by have : (1 : Int) < (a0.size : Int) := of_decide_eq_true (by first | (with_reducible assumption) | assumption); omega)
      have hx15 : ∀ h : 1 < a0.size, ((a0[1]'h).toNat : Int) = bt a0 1 := bt_at a0 1
      clear p15
      have qi15 : (1 < (a0.size : Int)) = True := eq_true (of_decide_eq_true (by first | (with_reducible assumption) | assumption))
      replace q15 := eq_true q15
      have hcz16_0 := bce BKA0 0 (.int .i64 0)
      have hcz16_1 := bce BKA0 1 (.int .i64 0)
      have hcz16_2 : wc.cell? ⟨gbA0, 2, none⟩ = some (.string (⟨#[]⟩ : ByteArray)) := bce BKA0 2 _
      have hfz16_0 := blk_frozen BKA0.out 0
      have hfz16_1 := blk_frozen BKA0.out 1
      have hfz16_2 := blk_frozen BKA0.out 2
      go_wp2
      refine bodyPost_ret (results_ct rfl _ _ gbA0 51 #[.int .i64 2, .int .i64 (((bt a0 1) - 48) % 256), .string (⟨#[]⟩ : ByteArray)] (0, 0) _ rfl (bp3 BKA0 _ _ _) Tryz.underlying51 rfl (by kernel_rfl)) rfl ?_
      exact ⟨er_, blw HB⟩
     ·
      rw [if_neg c14] at H
      exact absurd H (by simp)
    ·
     replace c13 := Bool.eq_false_iff.mpr c13
     subst c13
     rw [if_neg (show ¬ (false = true) by decide)] at H
     by_cases c17 : 0 ≤ 1
     ·
      rw [if_pos c17] at H
      have c17b0 := eq_true c17
      have c17b1 : decide (0 ≤ 1) = true := decide_eq_true c17
      clear c17
      by_cases c18 : 1 ≤ (a0.size : Int)
      ·
       rw [if_pos c18] at H
       have c18b0 := eq_true c18
       have c18b1 : decide (1 ≤ (a0.size : Int)) = true := decide_eq_true c18
       clear c18
       replace H := Option.bind_eq_some_iff.mp H
       obtain ⟨tA4, AA6, H⟩ := H
       replace H : (if tA4 = true then (some (3, 0, a0.extract 0 1, 1)) else (some (0, 0, (⟨#[]⟩ : ByteArray), 0))) = some (r1, r2, r3, r4) := H
       have A19 := Aside0.mk AA6
       clear AA6
       by_cases c20 : tA4 = true
       ·
        subst c20
        rw [if_pos rfl] at H
        have c21b0 := eq_true (of_decide_eq_true (by first | (with_reducible assumption) | assumption) : 0 ≤ 1)
        have c22b0 := eq_true (of_decide_eq_true (by first | (with_reducible assumption) | assumption) : 1 ≤ (a0.size : Int))
        simp only [Option.some.injEq, Prod.mk.injEq] at H
        obtain ⟨rfl, rfl, rfl, rfl⟩ := H
        go_wp2_with (first | ((with_reducible refine gate_callee (f := 54) rfl ?_); refine gL_ (some 44) Tryz.func54 #[.string (⟨#[43, 45, 42, 47, 94, 40, 41]⟩ : ByteArray), .string (a0.extract 0 1)] ?_; (with_reducible refine (strings_Contains.calls (⟨#[43, 45, 42, 47, 94, 40, 41]⟩ : ByteArray) (a0.extract 0 1) true _ A19.out).mono ?_); rintro e w' ⟨rfl, ⟨nd, rfl⟩⟩; refine ⟨_, rfl, ?_⟩; (try (rw [drewN_self wc]; generalize hq_ : World.drewN wc _ = wc; replace BKA0 : Aside0 (wc.heap[gbA0]? = some (.cells #[.int .i64 0, .int .i64 0, .string (⟨#[]⟩ : ByteArray)] 51 (0, 0))) := ⟨by rw [← hq_]; exact (crb BKA0)⟩; replace HB : Aside0 (Below w.heap.size w wc) := ⟨by rw [← hq_]; exact (blw HB)⟩; clear hq_)); have hcz23_0 := bce BKA0 0 (.int .i64 0); have hcz23_1 := bce BKA0 1 (.int .i64 0); have hcz23_2 : wc.cell? ⟨gbA0, 2, none⟩ = some (.string (⟨#[]⟩ : ByteArray)) := bce BKA0 2 _; have hfz23_0 := blk_frozen BKA0.out 0; have hfz23_1 := blk_frozen BKA0.out 1; have hfz23_2 := blk_frozen BKA0.out 2))
        refine bodyPost_ret (results_ct rfl _ _ gbA0 51 #[.int .i64 3, .int .i64 0, .string (a0.extract 0 1)] (0, 0) _ rfl (bp3 BKA0 _ _ _) Tryz.underlying51 rfl (by kernel_rfl)) rfl ?_
        exact ⟨er_, blw HB⟩
       ·
        replace c20 := Bool.eq_false_iff.mpr c20
        subst c20
        rw [if_neg (show ¬ (false = true) by decide)] at H
        simp only [Option.some.injEq, Prod.mk.injEq] at H
        obtain ⟨rfl, rfl, rfl, rfl⟩ := H
        go_wp2_with (first | ((with_reducible refine gate_callee (f := 54) rfl ?_); refine gL_ (some 44) Tryz.func54 #[.string (⟨#[43, 45, 42, 47, 94, 40, 41]⟩ : ByteArray), .string (a0.extract 0 1)] ?_; (with_reducible refine (strings_Contains.calls (⟨#[43, 45, 42, 47, 94, 40, 41]⟩ : ByteArray) (a0.extract 0 1) false _ A19.out).mono ?_); rintro e w' ⟨rfl, ⟨nd, rfl⟩⟩; refine ⟨_, rfl, ?_⟩; (try (rw [drewN_self wc]; generalize hq_ : World.drewN wc _ = wc; replace BKA0 : Aside0 (wc.heap[gbA0]? = some (.cells #[.int .i64 0, .int .i64 0, .string (⟨#[]⟩ : ByteArray)] 51 (0, 0))) := ⟨by rw [← hq_]; exact (crb BKA0)⟩; replace HB : Aside0 (Below w.heap.size w wc) := ⟨by rw [← hq_]; exact (blw HB)⟩; clear hq_)); have hcz24_0 := bce BKA0 0 (.int .i64 0); have hcz24_1 := bce BKA0 1 (.int .i64 0); have hcz24_2 : wc.cell? ⟨gbA0, 2, none⟩ = some (.string (⟨#[]⟩ : ByteArray)) := bce BKA0 2 _; have hfz24_0 := blk_frozen BKA0.out 0; have hfz24_1 := blk_frozen BKA0.out 1; have hfz24_2 := blk_frozen BKA0.out 2))
        refine bodyPost_ret (results_ct rfl _ _ gbA0 51 #[.int .i64 0, .int .i64 0, .string (⟨#[]⟩ : ByteArray)] (0, 0) _ rfl (bp3 BKA0 _ _ _) Tryz.underlying51 rfl (by kernel_rfl)) rfl ?_
        exact ⟨er_, blw HB⟩
      ·
       rw [if_neg c18] at H
       exact absurd H (by simp)
     ·
      rw [if_neg c17] at H
      exact absurd H (by simp)
 ·
  rw [if_neg c3] at H
  have c3b0 : (tA1.toList == ([] : List UInt8)) = false := beq_eq_false_iff_ne.mpr c3
  have c3b1 : (tA1.toList != ([] : List UInt8)) = true := bne_iff_ne.mpr c3
  replace H := Option.bind_eq_some_iff.mp H
  obtain ⟨⟨tA2, tA7⟩, AA8, H⟩ := H
  replace H : (if tA7 = true then (some (1, tA2, (⟨#[]⟩ : ByteArray), (tA1.size : Int))) else (some (0, 0, (⟨#[]⟩ : ByteArray), 0))) = some (r1, r2, r3, r4) := H
  have A25 := Aside0.mk AA8
  clear AA8
  by_cases c26 : tA7 = true
  ·
   subst c26
   rw [if_pos rfl] at H
   simp only [Option.some.injEq, Prod.mk.injEq] at H
   obtain ⟨rfl, rfl, rfl, rfl⟩ := H
   go_enter Tryz.func36, Tryz.ntmps36
   go_wp2_with (first | ((with_reducible refine gate_dst (N := 2) rfl ?_); (try (refine gate_guard (by rfl) ?_; dsimp only)); refine bx_ (N := 2) (cs := #[.int .i64 0, .int .i64 0, .string (⟨#[]⟩ : ByteArray)]) (t := 51) ?_; intro gbA0 hg w27 hbox hb; have BKA0 := Aside0.mk (hbox); have GWA0 := geh hg HB; have GEA0 := geh hg HB; replace HB := bst HB hb; clear hb hbox hg) | ((with_reducible refine gate_callee (f := 52) rfl ?_); refine gL_ (some 8) Tryz.func52 #[.string a0] ?_; (with_reducible refine (impl_digitsOf.calls k a0 tA1 _ A2.out).mono ?_); rintro e w' ⟨rfl, ⟨nd, rfl⟩⟩; refine ⟨_, rfl, ?_⟩; (try (rw [drewN_self w27]; generalize hq_ : World.drewN w27 _ = w27; replace BKA0 : Aside0 (w27.heap[gbA0]? = some (.cells #[.int .i64 0, .int .i64 0, .string (⟨#[]⟩ : ByteArray)] 51 (0, 0))) := ⟨by rw [← hq_]; exact (crb BKA0)⟩; replace HB : Aside0 (Below w.heap.size w w27) := ⟨by rw [← hq_]; exact (blw HB)⟩; clear hq_))) | ((with_reducible refine gate_callee (f := 53) rfl ?_); refine gL_ (some 13) Tryz.func53 #[.string tA1] ?_; (with_reducible refine (impl_smallNumber.calls tA1 tA2 true _ (lxW_below HG.out (blw HB) (Nat.le_refl _)) A25.out).mono ?_); rintro e w28 ⟨rfl, hb⟩; refine ⟨_, rfl, ?_⟩; replace BKA0 := bkb BKA0 hb; replace HB := bst HB hb; (try clear hb); (try clear hb2); (try clear hk); (try clear hi); have hcz29_0 := bce BKA0 0 (.int .i64 0); have hcz29_1 := bce BKA0 1 (.int .i64 0); have hcz29_2 : w28.cell? ⟨gbA0, 2, none⟩ = some (.string (⟨#[]⟩ : ByteArray)) := bce BKA0 2 _; have hfz29_0 := blk_frozen BKA0.out 0; have hfz29_1 := blk_frozen BKA0.out 1; have hfz29_2 := blk_frozen BKA0.out 2))
   refine bodyPost_ret (results_ct rfl _ _ gbA0 51 #[.int .i64 1, .int .i64 tA2, .string (⟨#[]⟩ : ByteArray)] (0, 0) _ rfl (bp3 BKA0 _ _ _) Tryz.underlying51 rfl (by kernel_rfl)) rfl ?_
   exact ⟨er_, blw HB⟩
  ·
   replace c26 := Bool.eq_false_iff.mpr c26
   subst c26
   rw [if_neg (show ¬ (false = true) by decide)] at H
   simp only [Option.some.injEq, Prod.mk.injEq] at H
   obtain ⟨rfl, rfl, rfl, rfl⟩ := H
   go_enter Tryz.func36, Tryz.ntmps36
   go_wp2_with (first | ((with_reducible refine gate_dst (N := 2) rfl ?_); (try (refine gate_guard (by rfl) ?_; dsimp only)); refine bx_ (N := 2) (cs := #[.int .i64 0, .int .i64 0, .string (⟨#[]⟩ : ByteArray)]) (t := 51) ?_; intro gbA0 hg w30 hbox hb; have BKA0 := Aside0.mk (hbox); have GWA0 := geh hg HB; have GEA0 := geh hg HB; replace HB := bst HB hb; clear hb hbox hg) | ((with_reducible refine gate_callee (f := 52) rfl ?_); refine gL_ (some 8) Tryz.func52 #[.string a0] ?_; (with_reducible refine (impl_digitsOf.calls k a0 tA1 _ A2.out).mono ?_); rintro e w' ⟨rfl, ⟨nd, rfl⟩⟩; refine ⟨_, rfl, ?_⟩; (try (rw [drewN_self w30]; generalize hq_ : World.drewN w30 _ = w30; replace BKA0 : Aside0 (w30.heap[gbA0]? = some (.cells #[.int .i64 0, .int .i64 0, .string (⟨#[]⟩ : ByteArray)] 51 (0, 0))) := ⟨by rw [← hq_]; exact (crb BKA0)⟩; replace HB : Aside0 (Below w.heap.size w w30) := ⟨by rw [← hq_]; exact (blw HB)⟩; clear hq_))) | ((with_reducible refine gate_callee (f := 53) rfl ?_); refine gL_ (some 13) Tryz.func53 #[.string tA1] ?_; (with_reducible refine (impl_smallNumber.calls tA1 tA2 false _ (lxW_below HG.out (blw HB) (Nat.le_refl _)) A25.out).mono ?_); rintro e w31 ⟨rfl, hb⟩; refine ⟨_, rfl, ?_⟩; replace BKA0 := bkb BKA0 hb; replace HB := bst HB hb; (try clear hb); (try clear hb2); (try clear hk); (try clear hi); have hcz32_0 := bce BKA0 0 (.int .i64 0); have hcz32_1 := bce BKA0 1 (.int .i64 0); have hcz32_2 : w31.cell? ⟨gbA0, 2, none⟩ = some (.string (⟨#[]⟩ : ByteArray)) := bce BKA0 2 _; have hfz32_0 := blk_frozen BKA0.out 0; have hfz32_1 := blk_frozen BKA0.out 1; have hfz32_2 := blk_frozen BKA0.out 2))
   refine bodyPost_ret (results_ct rfl _ _ gbA0 51 #[.int .i64 0, .int .i64 0, .string (⟨#[]⟩ : ByteArray)] (0, 0) _ rfl (bp3 BKA0 _ _ _) Tryz.underlying51 rfl (by kernel_rfl)) rfl ?_
   exact ⟨er_, blw HB⟩

def impl_lex.l0 : Nat → ByteArray → List (S51) → Option ((List (S51)) × Int)
 | 0, _, _ => none
 | k + 1, x0, x4 => (strings_TrimLeft.f x0 (⟨#[32]⟩ : ByteArray)).bind fun tA1 => (if tA1.toList = ([] : List UInt8) then (some (x4, 0)) else ((impl_nextToken.f k tA1).bind fun btA2 => (if btA2.2.2.2 = 0 then (some (([] : List (S51)), 3)) else (if (x4.length : Int) ≥ 400 then (some (([] : List (S51)), 6)) else (if x4.length < 4398046511104 then (if 0 ≤ btA2.2.2.2 then (if btA2.2.2.2 ≤ (tA1.size : Int) then (impl_lex.l0 k (tA1.extract (btA2.2.2.2 : Int).toNat tA1.size) (x4 ++ [(⟨btA2.1, btA2.2.1, btA2.2.2.1⟩ : S51)])) else (none)) else (none)) else (none))))))
def impl_lex.f (k : Nat) (a0 : ByteArray) : Option ((List (S51)) × Int) := impl_lex.l0 k a0 (([] : List (S51)))
def impl_lex.T10 : Bool × List (List Nat × List Nat) := (true, [([], []), ([], []), ([1], [1]), ([0, 2], [0, 2]), ([], []), ([], []), ([4, 5], [4, 5]), ([3, 3, 0, 1, 2, 3], [0, 3]), ([6, 7, 0, 1, 2, 3, 4, 5, 6, 7], [4, 6])])
def impl_lex.B10 : List Nat := [0, 0, 2, 7, 0, 0, 48, 15, 255]
theorem impl_lex.tab10 : rtab .any (opsOf Tryz.f19 10) = impl_lex.T10 := by kernel_rfl
theorem impl_lex.bits10 : waitsOk impl_lex.T10.2 impl_lex.B10 = true := by kernel_rfl
set_option maxHeartbeats 8000000 in
set_option maxRecDepth 100000 in
theorem impl_lex.calls (k : Nat) (a0 : ByteArray) (r1 : List (S51)) (r2 : Int) (w : World) (hg_ : LxW w) (h : impl_lex.f k a0 = some (r1, r2)) :
  Calls Tryz.prog 19 #[.string a0] w fun e w' => ∃ v0_ : Value, e = .returned (.tuple #[v0_, .int .i64 r2]) ∧ Kd.R k51 51 w' w.heap.size (fun _ => True) v0_ r1 ∧ Below w.heap.size w w' := by
 have hu51 := Tryz.underlying51
 have HB := Aside0.mk (Below.refl w.heap.size w)
 have HG := Aside0.mk hg_
 clear hg_
 have H : (impl_lex.l0 k a0 (([] : List (S51)))) = some (r1, r2) := h
 clear h
 obtain ⟨yA6, hy242⟩ : ∃ y_ : List (S51), y_ = (([] : List (S51))) := ⟨_, rfl⟩
 replace H : (impl_lex.l0 k a0 yA6) = some (r1, r2) := by subst hy242; first | with_reducible exact H | with_reducible exact (Option.bind_some _ _).symm.trans H | exact H
 have NyA6 := Aside0.mk hy242
 clear hy242
 have H' := Aside0.mk H
 clear H
 go_enter Tryz.func19, Tryz.ntmps19
 go_wp2_with (first | ((with_reducible refine gate_dst (N := 7) rfl ?_); refine Kd.R_lit k51 _ 51 ?hg (N := 7) ?hd (xs := ([] : List (S51))) (inner := []) (ok := fun _ => True) (okp := fun _ => True) ?hr ?hp (fun _ hk => hk) trivial (Below.refl _ _) (Nat.le_refl _) (by simp) ?_; (case hd => rfl); (case hg => rfl); (case hr => first | (go_simp; done) | (go_simp; rfl)); (case hp => exact (Reps.none _ _)); intro vB0 w2 ho3 hb hg_ hnew_; clear hg_ hnew_; (first | rw [← NyA6.out] at ho3 | (simp only [Int.reduceToNat] at ho3; rw [← NyA6.out] at ho3)); have HOA8 := lwR ho3 HB; replace HB := bst HB hb; clear hb ho3))
 go_loopg [0, 4] k (fun kq v0 v4 w' => ∃ (x0_1 : ByteArray) (x4_1 : List (S51)), v0 = .string x0_1 ∧ Aside0 (impl_lex.l0 kq x0_1 x4_1 = some (r1, r2)) ∧ Aside0 (kq ≤ k) ∧ Aside0 (Kd.R k51 51 w' w.heap.size (fun _ => True) v4 x4_1) ∧ Aside0 (Below w.heap.size w w'))
 case atStart => exact ⟨(a0), (yA6), rs_, H', ⟨Nat.le_refl _⟩, ⟨crR HOA8⟩, ⟨blw HB⟩⟩
 case round =>
  clear H'
  try clear c1
  try clear p2
  obtain ⟨x0_1, x4_1, rfl, HA, HK1, HO_4, HB⟩ := hrel
  cases gk with
  | zero => exact absurd HA.out (by simp [impl_lex.l0])
  | succ k1 =>
   have H := HA.out
   clear HA
   simp only [impl_lex.l0] at H
   replace H := Option.bind_eq_some_iff.mp H
   obtain ⟨tA1, A40, H⟩ := H
   replace H : (if tA1.toList = ([] : List UInt8) then (some (x4_1, 0)) else ((impl_nextToken.f k1 tA1).bind fun btA2 => (if btA2.2.2.2 = 0 then (some (([] : List (S51)), 3)) else (if (x4_1.length : Int) ≥ 400 then (some (([] : List (S51)), 6)) else (if x4_1.length < 4398046511104 then (if 0 ≤ btA2.2.2.2 then (if btA2.2.2.2 ≤ (tA1.size : Int) then (impl_lex.l0 k1 (tA1.extract (btA2.2.2.2 : Int).toNat tA1.size) (x4_1 ++ [(⟨btA2.1, btA2.2.1, btA2.2.2.1⟩ : S51)])) else (none)) else (none)) else (none)))))) = some (r1, r2) := H
   have A4 := Aside0.mk A40
   clear A40
   by_cases c5 : tA1.toList = ([] : List UInt8)
   ·
    rw [if_pos c5] at H
    have c5b0 : (tA1.toList == ([] : List UInt8)) = true := beq_iff_eq.mpr c5
    have c5b1 : (tA1.toList != ([] : List UInt8)) = false := bne_eq_false_iff_eq.mpr c5
    clear c5
    simp only [Option.some.injEq, Prod.mk.injEq] at H
    obtain ⟨rfl, rfl⟩ := H
    go_wp2_with (first | ((with_reducible refine gate_callee (f := 35) rfl ?_); refine gL_ (some 9) Tryz.func35 #[.string x0_1, .string (⟨#[32]⟩ : ByteArray)] ?_; (with_reducible refine (strings_TrimLeft.calls x0_1 (⟨#[32]⟩ : ByteArray) tA1 _ A4.out).mono ?_); rintro e w' ⟨rfl, ⟨nd, rfl⟩⟩; refine ⟨_, rfl, ?_⟩))
    go_ret2
    exact ⟨_, er_, by (with_reducible repeat (first | apply Kd.R_alloc | apply Kd.R_drewN | apply Kd.R_drew)); exact HO_4.out, blw HB⟩
   ·
    rw [if_neg c5] at H
    have c5b0 : (tA1.toList == ([] : List UInt8)) = false := beq_eq_false_iff_ne.mpr c5
    have c5b1 : (tA1.toList != ([] : List UInt8)) = true := bne_iff_ne.mpr c5
    replace H := Option.bind_eq_some_iff.mp H
    obtain ⟨⟨tA2, tA4, tA5, tA3⟩, A60, H⟩ := H
    replace H : (if tA3 = 0 then (some (([] : List (S51)), 3)) else (if (x4_1.length : Int) ≥ 400 then (some (([] : List (S51)), 6)) else (if x4_1.length < 4398046511104 then (if 0 ≤ tA3 then (if tA3 ≤ (tA1.size : Int) then (impl_lex.l0 k1 (tA1.extract (tA3 : Int).toNat tA1.size) (x4_1 ++ [(⟨tA2, tA4, tA5⟩ : S51)])) else (none)) else (none)) else (none)))) = some (r1, r2) := H
    have A6 := Aside0.mk A60
    clear A60
    by_cases c7 : tA3 = 0
    ·
     rw [if_pos c7] at H
     have c7b0 : (tA3 == 0) = true := beq_iff_eq.mpr c7
     have c7b1 : (tA3 != 0) = false := bne_eq_false_iff_eq.mpr c7
     clear c7
     simp only [Option.some.injEq, Prod.mk.injEq] at H
     obtain ⟨rfl, rfl⟩ := H
     go_wp2_with (first | ((with_reducible refine gate_callee (f := 35) rfl ?_); refine gL_ (some 9) Tryz.func35 #[.string x0_1, .string (⟨#[32]⟩ : ByteArray)] ?_; (with_reducible refine (strings_TrimLeft.calls x0_1 (⟨#[32]⟩ : ByteArray) tA1 _ A4.out).mono ?_); rintro e w' ⟨rfl, ⟨nd, rfl⟩⟩; refine ⟨_, rfl, ?_⟩; (try (rw [drewN_self wr]; generalize hq_ : World.drewN wr _ = wr; replace HO_4 : Aside0 (Kd.R k51 51 wr w.heap.size (fun _ => True) u4 x4_1) := ⟨by rw [← hq_]; exact (crR HO_4)⟩; replace HB : Aside0 (Below w.heap.size w wr) := ⟨by rw [← hq_]; exact (blw HB)⟩; clear hq_))) | ((with_reducible refine gate_callee (f := 36) rfl ?_); refine gL_ (some 15) Tryz.func36 #[.string tA1] ?_; (with_reducible refine (impl_nextToken.calls k1 tA1 tA2 tA4 tA5 tA3 _ (lxW_below HG.out (blw HB) (Nat.le_refl _)) A6.out).mono ?_); rintro e w8 ⟨rfl, hb⟩; refine ⟨_, rfl, ?_⟩; replace HO_4 := rblR HO_4 hb; replace HB := bst HB hb; (try clear hb); (try clear hb2); (try clear hk); (try clear hi)) | ((with_reducible refine gate_dst (N := 5) rfl ?_); refine bx_ (N := 5) (cs := #[.int .i64 0, .int .i64 0, .string (⟨#[]⟩ : ByteArray)]) (t := 51) ?_; intro gbA0 hg w9 hbox hb; replace HO_4 := Aside0.mk (Kd.R_below (Kd.R_elderB (crR HO_4) gbA0 (Nat.le_of_eq hg.symm)) hb); have BKA0 := Aside0.mk (hbox); have GWA0 := geh hg HB; have GEA0 := geh hg HB; replace HB := bst HB hb; clear hb hbox hg; have hcz10_0 := bce BKA0 0 (.int .i64 0); have hcz10_1 := bce BKA0 1 (.int .i64 0); have hcz10_2 : w9.cell? ⟨gbA0, 2, none⟩ = some (.string (⟨#[]⟩ : ByteArray)) := bce BKA0 2 _; have hfz10_0 := blk_frozen BKA0.out 0; have hfz10_1 := blk_frozen BKA0.out 1; have hfz10_2 := blk_frozen BKA0.out 2))
     go_ret2
     exact ⟨_, er_, by first | exact Kd.R_nil _ _ _ _ _ | exact Kd.N_nil _ _ _ _ _ | exact Kd.V_nil _ _ _ _ _ | exact Kd.Q_nil _ _ _ _ _ | exact Kd.S_nil _ _ _ _ _, blw HB⟩
    ·
     rw [if_neg c7] at H
     have c7b0 : (tA3 == 0) = false := beq_eq_false_iff_ne.mpr c7
     have c7b1 : (tA3 != 0) = true := bne_iff_ne.mpr c7
     by_cases c11 : (x4_1.length : Int) ≥ 400
     ·
      rw [if_pos c11] at H
      have c11b0 : decide (400 ≤ (x4_1.length : Int)) = true := decide_eq_true c11
      have c11b1 : decide (400 ≤ x4_1.length) = true := decide_eq_true (by omega)
      clear c11
      simp only [Option.some.injEq, Prod.mk.injEq] at H
      obtain ⟨rfl, rfl⟩ := H
      go_wp2_with (first | ((with_reducible refine gate_callee (f := 35) rfl ?_); refine gL_ (some 9) Tryz.func35 #[.string x0_1, .string (⟨#[32]⟩ : ByteArray)] ?_; (with_reducible refine (strings_TrimLeft.calls x0_1 (⟨#[32]⟩ : ByteArray) tA1 _ A4.out).mono ?_); rintro e w' ⟨rfl, ⟨nd, rfl⟩⟩; refine ⟨_, rfl, ?_⟩; (try (rw [drewN_self wr]; generalize hq_ : World.drewN wr _ = wr; replace HO_4 : Aside0 (Kd.R k51 51 wr w.heap.size (fun _ => True) u4 x4_1) := ⟨by rw [← hq_]; exact (crR HO_4)⟩; replace HB : Aside0 (Below w.heap.size w wr) := ⟨by rw [← hq_]; exact (blw HB)⟩; clear hq_))) | ((with_reducible refine gate_callee (f := 36) rfl ?_); refine gL_ (some 15) Tryz.func36 #[.string tA1] ?_; (with_reducible refine (impl_nextToken.calls k1 tA1 tA2 tA4 tA5 tA3 _ (lxW_below HG.out (blw HB) (Nat.le_refl _)) A6.out).mono ?_); rintro e w12 ⟨rfl, hb⟩; refine ⟨_, rfl, ?_⟩; replace HO_4 := rblR HO_4 hb; replace HB := bst HB hb; (try clear hb); (try clear hb2); (try clear hk); (try clear hi)) | ((with_reducible refine gate_dst (N := 5) rfl ?_); refine bx_ (N := 5) (cs := #[.int .i64 0, .int .i64 0, .string (⟨#[]⟩ : ByteArray)]) (t := 51) ?_; intro gbA0 hg w13 hbox hb; replace HO_4 := Aside0.mk (Kd.R_below (Kd.R_elderB (crR HO_4) gbA0 (Nat.le_of_eq hg.symm)) hb); have BKA0 := Aside0.mk (hbox); have GWA0 := geh hg HB; have GEA0 := geh hg HB; replace HB := bst HB hb; clear hb hbox hg; have hcz14_0 := bce BKA0 0 (.int .i64 0); have hcz14_1 := bce BKA0 1 (.int .i64 0); have hcz14_2 : w13.cell? ⟨gbA0, 2, none⟩ = some (.string (⟨#[]⟩ : ByteArray)) := bce BKA0 2 _; have hfz14_0 := blk_frozen BKA0.out 0; have hfz14_1 := blk_frozen BKA0.out 1; have hfz14_2 := blk_frozen BKA0.out 2; obtain ⟨Ao15, co15, eo15⟩ := Kd.R_slice HO_4.out; subst eo15))
      go_ret2
      exact ⟨_, er_, by first | exact Kd.R_nil _ _ _ _ _ | exact Kd.N_nil _ _ _ _ _ | exact Kd.V_nil _ _ _ _ _ | exact Kd.Q_nil _ _ _ _ _ | exact Kd.S_nil _ _ _ _ _, blw HB⟩
     ·
      rw [if_neg c11] at H
      have c11b0 : decide (400 ≤ (x4_1.length : Int)) = false := decide_eq_false c11
      have c11b1 : decide (400 ≤ x4_1.length) = false := decide_eq_false (by omega)
      clear c11
      by_cases c16 : x4_1.length < 4398046511104
      ·
       rw [if_pos c16] at H
       have LMc16 := Aside0.mk c16
       clear c16
       obtain ⟨yA7, hy251⟩ : ∃ y_ : List (S51), y_ = (x4_1 ++ [(⟨tA2, tA4, tA5⟩ : S51)]) := ⟨_, rfl⟩
       replace H : (if 0 ≤ tA3 then (if tA3 ≤ (tA1.size : Int) then (impl_lex.l0 k1 (tA1.extract (tA3 : Int).toNat tA1.size) yA7) else (none)) else (none)) = some (r1, r2) := by subst hy251; first | with_reducible exact H | with_reducible exact (Option.bind_some _ _).symm.trans H | exact H
       have NyA7 := Aside0.mk hy251
       clear hy251
       by_cases c17 : 0 ≤ tA3
       ·
        rw [if_pos c17] at H
        have c17b0 := eq_true c17
        have c17b1 : decide (0 ≤ tA3) = true := decide_eq_true c17
        clear c17
        by_cases c18 : tA3 ≤ (tA1.size : Int)
        ·
         rw [if_pos c18] at H
         have c18b0 := eq_true c18
         have c18b1 : decide (tA3 ≤ (tA1.size : Int)) = true := decide_eq_true c18
         clear c18
         have H' := Aside0.mk H
         clear H
         try go_wp2_with (first | ((with_reducible refine gate_callee (f := 35) rfl ?_); refine gL_ (some 9) Tryz.func35 #[.string x0_1, .string (⟨#[32]⟩ : ByteArray)] ?_; (with_reducible refine (strings_TrimLeft.calls x0_1 (⟨#[32]⟩ : ByteArray) tA1 _ A4.out).mono ?_); rintro e w' ⟨rfl, ⟨nd, rfl⟩⟩; refine ⟨_, rfl, ?_⟩; (try (rw [drewN_self wr]; generalize hq_ : World.drewN wr _ = wr; replace HO_4 : Aside0 (Kd.R k51 51 wr w.heap.size (fun _ => True) u4 x4_1) := ⟨by rw [← hq_]; exact (crR HO_4)⟩; replace HB : Aside0 (Below w.heap.size w wr) := ⟨by rw [← hq_]; exact (blw HB)⟩; clear hq_))) | ((with_reducible refine gate_callee (f := 36) rfl ?_); refine gL_ (some 15) Tryz.func36 #[.string tA1] ?_; (with_reducible refine (impl_nextToken.calls k1 tA1 tA2 tA4 tA5 tA3 _ (lxW_below HG.out (blw HB) (Nat.le_refl _)) A6.out).mono ?_); rintro e w19 ⟨rfl, hb⟩; refine ⟨_, rfl, ?_⟩; replace HO_4 := rblR HO_4 hb; replace HB := bst HB hb; (try clear hb); (try clear hb2); (try clear hk); (try clear hi)) | ((with_reducible refine gate_dst (N := 5) rfl ?_); refine bx_ (N := 5) (cs := #[.int .i64 0, .int .i64 0, .string (⟨#[]⟩ : ByteArray)]) (t := 51) ?_; intro gbA0 hg w20 hbox hb; replace HO_4 := Aside0.mk (Kd.R_below (Kd.R_elderB (crR HO_4) gbA0 (Nat.le_of_eq hg.symm)) hb); have BKA0 := Aside0.mk (hbox); have GWA0 := geh hg HB; have GEA0 := geh hg HB; replace HB := bst HB hb; clear hb hbox hg; have hcz21_0 := bce BKA0 0 (.int .i64 0); have hcz21_1 := bce BKA0 1 (.int .i64 0); have hcz21_2 : w20.cell? ⟨gbA0, 2, none⟩ = some (.string (⟨#[]⟩ : ByteArray)) := bce BKA0 2 _; have hfz21_0 := blk_frozen BKA0.out 0; have hfz21_1 := blk_frozen BKA0.out 1; have hfz21_2 := blk_frozen BKA0.out 2; obtain ⟨Ao22, co22, eo22⟩ := Kd.R_slice HO_4.out; subst eo22))
         have n0_ : Aside0 (Kd.R k51 51 (((w20.setCell ⟨gbA0, 0, none⟩ (.int .i64 tA2)).setCell ⟨gbA0, 1, none⟩ (.int .i64 tA4)).setCell ⟨gbA0, 2, none⟩ (.string tA5)) w.heap.size (fun k_ => k_ ≠ gbA0) (.slice Ao22 x4_1.length co22) x4_1) := ⟨by (with_reducible repeat (first | apply Kd.R_alloc | apply Kd.R_drewN | apply Kd.R_drew)); exact Kd.R_mono (Kd.R_far (p := ⟨gbA0, 2, none⟩) (Kd.R_far (p := ⟨gbA0, 1, none⟩) (Kd.R_far (p := ⟨gbA0, 0, none⟩) (Kd.R_mono HO_4.out (fun k_ hk => (⟨hk, hk.2⟩ : _ ∧ k_ ≠ gbA0))) (fun _ hk => hk.2) (.int .i64 tA2)) (fun _ hk => hk.2) (.int .i64 tA4)) (fun _ hk => hk.2) (.string tA5)) (fun _ hk => hk.1.2)⟩
         have n1_ : Aside0 ((((w20.setCell ⟨gbA0, 0, none⟩ (.int .i64 tA2)).setCell ⟨gbA0, 1, none⟩ (.int .i64 tA4)).setCell ⟨gbA0, 2, none⟩ (.string tA5)).heap[gbA0]? = some (.cells #[.int .i64 tA2, .int .i64 tA4, .string tA5] 51 (0, 0))) := ⟨by (with_reducible repeat (first | refine blk_drewN ?_ _ | refine blk_drew ?_ | refine blk_alloc ?_ _)); refine blk_put (cs := #[.int .i64 tA2, .int .i64 tA4, .string (⟨#[]⟩ : ByteArray)]) ?_ 2 _ rfl; (with_reducible repeat (first | refine blk_drewN ?_ _ | refine blk_drew ?_ | refine blk_alloc ?_ _)); refine blk_put (cs := #[.int .i64 tA2, .int .i64 0, .string (⟨#[]⟩ : ByteArray)]) ?_ 1 _ rfl; (with_reducible repeat (first | refine blk_drewN ?_ _ | refine blk_drew ?_ | refine blk_alloc ?_ _)); refine blk_put (cs := #[.int .i64 0, .int .i64 0, .string (⟨#[]⟩ : ByteArray)]) ?_ 0 _ rfl; (with_reducible repeat (first | refine blk_drewN ?_ _ | refine blk_drew ?_ | refine blk_alloc ?_ _)); exact BKA0.out⟩
         have n2_ : Aside0 (Below w.heap.size w (((w20.setCell ⟨gbA0, 0, none⟩ (.int .i64 tA2)).setCell ⟨gbA0, 1, none⟩ (.int .i64 tA4)).setCell ⟨gbA0, 2, none⟩ (.string tA5))) := ⟨blw HB⟩
         (try clear HO_4)
         (try clear BKA0)
         (try clear HB)
         generalize (((w20.setCell ⟨gbA0, 0, none⟩ (.int .i64 tA2)).setCell ⟨gbA0, 1, none⟩ (.int .i64 tA4)).setCell ⟨gbA0, 2, none⟩ (.string tA5)) = w23 at n0_ n1_ n2_ ⊢
         have HO_4 := n0_
         have BKA0 := n1_
         have HB := n2_
         clear n0_ n1_ n2_
         replace HO_4 := Aside0.mk (Kd.R_drew HO_4.out)
         replace BKA0 := Aside0.mk (blk_drew BKA0.out)
         replace HB := Aside0.mk (below_drew1 HB.out)
         refine start_ (n := 9) (S := fun w' => w'.cell? ⟨gbA0, 0, none⟩ = some (.int .i64 tA2) ∧ w'.cell? ⟨gbA0, 1, none⟩ = some (.int .i64 tA4) ∧ w'.cell? ⟨gbA0, 2, none⟩ = some (.string tA5)) (ds := []) (bm 9 0) (by kernel_rfl) rfl rfl ⟨bce BKA0 0 _, bce BKA0 1 _, bce BKA0 2 _⟩ (fun hHeld => ?_); refine with_tabW impl_lex.tab10 impl_lex.bits10 (fun HT_ HW_ => ?_)
         generalize w23.drew = w24 at HO_4 BKA0 HB hHeld ⊢
         refine pu_ 0 (some 25) (bm 9 1) HT_.out ?_
         refine pu_ 4 (some 29) (bm 9 17) HT_.out ?_
         refine pu_ 5 (some 30) (bm 9 49) HT_.out ?_
         refine pu_ 6 (some 31) (bm 9 113) HT_.out ?_
         refine tk_ 1 (some 26) (bm 9 115) HT_.out HW_.out hHeld ?_
         refine one_ (i := 2) (N := some 27) (bm 9 119) rfl rfl (one_of HT_.out (by kernel_rfl)) (by decide) (fun K hK => ?_)
         refine value_ (w1 := ?_) (v := ?_) (by rfl) rfl ?_ ?_
         rotate_left 2
         ·
          go_simp
          constructor
          ·
           rfl
          ·
           rfl
         refine hK.out _ _ ⟨(blk_cell (blk_alloc BKA0.out _) 0).trans rfl, (blk_cell (blk_alloc BKA0.out _) 1).trans rfl, (blk_cell (blk_alloc BKA0.out _) 2).trans rfl⟩ (fun hHeld => ?_)
         clear hK K
         refine nm_ 27 ?_
         refine one_ (i := 3) (N := some 28) (bm 9 127) rfl rfl (one_of HT_.out (by kernel_rfl)) (by decide) (fun K hK => ?_)
         refine Kd.R_append_step k51 (w0 := w) w.heap.size (by rfl) (.tmp 25) (.tmp 27) 33 51 (.agg #[(.int .i64 0), (.int .i64 0), (.string ⟨#[]⟩)]) 32 rfl Tryz.underlying33 info51 rfl (by decide) (by omega) (.slice Ao22 x4_1.length co22) x4_1 (⟨tA2, tA4, tA5⟩ : S51) [.int .i64 tA2, .int .i64 tA4, .string tA5] (fun k_ => k_ ≠ gbA0) (fun _ => False) rfl rfl ?aP (fun _ hk => hk.elim) ?aF ?aO ?aB ?aS ?aL ?_
         (case aP => exact k51_mkM _ _ _ (⟨tA2, tA4, tA5⟩ : S51))
         (case aB => exact (blw HB))
         (case aF => exact (fun k_ hk => Kd.freshB (g := gbA0) (o := .cells #[.int .i64 tA2, .int .i64 tA4, .string tA5] 51 (0, 0)) (crb BKA0) k_ hk))
         (case aO => exact (crR HO_4))
         (case aS => exact (bsz HB))
         (case aL => have := LMc16.out; omega)
         intro vB1 w25 ho hb hg hat
         rw [← NyA7.out] at ho
         replace BKA0 := Aside0.mk (blk_grown (g := gbA0) (o := .cells #[.int .i64 tA2, .int .i64 tA4, .string tA5] 51 (0, 0)) (crb BKA0) hg (Kd.R_away HO_4.out (fun _ hk => hk)))
         replace HB := Aside0.mk (hb)
         have HOA9 := Aside0.mk (ho)
         clear HO_4
         clear ho hb hg hat
         refine hK.out _ _ ⟨bce BKA0 0 _, bce BKA0 1 _, bce BKA0 2 _⟩ (fun hHeld => ?_)
         clear hK K
         refine nm_ 28 ?_
         refine pu_ 7 (some 4) (bm 9 255) HT_.out ?_
         refine pu_ 8 (some 0) (bm 9 511) HT_.out ?_
         refine done_ (done_of HT_.out (by kernel_rfl)) ?_
         try go_wp2
         go_roundg k1
         case measure => have := HK1.out; omega
         case rel => exact ⟨(tA1.extract (tA3 : Int).toNat tA1.size), (yA7), rs_, H', ⟨by have := HK1.out; omega⟩, ⟨crM HOA9 fun _ hk => trivial⟩, ⟨blw HB⟩⟩
        ·
         rw [if_neg c18] at H
         exact absurd H (by simp)
       ·
        rw [if_neg c17] at H
        exact absurd H (by simp)
      ·
       rw [if_neg c16] at H
       exact absurd H (by simp)

def spec_l01In.f (a0 : Int) (a1 : Int) (a2 : Int) : Option (Bool) := if a1 ≤ a0 then (some (decide (a0 ≤ a2))) else (some false)
set_option maxHeartbeats 8000000 in
set_option maxRecDepth 100000 in
theorem spec_l01In.calls (a0 : Int) (a1 : Int) (a2 : Int) (r : Bool) (w : World) (h : spec_l01In.f a0 a1 a2 = some r) :
  Calls Tryz.prog 30 #[.int .i64 a0, .int .i64 a1, .int .i64 a2] w fun e w' => e = .returned (.bool r) ∧ Drawn0 w w' := by
 have H : (if a1 ≤ a0 then (some (decide (a0 ≤ a2))) else (some false)) = some r := h
 clear h
 by_cases c4 : a1 ≤ a0
 ·
  rw [if_pos c4] at H
  have c4b0 : decide (a1 ≤ a0) = true := decide_eq_true c4
  clear c4
  obtain rfl := Option.some.inj H
  go_enter Tryz.func30, Tryz.ntmps30
  go_wp2
  go_ret
  exact ⟨by first | rfl | (simp; done) | (simp [*]; done), by repeat (first | exact Drawn0.refl _ | apply Drawn0.step)⟩
 ·
  rw [if_neg c4] at H
  have c4b0 : decide (a1 ≤ a0) = false := decide_eq_false c4
  clear c4
  obtain rfl := Option.some.inj H
  go_enter Tryz.func30, Tryz.ntmps30
  go_wp2
  go_ret
  exact ⟨by first | rfl | (simp; done) | (simp [*]; done), by repeat (first | exact Drawn0.refl _ | apply Drawn0.step)⟩

def spec_l05Two.f (a0 : Int) : Option (Bool) := (spec_l01In.f a0 3 6).bind fun tA0 => (some tA0)
set_option maxHeartbeats 8000000 in
set_option maxRecDepth 100000 in
theorem spec_l05Two.calls (a0 : Int) (r : Bool) (w : World) (h : spec_l05Two.f a0 = some r) :
  Calls Tryz.prog 32 #[.int .i64 a0] w fun e w' => e = .returned (.bool r) ∧ Drawn0 w w' := by
 have H : ((spec_l01In.f a0 3 6).bind fun tA0 => (some tA0)) = some r := h
 clear h
 replace H := Option.bind_eq_some_iff.mp H
 obtain ⟨tA0, A20, H⟩ := H
 replace H : (some tA0) = some r := H
 have A2 := Aside0.mk A20
 clear A20
 obtain rfl := Option.some.inj H
 go_enter Tryz.func32, Tryz.ntmps32
 go_wp2_with (first | ((with_reducible refine gate_callee (f := 30) rfl ?_); refine gL_ (some 4) Tryz.func30 #[.int .i64 a0, .int .i64 3, .int .i64 6] ?_; (with_reducible refine (spec_l01In.calls a0 3 6 tA0 _ A2.out).mono ?_); rintro e w' ⟨rfl, ⟨nd, rfl⟩⟩; refine ⟨_, rfl, ?_⟩))
 go_ret
 exact ⟨by first | rfl | (simp; done) | (simp [*]; done), by repeat (first | exact Drawn0.refl _ | apply Drawn0.step)⟩

def spec_l05One.f (a0 : Int) : Option (Bool) := if a0 = 7 then (some true) else (some (a0 == 8))
set_option maxHeartbeats 8000000 in
set_option maxRecDepth 100000 in
theorem spec_l05One.calls (a0 : Int) (r : Bool) (w : World) (h : spec_l05One.f a0 = some r) :
  Calls Tryz.prog 34 #[.int .i64 a0] w fun e w' => e = .returned (.bool r) ∧ Drawn0 w w' := by
 have H : (if a0 = 7 then (some true) else (some (a0 == 8))) = some r := h
 clear h
 by_cases c2 : a0 = 7
 ·
  rw [if_pos c2] at H
  have c2b0 : (a0 == 7) = true := beq_iff_eq.mpr c2
  have c2b1 : (a0 != 7) = false := bne_eq_false_iff_eq.mpr c2
  clear c2
  obtain rfl := Option.some.inj H
  go_enter Tryz.func34, Tryz.ntmps34
  go_wp2
  go_ret
  exact ⟨by first | rfl | (simp; done) | (simp [*]; done), by repeat (first | exact Drawn0.refl _ | apply Drawn0.step)⟩
 ·
  rw [if_neg c2] at H
  have c2b0 : (a0 == 7) = false := beq_eq_false_iff_ne.mpr c2
  have c2b1 : (a0 != 7) = true := bne_iff_ne.mpr c2
  obtain rfl := Option.some.inj H
  go_enter Tryz.func34, Tryz.ntmps34
  go_wp2
  go_ret
  exact ⟨by first | rfl | (simp; done) | (simp [*]; done), by repeat (first | exact Drawn0.refl _ | apply Drawn0.step)⟩

def impl_Node_kids.j0 : Nat → Int → Bool → Option (Int)
 | 0, _, _ => none
 | k + 1, x4, x5 => if x5 = true then (some 2) else (if x4 = 7 then (some 1) else (if x4 = 8 then (some 1) else (some 0)))
def impl_Node_kids.f (k : Nat) (a0_0 : Int) (a0_1 : Int) (a0_2 : Int) (a0_3 : Int) : Option (Int) := if a0_0 = 3 then (impl_Node_kids.j0 k a0_0 (a0_0 == 3)) else (if a0_0 = 4 then (impl_Node_kids.j0 k a0_0 (a0_0 == 4)) else (if a0_0 = 5 then (impl_Node_kids.j0 k a0_0 (a0_0 == 5)) else (impl_Node_kids.j0 k a0_0 (a0_0 == 6))))
set_option maxHeartbeats 8000000 in
set_option maxRecDepth 100000 in
theorem impl_Node_kids.calls (k : Nat) (a0_0 : Int) (a0_1 : Int) (a0_2 : Int) (a0_3 : Int) (r : Int) (w : World) (h : impl_Node_kids.f k a0_0 a0_1 a0_2 a0_3 = some r) :
  Calls Tryz.prog 63 #[.agg #[.int .i64 a0_0, .int .i64 a0_1, .int .i64 a0_2, .int .i64 a0_3]] w fun e w' => e = .returned (.int .i64 r) ∧ Below w.heap.size w w' := by
 have hu49 := Tryz.underlying49
 have HB := Aside0.mk (Below.refl w.heap.size w)
 have H : (if a0_0 = 3 then (impl_Node_kids.j0 k a0_0 (a0_0 == 3)) else (if a0_0 = 4 then (impl_Node_kids.j0 k a0_0 (a0_0 == 4)) else (if a0_0 = 5 then (impl_Node_kids.j0 k a0_0 (a0_0 == 5)) else (impl_Node_kids.j0 k a0_0 (a0_0 == 6))))) = some r := h
 clear h
 have HC2 := Aside0.mk H
 clear H
 go_enter Tryz.func63, Tryz.ntmps63
 go_upto_if 5 with (first | ((with_reducible refine gate_dst (N := 1) rfl ?_); refine bx_ (N := 1) (cs := #[.int .i64 a0_0, .int .i64 a0_1, .int .i64 a0_2, .int .i64 a0_3]) (t := 49) ?_; intro gbA0 hg w3 hbox hb; have BKA0 := Aside0.mk (hbox); have GWA0 := geh hg HB; have GEA0 := geh hg HB; replace HB := bst HB hb; clear hb hbox hg; have hcz4_0 := bce BKA0 0 (.int .i64 a0_0); have hcz4_1 := bce BKA0 1 (.int .i64 a0_1); have hcz4_2 := bce BKA0 2 (.int .i64 a0_2); have hcz4_3 := bce BKA0 3 (.int .i64 a0_3); have hfz4_0 := blk_frozen BKA0.out 0; have hfz4_1 := blk_frozen BKA0.out 1; have hfz4_2 := blk_frozen BKA0.out 2; have hfz4_3 := blk_frozen BKA0.out 3))
 (try simp only [Act.put, List.setIfInBounds_toArray, List.set_cons_zero, List.set_cons_succ])
 go_cut [5] (fun v5 wc => ∃ (kq : Nat) (x5_1 : Bool), v5 = .bool x5_1 ∧ Aside0 (impl_Node_kids.j0 kq a0_0 x5_1 = some r) ∧ Aside0 (kq ≤ k) ∧ Aside0 (wc.heap[gbA0]? = some (.cells #[.int .i64 a0_0, .int .i64 a0_1, .int .i64 a0_2, .int .i64 a0_3] 49 (0, 0))) ∧ Aside0 (Below w.heap.size w wc))
 case first =>
  have H := HC2.out
  clear HC2
  by_cases c5 : a0_0 = 3
  ·
   rw [if_pos c5] at H
   have c5b0 : (a0_0 == 3) = true := beq_iff_eq.mpr c5
   have c5b1 : (a0_0 != 3) = false := bne_eq_false_iff_eq.mpr c5
   clear c5
   (first | rw [c5b0] | (simp only [i64_w, i32_w]; rw [c5b0]) | skip)
   have H' := Aside0.mk H
   clear H
   go_wp2
   go_meet
   case rel => exact ⟨_, ((a0_0 == 3)), rs_, H', ⟨by first | omega | exact Nat.le_refl _⟩, ⟨crb BKA0⟩, ⟨blw HB⟩⟩
  ·
   rw [if_neg c5] at H
   have c5b0 : (a0_0 == 3) = false := beq_eq_false_iff_ne.mpr c5
   have c5b1 : (a0_0 != 3) = true := bne_iff_ne.mpr c5
   (first | rw [c5b0] | (simp only [i64_w, i32_w]; rw [c5b0]) | skip)
   by_cases c6 : a0_0 = 4
   ·
    rw [if_pos c6] at H
    have c6b0 : (a0_0 == 4) = true := beq_iff_eq.mpr c6
    have c6b1 : (a0_0 != 4) = false := bne_eq_false_iff_eq.mpr c6
    clear c6
    have H' := Aside0.mk H
    clear H
    go_wp2
    go_meet
    case rel => exact ⟨_, ((a0_0 == 4)), rs_, H', ⟨by first | omega | exact Nat.le_refl _⟩, ⟨crb BKA0⟩, ⟨blw HB⟩⟩
   ·
    rw [if_neg c6] at H
    have c6b0 : (a0_0 == 4) = false := beq_eq_false_iff_ne.mpr c6
    have c6b1 : (a0_0 != 4) = true := bne_iff_ne.mpr c6
    by_cases c7 : a0_0 = 5
    ·
     rw [if_pos c7] at H
     have c7b0 : (a0_0 == 5) = true := beq_iff_eq.mpr c7
     have c7b1 : (a0_0 != 5) = false := bne_eq_false_iff_eq.mpr c7
     clear c7
     have H' := Aside0.mk H
     clear H
     go_wp2
     go_meet
     case rel => exact ⟨_, ((a0_0 == 5)), rs_, H', ⟨by first | omega | exact Nat.le_refl _⟩, ⟨crb BKA0⟩, ⟨blw HB⟩⟩
    ·
     rw [if_neg c7] at H
     have c7b0 : (a0_0 == 5) = false := beq_eq_false_iff_ne.mpr c7
     have c7b1 : (a0_0 != 5) = true := bne_iff_ne.mpr c7
     have H' := Aside0.mk H
     clear H
     go_wp2
     go_meet
     case rel => exact ⟨_, ((a0_0 == 6)), rs_, H', ⟨by first | omega | exact Nat.le_refl _⟩, ⟨crb BKA0⟩, ⟨blw HB⟩⟩
 case rest =>
  clear HC2
  try clear p2
  try clear c5
  try clear c5b0
  try clear c5b1
  try clear c6
  try clear c6b0
  try clear c6b1
  try clear c7
  try clear c7b0
  try clear c7b1
  try clear hcz4_0
  try clear hcz4_1
  try clear hcz4_2
  try clear hcz4_3
  try clear hfz4_0
  try clear hfz4_1
  try clear hfz4_2
  try clear hfz4_3
  obtain ⟨kq, x5_1, rfl, HA, HJ1, BKA0, HB⟩ := hcut
  cases kq with
  | zero => exact absurd HA.out (by simp [impl_Node_kids.j0])
  | succ kj1 =>
   have H := HA.out
   clear HA
   simp only [impl_Node_kids.j0] at H
   by_cases c8 : x5_1 = true
   ·
    subst c8
    rw [if_pos rfl] at H
    obtain rfl := Option.some.inj H
    go_wp2
    go_ret
    exact ⟨er_, blw HB⟩
   ·
    replace c8 := Bool.eq_false_iff.mpr c8
    subst c8
    rw [if_neg (show ¬ (false = true) by decide)] at H
    by_cases c9 : a0_0 = 7
    ·
     rw [if_pos c9] at H
     have c9b0 : (a0_0 == 7) = true := beq_iff_eq.mpr c9
     have c9b1 : (a0_0 != 7) = false := bne_eq_false_iff_eq.mpr c9
     clear c9
     obtain rfl := Option.some.inj H
     go_wp2
     go_ret
     exact ⟨er_, blw HB⟩
    ·
     rw [if_neg c9] at H
     have c9b0 : (a0_0 == 7) = false := beq_eq_false_iff_ne.mpr c9
     have c9b1 : (a0_0 != 7) = true := bne_iff_ne.mpr c9
     by_cases c10 : a0_0 = 8
     ·
      rw [if_pos c10] at H
      have c10b0 : (a0_0 == 8) = true := beq_iff_eq.mpr c10
      have c10b1 : (a0_0 != 8) = false := bne_eq_false_iff_eq.mpr c10
      clear c10
      obtain rfl := Option.some.inj H
      go_wp2
      go_ret
      exact ⟨er_, blw HB⟩
     ·
      rw [if_neg c10] at H
      have c10b0 : (a0_0 == 8) = false := beq_eq_false_iff_ne.mpr c10
      have c10b1 : (a0_0 != 8) = true := bne_iff_ne.mpr c10
      obtain rfl := Option.some.inj H
      go_wp2
      go_ret
      exact ⟨er_, blw HB⟩

def impl_Node_numberOk.f (a0_0 : Int) (a0_1 : Int) (a0_2 : Int) (a0_3 : Int) : Option (Bool) := if a0_0 = 1 then ((impl_between.f a0_3 0 999999999).bind fun tA1 => (some tA1)) else (if a0_0 = 2 then ((impl_between.f a0_3 0 3).bind fun tA2 => (some tA2)) else (if a0_0 = 8 then ((impl_between.f a0_3 0 8).bind fun tA3 => (some tA3)) else (some (a0_3 == 0))))
set_option maxHeartbeats 8000000 in
set_option maxRecDepth 100000 in
theorem impl_Node_numberOk.calls (a0_0 : Int) (a0_1 : Int) (a0_2 : Int) (a0_3 : Int) (r : Bool) (w : World) (h : impl_Node_numberOk.f a0_0 a0_1 a0_2 a0_3 = some r) :
  Calls Tryz.prog 74 #[.agg #[.int .i64 a0_0, .int .i64 a0_1, .int .i64 a0_2, .int .i64 a0_3]] w fun e w' => e = .returned (.bool r) ∧ Below w.heap.size w w' := by
 have hu49 := Tryz.underlying49
 have HB := Aside0.mk (Below.refl w.heap.size w)
 have H : (if a0_0 = 1 then ((impl_between.f a0_3 0 999999999).bind fun tA1 => (some tA1)) else (if a0_0 = 2 then ((impl_between.f a0_3 0 3).bind fun tA2 => (some tA2)) else (if a0_0 = 8 then ((impl_between.f a0_3 0 8).bind fun tA3 => (some tA3)) else (some (a0_3 == 0))))) = some r := h
 clear h
 by_cases c2 : a0_0 = 1
 ·
  rw [if_pos c2] at H
  have c2b0 : (a0_0 == 1) = true := beq_iff_eq.mpr c2
  have c2b1 : (a0_0 != 1) = false := bne_eq_false_iff_eq.mpr c2
  clear c2
  replace H := Option.bind_eq_some_iff.mp H
  obtain ⟨tA1, A30, H⟩ := H
  replace H : (some tA1) = some r := H
  have A3 := Aside0.mk A30
  clear A30
  obtain rfl := Option.some.inj H
  go_enter Tryz.func74, Tryz.ntmps74
  go_wp2_with (first | ((with_reducible refine gate_dst (N := 1) rfl ?_); refine bx_ (N := 1) (cs := #[.int .i64 a0_0, .int .i64 a0_1, .int .i64 a0_2, .int .i64 a0_3]) (t := 49) ?_; intro gbA0 hg w4 hbox hb; have BKA0 := Aside0.mk (hbox); have GWA0 := geh hg HB; have GEA0 := geh hg HB; replace HB := bst HB hb; clear hb hbox hg; have hcz5_0 := bce BKA0 0 (.int .i64 a0_0); have hcz5_1 := bce BKA0 1 (.int .i64 a0_1); have hcz5_2 := bce BKA0 2 (.int .i64 a0_2); have hcz5_3 := bce BKA0 3 (.int .i64 a0_3); have hfz5_0 := blk_frozen BKA0.out 0; have hfz5_1 := blk_frozen BKA0.out 1; have hfz5_2 := blk_frozen BKA0.out 2; have hfz5_3 := blk_frozen BKA0.out 3) | ((with_reducible refine gate_callee (f := 41) rfl ?_); refine gL_ (some 9) Tryz.func41 #[.int .i64 a0_3, .int .i64 0, .int .i64 999999999] ?_; (with_reducible refine (impl_between.calls a0_3 0 999999999 tA1 _ A3.out).mono ?_); rintro e w' ⟨rfl, ⟨nd, rfl⟩⟩; refine ⟨_, rfl, ?_⟩))
  go_ret
  exact ⟨er_, blw HB⟩
 ·
  rw [if_neg c2] at H
  have c2b0 : (a0_0 == 1) = false := beq_eq_false_iff_ne.mpr c2
  have c2b1 : (a0_0 != 1) = true := bne_iff_ne.mpr c2
  by_cases c6 : a0_0 = 2
  ·
   rw [if_pos c6] at H
   have c6b0 : (a0_0 == 2) = true := beq_iff_eq.mpr c6
   have c6b1 : (a0_0 != 2) = false := bne_eq_false_iff_eq.mpr c6
   clear c6
   replace H := Option.bind_eq_some_iff.mp H
   obtain ⟨tA2, A70, H⟩ := H
   replace H : (some tA2) = some r := H
   have A7 := Aside0.mk A70
   clear A70
   obtain rfl := Option.some.inj H
   go_enter Tryz.func74, Tryz.ntmps74
   go_wp2_with (first | ((with_reducible refine gate_dst (N := 1) rfl ?_); refine bx_ (N := 1) (cs := #[.int .i64 a0_0, .int .i64 a0_1, .int .i64 a0_2, .int .i64 a0_3]) (t := 49) ?_; intro gbA0 hg w8 hbox hb; have BKA0 := Aside0.mk (hbox); have GWA0 := geh hg HB; have GEA0 := geh hg HB; replace HB := bst HB hb; clear hb hbox hg; have hcz9_0 := bce BKA0 0 (.int .i64 a0_0); have hcz9_1 := bce BKA0 1 (.int .i64 a0_1); have hcz9_2 := bce BKA0 2 (.int .i64 a0_2); have hcz9_3 := bce BKA0 3 (.int .i64 a0_3); have hfz9_0 := blk_frozen BKA0.out 0; have hfz9_1 := blk_frozen BKA0.out 1; have hfz9_2 := blk_frozen BKA0.out 2; have hfz9_3 := blk_frozen BKA0.out 3) | ((with_reducible refine gate_callee (f := 41) rfl ?_); refine gL_ (some 14) Tryz.func41 #[.int .i64 a0_3, .int .i64 0, .int .i64 3] ?_; (with_reducible refine (impl_between.calls a0_3 0 3 tA2 _ A7.out).mono ?_); rintro e w' ⟨rfl, ⟨nd, rfl⟩⟩; refine ⟨_, rfl, ?_⟩))
   go_ret
   exact ⟨er_, blw HB⟩
  ·
   rw [if_neg c6] at H
   have c6b0 : (a0_0 == 2) = false := beq_eq_false_iff_ne.mpr c6
   have c6b1 : (a0_0 != 2) = true := bne_iff_ne.mpr c6
   by_cases c10 : a0_0 = 8
   ·
    rw [if_pos c10] at H
    have c10b0 : (a0_0 == 8) = true := beq_iff_eq.mpr c10
    have c10b1 : (a0_0 != 8) = false := bne_eq_false_iff_eq.mpr c10
    clear c10
    replace H := Option.bind_eq_some_iff.mp H
    obtain ⟨tA3, AA4, H⟩ := H
    replace H : (some tA3) = some r := H
    have A11 := Aside0.mk AA4
    clear AA4
    obtain rfl := Option.some.inj H
    go_enter Tryz.func74, Tryz.ntmps74
    go_wp2_with (first | ((with_reducible refine gate_dst (N := 1) rfl ?_); refine bx_ (N := 1) (cs := #[.int .i64 a0_0, .int .i64 a0_1, .int .i64 a0_2, .int .i64 a0_3]) (t := 49) ?_; intro gbA0 hg w12 hbox hb; have BKA0 := Aside0.mk (hbox); have GWA0 := geh hg HB; have GEA0 := geh hg HB; replace HB := bst HB hb; clear hb hbox hg; have hcz13_0 := bce BKA0 0 (.int .i64 a0_0); have hcz13_1 := bce BKA0 1 (.int .i64 a0_1); have hcz13_2 := bce BKA0 2 (.int .i64 a0_2); have hcz13_3 := bce BKA0 3 (.int .i64 a0_3); have hfz13_0 := blk_frozen BKA0.out 0; have hfz13_1 := blk_frozen BKA0.out 1; have hfz13_2 := blk_frozen BKA0.out 2; have hfz13_3 := blk_frozen BKA0.out 3) | ((with_reducible refine gate_callee (f := 41) rfl ?_); refine gL_ (some 19) Tryz.func41 #[.int .i64 a0_3, .int .i64 0, .int .i64 8] ?_; (with_reducible refine (impl_between.calls a0_3 0 8 tA3 _ A11.out).mono ?_); rintro e w' ⟨rfl, ⟨nd, rfl⟩⟩; refine ⟨_, rfl, ?_⟩))
    go_ret
    exact ⟨er_, blw HB⟩
   ·
    rw [if_neg c10] at H
    have c10b0 : (a0_0 == 8) = false := beq_eq_false_iff_ne.mpr c10
    have c10b1 : (a0_0 != 8) = true := bne_iff_ne.mpr c10
    obtain rfl := Option.some.inj H
    go_enter Tryz.func74, Tryz.ntmps74
    go_wp2_with (first | ((with_reducible refine gate_dst (N := 1) rfl ?_); refine bx_ (N := 1) (cs := #[.int .i64 a0_0, .int .i64 a0_1, .int .i64 a0_2, .int .i64 a0_3]) (t := 49) ?_; intro gbA0 hg w14 hbox hb; have BKA0 := Aside0.mk (hbox); have GWA0 := geh hg HB; have GEA0 := geh hg HB; replace HB := bst HB hb; clear hb hbox hg; have hcz15_0 := bce BKA0 0 (.int .i64 a0_0); have hcz15_1 := bce BKA0 1 (.int .i64 a0_1); have hcz15_2 := bce BKA0 2 (.int .i64 a0_2); have hcz15_3 := bce BKA0 3 (.int .i64 a0_3); have hfz15_0 := blk_frozen BKA0.out 0; have hfz15_1 := blk_frozen BKA0.out 1; have hfz15_2 := blk_frozen BKA0.out 2; have hfz15_3 := blk_frozen BKA0.out 3))
    go_ret
    exact ⟨er_, blw HB⟩

def slices_Max_int_int.l0 : Nat → List Int → Int → Int → Option (Int)
 | 0, _, _, _ => none
 | k + 1, x0, x3, x4 => if x4 < (x0.length : Int) then (if 0 ≤ x4 then (slices_Max_int_int.l0 k x0 (mx x3 (rd x0 x4)) (wrap64 (x4 + 1))) else (none)) else (some x3)
def slices_Max_int_int.f (k : Nat) (l0 : List Int) : Option (Int) := if (l0.length : Int) < 1 then (none) else (if 0 < (l0.length : Int) then (slices_Max_int_int.l0 k l0 (rd l0 0) 1) else (none))
set_option maxHeartbeats 8000000 in
set_option maxRecDepth 100000 in
theorem slices_Max_int_int.calls (k : Nat) (A0 : Option Addr) (c0 : Nat) (l0 : List Int) (r : Int) (w : World) (hr0 : Kd.C (Kd.int .i64) w A0 l0.length l0) (hc0 : l0.length ≤ c0) (h : slices_Max_int_int.f k l0 = some r) :
  Calls Tryz.prog 43 #[.slice A0 l0.length c0] w fun e w' => e = .returned (.int .i64 r) ∧ Below w.heap.size w w' := by
 have HR0 := Aside0.mk hr0
 have HC0 := Aside0.mk hc0
 clear hr0 hc0
 have HB := Aside0.mk (Below.refl w.heap.size w)
 have H : (if (l0.length : Int) < 1 then (none) else (if 0 < (l0.length : Int) then (slices_Max_int_int.l0 k l0 (rd l0 0) 1) else (none))) = some r := h
 clear h
 by_cases c2 : (l0.length : Int) < 1
 ·
  rw [if_pos c2] at H
  exact absurd H (by simp)
 ·
  rw [if_neg c2] at H
  have c2b0 : decide ((l0.length : Int) < 1) = false := decide_eq_false c2
  have c2b1 : decide (l0.length < 1) = false := decide_eq_false (by omega)
  clear c2
  by_cases c3 : 0 < (l0.length : Int)
  ·
   rw [if_pos c3] at H
   have c3b0 : decide (0 < (l0.length : Int)) = true := decide_eq_true c3
   have c3b1 : decide (0 < l0.length) = true := decide_eq_true (by omega)
   clear c3
   have H' := Aside0.mk H
   clear H
   have pA0 : 0 ≤ (0 : Int) := (by omega)
   have qA0 : 0 < (l0.length : Int) := of_decide_eq_true (by first | (with_reducible assumption) | assumption)
   obtain ⟨adA0, eA0, hxA0_0⟩ := Kd.at_int HR0.out 0 pA0 qA0
   cases eA0
   have qi295 : (0 < l0.length) = True := eq_true (by omega)
   (try rw [show ((0 : Int)).toNat = 0 from rfl] at hxA0_0)
   (try rw [Addr.add_zero'] at hxA0_0)
   replace pA0 := eq_true pA0
   replace qA0 := eq_true qA0
   go_enter Tryz.func43, Tryz.ntmps43
   go_wp2
   go_loopg [3, 4] k (fun kq v3 v4 w' => ∃ (x3_1 : Int) (x4_1 : Int), v3 = .int .i64 x3_1 ∧ v4 = .int .i64 x4_1 ∧ Aside0 (slices_Max_int_int.l0 kq l0 x3_1 x4_1 = some r) ∧ Aside0 (kq ≤ k) ∧ Aside0 (Below w.heap.size w w'))
   case atStart => exact ⟨(rd l0 0), (1), rs_, rs_, H', ⟨Nat.le_refl _⟩, ⟨blw HB⟩⟩
   case round =>
    clear H'
    try clear c2
    try clear c2b0
    try clear c2b1
    try clear p2
    try clear q2
    try clear hx2
    try clear qi2
    try clear c3
    try clear c3b0
    try clear c3b1
    try clear hxA0_0
    try clear pA0
    try clear qA0
    obtain ⟨x3_1, x4_1, rfl, rfl, HA, HK1, HB⟩ := hrel
    cases gk with
    | zero => exact absurd HA.out (by simp [slices_Max_int_int.l0])
    | succ k1 =>
     have H := HA.out
     clear HA
     simp only [slices_Max_int_int.l0] at H
     by_cases c4 : x4_1 < (l0.length : Int)
     ·
      rw [if_pos c4] at H
      have c4b0 : decide (x4_1 < (l0.length : Int)) = true := decide_eq_true c4
      clear c4
      by_cases c5 : 0 ≤ x4_1
      ·
       rw [if_pos c5] at H
       have c5b0 : decide (0 ≤ x4_1) = true := decide_eq_true c5
       clear c5
       obtain ⟨ji6, hji6⟩ : ∃ j_ : Int, (mx x3_1 (rd l0 x4_1)) = j_ := ⟨_, rfl⟩
       replace H : (slices_Max_int_int.l0 k1 l0 ji6 (wrap64 (x4_1 + 1))) = some r := by first | (rw [hji6] at H; exact H) | (simp only [hji6] at H ⊢; exact H)
       have hji6_ : (if x3_1 < (rd l0 x4_1) then (rd l0 x4_1) else x3_1) = ji6 := hji6
       have H' := Aside0.mk H
       clear H
       have pA1 : 0 ≤ (x4_1 : Int) := of_decide_eq_true (by first | (with_reducible assumption) | assumption)
       have qA1 : x4_1 < (l0.length : Int) := of_decide_eq_true (by first | (with_reducible assumption) | assumption)
       obtain ⟨adA1, eA1, hxA1_0⟩ := Kd.at_int HR0.out x4_1 pA1 qA1
       obtain rfl : adA0 = adA1 := (by injection eA1)
       replace hxA1_0 := (HB.out.cell (World.block_lt_of_cell? w _ hxA1_0)).trans hxA1_0
       replace pA1 := eq_true pA1
       replace qA1 := eq_true qA1
       go_wp2
       go_roundg k1
       case measure => have := HK1.out; omega
       case rel => exact ⟨(ji6), (wrap64 (x4_1 + 1)), (by first | rfl | (simp; done) | (simp only [← hji6] <;> (first | rfl | simp)) | (simp [*]; done)), rs_, H', ⟨by have := HK1.out; omega⟩, ⟨blw HB⟩⟩
      ·
       rw [if_neg c5] at H
       exact absurd H (by simp)
     ·
      rw [if_neg c4] at H
      have c4b0 : decide (x4_1 < (l0.length : Int)) = false := decide_eq_false c4
      clear c4
      obtain rfl := Option.some.inj H
      go_wp2
      go_ret
      exact ⟨er_, blw HB⟩
  ·
   rw [if_neg c3] at H
   exact absurd H (by simp)

def spec_l00Digit.f (a0 : Int) : Option (Bool) := if a0 ≥ 48 then (some (decide (a0 ≤ 57))) else (some false)
set_option maxHeartbeats 8000000 in
set_option maxRecDepth 100000 in
theorem spec_l00Digit.calls (a0 : Int) (r : Bool) (w : World) (h : spec_l00Digit.f a0 = some r) :
  Calls Tryz.prog 44 #[.int .u8 a0] w fun e w' => e = .returned (.bool r) ∧ Drawn0 w w' := by
 have H : (if a0 ≥ 48 then (some (decide (a0 ≤ 57))) else (some false)) = some r := h
 clear h
 by_cases c2 : a0 ≥ 48
 ·
  rw [if_pos c2] at H
  have c2b0 : decide (48 ≤ a0) = true := decide_eq_true c2
  clear c2
  obtain rfl := Option.some.inj H
  go_enter Tryz.func44, Tryz.ntmps44
  go_wp2
  go_ret
  exact ⟨by first | rfl | (simp; done) | (simp [*]; done), by repeat (first | exact Drawn0.refl _ | apply Drawn0.step)⟩
 ·
  rw [if_neg c2] at H
  have c2b0 : decide (48 ≤ a0) = false := decide_eq_false c2
  clear c2
  obtain rfl := Option.some.inj H
  go_enter Tryz.func44, Tryz.ntmps44
  go_wp2
  go_ret
  exact ⟨by first | rfl | (simp; done) | (simp [*]; done), by repeat (first | exact Drawn0.refl _ | apply Drawn0.step)⟩

mutual
def spec_l00Number.j0 : Nat → ByteArray → Int → Bool → Option (Int × Bool)
 | 0, _, _, _ => none
 | k + 1, x0, x4, x14 => if x14 = true then (if 1 ≤ (x0.size : Int) then (spec_l00Number.j1 k (x0.extract 1 x0.size) (-1)) else (none)) else (spec_l00Number.j1 k x0 x4)
def spec_l00Number.j1 : Nat → ByteArray → Int → Option (Int × Bool)
 | 0, _, _ => none
 | k + 1, x0, x4 => if (x0.size : Int) = 0 then (spec_l00Number.j2 k x0 x4 true) else (if (x0.size : Int) > 18 then (spec_l00Number.j2 k x0 x4 true) else (if 0 < (x0.size : Int) then (if (bt x0 0) = 48 then (if (x0.size : Int) > 1 then (spec_l00Number.j2 k x0 x4 true) else (spec_l00Number.j2 k x0 x4 (decide (x4 < 0)))) else (spec_l00Number.j2 k x0 x4 false)) else (none)))
def spec_l00Number.j2 : Nat → ByteArray → Int → Bool → Option (Int × Bool)
 | 0, _, _, _ => none
 | k + 1, x0, x4, x38 => if x38 = true then (some (0, false)) else (spec_l00Number.l0 k x0 x4 0 0)
def spec_l00Number.l0 : Nat → ByteArray → Int → Int → Int → Option (Int × Bool)
 | 0, _, _, _, _ => none
 | k + 1, x0, x4, x5, x6 => if x6 < (x0.size : Int) then (if 0 ≤ x6 then (if (bt x0 x6) < 48 then (some (0, false)) else (if (bt x0 x6) > 57 then (some (0, false)) else (spec_l00Number.l0 k x0 x4 (wrap64 ((wrap64 ((wrap64 (x5 * 10)) + (wrap64 (bt x0 x6)))) - 48)) (wrap64 (x6 + 1))))) else (none)) else (some (wrap64 (x4 * x5), true))
end
def spec_l00Number.f (k : Nat) (a0 : ByteArray) : Option (Int × Bool) := if (a0.size : Int) > 0 then (if 0 < (a0.size : Int) then (spec_l00Number.j0 k a0 1 ((bt a0 0) == 45)) else (none)) else (spec_l00Number.j0 k a0 1 false)
set_option maxHeartbeats 8000000 in
set_option maxRecDepth 100000 in
theorem spec_l00Number.calls (k : Nat) (a0 : ByteArray) (r1 : Int) (r2 : Bool) (w : World) (h : spec_l00Number.f k a0 = some (r1, r2)) :
  Calls Tryz.prog 64 #[.string a0] w fun e w' => e = .returned (.tuple #[.int .i64 r1, .bool r2]) ∧ Drawn0 w w' := by
 have H : (if (a0.size : Int) > 0 then (if 0 < (a0.size : Int) then (spec_l00Number.j0 k a0 1 ((bt a0 0) == 45)) else (none)) else (spec_l00Number.j0 k a0 1 false)) = some (r1, r2) := h
 clear h
 have HC2 := Aside0.mk H
 clear H
 go_enter Tryz.func64, Tryz.ntmps64
 go_upto_region 2 with (fail)
 go_cut [14] (fun v14 wc => ∃ (kq : Nat) (x14_1 : Bool), v14 = .bool x14_1 ∧ Aside0 (spec_l00Number.j0 kq a0 1 x14_1 = some (r1, r2)) ∧ Aside0 (kq ≤ k) ∧ Drawn0 w wc)
 case first =>
  have H := HC2.out
  clear HC2
  by_cases c3 : (a0.size : Int) > 0
  ·
   rw [if_pos c3] at H
   have c3b0 : decide (0 < (a0.size : Int)) = true := decide_eq_true c3
   have c3b1 : decide (0 < a0.size) = true := decide_eq_true (by omega)
   clear c3
   (first | rw [c3b0] | (simp only [i64_w, i32_w]; rw [c3b0]) | skip)
   by_cases c4 : 0 < (a0.size : Int)
   ·
    rw [if_pos c4] at H
    have c4b0 : decide (0 < (a0.size : Int)) = true := decide_eq_true c4
    have c4b1 : decide (0 < a0.size) = true := decide_eq_true (by omega)
    clear c4
    have H' := Aside0.mk H
    clear H
    have p5 : 0 ≤ (0 : Int) := (by omega)
    have q5 : 0 < a0.size := (by have : (0 : Int) < (a0.size : Int) := of_decide_eq_true (by first | (with_reducible assumption) | assumption); omega)
    have hx5 : ∀ h : 0 < a0.size, ((a0[0]'h).toNat : Int) = bt a0 0 := bt_at a0 0
    clear p5
    have qi5 : (0 < (a0.size : Int)) = True := eq_true (of_decide_eq_true (by first | (with_reducible assumption) | assumption))
    replace q5 := eq_true q5
    go_wp2
    go_meet
    case rel => exact ⟨_, (((bt a0 0) == 45)), rs_, H', ⟨by first | omega | exact Nat.le_refl _⟩, by repeat (first | exact Drawn0.refl _ | apply Drawn0.step)⟩
   ·
    rw [if_neg c4] at H
    exact absurd H (by simp)
  ·
   rw [if_neg c3] at H
   have c3b0 : decide (0 < (a0.size : Int)) = false := decide_eq_false c3
   have c3b1 : decide (0 < a0.size) = false := decide_eq_false (by omega)
   clear c3
   (first | rw [c3b0] | (simp only [i64_w, i32_w]; rw [c3b0]) | skip)
   have H' := Aside0.mk H
   clear H
   go_wp2
   go_meet
   case rel => exact ⟨_, (false), rs_, H', ⟨by first | omega | exact Nat.le_refl _⟩, by repeat (first | exact Drawn0.refl _ | apply Drawn0.step)⟩
 case rest =>
  clear HC2
  try clear p2
  try clear c3
  try clear c3b0
  try clear c3b1
  try clear c4
  try clear c4b0
  try clear c4b1
  try clear p5
  try clear q5
  try clear hx5
  try clear qi5
  try clear p5
  try clear q5
  obtain ⟨kq, x14_1, rfl, HA, HJ1, ⟨mc1, rfl⟩⟩ := hcut
  cases kq with
  | zero => exact absurd HA.out (by simp [spec_l00Number.j0])
  | succ kj1 =>
   have H := HA.out
   clear HA
   simp only [spec_l00Number.j0] at H
   have HC6 := Aside0.mk H
   clear H
   go_upto_if 14 with (fail)
   go_cut [0, 4] (fun v0 v4 wc => ∃ (kq : Nat) (x0_5 : ByteArray) (x4_5 : Int), v0 = .string x0_5 ∧ v4 = .int .i64 x4_5 ∧ Aside0 (spec_l00Number.j1 kq x0_5 x4_5 = some (r1, r2)) ∧ Aside0 (kq ≤ kj1) ∧ Drawn0 w wc)
   case first =>
    have H := HC6.out
    clear HC6
    by_cases c7 : x14_1 = true
    ·
     subst c7
     rw [if_pos rfl] at H
     by_cases c8 : 1 ≤ (a0.size : Int)
     ·
      rw [if_pos c8] at H
      have c8b0 := eq_true c8
      have c8b1 : decide (1 ≤ (a0.size : Int)) = true := decide_eq_true c8
      clear c8
      have H' := Aside0.mk H
      clear H
      go_wp2
      go_meet
      case rel => exact ⟨_, (a0.extract 1 a0.size), ((-1)), rs_, rs_, H', ⟨by have := HJ1.out; first | omega | exact Nat.le_refl _⟩, by repeat (first | exact Drawn0.refl _ | apply Drawn0.step)⟩
     ·
      rw [if_neg c8] at H
      exact absurd H (by simp)
    ·
     replace c7 := Bool.eq_false_iff.mpr c7
     subst c7
     rw [if_neg (show ¬ (false = true) by decide)] at H
     have H' := Aside0.mk H
     clear H
     go_wp2
     go_meet
     case rel => exact ⟨_, (a0), (1), rs_, rs_, H', ⟨by have := HJ1.out; first | omega | exact Nat.le_refl _⟩, by repeat (first | exact Drawn0.refl _ | apply Drawn0.step)⟩
   case rest =>
    clear HC6
    try clear c1
    try clear p2
    try clear c3
    try clear c3b0
    try clear c3b1
    try clear c4
    try clear c4b0
    try clear c4b1
    try clear p5
    try clear q5
    try clear hx5
    try clear qi5
    try clear c6
    try clear c7
    try clear c8
    try clear c8b0
    try clear c8b1
    try clear p2
    try clear p5
    try clear q5
    obtain ⟨kq, x0_5, x4_5, rfl, rfl, HA, HJ5, ⟨mc5, rfl⟩⟩ := hcut
    cases kq with
    | zero => exact absurd HA.out (by simp [spec_l00Number.j1])
    | succ kj5 =>
     have H := HA.out
     clear HA
     simp only [spec_l00Number.j1] at H
     have HC9 := Aside0.mk H
     clear H
     go_upto_region 5 with (fail)
     go_cut [38] (fun v38 wc => ∃ (kq : Nat) (x38_8 : Bool), v38 = .bool x38_8 ∧ Aside0 (spec_l00Number.j2 kq x0_5 x4_5 x38_8 = some (r1, r2)) ∧ Aside0 (kq ≤ kj5) ∧ Drawn0 w wc)
     case first =>
      have H := HC9.out
      clear HC9
      by_cases c10 : (x0_5.size : Int) = 0
      ·
       rw [if_pos c10] at H
       have c10b0 : ((x0_5.size : Int) == 0) = true := beq_iff_eq.mpr c10
       have c10b1 : ((x0_5.size : Int) != 0) = false := bne_eq_false_iff_eq.mpr c10
       clear c10
       (first | rw [c10b0] | (simp only [i64_w, i32_w]; rw [c10b0]) | skip)
       have H' := Aside0.mk H
       clear H
       go_wp2
       go_meet
       case rel => exact ⟨_, (true), rs_, H', ⟨by have := HJ1.out; have := HJ5.out; first | omega | exact Nat.le_refl _⟩, by repeat (first | exact Drawn0.refl _ | apply Drawn0.step)⟩
      ·
       rw [if_neg c10] at H
       have c10b0 : ((x0_5.size : Int) == 0) = false := beq_eq_false_iff_ne.mpr c10
       have c10b1 : ((x0_5.size : Int) != 0) = true := bne_iff_ne.mpr c10
       (first | rw [c10b0] | (simp only [i64_w, i32_w]; rw [c10b0]) | skip)
       by_cases c11 : (x0_5.size : Int) > 18
       ·
        rw [if_pos c11] at H
        have c11b0 : decide (18 < (x0_5.size : Int)) = true := decide_eq_true c11
        have c11b1 : decide (18 < x0_5.size) = true := decide_eq_true (by omega)
        clear c11
        have H' := Aside0.mk H
        clear H
        go_wp2
        go_meet
        case rel => exact ⟨_, (true), rs_, H', ⟨by have := HJ1.out; have := HJ5.out; first | omega | exact Nat.le_refl _⟩, by repeat (first | exact Drawn0.refl _ | apply Drawn0.step)⟩
       ·
        rw [if_neg c11] at H
        have c11b0 : decide (18 < (x0_5.size : Int)) = false := decide_eq_false c11
        have c11b1 : decide (18 < x0_5.size) = false := decide_eq_false (by omega)
        clear c11
        by_cases c12 : 0 < (x0_5.size : Int)
        ·
         rw [if_pos c12] at H
         have c12b0 : decide (0 < (x0_5.size : Int)) = true := decide_eq_true c12
         have c12b1 : decide (0 < x0_5.size) = true := decide_eq_true (by omega)
         clear c12
         by_cases c14 : (bt x0_5 0) = 48
         ·
          rw [if_pos c14] at H
          have c14b0 : ((bt x0_5 0) == 48) = true := beq_iff_eq.mpr c14
          have c14b1 : ((bt x0_5 0) != 48) = false := bne_eq_false_iff_eq.mpr c14
          clear c14
          by_cases c15 : (x0_5.size : Int) > 1
          ·
           rw [if_pos c15] at H
           have c15b0 : decide (1 < (x0_5.size : Int)) = true := decide_eq_true c15
           have c15b1 : decide (1 < x0_5.size) = true := decide_eq_true (by omega)
           clear c15
           have H' := Aside0.mk H
           clear H
           have p13 : 0 ≤ (0 : Int) := (by omega)
           have q13 : 0 < x0_5.size := (by have : (0 : Int) < (x0_5.size : Int) := of_decide_eq_true (by first | (with_reducible assumption) | assumption); omega)
           have hx13 : ∀ h : 0 < x0_5.size, ((x0_5[0]'h).toNat : Int) = bt x0_5 0 := bt_at x0_5 0
           clear p13
           have qi13 : (0 < (x0_5.size : Int)) = True := eq_true (of_decide_eq_true (by first | (with_reducible assumption) | assumption))
           replace q13 := eq_true q13
           go_wp2
           go_meet
           case rel => exact ⟨_, (true), rs_, H', ⟨by have := HJ1.out; have := HJ5.out; first | omega | exact Nat.le_refl _⟩, by repeat (first | exact Drawn0.refl _ | apply Drawn0.step)⟩
          ·
           rw [if_neg c15] at H
           have c15b0 : decide (1 < (x0_5.size : Int)) = false := decide_eq_false c15
           have c15b1 : decide (1 < x0_5.size) = false := decide_eq_false (by omega)
           clear c15
           have H' := Aside0.mk H
           clear H
           have p13 : 0 ≤ (0 : Int) := (by omega)
           have q13 : 0 < x0_5.size := (by have : (0 : Int) < (x0_5.size : Int) := of_decide_eq_true (by first | (with_reducible assumption) | assumption); omega)
           have hx13 : ∀ h : 0 < x0_5.size, ((x0_5[0]'h).toNat : Int) = bt x0_5 0 := bt_at x0_5 0
           clear p13
           have qi13 : (0 < (x0_5.size : Int)) = True := eq_true (of_decide_eq_true (by first | (with_reducible assumption) | assumption))
           replace q13 := eq_true q13
           go_wp2
           go_meet
           case rel => exact ⟨_, (decide (x4_5 < 0)), rs_, H', ⟨by have := HJ1.out; have := HJ5.out; first | omega | exact Nat.le_refl _⟩, by repeat (first | exact Drawn0.refl _ | apply Drawn0.step)⟩
         ·
          rw [if_neg c14] at H
          have c14b0 : ((bt x0_5 0) == 48) = false := beq_eq_false_iff_ne.mpr c14
          have c14b1 : ((bt x0_5 0) != 48) = true := bne_iff_ne.mpr c14
          have H' := Aside0.mk H
          clear H
          have p13 : 0 ≤ (0 : Int) := (by omega)
          have q13 : 0 < x0_5.size := (by have : (0 : Int) < (x0_5.size : Int) := of_decide_eq_true (by first | (with_reducible assumption) | assumption); omega)
          have hx13 : ∀ h : 0 < x0_5.size, ((x0_5[0]'h).toNat : Int) = bt x0_5 0 := bt_at x0_5 0
          clear p13
          have qi13 : (0 < (x0_5.size : Int)) = True := eq_true (of_decide_eq_true (by first | (with_reducible assumption) | assumption))
          replace q13 := eq_true q13
          go_wp2
          go_meet
          case rel => exact ⟨_, (false), rs_, H', ⟨by have := HJ1.out; have := HJ5.out; first | omega | exact Nat.le_refl _⟩, by repeat (first | exact Drawn0.refl _ | apply Drawn0.step)⟩
        ·
         rw [if_neg c12] at H
         exact absurd H (by simp)
     case rest =>
      clear HC9
      try clear c1
      try clear p1
      try clear q1
      try clear hx1
      try clear qi1
      try clear p2
      try clear c3
      try clear c3b0
      try clear c3b1
      try clear c4
      try clear c4b0
      try clear c4b1
      try clear c5
      try clear p5
      try clear q5
      try clear hx5
      try clear qi5
      try clear c6
      try clear c7
      try clear c8
      try clear c8b0
      try clear c8b1
      try clear c10
      try clear c10b0
      try clear c10b1
      try clear c11
      try clear c11b0
      try clear c11b1
      try clear c12
      try clear c12b0
      try clear c12b1
      try clear p13
      try clear q13
      try clear hx13
      try clear qi13
      try clear c14
      try clear c14b0
      try clear c14b1
      try clear c15
      try clear c15b0
      try clear c15b1
      try clear p13
      try clear p2
      try clear p5
      try clear q13
      try clear q5
      obtain ⟨kq, x38_8, rfl, HA, HJ8, ⟨mc8, rfl⟩⟩ := hcut
      cases kq with
      | zero => exact absurd HA.out (by simp [spec_l00Number.j2])
      | succ kj8 =>
       have H := HA.out
       clear HA
       simp only [spec_l00Number.j2] at H
       by_cases c16 : x38_8 = true
       ·
        subst c16
        rw [if_pos rfl] at H
        simp only [Option.some.injEq, Prod.mk.injEq] at H
        obtain ⟨rfl, rfl⟩ := H
        go_wp2
        go_ret2
        exact ⟨by first | rfl | (simp; done) | (simp [*]; done), by repeat (first | exact Drawn0.refl _ | apply Drawn0.step)⟩
       ·
        replace c16 := Bool.eq_false_iff.mpr c16
        subst c16
        rw [if_neg (show ¬ (false = true) by decide)] at H
        have H' := Aside0.mk H
        clear H
        go_wp2
        go_loopg [5, 6] kj8 (fun kq v5 v6 w' => ∃ (x5_4 : Int) (x6_4 : Int), v5 = .int .i64 x5_4 ∧ v6 = .int .i64 x6_4 ∧ Aside0 (spec_l00Number.l0 kq x0_5 x4_5 x5_4 x6_4 = some (r1, r2)) ∧ Aside0 (kq ≤ kj8) ∧ Drawn0 w w')
        case atStart => exact ⟨(0), (0), rs_, rs_, H', ⟨Nat.le_refl _⟩, by repeat (first | exact Drawn0.refl _ | apply Drawn0.step)⟩
        case round =>
         clear H'
         try clear c1
         try clear p1
         try clear q1
         try clear hx1
         try clear qi1
         try clear p2
         try clear c3
         try clear c3b0
         try clear c3b1
         try clear c4
         try clear c4b0
         try clear c4b1
         try clear c5
         try clear p5
         try clear q5
         try clear hx5
         try clear qi5
         try clear c6
         try clear c7
         try clear c8
         try clear c8b0
         try clear c8b1
         try clear c10
         try clear c10b0
         try clear c10b1
         try clear c11
         try clear c11b0
         try clear c11b1
         try clear c12
         try clear c12b0
         try clear c12b1
         try clear p13
         try clear q13
         try clear hx13
         try clear qi13
         try clear c14
         try clear c14b0
         try clear c14b1
         try clear c15
         try clear c15b0
         try clear c15b1
         try clear c16
         try clear p1
         try clear p13
         try clear p2
         try clear p5
         try clear q1
         try clear q13
         try clear q5
         obtain ⟨x5_4, x6_4, rfl, rfl, HA, HK4, ⟨m4, rfl⟩⟩ := hrel
         cases gk with
         | zero => exact absurd HA.out (by simp [spec_l00Number.l0])
         | succ k4 =>
          have H := HA.out
          clear HA
          simp only [spec_l00Number.l0] at H
          by_cases c17 : x6_4 < (x0_5.size : Int)
          ·
           rw [if_pos c17] at H
           have c17b0 : decide (x6_4 < (x0_5.size : Int)) = true := decide_eq_true c17
           clear c17
           by_cases c18 : 0 ≤ x6_4
           ·
            rw [if_pos c18] at H
            have c18b0 : decide (0 ≤ x6_4) = true := decide_eq_true c18
            clear c18
            by_cases c20 : (bt x0_5 x6_4) < 48
            ·
             rw [if_pos c20] at H
             have c20b0 : decide ((bt x0_5 x6_4) < 48) = true := decide_eq_true c20
             clear c20
             simp only [Option.some.injEq, Prod.mk.injEq] at H
             obtain ⟨rfl, rfl⟩ := H
             have p19 : 0 ≤ (x6_4 : Int) := of_decide_eq_true (by first | (with_reducible assumption) | assumption)
             have q19 : x6_4 < (x0_5.size : Int) := of_decide_eq_true (by first | (with_reducible assumption) | assumption)
             have hx19 := bt_at x0_5 x6_4
             replace p19 := eq_true p19
             replace q19 := eq_true q19
             go_wp2
             go_ret2
             exact ⟨by first | rfl | (simp; done) | (simp [*]; done), by repeat (first | exact Drawn0.refl _ | apply Drawn0.step)⟩
            ·
             rw [if_neg c20] at H
             have c20b0 : decide ((bt x0_5 x6_4) < 48) = false := decide_eq_false c20
             clear c20
             by_cases c22 : (bt x0_5 x6_4) > 57
             ·
              rw [if_pos c22] at H
              have c22b0 : decide (57 < (bt x0_5 x6_4)) = true := decide_eq_true c22
              clear c22
              simp only [Option.some.injEq, Prod.mk.injEq] at H
              obtain ⟨rfl, rfl⟩ := H
              have p19 : 0 ≤ (x6_4 : Int) := of_decide_eq_true (by first | (with_reducible assumption) | assumption)
              have q19 : x6_4 < (x0_5.size : Int) := of_decide_eq_true (by first | (with_reducible assumption) | assumption)
              have hx19 := bt_at x0_5 x6_4
              replace p19 := eq_true p19
              replace q19 := eq_true q19
              have p21 : 0 ≤ (x6_4 : Int) := of_decide_eq_true (by first | (with_reducible assumption) | assumption)
              have q21 : x6_4 < (x0_5.size : Int) := of_decide_eq_true (by first | (with_reducible assumption) | assumption)
              have hx21 := bt_at x0_5 x6_4
              replace p21 := eq_true p21
              replace q21 := eq_true q21
              go_wp2
              go_ret2
              exact ⟨by first | rfl | (simp; done) | (simp [*]; done), by repeat (first | exact Drawn0.refl _ | apply Drawn0.step)⟩
             ·
              rw [if_neg c22] at H
              have c22b0 : decide (57 < (bt x0_5 x6_4)) = false := decide_eq_false c22
              clear c22
              have H' := Aside0.mk H
              clear H
              have p19 : 0 ≤ (x6_4 : Int) := of_decide_eq_true (by first | (with_reducible assumption) | assumption)
              have q19 : x6_4 < (x0_5.size : Int) := of_decide_eq_true (by first | (with_reducible assumption) | assumption)
              have hx19 := bt_at x0_5 x6_4
              replace p19 := eq_true p19
              replace q19 := eq_true q19
              have p21 : 0 ≤ (x6_4 : Int) := of_decide_eq_true (by first | (with_reducible assumption) | assumption)
              have q21 : x6_4 < (x0_5.size : Int) := of_decide_eq_true (by first | (with_reducible assumption) | assumption)
              have hx21 := bt_at x0_5 x6_4
              replace p21 := eq_true p21
              replace q21 := eq_true q21
              have p23 : 0 ≤ (x6_4 : Int) := of_decide_eq_true (by first | (with_reducible assumption) | assumption)
              have q23 : x6_4 < (x0_5.size : Int) := of_decide_eq_true (by first | (with_reducible assumption) | assumption)
              have hx23 := bt_at x0_5 x6_4
              replace p23 := eq_true p23
              replace q23 := eq_true q23
              go_wp2
              go_roundg k4
              case measure => have := HJ1.out; have := HJ5.out; have := HJ8.out; have := HK4.out; omega
              case rel => exact ⟨(wrap64 ((wrap64 ((wrap64 (x5_4 * 10)) + (wrap64 (bt x0_5 x6_4)))) - 48)), (wrap64 (x6_4 + 1)), rs_, rs_, H', ⟨by have := HJ1.out; have := HJ5.out; have := HJ8.out; have := HK4.out; omega⟩, by repeat (first | exact Drawn0.refl _ | apply Drawn0.step)⟩
           ·
            rw [if_neg c18] at H
            exact absurd H (by simp)
          ·
           rw [if_neg c17] at H
           have c17b0 : decide (x6_4 < (x0_5.size : Int)) = false := decide_eq_false c17
           clear c17
           simp only [Option.some.injEq, Prod.mk.injEq] at H
           obtain ⟨rfl, rfl⟩ := H
           go_wp2
           go_ret2
           exact ⟨by first | rfl | (simp; done) | (simp [*]; done), by repeat (first | exact Drawn0.refl _ | apply Drawn0.step)⟩

def spec_l00Digits.f : Nat → Int → Option (ByteArray)
 | 0, _ => none
 | k + 1, a0 => if a0 = (-9223372036854775808) then (some (⟨#[45, 57, 50, 50, 51, 51, 55, 50, 48, 51, 54, 56, 53, 52, 55, 55, 53, 56, 48, 56]⟩ : ByteArray)) else (if a0 < 0 then ((spec_l00Digits.f k (wrap64 (-a0))).bind fun tA2 => (if 1 + tA2.size ≤ 9223372036854775807 then (some ((⟨#[45]⟩ : ByteArray) ++ tA2)) else (none))) else (if a0 < 10 then (some (strOfNums (([(wrap64 (48 + a0)) % 256] : List Int)))) else ((spec_l00Digits.f k (wrap64 (Int.tdiv a0 10))).bind fun tA1 => ((some (([(wrap64 (48 + (Int.tmod a0 10))) % 256] : List Int) : List Int)).bind fun yA0 => (if tA1.size + (strOfNums yA0).size ≤ 9223372036854775807 then (some (tA1 ++ (strOfNums yA0))) else (none))))))
def spec_l00Digits.T7 : Bool × List (List Nat × List Nat) := (true, [([], []), ([0], [0]), ([1], [1]), ([], []), ([3], [3]), ([4], [4]), ([5], [5]), ([6], [6]), ([7], [7]), ([2, 8], [2, 8]), ([9, 2, 0, 1, 2, 3, 4, 5, 6, 7, 8, 9], [9])])
def spec_l00Digits.B7 : List Nat := [0, 1, 3, 0, 8, 24, 56, 120, 248, 511, 1023]
theorem spec_l00Digits.tab7 : rtab .any (opsOf Tryz.f65 7) = spec_l00Digits.T7 := by kernel_rfl
theorem spec_l00Digits.bits7 : waitsOk spec_l00Digits.T7.2 spec_l00Digits.B7 = true := by kernel_rfl
set_option maxHeartbeats 8000000 in
set_option maxRecDepth 100000 in
theorem spec_l00Digits.calls (k : Nat) : ∀ (a0 : Int) (r : ByteArray) (w : World) (h : spec_l00Digits.f k a0 = some r),
  Calls Tryz.prog 65 #[.int .i64 a0] w fun e w' => e = .returned (.string r) ∧ Below w.heap.size w w' := by
 induction k using Nat.strongRecOn with
 | _ k ih =>
 intro a0 r w h
 cases k with
 | zero => exact absurd h (by simp [spec_l00Digits.f])
 | succ k =>
 simp only [spec_l00Digits.f] at h
 have HB := Aside0.mk (Below.refl w.heap.size w)
 have H : (if a0 = (-9223372036854775808) then (some (⟨#[45, 57, 50, 50, 51, 51, 55, 50, 48, 51, 54, 56, 53, 52, 55, 55, 53, 56, 48, 56]⟩ : ByteArray)) else (if a0 < 0 then ((spec_l00Digits.f k (wrap64 (-a0))).bind fun tA2 => (if 1 + tA2.size ≤ 9223372036854775807 then (some ((⟨#[45]⟩ : ByteArray) ++ tA2)) else (none))) else (if a0 < 10 then (some (strOfNums (([(wrap64 (48 + a0)) % 256] : List Int)))) else ((spec_l00Digits.f k (wrap64 (Int.tdiv a0 10))).bind fun tA1 => ((some (([(wrap64 (48 + (Int.tmod a0 10))) % 256] : List Int) : List Int)).bind fun yA0 => (if tA1.size + (strOfNums yA0).size ≤ 9223372036854775807 then (some (tA1 ++ (strOfNums yA0))) else (none))))))) = some r := h
 clear h
 by_cases c2 : a0 = (-9223372036854775808)
 ·
  rw [if_pos c2] at H
  have c2b0 : (a0 == (-9223372036854775808)) = true := beq_iff_eq.mpr c2
  have c2b1 : (a0 != (-9223372036854775808)) = false := bne_eq_false_iff_eq.mpr c2
  clear c2
  obtain rfl := Option.some.inj H
  go_enter Tryz.func65, Tryz.ntmps65
  go_wp2
  go_ret
  exact ⟨er_, blw HB⟩
 ·
  rw [if_neg c2] at H
  have c2b0 : (a0 == (-9223372036854775808)) = false := beq_eq_false_iff_ne.mpr c2
  have c2b1 : (a0 != (-9223372036854775808)) = true := bne_iff_ne.mpr c2
  by_cases c3 : a0 < 0
  ·
   rw [if_pos c3] at H
   have c3b0 : decide (a0 < 0) = true := decide_eq_true c3
   clear c3
   replace H := Option.bind_eq_some_iff.mp H
   obtain ⟨tA2, A40, H⟩ := H
   replace H : (if 1 + tA2.size ≤ 9223372036854775807 then (some ((⟨#[45]⟩ : ByteArray) ++ tA2)) else (none)) = some r := H
   have A4 := Aside0.mk A40
   clear A40
   by_cases c5 : 1 + tA2.size ≤ 9223372036854775807
   ·
    rw [if_pos c5] at H
    have c5b0 := eq_true c5
    have c5b1 : decide (1 + tA2.size ≤ 9223372036854775807) = true := decide_eq_true c5
    try have c5b2 : (9223372036854775807 < 1 + tA2.size) = False := eq_false (Nat.not_lt.2 c5)
    obtain rfl := Option.some.inj H
    go_enter Tryz.func65, Tryz.ntmps65
    go_wp2_with (first | ((with_reducible refine gate_callee (f := 65) rfl ?_); refine gL_ (some 9) Tryz.func65 #[.int .i64 (wrap64 (-a0))] ?_; (with_reducible refine (ih k (by omega) (wrap64 (-a0)) tA2 _ A4.out).mono ?_); rintro e w6 ⟨rfl, hb⟩; refine ⟨_, rfl, ?_⟩; replace HB := bst HB hb; (try clear hb); (try clear hb2); (try clear hk); (try clear hi)))
    go_ret
    exact ⟨er_, blw HB⟩
   ·
    rw [if_neg c5] at H
    exact absurd H (by simp)
  ·
   rw [if_neg c3] at H
   have c3b0 : decide (a0 < 0) = false := decide_eq_false c3
   clear c3
   by_cases c7 : a0 < 10
   ·
    rw [if_pos c7] at H
    have c7b0 : decide (a0 < 10) = true := decide_eq_true c7
    clear c7
    obtain ⟨yA5, hy102⟩ : ∃ y_ : List Int, y_ = (([(wrap64 (48 + a0)) % 256] : List Int)) := ⟨_, rfl⟩
    replace H : (some (strOfNums yA5)) = some r := by subst hy102; first | with_reducible exact H | with_reducible exact (Option.bind_some _ _).symm.trans H | exact H
    have NyA5 := Aside0.mk hy102
    clear hy102
    obtain rfl := Option.some.inj H
    go_enter Tryz.func65, Tryz.ntmps65
    go_wp2_with (first | ((with_reducible refine gate_dst (N := 16) rfl ?_); refine Kd.R_lit (Kd.int .u8) _ 5 ?hg (N := 16) ?hd (xs := ([(wrap64 (48 + a0)) % 256] : List Int)) (inner := [.int .u8 ((wrap64 (48 + a0)) % 256)]) (ok := fun _ => True) (okp := fun _ => True) ?hr ?hp (fun _ hk => hk) trivial (Below.refl _ _) (Nat.le_refl _) (by simp) ?_; (case hd => rfl); (case hg => rfl); (case hr => first | (go_simp; done) | (go_simp; rfl)); (case hp => exact (Reps.one (show Kd.M (Kd.int .u8) _ _ _ ((wrap64 (48 + a0)) % 256) [.int .u8 ((wrap64 (48 + a0)) % 256)] from rfl) (Reps.none _ _))); intro vA8 w8 ho9 hb hg_ hnew_; clear hg_ hnew_; (first | rw [← NyA5.out] at ho9 | (simp only [Int.reduceToNat] at ho9; rw [← NyA5.out] at ho9)); have HOA7 := lwR ho9 HB; replace HB := bst HB hb; clear hb ho9; have hcv10 := own_string (P := Tryz.prog) Tryz.underlying81 Tryz.underlying5 Tryz.underlying9 (Kd.own_of_R HOA7.out)))
    go_ret
    exact ⟨er_, blw HB⟩
   ·
    rw [if_neg c7] at H
    have c7b0 : decide (a0 < 10) = false := decide_eq_false c7
    clear c7
    replace H := Option.bind_eq_some_iff.mp H
    obtain ⟨tA1, AA6, H⟩ := H
    replace H : ((some (([(wrap64 (48 + (Int.tmod a0 10))) % 256] : List Int) : List Int)).bind fun yA0 => (if tA1.size + (strOfNums yA0).size ≤ 9223372036854775807 then (some (tA1 ++ (strOfNums yA0))) else (none))) = some r := H
    have A11 := Aside0.mk AA6
    clear AA6
    obtain ⟨yA0, hy106⟩ : ∃ y_ : List Int, y_ = (([(wrap64 (48 + (Int.tmod a0 10))) % 256] : List Int)) := ⟨_, rfl⟩
    replace H : (if tA1.size + (strOfNums yA0).size ≤ 9223372036854775807 then (some (tA1 ++ (strOfNums yA0))) else (none)) = some r := by subst hy106; first | with_reducible exact H | with_reducible exact (Option.bind_some _ _).symm.trans H | exact H
    have NyA0 := Aside0.mk hy106
    clear hy106
    by_cases c12 : tA1.size + (strOfNums yA0).size ≤ 9223372036854775807
    ·
     rw [if_pos c12] at H
     have c12b0 := eq_true c12
     have c12b1 : decide (tA1.size + (strOfNums yA0).size ≤ 9223372036854775807) = true := decide_eq_true c12
     try have c12b2 : (9223372036854775807 < tA1.size + (strOfNums yA0).size) = False := eq_false (Nat.not_lt.2 c12)
     obtain rfl := Option.some.inj H
     go_enter Tryz.func65, Tryz.ntmps65
     try go_wp2
     replace HB := Aside0.mk (below_drew1 HB.out)
     refine start_ (n := 11) (S := fun w' => True) (ds := []) (bm 11 0) (by kernel_rfl) rfl rfl trivial (fun hHeld => ?_); refine with_tabW spec_l00Digits.tab7 spec_l00Digits.bits7 (fun HT_ HW_ => ?_)
     generalize w.drew = w13 at HB hHeld ⊢
     refine pu_ 0 (some 18) (bm 11 1) HT_.out ?_
     refine pu_ 1 (some 19) (bm 11 3) HT_.out ?_
     refine pu_ 3 (some 21) (bm 11 11) HT_.out ?_
     refine pu_ 4 (some 22) (bm 11 27) HT_.out ?_
     refine pu_ 5 (some 23) (bm 11 59) HT_.out ?_
     refine pu_ 6 (some 24) (bm 11 123) HT_.out ?_
     refine join_ (σ := Value) 2 (bm 11 511) (fun s_ => [(20, .string tA1), (25, s_), (26, .string (strOfNums yA0))]) (fun s_ w' => (Kd.R (Kd.int .u8) 5 w' w.heap.size (fun _ => True) s_ yA0) ∧ (Below w.heap.size w w')) ?_ ?_
     rotate_left
     ·
      intro hCont
      refine two_ (i := 2) (j := 7) (Ni := some 20) (Nj := some 25) (bm 11 127) (bm 11 251) rfl rfl rfl rfl (two_of HT_.out (by kernel_rfl)) (by decide) (by decide) (fun K hK => ?_) (fun K hK => ?_)
      ·
       skip
       refine g_ Tryz.func65 #[.int .i64 (wrap64 (Int.tdiv a0 10))] ?_
       with_reducible refine (ih k (by omega) (wrap64 (Int.tdiv a0 10)) tA1 _ A11.out).mono ?_
       rintro e w14 ⟨rfl, hb⟩
       refine ⟨_, rfl, ?_⟩
       replace HB := bst HB hb
       (try clear hb)
       (try clear hb2)
       (try clear hk)
       (try clear hi)
       refine hK.out _ _ trivial (fun hHeld => ?_)
       clear hK K
       refine nm_ 20 ?_
       refine one_ (i := 7) (N := some 25) (bm 11 255) rfl rfl (one_of HT_.out (by kernel_rfl)) (by decide) (fun K hK => ?_)
       refine Kd.R_lit_step (Kd.int .u8) _ 5 ?hg (N := 25) ?hd (xs := ([(wrap64 (48 + (Int.tmod a0 10))) % 256] : List Int)) (inner := [.int .u8 ((wrap64 (48 + (Int.tmod a0 10))) % 256)]) (ok := fun _ => True) (okp := fun _ => True) ?hr ?hp (fun _ hk => hk) trivial (Below.refl _ _) (Nat.le_refl _) (by simp) ?_; (case hd => rfl); (case hg => rfl); (case hr => first | (go_simp; done) | (go_simp; rfl)); (case hp => exact (Reps.one (show Kd.M (Kd.int .u8) _ _ _ ((wrap64 (48 + (Int.tmod a0 10))) % 256) [.int .u8 ((wrap64 (48 + (Int.tmod a0 10))) % 256)] from rfl) (Reps.none _ _)))
       intro vA4 w15 ho16 hb hg_ hnew_
       clear hg_ hnew_
       (first | rw [← NyA0.out] at ho16 | (simp only [Int.reduceToNat] at ho16; rw [← NyA0.out] at ho16))
       have HOA3 := lwR ho16 HB
       replace HB := bst HB hb
       clear hb ho16
       refine hK.out _ _ trivial (fun hHeld => ?_)
       clear hK K
       refine nm_ 25 ?_
       refine one_ (i := 8) (N := some 26) (bm 11 511) rfl rfl (one_of HT_.out (by kernel_rfl)) (by decide) (fun K hK => ?_)
       have hcv17 := own_string (P := Tryz.prog) Tryz.underlying81 Tryz.underlying5 Tryz.underlying9 (Kd.own_of_R HOA3.out)
       refine value_ (w1 := ?_) (v := ?_) (by rfl) rfl ?_ ?_
       rotate_left 2
       ·
        go_simp
        constructor
        ·
         rfl
        ·
         rfl
       clear hcv17
       refine hK.out _ _ trivial (fun hHeld => ?_)
       clear hK K
       refine nm_ 26 ?_
       exact nq_ (hCont (vA4) _ ⟨(crR HOA3), (blw HB)⟩)
      ·
       skip
       refine Kd.R_lit_step (Kd.int .u8) _ 5 ?hg (N := 25) ?hd (xs := ([(wrap64 (48 + (Int.tmod a0 10))) % 256] : List Int)) (inner := [.int .u8 ((wrap64 (48 + (Int.tmod a0 10))) % 256)]) (ok := fun _ => True) (okp := fun _ => True) ?hr ?hp (fun _ hk => hk) trivial (Below.refl _ _) (Nat.le_refl _) (by simp) ?_; (case hd => rfl); (case hg => rfl); (case hr => first | (go_simp; done) | (go_simp; rfl)); (case hp => exact (Reps.one (show Kd.M (Kd.int .u8) _ _ _ ((wrap64 (48 + (Int.tmod a0 10))) % 256) [.int .u8 ((wrap64 (48 + (Int.tmod a0 10))) % 256)] from rfl) (Reps.none _ _)))
       intro vA4 w14 ho15 hb hg_ hnew_
       clear hg_ hnew_
       (first | rw [← NyA0.out] at ho15 | (simp only [Int.reduceToNat] at ho15; rw [← NyA0.out] at ho15))
       have HOA3 := lwR ho15 HB
       replace HB := bst HB hb
       clear hb ho15
       refine hK.out _ _ trivial (fun hHeld => ?_)
       clear hK K
       refine nm_ 25 ?_
       refine two_ (i := 2) (j := 8) (Ni := some 20) (Nj := some 26) (bm 11 255) (bm 11 507) rfl rfl rfl rfl (two_of HT_.out (by kernel_rfl)) (by decide) (by decide) (fun K hK => ?_) (fun K hK => ?_)
       ·
        skip
        refine g_ Tryz.func65 #[.int .i64 (wrap64 (Int.tdiv a0 10))] ?_
        with_reducible refine (ih k (by omega) (wrap64 (Int.tdiv a0 10)) tA1 _ A11.out).mono ?_
        rintro e w16 ⟨rfl, hb⟩
        refine ⟨_, rfl, ?_⟩
        replace HOA3 := rblR HOA3 hb
        replace HB := bst HB hb
        (try clear hb)
        (try clear hb2)
        (try clear hk)
        (try clear hi)
        refine hK.out _ _ trivial (fun hHeld => ?_)
        clear hK K
        refine nm_ 20 ?_
        refine one_ (i := 8) (N := some 26) (bm 11 511) rfl rfl (one_of HT_.out (by kernel_rfl)) (by decide) (fun K hK => ?_)
        have hcv17 := own_string (P := Tryz.prog) Tryz.underlying81 Tryz.underlying5 Tryz.underlying9 (Kd.own_of_R HOA3.out)
        refine value_ (w1 := ?_) (v := ?_) (by rfl) rfl ?_ ?_
        rotate_left 2
        ·
         go_simp
         constructor
         ·
          rfl
         ·
          rfl
        clear hcv17
        refine hK.out _ _ trivial (fun hHeld => ?_)
        clear hK K
        refine nm_ 26 ?_
        exact nq_ (hCont (vA4) _ ⟨(crR HOA3), (blw HB)⟩)
       ·
        skip
        have hcv16 := own_string (P := Tryz.prog) Tryz.underlying81 Tryz.underlying5 Tryz.underlying9 (Kd.own_of_R HOA3.out)
        refine value_ (w1 := ?_) (v := ?_) (by rfl) rfl ?_ ?_
        rotate_left 2
        ·
         go_simp
         constructor
         ·
          rfl
         ·
          rfl
        clear hcv16
        refine hK.out _ _ trivial (fun hHeld => ?_)
        clear hK K
        refine nm_ 26 ?_
        refine one_ (i := 2) (N := some 20) (bm 11 511) rfl rfl (one_of HT_.out (by kernel_rfl)) (by decide) (fun K hK => ?_)
        refine g_ Tryz.func65 #[.int .i64 (wrap64 (Int.tdiv a0 10))] ?_
        with_reducible refine (ih k (by omega) (wrap64 (Int.tdiv a0 10)) tA1 _ A11.out).mono ?_
        rintro e w17 ⟨rfl, hb⟩
        refine ⟨_, rfl, ?_⟩
        replace HOA3 := rblR HOA3 hb
        replace HB := bst HB hb
        (try clear hb)
        (try clear hb2)
        (try clear hk)
        (try clear hi)
        refine hK.out _ _ trivial (fun hHeld => ?_)
        clear hK K
        refine nm_ 20 ?_
        exact nq_ (hCont (vA4) _ ⟨(crR HOA3), (blw HB)⟩)
     rintro vA4 w18 ⟨h0_, h1_⟩
     have HOA3 : Aside0 (Kd.R (Kd.int .u8) 5 w18 w.heap.size (fun _ => True) vA4 yA0) := ⟨h0_⟩
     replace HB : Aside0 (Below w.heap.size w w18) := ⟨h1_⟩
     clear h0_ h1_
     have hHeld := trivial
     refine np_ ?_
     refine pu_ 9 (some 27) (bm 11 1023) HT_.out ?_
     refine pu_ 10 (some 2) (bm 11 2047) HT_.out ?_
     refine done_ (done_of HT_.out (by kernel_rfl)) ?_
     try go_wp2
     go_ret
     exact ⟨er_, blw HB⟩
    ·
     rw [if_neg c12] at H
     exact absurd H (by simp)

def spec_l04Number.f (k : Nat) (a0 : ByteArray) : Option (Int × Bool) := (spec_l00Number.f k a0).bind fun btA0 => (if btA0.2 = true then ((spec_l01In.f btA0.1 0 999999999).bind fun tA2 => (if tA2 = true then ((spec_l00Digits.f k btA0.1).bind fun tA1 => (some (btA0.1, (tA1.toList == a0.toList)))) else (some (btA0.1, false)))) else (some (btA0.1, false)))
set_option maxHeartbeats 8000000 in
set_option maxRecDepth 100000 in
theorem spec_l04Number.calls (k : Nat) (a0 : ByteArray) (r1 : Int) (r2 : Bool) (w : World) (h : spec_l04Number.f k a0 = some (r1, r2)) :
  Calls Tryz.prog 45 #[.string a0] w fun e w' => e = .returned (.tuple #[.int .i64 r1, .bool r2]) ∧ Below w.heap.size w w' := by
 have HB := Aside0.mk (Below.refl w.heap.size w)
 have H : ((spec_l00Number.f k a0).bind fun btA0 => (if btA0.2 = true then ((spec_l01In.f btA0.1 0 999999999).bind fun tA2 => (if tA2 = true then ((spec_l00Digits.f k btA0.1).bind fun tA1 => (some (btA0.1, (tA1.toList == a0.toList)))) else (some (btA0.1, false)))) else (some (btA0.1, false)))) = some (r1, r2) := h
 clear h
 replace H := Option.bind_eq_some_iff.mp H
 obtain ⟨⟨tA0, tA3⟩, A20, H⟩ := H
 replace H : (if tA3 = true then ((spec_l01In.f tA0 0 999999999).bind fun tA2 => (if tA2 = true then ((spec_l00Digits.f k tA0).bind fun tA1 => (some (tA0, (tA1.toList == a0.toList)))) else (some (tA0, false)))) else (some (tA0, false))) = some (r1, r2) := H
 have A2 := Aside0.mk A20
 clear A20
 by_cases c3 : tA3 = true
 ·
  subst c3
  rw [if_pos rfl] at H
  replace H := Option.bind_eq_some_iff.mp H
  obtain ⟨tA2, A40, H⟩ := H
  replace H : (if tA2 = true then ((spec_l00Digits.f k tA0).bind fun tA1 => (some (tA0, (tA1.toList == a0.toList)))) else (some (tA0, false))) = some (r1, r2) := H
  have A4 := Aside0.mk A40
  clear A40
  by_cases c5 : tA2 = true
  ·
   subst c5
   rw [if_pos rfl] at H
   replace H := Option.bind_eq_some_iff.mp H
   obtain ⟨tA1, A60, H⟩ := H
   replace H : (some (tA0, (tA1.toList == a0.toList))) = some (r1, r2) := H
   have A6 := Aside0.mk A60
   clear A60
   simp only [Option.some.injEq, Prod.mk.injEq] at H
   obtain ⟨rfl, rfl⟩ := H
   go_enter Tryz.func45, Tryz.ntmps45
   go_wp2_with (first | ((with_reducible refine gate_callee (f := 64) rfl ?_); refine gL_ (some 8) Tryz.func64 #[.string a0] ?_; (with_reducible refine (spec_l00Number.calls k a0 tA0 true _ A2.out).mono ?_); rintro e w' ⟨rfl, ⟨nd, rfl⟩⟩; refine ⟨_, rfl, ?_⟩) | (go_at_call 30; (with_reducible refine (spec_l01In.calls tA0 0 999999999 true _ A4.out).mono ?_); rintro e w' ⟨rfl, ⟨nd, rfl⟩⟩) | (go_at_call 65; (with_reducible refine (spec_l00Digits.calls k tA0 tA1 _ A6.out).mono ?_); rintro e w7 ⟨rfl, hb⟩; replace HB := bst HB hb; (try clear hb); (try clear hb2); (try clear hk); (try clear hi)))
   go_ret2
   exact ⟨er_, blw HB⟩
  ·
   replace c5 := Bool.eq_false_iff.mpr c5
   subst c5
   rw [if_neg (show ¬ (false = true) by decide)] at H
   simp only [Option.some.injEq, Prod.mk.injEq] at H
   obtain ⟨rfl, rfl⟩ := H
   go_enter Tryz.func45, Tryz.ntmps45
   go_wp2_with (first | ((with_reducible refine gate_callee (f := 64) rfl ?_); refine gL_ (some 8) Tryz.func64 #[.string a0] ?_; (with_reducible refine (spec_l00Number.calls k a0 tA0 true _ A2.out).mono ?_); rintro e w' ⟨rfl, ⟨nd, rfl⟩⟩; refine ⟨_, rfl, ?_⟩) | (go_at_call 30; (with_reducible refine (spec_l01In.calls tA0 0 999999999 false _ A4.out).mono ?_); rintro e w' ⟨rfl, ⟨nd, rfl⟩⟩))
   go_ret2
   exact ⟨er_, blw HB⟩
 ·
  replace c3 := Bool.eq_false_iff.mpr c3
  subst c3
  rw [if_neg (show ¬ (false = true) by decide)] at H
  simp only [Option.some.injEq, Prod.mk.injEq] at H
  obtain ⟨rfl, rfl⟩ := H
  go_enter Tryz.func45, Tryz.ntmps45
  go_wp2_with (first | ((with_reducible refine gate_callee (f := 64) rfl ?_); refine gL_ (some 8) Tryz.func64 #[.string a0] ?_; (with_reducible refine (spec_l00Number.calls k a0 tA0 false _ A2.out).mono ?_); rintro e w' ⟨rfl, ⟨nd, rfl⟩⟩; refine ⟨_, rfl, ?_⟩))
  go_ret2
  exact ⟨er_, blw HB⟩

def spec_l04Punct.f (a0 : ByteArray) : Option (Bool) := if a0.toList = ([43] : List UInt8) then (some true) else (if a0.toList = ([45] : List UInt8) then (some true) else (if a0.toList = ([42] : List UInt8) then (some true) else (if a0.toList = ([47] : List UInt8) then (some true) else (if a0.toList = ([94] : List UInt8) then (some true) else (if a0.toList = ([40] : List UInt8) then (some true) else (some (a0.toList == ([41] : List UInt8))))))))
set_option maxHeartbeats 8000000 in
set_option maxRecDepth 100000 in
theorem spec_l04Punct.calls (a0 : ByteArray) (r : Bool) (w : World) (h : spec_l04Punct.f a0 = some r) :
  Calls Tryz.prog 46 #[.string a0] w fun e w' => e = .returned (.bool r) ∧ Drawn0 w w' := by
 have H : (if a0.toList = ([43] : List UInt8) then (some true) else (if a0.toList = ([45] : List UInt8) then (some true) else (if a0.toList = ([42] : List UInt8) then (some true) else (if a0.toList = ([47] : List UInt8) then (some true) else (if a0.toList = ([94] : List UInt8) then (some true) else (if a0.toList = ([40] : List UInt8) then (some true) else (some (a0.toList == ([41] : List UInt8))))))))) = some r := h
 clear h
 by_cases c2 : a0.toList = ([43] : List UInt8)
 ·
  rw [if_pos c2] at H
  have c2b0 : (a0.toList == ([43] : List UInt8)) = true := beq_iff_eq.mpr c2
  have c2b1 : (a0.toList != ([43] : List UInt8)) = false := bne_eq_false_iff_eq.mpr c2
  clear c2
  obtain rfl := Option.some.inj H
  go_enter Tryz.func46, Tryz.ntmps46
  go_wp2
  go_ret
  exact ⟨by first | rfl | (simp; done) | (simp [*]; done), by repeat (first | exact Drawn0.refl _ | apply Drawn0.step)⟩
 ·
  rw [if_neg c2] at H
  have c2b0 : (a0.toList == ([43] : List UInt8)) = false := beq_eq_false_iff_ne.mpr c2
  have c2b1 : (a0.toList != ([43] : List UInt8)) = true := bne_iff_ne.mpr c2
  by_cases c3 : a0.toList = ([45] : List UInt8)
  ·
   rw [if_pos c3] at H
   have c3b0 : (a0.toList == ([45] : List UInt8)) = true := beq_iff_eq.mpr c3
   have c3b1 : (a0.toList != ([45] : List UInt8)) = false := bne_eq_false_iff_eq.mpr c3
   clear c3
   obtain rfl := Option.some.inj H
   go_enter Tryz.func46, Tryz.ntmps46
   go_wp2
   go_ret
   exact ⟨by first | rfl | (simp; done) | (simp [*]; done), by repeat (first | exact Drawn0.refl _ | apply Drawn0.step)⟩
  ·
   rw [if_neg c3] at H
   have c3b0 : (a0.toList == ([45] : List UInt8)) = false := beq_eq_false_iff_ne.mpr c3
   have c3b1 : (a0.toList != ([45] : List UInt8)) = true := bne_iff_ne.mpr c3
   by_cases c4 : a0.toList = ([42] : List UInt8)
   ·
    rw [if_pos c4] at H
    have c4b0 : (a0.toList == ([42] : List UInt8)) = true := beq_iff_eq.mpr c4
    have c4b1 : (a0.toList != ([42] : List UInt8)) = false := bne_eq_false_iff_eq.mpr c4
    clear c4
    obtain rfl := Option.some.inj H
    go_enter Tryz.func46, Tryz.ntmps46
    go_wp2
    go_ret
    exact ⟨by first | rfl | (simp; done) | (simp [*]; done), by repeat (first | exact Drawn0.refl _ | apply Drawn0.step)⟩
   ·
    rw [if_neg c4] at H
    have c4b0 : (a0.toList == ([42] : List UInt8)) = false := beq_eq_false_iff_ne.mpr c4
    have c4b1 : (a0.toList != ([42] : List UInt8)) = true := bne_iff_ne.mpr c4
    by_cases c5 : a0.toList = ([47] : List UInt8)
    ·
     rw [if_pos c5] at H
     have c5b0 : (a0.toList == ([47] : List UInt8)) = true := beq_iff_eq.mpr c5
     have c5b1 : (a0.toList != ([47] : List UInt8)) = false := bne_eq_false_iff_eq.mpr c5
     clear c5
     obtain rfl := Option.some.inj H
     go_enter Tryz.func46, Tryz.ntmps46
     go_wp2
     go_ret
     exact ⟨by first | rfl | (simp; done) | (simp [*]; done), by repeat (first | exact Drawn0.refl _ | apply Drawn0.step)⟩
    ·
     rw [if_neg c5] at H
     have c5b0 : (a0.toList == ([47] : List UInt8)) = false := beq_eq_false_iff_ne.mpr c5
     have c5b1 : (a0.toList != ([47] : List UInt8)) = true := bne_iff_ne.mpr c5
     by_cases c6 : a0.toList = ([94] : List UInt8)
     ·
      rw [if_pos c6] at H
      have c6b0 : (a0.toList == ([94] : List UInt8)) = true := beq_iff_eq.mpr c6
      have c6b1 : (a0.toList != ([94] : List UInt8)) = false := bne_eq_false_iff_eq.mpr c6
      clear c6
      obtain rfl := Option.some.inj H
      go_enter Tryz.func46, Tryz.ntmps46
      go_wp2
      go_ret
      exact ⟨by first | rfl | (simp; done) | (simp [*]; done), by repeat (first | exact Drawn0.refl _ | apply Drawn0.step)⟩
     ·
      rw [if_neg c6] at H
      have c6b0 : (a0.toList == ([94] : List UInt8)) = false := beq_eq_false_iff_ne.mpr c6
      have c6b1 : (a0.toList != ([94] : List UInt8)) = true := bne_iff_ne.mpr c6
      by_cases c7 : a0.toList = ([40] : List UInt8)
      ·
       rw [if_pos c7] at H
       have c7b0 : (a0.toList == ([40] : List UInt8)) = true := beq_iff_eq.mpr c7
       have c7b1 : (a0.toList != ([40] : List UInt8)) = false := bne_eq_false_iff_eq.mpr c7
       clear c7
       obtain rfl := Option.some.inj H
       go_enter Tryz.func46, Tryz.ntmps46
       go_wp2
       go_ret
       exact ⟨by first | rfl | (simp; done) | (simp [*]; done), by repeat (first | exact Drawn0.refl _ | apply Drawn0.step)⟩
      ·
       rw [if_neg c7] at H
       have c7b0 : (a0.toList == ([40] : List UInt8)) = false := beq_eq_false_iff_ne.mpr c7
       have c7b1 : (a0.toList != ([40] : List UInt8)) = true := bne_iff_ne.mpr c7
       obtain rfl := Option.some.inj H
       go_enter Tryz.func46, Tryz.ntmps46
       go_wp2
       go_ret
       exact ⟨by first | rfl | (simp; done) | (simp [*]; done), by repeat (first | exact Drawn0.refl _ | apply Drawn0.step)⟩

mutual
def spec_l04Next.j1 : Nat → ByteArray → Int → Int → Option (Int × Int × ByteArray × Int × Bool)
 | 0, _, _, _ => none
 | k + 1, x0, x1, x7 => if x7 > x1 then (if 0 ≤ x1 then (if x1 ≤ x7 then (if x7 ≤ (x0.size : Int) then ((spec_l04Number.f k (x0.extract (x1 : Int).toNat (x7 : Int).toNat)).bind fun btA1 => (some (1, btA1.1, (⟨#[]⟩ : ByteArray), x7, btA1.2))) else (none)) else (none)) else (none)) else (if 0 ≤ x1 then (if x1 < (x0.size : Int) then (if (bt x0 x1) = 120 then (if (wrap64 (x1 + 1)) < (x0.size : Int) then (if 0 ≤ (wrap64 (x1 + 1)) then (if 48 ≤ (bt x0 (wrap64 (x1 + 1))) then (if (bt x0 (wrap64 (x1 + 1))) < 52 then (some (2, ((bt x0 (wrap64 (x1 + 1))) - 48) % 256, (⟨#[]⟩ : ByteArray), wrap64 (x1 + 2), true)) else (if x1 ≤ (wrap64 (x1 + 1)) then (if (wrap64 (x1 + 1)) ≤ (x0.size : Int) then ((spec_l04Punct.f (x0.extract (x1 : Int).toNat ((wrap64 (x1 + 1)) : Int).toNat)).bind fun tA2 => (some (3, 0, x0.extract (x1 : Int).toNat ((wrap64 (x1 + 1)) : Int).toNat, wrap64 (x1 + 1), tA2))) else (none)) else (none))) else (if x1 ≤ (wrap64 (x1 + 1)) then (if (wrap64 (x1 + 1)) ≤ (x0.size : Int) then ((spec_l04Punct.f (x0.extract (x1 : Int).toNat ((wrap64 (x1 + 1)) : Int).toNat)).bind fun tA3 => (some (3, 0, x0.extract (x1 : Int).toNat ((wrap64 (x1 + 1)) : Int).toNat, wrap64 (x1 + 1), tA3))) else (none)) else (none))) else (none)) else (if x1 ≤ (wrap64 (x1 + 1)) then (if (wrap64 (x1 + 1)) ≤ (x0.size : Int) then ((spec_l04Punct.f (x0.extract (x1 : Int).toNat ((wrap64 (x1 + 1)) : Int).toNat)).bind fun tA4 => (some (3, 0, x0.extract (x1 : Int).toNat ((wrap64 (x1 + 1)) : Int).toNat, wrap64 (x1 + 1), tA4))) else (none)) else (none))) else (if x1 ≤ (wrap64 (x1 + 1)) then (if (wrap64 (x1 + 1)) ≤ (x0.size : Int) then ((spec_l04Punct.f (x0.extract (x1 : Int).toNat ((wrap64 (x1 + 1)) : Int).toNat)).bind fun tA5 => (some (3, 0, x0.extract (x1 : Int).toNat ((wrap64 (x1 + 1)) : Int).toNat, wrap64 (x1 + 1), tA5))) else (none)) else (none))) else (none)) else (none))
def spec_l04Next.l0 : Nat → ByteArray → Int → Int → Option (Int × Int × ByteArray × Int × Bool)
 | 0, _, _, _ => none
 | k + 1, x0, x1, x7 => if x7 < (x0.size : Int) then (if 0 ≤ x7 then ((spec_l00Digit.f (bt x0 x7)).bind fun tA6 => (if tA6 = true then (spec_l04Next.l0 k x0 x1 (wrap64 (x7 + 1))) else (spec_l04Next.j1 k x0 x1 x7))) else (none)) else (spec_l04Next.j1 k x0 x1 x7)
end
def spec_l04Next.f (k : Nat) (a0 : ByteArray) (a1 : Int) : Option (Int × Int × ByteArray × Int × Bool) := spec_l04Next.l0 k a0 a1 a1
set_option maxHeartbeats 8000000 in
set_option maxRecDepth 100000 in
theorem spec_l04Next.calls (k : Nat) (a0 : ByteArray) (a1 : Int) (r1 : Int) (r2 : Int) (r3 : ByteArray) (r4 : Int) (r5 : Bool) (w : World) (h : spec_l04Next.f k a0 a1 = some (r1, r2, r3, r4, r5)) :
  Calls Tryz.prog 25 #[.string a0, .int .i64 a1] w fun e w' => e = .returned (.tuple #[.agg #[.int .i64 r1, .int .i64 r2, .string r3], .int .i64 r4, .bool r5]) ∧ Below w.heap.size w w' := by
 have hu51 := Tryz.underlying51
 have HB := Aside0.mk (Below.refl w.heap.size w)
 have H : (spec_l04Next.l0 k a0 a1 a1) = some (r1, r2, r3, r4, r5) := h
 clear h
 have HC3 := Aside0.mk H
 clear H
 go_enter Tryz.func25, Tryz.ntmps25
 go_upto_block 0 with (first | ((with_reducible refine gate_dst (N := 4) rfl ?_); (try (refine gate_guard (by rfl) ?_; dsimp only)); refine bx_ (N := 4) (cs := #[.int .i64 0, .int .i64 0, .string (⟨#[]⟩ : ByteArray)]) (t := 51) ?_; intro gbA0 hg w4 hbox hb; have BKA0 := Aside0.mk (hbox); have GWA0 := geh hg HB; have GEA0 := geh hg HB; replace HB := bst HB hb; clear hb hbox hg))
 (try simp only [Act.put, List.setIfInBounds_toArray, List.set_cons_zero, List.set_cons_succ])
 go_cut [7] (fun v7 wc => ∃ (kq : Nat) (x7_2 : Int), v7 = .int .i64 x7_2 ∧ Aside0 (spec_l04Next.j1 kq a0 a1 x7_2 = some (r1, r2, r3, r4, r5)) ∧ Aside0 (kq ≤ k) ∧ Aside0 (wc.heap[gbA0]? = some (.cells #[.int .i64 0, .int .i64 0, .string (⟨#[]⟩ : ByteArray)] 51 (0, 0))) ∧ Aside0 (Below w.heap.size w wc))
 case first =>
  have H := HC3.out
  clear HC3
  have H' := Aside0.mk H
  clear H
  go_wp2
  go_loopg [7] k (fun kq v7 w' => ∃ (x7_1 : Int), v7 = .int .i64 x7_1 ∧ Aside0 (spec_l04Next.l0 kq a0 a1 x7_1 = some (r1, r2, r3, r4, r5)) ∧ Aside0 (kq ≤ k) ∧ Aside0 (w'.heap[gbA0]? = some (.cells #[.int .i64 0, .int .i64 0, .string (⟨#[]⟩ : ByteArray)] 51 (0, 0))) ∧ Aside0 (Below w.heap.size w w'))
  case atStart => exact ⟨(a1), rs_, H', ⟨Nat.le_refl _⟩, ⟨crb BKA0⟩, ⟨blw HB⟩⟩
  case round =>
   clear H'
   try clear c2
   try clear p2
   obtain ⟨x7_1, rfl, HA, HK1, BKA0, HB⟩ := hrel
   cases gk with
   | zero => exact absurd HA.out (by simp [spec_l04Next.l0])
   | succ k1 =>
    have H := HA.out
    clear HA
    simp only [spec_l04Next.l0] at H
    by_cases c5 : x7_1 < (a0.size : Int)
    ·
     rw [if_pos c5] at H
     have c5b0 : decide (x7_1 < (a0.size : Int)) = true := decide_eq_true c5
     clear c5
     (first | rw [c5b0] | (simp only [i64_w, i32_w]; rw [c5b0]) | skip)
     by_cases c6 : 0 ≤ x7_1
     ·
      rw [if_pos c6] at H
      have c6b0 : decide (0 ≤ x7_1) = true := decide_eq_true c6
      clear c6
      replace H := Option.bind_eq_some_iff.mp H
      obtain ⟨tA6, A80, H⟩ := H
      replace H : (if tA6 = true then (spec_l04Next.l0 k1 a0 a1 (wrap64 (x7_1 + 1))) else (spec_l04Next.j1 k1 a0 a1 x7_1)) = some (r1, r2, r3, r4, r5) := H
      have A8 := Aside0.mk A80
      clear A80
      by_cases c9 : tA6 = true
      ·
       subst c9
       rw [if_pos rfl] at H
       have H' := Aside0.mk H
       clear H
       have p7 : 0 ≤ (x7_1 : Int) := of_decide_eq_true (by first | (with_reducible assumption) | assumption)
       have q7 : x7_1 < (a0.size : Int) := of_decide_eq_true (by first | (with_reducible assumption) | assumption)
       have hx7 := bt_at a0 x7_1
       replace p7 := eq_true p7
       replace q7 := eq_true q7
       go_wp2_with (first | (go_at_call 44; (with_reducible refine (spec_l00Digit.calls (bt a0 x7_1) true _ A8.out).mono ?_); rintro e w' ⟨rfl, ⟨nd, rfl⟩⟩))
       go_roundg k1
       case measure => have := HK1.out; omega
       case rel => exact ⟨(wrap64 (x7_1 + 1)), rs_, H', ⟨by have := HK1.out; omega⟩, ⟨crb BKA0⟩, ⟨blw HB⟩⟩
      ·
       replace c9 := Bool.eq_false_iff.mpr c9
       subst c9
       rw [if_neg (show ¬ (false = true) by decide)] at H
       have H' := Aside0.mk H
       clear H
       have p7 : 0 ≤ (x7_1 : Int) := of_decide_eq_true (by first | (with_reducible assumption) | assumption)
       have q7 : x7_1 < (a0.size : Int) := of_decide_eq_true (by first | (with_reducible assumption) | assumption)
       have hx7 := bt_at a0 x7_1
       replace p7 := eq_true p7
       replace q7 := eq_true q7
       go_wp2_with (first | (go_at_call 44; (with_reducible refine (spec_l00Digit.calls (bt a0 x7_1) false _ A8.out).mono ?_); rintro e w' ⟨rfl, ⟨nd, rfl⟩⟩))
       go_meet
       case rel => exact ⟨_, (x7_1), rs_, H', ⟨by have := HK1.out; first | omega | exact Nat.le_refl _⟩, ⟨crb BKA0⟩, ⟨blw HB⟩⟩
     ·
      rw [if_neg c6] at H
      exact absurd H (by simp)
    ·
     rw [if_neg c5] at H
     have c5b0 : decide (x7_1 < (a0.size : Int)) = false := decide_eq_false c5
     clear c5
     (first | rw [c5b0] | (simp only [i64_w, i32_w]; rw [c5b0]) | skip)
     have H' := Aside0.mk H
     clear H
     go_wp2
     go_meet
     case rel => exact ⟨_, (x7_1), rs_, H', ⟨by have := HK1.out; first | omega | exact Nat.le_refl _⟩, ⟨crb BKA0⟩, ⟨blw HB⟩⟩
 case rest =>
  clear HC3
  try clear c2
  try clear p2
  try clear c5
  try clear c5b0
  try clear c6
  try clear c6b0
  try clear p6
  try clear p7
  try clear q7
  try clear hx7
  try clear c9
  try clear p2
  try clear p7
  try clear q7
  obtain ⟨kq, x7_2, rfl, HA, HJ2, BKA0, HB⟩ := hcut
  cases kq with
  | zero => exact absurd HA.out (by simp [spec_l04Next.j1])
  | succ kj2 =>
   have H := HA.out
   clear HA
   simp only [spec_l04Next.j1] at H
   by_cases c10 : x7_2 > a1
   ·
    rw [if_pos c10] at H
    have c10b0 : decide (a1 < x7_2) = true := decide_eq_true c10
    clear c10
    by_cases c11 : 0 ≤ a1
    ·
     rw [if_pos c11] at H
     have c11b0 := eq_true c11
     have c11b1 : decide (0 ≤ a1) = true := decide_eq_true c11
     clear c11
     by_cases c12 : a1 ≤ x7_2
     ·
      rw [if_pos c12] at H
      have c12b0 := eq_true c12
      have c12b1 : decide (a1 ≤ x7_2) = true := decide_eq_true c12
      clear c12
      by_cases c13 : x7_2 ≤ (a0.size : Int)
      ·
       rw [if_pos c13] at H
       have c13b0 := eq_true c13
       have c13b1 : decide (x7_2 ≤ (a0.size : Int)) = true := decide_eq_true c13
       clear c13
       replace H := Option.bind_eq_some_iff.mp H
       obtain ⟨⟨tA1, tA7⟩, AA8, H⟩ := H
       replace H : (some (1, tA1, (⟨#[]⟩ : ByteArray), x7_2, tA7)) = some (r1, r2, r3, r4, r5) := H
       have A14 := Aside0.mk AA8
       clear AA8
       simp only [Option.some.injEq, Prod.mk.injEq] at H
       obtain ⟨rfl, rfl, rfl, rfl, rfl⟩ := H
       go_wp2_with (first | ((with_reducible refine gate_callee (f := 45) rfl ?_); refine gL_ (some 32) Tryz.func45 #[.string (a0.extract (a1 : Int).toNat (x7_2 : Int).toNat)] ?_; (with_reducible refine (spec_l04Number.calls kj2 (a0.extract (a1 : Int).toNat (x7_2 : Int).toNat) tA1 tA7 _ A14.out).mono ?_); rintro e w15 ⟨rfl, hb⟩; refine ⟨_, rfl, ?_⟩; replace BKA0 := bkb BKA0 hb; replace HB := bst HB hb; (try clear hb); (try clear hb2); (try clear hk); (try clear hi); have hcz16_0 := bce BKA0 0 (.int .i64 0); have hcz16_1 := bce BKA0 1 (.int .i64 0); have hcz16_2 : w15.cell? ⟨gbA0, 2, none⟩ = some (.string (⟨#[]⟩ : ByteArray)) := bce BKA0 2 _; have hfz16_0 := blk_frozen BKA0.out 0; have hfz16_1 := blk_frozen BKA0.out 1; have hfz16_2 := blk_frozen BKA0.out 2))
       refine bodyPost_ret (results_ctt rfl _ _ gbA0 51 #[.int .i64 1, .int .i64 tA1, .string (⟨#[]⟩ : ByteArray)] (0, 0) _ rfl (bp3 BKA0 _ _ _) Tryz.underlying51 rfl (by kernel_rfl)) rfl ?_
       exact ⟨er_, blw HB⟩
      ·
       rw [if_neg c13] at H
       exact absurd H (by simp)
     ·
      rw [if_neg c12] at H
      exact absurd H (by simp)
    ·
     rw [if_neg c11] at H
     exact absurd H (by simp)
   ·
    rw [if_neg c10] at H
    have c10b0 : decide (a1 < x7_2) = false := decide_eq_false c10
    clear c10
    by_cases c17 : 0 ≤ a1
    ·
     rw [if_pos c17] at H
     have c17b0 : decide (0 ≤ a1) = true := decide_eq_true c17
     clear c17
     by_cases c18 : a1 < (a0.size : Int)
     ·
      rw [if_pos c18] at H
      have c18b0 : decide (a1 < (a0.size : Int)) = true := decide_eq_true c18
      clear c18
      by_cases c20 : (bt a0 a1) = 120
      ·
       rw [if_pos c20] at H
       have c20b0 : ((bt a0 a1) == 120) = true := beq_iff_eq.mpr c20
       have c20b1 : ((bt a0 a1) != 120) = false := bne_eq_false_iff_eq.mpr c20
       clear c20
       by_cases c21 : (wrap64 (a1 + 1)) < (a0.size : Int)
       ·
        rw [if_pos c21] at H
        have c21b0 : decide ((wrap64 (a1 + 1)) < (a0.size : Int)) = true := decide_eq_true c21
        clear c21
        obtain ⟨ji22, hji22⟩ : ∃ j_ : Int, (wrap64 (a1 + 1)) = j_ := ⟨_, rfl⟩
        replace H : (if 0 ≤ (ji22) then (if 48 ≤ (bt a0 (ji22)) then (if (bt a0 (ji22)) < 52 then (some (2, ((bt a0 (ji22)) - 48) % 256, (⟨#[]⟩ : ByteArray), wrap64 (a1 + 2), true)) else (if a1 ≤ (ji22) then (if (ji22) ≤ (a0.size : Int) then ((spec_l04Punct.f (a0.extract (a1 : Int).toNat ((ji22) : Int).toNat)).bind fun tA2 => (some (3, 0, a0.extract (a1 : Int).toNat ((ji22) : Int).toNat, ji22, tA2))) else (none)) else (none))) else (if a1 ≤ (ji22) then (if (ji22) ≤ (a0.size : Int) then ((spec_l04Punct.f (a0.extract (a1 : Int).toNat ((ji22) : Int).toNat)).bind fun tA3 => (some (3, 0, a0.extract (a1 : Int).toNat ((ji22) : Int).toNat, ji22, tA3))) else (none)) else (none))) else (none)) = some (r1, r2, r3, r4, r5) := by first | (rw [hji22] at H; exact H) | (simp only [hji22] at H ⊢; exact H)
        (try rw [hji22] at c21b0)
        have hji22w : (IntKind.i64.wrap (a1 + 1)) = ji22 := (i64_w _).trans hji22
        by_cases c23 : 0 ≤ (ji22)
        ·
         rw [if_pos c23] at H
         have c23b0 : decide (0 ≤ (ji22)) = true := decide_eq_true c23
         clear c23
         by_cases c25 : 48 ≤ (bt a0 (ji22))
         ·
          rw [if_pos c25] at H
          have c25b0 : decide (48 ≤ (bt a0 (ji22))) = true := decide_eq_true c25
          clear c25
          by_cases c27 : (bt a0 (ji22)) < 52
          ·
           rw [if_pos c27] at H
           have c27b0 : decide ((bt a0 (ji22)) < 52) = true := decide_eq_true c27
           clear c27
           simp only [Option.some.injEq, Prod.mk.injEq] at H
           obtain ⟨rfl, rfl, rfl, rfl, rfl⟩ := H
           have p19 : 0 ≤ (a1 : Int) := of_decide_eq_true (by first | (with_reducible assumption) | assumption)
           have q19 : a1 < (a0.size : Int) := of_decide_eq_true (by first | (with_reducible assumption) | assumption)
           have hx19 := bt_at a0 a1
           replace p19 := eq_true p19
           replace q19 := eq_true q19
           have p24 : 0 ≤ ((ji22) : Int) := of_decide_eq_true (by first | (with_reducible assumption) | assumption)
           have q24 : (ji22) < (a0.size : Int) := of_decide_eq_true (by first | (with_reducible assumption) | assumption)
           have hx24 := bt_at a0 (ji22)
           replace p24 := eq_true p24
           replace q24 := eq_true q24
           have p26 : 0 ≤ ((ji22) : Int) := of_decide_eq_true (by first | (with_reducible assumption) | assumption)
           have q26 : (ji22) < (a0.size : Int) := of_decide_eq_true (by first | (with_reducible assumption) | assumption)
           have hx26 := bt_at a0 (ji22)
           replace p26 := eq_true p26
           replace q26 := eq_true q26
           have p28 : 0 ≤ ((ji22) : Int) := of_decide_eq_true (by first | (with_reducible assumption) | assumption)
           have q28 : (ji22) < (a0.size : Int) := of_decide_eq_true (by first | (with_reducible assumption) | assumption)
           have hx28 := bt_at a0 (ji22)
           replace p28 := eq_true p28
           replace q28 := eq_true q28
           have hcz29_0 := bce BKA0 0 (.int .i64 0)
           have hcz29_1 := bce BKA0 1 (.int .i64 0)
           have hcz29_2 : wc.cell? ⟨gbA0, 2, none⟩ = some (.string (⟨#[]⟩ : ByteArray)) := bce BKA0 2 _
           have hfz29_0 := blk_frozen BKA0.out 0
           have hfz29_1 := blk_frozen BKA0.out 1
           have hfz29_2 := blk_frozen BKA0.out 2
           go_wp2
           refine bodyPost_ret (results_ctt rfl _ _ gbA0 51 #[.int .i64 2, .int .i64 (((bt a0 (ji22)) - 48) % 256), .string (⟨#[]⟩ : ByteArray)] (0, 0) _ rfl (bp3 BKA0 _ _ _) Tryz.underlying51 rfl (by kernel_rfl)) rfl ?_
           exact ⟨by first | rfl | (simp [errW_none, errW_some] <;> rfl) | (simp only [← hji22]; first | rfl | (simp [errW_none, errW_some] <;> rfl)) | (simp [*, errW_none, errW_some] <;> rfl), blw HB⟩
          ·
           rw [if_neg c27] at H
           have c27b0 : decide ((bt a0 (ji22)) < 52) = false := decide_eq_false c27
           clear c27
           have c30b0 := eq_true (of_decide_eq_true (by first | (with_reducible assumption) | assumption) : 0 ≤ a1)
           by_cases c31 : a1 ≤ (ji22)
           ·
            rw [if_pos c31] at H
            have c31b0 := eq_true c31
            have c31b1 : decide (a1 ≤ (ji22)) = true := decide_eq_true c31
            clear c31
            by_cases c32 : (ji22) ≤ (a0.size : Int)
            ·
             rw [if_pos c32] at H
             have c32b0 := eq_true c32
             have c32b1 : decide ((ji22) ≤ (a0.size : Int)) = true := decide_eq_true c32
             clear c32
             replace H := Option.bind_eq_some_iff.mp H
             obtain ⟨tA2, AA9, H⟩ := H
             replace H : (some (3, 0, a0.extract (a1 : Int).toNat ((ji22) : Int).toNat, ji22, tA2)) = some (r1, r2, r3, r4, r5) := H
             have A33 := Aside0.mk AA9
             clear AA9
             simp only [Option.some.injEq, Prod.mk.injEq] at H
             obtain ⟨rfl, rfl, rfl, rfl, rfl⟩ := H
             have p19 : 0 ≤ (a1 : Int) := of_decide_eq_true (by first | (with_reducible assumption) | assumption)
             have q19 : a1 < (a0.size : Int) := of_decide_eq_true (by first | (with_reducible assumption) | assumption)
             have hx19 := bt_at a0 a1
             replace p19 := eq_true p19
             replace q19 := eq_true q19
             have p24 : 0 ≤ ((ji22) : Int) := of_decide_eq_true (by first | (with_reducible assumption) | assumption)
             have q24 : (ji22) < (a0.size : Int) := of_decide_eq_true (by first | (with_reducible assumption) | assumption)
             have hx24 := bt_at a0 (ji22)
             replace p24 := eq_true p24
             replace q24 := eq_true q24
             have p26 : 0 ≤ ((ji22) : Int) := of_decide_eq_true (by first | (with_reducible assumption) | assumption)
             have q26 : (ji22) < (a0.size : Int) := of_decide_eq_true (by first | (with_reducible assumption) | assumption)
             have hx26 := bt_at a0 (ji22)
             replace p26 := eq_true p26
             replace q26 := eq_true q26
             go_wp2_with (first | ((with_reducible refine gate_callee (f := 46) rfl ?_); refine goesL_ (some 83) rfl rfl Tryz.func46 (by kernel_rfl) rfl #[.string (a0.extract (a1 : Int).toNat ((ji22) : Int).toNat)] rfl (by (try simp only [List.map_toArray, List.map_cons, List.map_nil]); first | done | (simp only [hji22]; rfl) | rfl | (simp only [List.length_drop, List.length_take]; rfl)) ?_; (with_reducible refine (spec_l04Punct.calls (a0.extract (a1 : Int).toNat ((ji22) : Int).toNat) tA2 _ A33.out).mono ?_); rintro e w' ⟨rfl, ⟨nd, rfl⟩⟩; refine ⟨_, rfl, ?_⟩; (try (rw [drewN_self wc]; generalize hq_ : World.drewN wc _ = wc; replace BKA0 : Aside0 (wc.heap[gbA0]? = some (.cells #[.int .i64 0, .int .i64 0, .string (⟨#[]⟩ : ByteArray)] 51 (0, 0))) := ⟨by rw [← hq_]; exact (crb BKA0)⟩; replace HB : Aside0 (Below w.heap.size w wc) := ⟨by rw [← hq_]; exact (blw HB)⟩; clear hq_)); have hcz34_0 := bce BKA0 0 (.int .i64 0); have hcz34_1 := bce BKA0 1 (.int .i64 0); have hcz34_2 : wc.cell? ⟨gbA0, 2, none⟩ = some (.string (⟨#[]⟩ : ByteArray)) := bce BKA0 2 _; have hfz34_0 := blk_frozen BKA0.out 0; have hfz34_1 := blk_frozen BKA0.out 1; have hfz34_2 := blk_frozen BKA0.out 2))
             refine bodyPost_ret (results_ctt rfl _ _ gbA0 51 #[.int .i64 3, .int .i64 0, .string (a0.extract (a1 : Int).toNat ((ji22) : Int).toNat)] (0, 0) _ rfl (bp3 BKA0 _ _ _) Tryz.underlying51 rfl (by kernel_rfl)) rfl ?_
             exact ⟨by first | rfl | (simp [errW_none, errW_some] <;> rfl) | (simp only [← hji22]; first | rfl | (simp [errW_none, errW_some] <;> rfl)) | (simp [*, errW_none, errW_some] <;> rfl), blw HB⟩
            ·
             rw [if_neg c32] at H
             exact absurd H (by simp)
           ·
            rw [if_neg c31] at H
            exact absurd H (by simp)
         ·
          rw [if_neg c25] at H
          have c25b0 : decide (48 ≤ (bt a0 (ji22))) = false := decide_eq_false c25
          clear c25
          have c35b0 := eq_true (of_decide_eq_true (by first | (with_reducible assumption) | assumption) : 0 ≤ a1)
          by_cases c36 : a1 ≤ (ji22)
          ·
           rw [if_pos c36] at H
           have c36b0 := eq_true c36
           have c36b1 : decide (a1 ≤ (ji22)) = true := decide_eq_true c36
           clear c36
           by_cases c37 : (ji22) ≤ (a0.size : Int)
           ·
            rw [if_pos c37] at H
            have c37b0 := eq_true c37
            have c37b1 : decide ((ji22) ≤ (a0.size : Int)) = true := decide_eq_true c37
            clear c37
            replace H := Option.bind_eq_some_iff.mp H
            obtain ⟨tA3, AB0, H⟩ := H
            replace H : (some (3, 0, a0.extract (a1 : Int).toNat ((ji22) : Int).toNat, ji22, tA3)) = some (r1, r2, r3, r4, r5) := H
            have A38 := Aside0.mk AB0
            clear AB0
            simp only [Option.some.injEq, Prod.mk.injEq] at H
            obtain ⟨rfl, rfl, rfl, rfl, rfl⟩ := H
            have p19 : 0 ≤ (a1 : Int) := of_decide_eq_true (by first | (with_reducible assumption) | assumption)
            have q19 : a1 < (a0.size : Int) := of_decide_eq_true (by first | (with_reducible assumption) | assumption)
            have hx19 := bt_at a0 a1
            replace p19 := eq_true p19
            replace q19 := eq_true q19
            have p24 : 0 ≤ ((ji22) : Int) := of_decide_eq_true (by first | (with_reducible assumption) | assumption)
            have q24 : (ji22) < (a0.size : Int) := of_decide_eq_true (by first | (with_reducible assumption) | assumption)
            have hx24 := bt_at a0 (ji22)
            replace p24 := eq_true p24
            replace q24 := eq_true q24
            go_wp2_with (first | ((with_reducible refine gate_callee (f := 46) rfl ?_); refine goesL_ (some 83) rfl rfl Tryz.func46 (by kernel_rfl) rfl #[.string (a0.extract (a1 : Int).toNat ((ji22) : Int).toNat)] rfl (by (try simp only [List.map_toArray, List.map_cons, List.map_nil]); first | done | (simp only [hji22]; rfl) | rfl | (simp only [List.length_drop, List.length_take]; rfl)) ?_; (with_reducible refine (spec_l04Punct.calls (a0.extract (a1 : Int).toNat ((ji22) : Int).toNat) tA3 _ A38.out).mono ?_); rintro e w' ⟨rfl, ⟨nd, rfl⟩⟩; refine ⟨_, rfl, ?_⟩; (try (rw [drewN_self wc]; generalize hq_ : World.drewN wc _ = wc; replace BKA0 : Aside0 (wc.heap[gbA0]? = some (.cells #[.int .i64 0, .int .i64 0, .string (⟨#[]⟩ : ByteArray)] 51 (0, 0))) := ⟨by rw [← hq_]; exact (crb BKA0)⟩; replace HB : Aside0 (Below w.heap.size w wc) := ⟨by rw [← hq_]; exact (blw HB)⟩; clear hq_)); have hcz39_0 := bce BKA0 0 (.int .i64 0); have hcz39_1 := bce BKA0 1 (.int .i64 0); have hcz39_2 : wc.cell? ⟨gbA0, 2, none⟩ = some (.string (⟨#[]⟩ : ByteArray)) := bce BKA0 2 _; have hfz39_0 := blk_frozen BKA0.out 0; have hfz39_1 := blk_frozen BKA0.out 1; have hfz39_2 := blk_frozen BKA0.out 2))
            refine bodyPost_ret (results_ctt rfl _ _ gbA0 51 #[.int .i64 3, .int .i64 0, .string (a0.extract (a1 : Int).toNat ((ji22) : Int).toNat)] (0, 0) _ rfl (bp3 BKA0 _ _ _) Tryz.underlying51 rfl (by kernel_rfl)) rfl ?_
            exact ⟨by first | rfl | (simp [errW_none, errW_some] <;> rfl) | (simp only [← hji22]; first | rfl | (simp [errW_none, errW_some] <;> rfl)) | (simp [*, errW_none, errW_some] <;> rfl), blw HB⟩
           ·
            rw [if_neg c37] at H
            exact absurd H (by simp)
          ·
           rw [if_neg c36] at H
           exact absurd H (by simp)
        ·
         rw [if_neg c23] at H
         exact absurd H (by simp)
       ·
        rw [if_neg c21] at H
        have c21b0 : decide ((wrap64 (a1 + 1)) < (a0.size : Int)) = false := decide_eq_false c21
        clear c21
        have c40b0 := eq_true (of_decide_eq_true (by first | (with_reducible assumption) | assumption) : 0 ≤ a1)
        by_cases c41 : a1 ≤ (wrap64 (a1 + 1))
        ·
         rw [if_pos c41] at H
         have c41b0 := eq_true c41
         have c41b1 : decide (a1 ≤ (wrap64 (a1 + 1))) = true := decide_eq_true c41
         by_cases c42 : (wrap64 (a1 + 1)) ≤ (a0.size : Int)
         ·
          rw [if_pos c42] at H
          have c42b0 := eq_true c42
          have c42b1 : decide ((wrap64 (a1 + 1)) ≤ (a0.size : Int)) = true := decide_eq_true c42
          replace H := Option.bind_eq_some_iff.mp H
          obtain ⟨tA4, AB1, H⟩ := H
          replace H : (some (3, 0, a0.extract (a1 : Int).toNat ((wrap64 (a1 + 1)) : Int).toNat, wrap64 (a1 + 1), tA4)) = some (r1, r2, r3, r4, r5) := H
          have A43 := Aside0.mk AB1
          clear AB1
          simp only [Option.some.injEq, Prod.mk.injEq] at H
          obtain ⟨rfl, rfl, rfl, rfl, rfl⟩ := H
          have p19 : 0 ≤ (a1 : Int) := of_decide_eq_true (by first | (with_reducible assumption) | assumption)
          have q19 : a1 < (a0.size : Int) := of_decide_eq_true (by first | (with_reducible assumption) | assumption)
          have hx19 := bt_at a0 a1
          replace p19 := eq_true p19
          replace q19 := eq_true q19
          go_wp2_with (first | ((with_reducible refine gate_callee (f := 46) rfl ?_); refine gL_ (some 83) Tryz.func46 #[.string (a0.extract (a1 : Int).toNat ((wrap64 (a1 + 1)) : Int).toNat)] ?_; (with_reducible refine (spec_l04Punct.calls (a0.extract (a1 : Int).toNat ((wrap64 (a1 + 1)) : Int).toNat) tA4 _ A43.out).mono ?_); rintro e w' ⟨rfl, ⟨nd, rfl⟩⟩; refine ⟨_, rfl, ?_⟩; (try (rw [drewN_self wc]; generalize hq_ : World.drewN wc _ = wc; replace BKA0 : Aside0 (wc.heap[gbA0]? = some (.cells #[.int .i64 0, .int .i64 0, .string (⟨#[]⟩ : ByteArray)] 51 (0, 0))) := ⟨by rw [← hq_]; exact (crb BKA0)⟩; replace HB : Aside0 (Below w.heap.size w wc) := ⟨by rw [← hq_]; exact (blw HB)⟩; clear hq_)); have hcz44_0 := bce BKA0 0 (.int .i64 0); have hcz44_1 := bce BKA0 1 (.int .i64 0); have hcz44_2 : wc.cell? ⟨gbA0, 2, none⟩ = some (.string (⟨#[]⟩ : ByteArray)) := bce BKA0 2 _; have hfz44_0 := blk_frozen BKA0.out 0; have hfz44_1 := blk_frozen BKA0.out 1; have hfz44_2 := blk_frozen BKA0.out 2))
          refine bodyPost_ret (results_ctt rfl _ _ gbA0 51 #[.int .i64 3, .int .i64 0, .string (a0.extract (a1 : Int).toNat ((wrap64 (a1 + 1)) : Int).toNat)] (0, 0) _ rfl (bp3 BKA0 _ _ _) Tryz.underlying51 rfl (by kernel_rfl)) rfl ?_
          exact ⟨er_, blw HB⟩
         ·
          rw [if_neg c42] at H
          exact absurd H (by simp)
        ·
         rw [if_neg c41] at H
         exact absurd H (by simp)
      ·
       rw [if_neg c20] at H
       have c20b0 : ((bt a0 a1) == 120) = false := beq_eq_false_iff_ne.mpr c20
       have c20b1 : ((bt a0 a1) != 120) = true := bne_iff_ne.mpr c20
       have c45b0 := eq_true (of_decide_eq_true (by first | (with_reducible assumption) | assumption) : 0 ≤ a1)
       by_cases c46 : a1 ≤ (wrap64 (a1 + 1))
       ·
        rw [if_pos c46] at H
        have c46b0 := eq_true c46
        have c46b1 : decide (a1 ≤ (wrap64 (a1 + 1))) = true := decide_eq_true c46
        by_cases c47 : (wrap64 (a1 + 1)) ≤ (a0.size : Int)
        ·
         rw [if_pos c47] at H
         have c47b0 := eq_true c47
         have c47b1 : decide ((wrap64 (a1 + 1)) ≤ (a0.size : Int)) = true := decide_eq_true c47
         replace H := Option.bind_eq_some_iff.mp H
         obtain ⟨tA5, AB2, H⟩ := H
         replace H : (some (3, 0, a0.extract (a1 : Int).toNat ((wrap64 (a1 + 1)) : Int).toNat, wrap64 (a1 + 1), tA5)) = some (r1, r2, r3, r4, r5) := H
         have A48 := Aside0.mk AB2
         clear AB2
         simp only [Option.some.injEq, Prod.mk.injEq] at H
         obtain ⟨rfl, rfl, rfl, rfl, rfl⟩ := H
         have p19 : 0 ≤ (a1 : Int) := of_decide_eq_true (by first | (with_reducible assumption) | assumption)
         have q19 : a1 < (a0.size : Int) := of_decide_eq_true (by first | (with_reducible assumption) | assumption)
         have hx19 := bt_at a0 a1
         replace p19 := eq_true p19
         replace q19 := eq_true q19
         go_wp2_with (first | ((with_reducible refine gate_callee (f := 46) rfl ?_); refine gL_ (some 83) Tryz.func46 #[.string (a0.extract (a1 : Int).toNat ((wrap64 (a1 + 1)) : Int).toNat)] ?_; (with_reducible refine (spec_l04Punct.calls (a0.extract (a1 : Int).toNat ((wrap64 (a1 + 1)) : Int).toNat) tA5 _ A48.out).mono ?_); rintro e w' ⟨rfl, ⟨nd, rfl⟩⟩; refine ⟨_, rfl, ?_⟩; (try (rw [drewN_self wc]; generalize hq_ : World.drewN wc _ = wc; replace BKA0 : Aside0 (wc.heap[gbA0]? = some (.cells #[.int .i64 0, .int .i64 0, .string (⟨#[]⟩ : ByteArray)] 51 (0, 0))) := ⟨by rw [← hq_]; exact (crb BKA0)⟩; replace HB : Aside0 (Below w.heap.size w wc) := ⟨by rw [← hq_]; exact (blw HB)⟩; clear hq_)); have hcz49_0 := bce BKA0 0 (.int .i64 0); have hcz49_1 := bce BKA0 1 (.int .i64 0); have hcz49_2 : wc.cell? ⟨gbA0, 2, none⟩ = some (.string (⟨#[]⟩ : ByteArray)) := bce BKA0 2 _; have hfz49_0 := blk_frozen BKA0.out 0; have hfz49_1 := blk_frozen BKA0.out 1; have hfz49_2 := blk_frozen BKA0.out 2))
         refine bodyPost_ret (results_ctt rfl _ _ gbA0 51 #[.int .i64 3, .int .i64 0, .string (a0.extract (a1 : Int).toNat ((wrap64 (a1 + 1)) : Int).toNat)] (0, 0) _ rfl (bp3 BKA0 _ _ _) Tryz.underlying51 rfl (by kernel_rfl)) rfl ?_
         exact ⟨er_, blw HB⟩
        ·
         rw [if_neg c47] at H
         exact absurd H (by simp)
       ·
        rw [if_neg c46] at H
        exact absurd H (by simp)
     ·
      rw [if_neg c18] at H
      exact absurd H (by simp)
    ·
     rw [if_neg c17] at H
     exact absurd H (by simp)

def spec_l04Lex.l0 : Nat → ByteArray → List (S51) → Int → Option ((List (S51)) × Int)
 | 0, _, _, _ => none
 | k + 1, x0, x4, x5 => if x5 < (x0.size : Int) then (if 0 ≤ x5 then (if (bt x0 x5) = 32 then (spec_l04Lex.l0 k x0 x4 (wrap64 (x5 + 1))) else ((spec_l04Next.f k x0 x5).bind fun btA1 => (if btA1.2.2.2.2 = true then (if (x4.length : Int) = 400 then (some ((([] : List (S51))), 6)) else (if x4.length < 4398046511104 then (spec_l04Lex.l0 k x0 (x4 ++ [(⟨btA1.1, btA1.2.1, btA1.2.2.1⟩ : S51)]) btA1.2.2.2.1) else (none))) else (some ((([] : List (S51))), 3))))) else (none)) else (some (x4, 0))
def spec_l04Lex.f (k : Nat) (a0 : ByteArray) : Option ((List (S51)) × Int) := spec_l04Lex.l0 k a0 (([] : List (S51))) 0
set_option maxHeartbeats 8000000 in
set_option maxRecDepth 100000 in
theorem spec_l04Lex.calls (k : Nat) (a0 : ByteArray) (r1 : List (S51)) (r2 : Int) (w : World) (h : spec_l04Lex.f k a0 = some (r1, r2)) :
  Calls Tryz.prog 15 #[.string a0] w fun e w' => ∃ v0_ : Value, e = .returned (.tuple #[v0_, .int .i64 r2]) ∧ Kd.R k51 51 w' w.heap.size (fun _ => True) v0_ r1 ∧ Below w.heap.size w w' := by
 have hu51 := Tryz.underlying51
 have HB := Aside0.mk (Below.refl w.heap.size w)
 have H : (spec_l04Lex.l0 k a0 (([] : List (S51))) 0) = some (r1, r2) := h
 clear h
 obtain ⟨yA5, hy121⟩ : ∃ y_ : List (S51), y_ = (([] : List (S51))) := ⟨_, rfl⟩
 replace H : (spec_l04Lex.l0 k a0 yA5 0) = some (r1, r2) := by subst hy121; first | with_reducible exact H | with_reducible exact (Option.bind_some _ _).symm.trans H | exact H
 have NyA5 := Aside0.mk hy121
 clear hy121
 have H' := Aside0.mk H
 clear H
 go_enter Tryz.func15, Tryz.ntmps15
 go_wp2_with (first | ((with_reducible refine gate_dst (N := 9) rfl ?_); refine Kd.R_lit k51 _ 51 ?hg (N := 9) ?hd (xs := ([] : List (S51))) (inner := []) (ok := fun _ => True) (okp := fun _ => True) ?hr ?hp (fun _ hk => hk) trivial (Below.refl _ _) (Nat.le_refl _) (by simp) ?_; (case hd => rfl); (case hg => rfl); (case hr => first | (go_simp; done) | (go_simp; rfl)); (case hp => exact (Reps.none _ _)); intro vB4 w2 ho3 hb hg_ hnew_; clear hg_ hnew_; (first | rw [← NyA5.out] at ho3 | (simp only [Int.reduceToNat] at ho3; rw [← NyA5.out] at ho3)); have HOB0 := lwR ho3 HB; replace HB := bst HB hb; clear hb ho3))
 go_loopg [4, 5] k (fun kq v4 v5 w' => ∃ (x4_1 : List (S51)) (x5_1 : Int), v5 = .int .i64 x5_1 ∧ Aside0 (spec_l04Lex.l0 kq a0 x4_1 x5_1 = some (r1, r2)) ∧ Aside0 (kq ≤ k) ∧ Aside0 (Kd.R k51 51 w' w.heap.size (fun _ => True) v4 x4_1) ∧ Aside0 (Below w.heap.size w w'))
 case atStart => exact ⟨(yA5), (0), rs_, H', ⟨Nat.le_refl _⟩, ⟨crR HOB0⟩, ⟨blw HB⟩⟩
 case round =>
  clear H'
  try clear c1
  try clear p2
  obtain ⟨x4_1, x5_1, rfl, HA, HK1, HO_4, HB⟩ := hrel
  cases gk with
  | zero => exact absurd HA.out (by simp [spec_l04Lex.l0])
  | succ k1 =>
   have H := HA.out
   clear HA
   simp only [spec_l04Lex.l0] at H
   by_cases c4 : x5_1 < (a0.size : Int)
   ·
    rw [if_pos c4] at H
    have c4b0 : decide (x5_1 < (a0.size : Int)) = true := decide_eq_true c4
    clear c4
    by_cases c5 : 0 ≤ x5_1
    ·
     rw [if_pos c5] at H
     have c5b0 : decide (0 ≤ x5_1) = true := decide_eq_true c5
     clear c5
     by_cases c7 : (bt a0 x5_1) = 32
     ·
      rw [if_pos c7] at H
      have c7b0 : ((bt a0 x5_1) == 32) = true := beq_iff_eq.mpr c7
      have c7b1 : ((bt a0 x5_1) != 32) = false := bne_eq_false_iff_eq.mpr c7
      clear c7
      have H' := Aside0.mk H
      clear H
      have p6 : 0 ≤ (x5_1 : Int) := of_decide_eq_true (by first | (with_reducible assumption) | assumption)
      have q6 : x5_1 < (a0.size : Int) := of_decide_eq_true (by first | (with_reducible assumption) | assumption)
      have hx6 := bt_at a0 x5_1
      replace p6 := eq_true p6
      replace q6 := eq_true q6
      go_wp2
      go_roundg k1
      case measure => have := HK1.out; omega
      case rel => exact ⟨(x4_1), (wrap64 (x5_1 + 1)), rs_, H', ⟨by have := HK1.out; omega⟩, ⟨crR HO_4⟩, ⟨blw HB⟩⟩
     ·
      rw [if_neg c7] at H
      have c7b0 : ((bt a0 x5_1) == 32) = false := beq_eq_false_iff_ne.mpr c7
      have c7b1 : ((bt a0 x5_1) != 32) = true := bne_iff_ne.mpr c7
      replace H := Option.bind_eq_some_iff.mp H
      obtain ⟨⟨tA1, tA2, tA3, tA4, tA9⟩, A80, H⟩ := H
      replace H : (if tA9 = true then (if (x4_1.length : Int) = 400 then (some ((([] : List (S51))), 6)) else (if x4_1.length < 4398046511104 then (spec_l04Lex.l0 k1 a0 (x4_1 ++ [(⟨tA1, tA2, tA3⟩ : S51)]) tA4) else (none))) else (some ((([] : List (S51))), 3))) = some (r1, r2) := H
      have A8 := Aside0.mk A80
      clear A80
      by_cases c9 : tA9 = true
      ·
       subst c9
       rw [if_pos rfl] at H
       by_cases c10 : (x4_1.length : Int) = 400
       ·
        rw [if_pos c10] at H
        have c10b0 : ((x4_1.length : Int) == 400) = true := beq_iff_eq.mpr c10
        have c10b1 : ((x4_1.length : Int) != 400) = false := bne_eq_false_iff_eq.mpr c10
        clear c10
        obtain ⟨yA6, hy130⟩ : ∃ y_ : List (S51), y_ = (([] : List (S51))) := ⟨_, rfl⟩
        replace H : (some (yA6, 6)) = some (r1, r2) := by subst hy130; first | with_reducible exact H | with_reducible exact (Option.bind_some _ _).symm.trans H | exact H
        have NyA6 := Aside0.mk hy130
        clear hy130
        simp only [Option.some.injEq, Prod.mk.injEq] at H
        obtain ⟨rfl, rfl⟩ := H
        have p6 : 0 ≤ (x5_1 : Int) := of_decide_eq_true (by first | (with_reducible assumption) | assumption)
        have q6 : x5_1 < (a0.size : Int) := of_decide_eq_true (by first | (with_reducible assumption) | assumption)
        have hx6 := bt_at a0 x5_1
        replace p6 := eq_true p6
        replace q6 := eq_true q6
        go_wp2_with (first | ((with_reducible refine gate_callee (f := 25) rfl ?_); refine gL_ (some 23) Tryz.func25 #[.string a0, .int .i64 x5_1] ?_; (with_reducible refine (spec_l04Next.calls k1 a0 x5_1 tA1 tA2 tA3 tA4 true _ A8.out).mono ?_); rintro e w11 ⟨rfl, hb⟩; refine ⟨_, rfl, ?_⟩; replace HO_4 := rblR HO_4 hb; replace HB := bst HB hb; (try clear hb); (try clear hb2); (try clear hk); (try clear hi)) | ((with_reducible refine gate_dst (N := 6) rfl ?_); refine bx_ (N := 6) (cs := #[.int .i64 0, .int .i64 0, .string (⟨#[]⟩ : ByteArray)]) (t := 51) ?_; intro gbA0 hg w12 hbox hb; replace HO_4 := Aside0.mk (Kd.R_below (Kd.R_elderB (crR HO_4) gbA0 (Nat.le_of_eq hg.symm)) hb); have BKA0 := Aside0.mk (hbox); have GWA0 := geh hg HB; have GEA0 := geh hg HB; replace HB := bst HB hb; clear hb hbox hg; have hcz13_0 := bce BKA0 0 (.int .i64 0); have hcz13_1 := bce BKA0 1 (.int .i64 0); have hcz13_2 : w12.cell? ⟨gbA0, 2, none⟩ = some (.string (⟨#[]⟩ : ByteArray)) := bce BKA0 2 _; have hfz13_0 := blk_frozen BKA0.out 0; have hfz13_1 := blk_frozen BKA0.out 1; have hfz13_2 := blk_frozen BKA0.out 2; obtain ⟨Ao14, co14, eo14⟩ := Kd.R_slice HO_4.out; subst eo14) | ((with_reducible refine gate_dst (N := 33) rfl ?_); refine Kd.R_lit k51 _ 51 ?hg (N := 33) ?hd (xs := ([] : List (S51))) (inner := []) (ok := fun _ => True) (okp := fun _ => True) ?hr ?hp (fun _ hk => hk) trivial (Below.refl _ _) (Nat.le_refl _) (by simp) ?_; (case hd => rfl); (case hg => rfl); (case hr => first | (go_simp; done) | (go_simp; rfl)); (case hp => exact (Reps.none _ _)); intro vB5 w15 ho16 hb hg_ hnew_; clear hg_ hnew_; (first | rw [← NyA6.out] at ho16 | (simp only [Int.reduceToNat] at ho16; rw [← NyA6.out] at ho16)); have HOB1 := lwR (Kd.R_newB (Kd.R_new' ho16 (Kd.R_lt (by (with_reducible repeat (first | apply Kd.R_alloc | apply Kd.R_drewN | apply Kd.R_drew)); exact (Kd.R_mono (Kd.R_far (p := ⟨gbA0, 2, none⟩) (Kd.R_far (p := ⟨gbA0, 1, none⟩) (Kd.R_far (p := ⟨gbA0, 0, none⟩) (Kd.R_mono HO_4.out (fun k_ hk => (⟨hk, hk.2⟩ : _ ∧ k_ ≠ gbA0))) (fun _ hk => hk.2) (.int .i64 tA1)) (fun _ hk => hk.2) (.int .i64 tA2)) (fun _ hk => hk.2) (.string tA3)) (fun _ h_ => h_.1))))) (g := gbA0) (o := .cells #[.int .i64 tA1, .int .i64 tA2, .string tA3] 51 (0, 0)) (by (with_reducible repeat (first | refine blk_drewN ?_ _ | refine blk_drew ?_ | refine blk_alloc ?_ _)); refine blk_put (cs := #[.int .i64 tA1, .int .i64 tA2, .string (⟨#[]⟩ : ByteArray)]) ?_ 2 _ rfl; (with_reducible repeat (first | refine blk_drewN ?_ _ | refine blk_drew ?_ | refine blk_alloc ?_ _)); refine blk_put (cs := #[.int .i64 tA1, .int .i64 0, .string (⟨#[]⟩ : ByteArray)]) ?_ 1 _ rfl; (with_reducible repeat (first | refine blk_drewN ?_ _ | refine blk_drew ?_ | refine blk_alloc ?_ _)); refine blk_put (cs := #[.int .i64 0, .int .i64 0, .string (⟨#[]⟩ : ByteArray)]) ?_ 0 _ rfl; (with_reducible repeat (first | refine blk_drewN ?_ _ | refine blk_drew ?_ | refine blk_alloc ?_ _)); exact BKA0.out)) HB; replace HO_4 := Aside0.mk (Kd.R_elder' (by (with_reducible repeat (first | apply Kd.R_alloc | apply Kd.R_drewN | apply Kd.R_drew)); exact (Kd.R_mono (Kd.R_far (p := ⟨gbA0, 2, none⟩) (Kd.R_far (p := ⟨gbA0, 1, none⟩) (Kd.R_far (p := ⟨gbA0, 0, none⟩) (Kd.R_mono HO_4.out (fun k_ hk => (⟨hk, hk.2⟩ : _ ∧ k_ ≠ gbA0))) (fun _ hk => hk.2) (.int .i64 tA1)) (fun _ hk => hk.2) (.int .i64 tA2)) (fun _ hk => hk.2) (.string tA3)) (fun _ h_ => h_.1))) (Kd.R_base ho16) hb); replace BKA0 := bkp BKA0 (.int .i64 tA1) (.int .i64 tA2) (.string tA3) hb; replace HB := bst HB hb; clear hb ho16))
        go_ret2
        exact ⟨_, er_, by (with_reducible repeat (first | apply Kd.R_alloc | apply Kd.R_drewN | apply Kd.R_drew)); exact Kd.R_mono HOB1.out (fun _ hk => trivial), blw HB⟩
       ·
        rw [if_neg c10] at H
        have c10b0 : ((x4_1.length : Int) == 400) = false := beq_eq_false_iff_ne.mpr c10
        have c10b1 : ((x4_1.length : Int) != 400) = true := bne_iff_ne.mpr c10
        by_cases c17 : x4_1.length < 4398046511104
        ·
         rw [if_pos c17] at H
         have LMc17 := Aside0.mk c17
         clear c17
         obtain ⟨yA7, hy133⟩ : ∃ y_ : List (S51), y_ = (x4_1 ++ [(⟨tA1, tA2, tA3⟩ : S51)]) := ⟨_, rfl⟩
         replace H : (spec_l04Lex.l0 k1 a0 yA7 tA4) = some (r1, r2) := by subst hy133; first | with_reducible exact H | with_reducible exact (Option.bind_some _ _).symm.trans H | exact H
         have NyA7 := Aside0.mk hy133
         clear hy133
         have H' := Aside0.mk H
         clear H
         have p6 : 0 ≤ (x5_1 : Int) := of_decide_eq_true (by first | (with_reducible assumption) | assumption)
         have q6 : x5_1 < (a0.size : Int) := of_decide_eq_true (by first | (with_reducible assumption) | assumption)
         have hx6 := bt_at a0 x5_1
         replace p6 := eq_true p6
         replace q6 := eq_true q6
         go_wp2_with (first | ((with_reducible refine gate_callee (f := 25) rfl ?_); refine gL_ (some 23) Tryz.func25 #[.string a0, .int .i64 x5_1] ?_; (with_reducible refine (spec_l04Next.calls k1 a0 x5_1 tA1 tA2 tA3 tA4 true _ A8.out).mono ?_); rintro e w18 ⟨rfl, hb⟩; refine ⟨_, rfl, ?_⟩; replace HO_4 := rblR HO_4 hb; replace HB := bst HB hb; (try clear hb); (try clear hb2); (try clear hk); (try clear hi)) | ((with_reducible refine gate_dst (N := 6) rfl ?_); refine bx_ (N := 6) (cs := #[.int .i64 0, .int .i64 0, .string (⟨#[]⟩ : ByteArray)]) (t := 51) ?_; intro gbA0 hg w19 hbox hb; replace HO_4 := Aside0.mk (Kd.R_below (Kd.R_elderB (crR HO_4) gbA0 (Nat.le_of_eq hg.symm)) hb); have BKA0 := Aside0.mk (hbox); have GWA0 := geh hg HB; have GEA0 := geh hg HB; replace HB := bst HB hb; clear hb hbox hg; have hcz20_0 := bce BKA0 0 (.int .i64 0); have hcz20_1 := bce BKA0 1 (.int .i64 0); have hcz20_2 : w19.cell? ⟨gbA0, 2, none⟩ = some (.string (⟨#[]⟩ : ByteArray)) := bce BKA0 2 _; have hfz20_0 := blk_frozen BKA0.out 0; have hfz20_1 := blk_frozen BKA0.out 1; have hfz20_2 := blk_frozen BKA0.out 2; obtain ⟨Ao21, co21, eo21⟩ := Kd.R_slice HO_4.out; subst eo21) | ((with_reducible refine gate_builtin (b := .append) (xs := #[.tmp 34, .tmp 36]) rfl ?_); at_builtin; refine Kd.R_append k51 (w0 := w) w.heap.size rfl (.tmp 34) (.tmp 36) 33 51 (.agg #[(.int .i64 0), (.int .i64 0), (.string ⟨#[]⟩)]) 32 rfl Tryz.underlying33 info51 rfl (by decide) (by omega) (.slice Ao21 x4_1.length co21) x4_1 (⟨tA1, tA2, tA3⟩ : S51) [.int .i64 tA1, .int .i64 tA2, .string tA3] (fun k_ => k_ ≠ gbA0) (fun _ => False) rfl (by first | (go_simp; done) | (go_simp; rfl)) ?aP (fun _ hk => hk.elim) ?aF ?aO ?aB ?aS ?aL ?_; (case aP => exact k51_mkM _ _ _ (⟨tA1, tA2, tA3⟩ : S51)); (case aB => exact (blw HB)); (case aF => exact (fun k_ hk => Kd.freshB (g := gbA0) (o := .cells #[.int .i64 tA1, .int .i64 tA2, .string tA3] 51 (0, 0)) (by (with_reducible repeat (first | refine blk_drewN ?_ _ | refine blk_drew ?_ | refine blk_alloc ?_ _)); refine blk_put (cs := #[.int .i64 tA1, .int .i64 tA2, .string (⟨#[]⟩ : ByteArray)]) ?_ 2 _ rfl; (with_reducible repeat (first | refine blk_drewN ?_ _ | refine blk_drew ?_ | refine blk_alloc ?_ _)); refine blk_put (cs := #[.int .i64 tA1, .int .i64 0, .string (⟨#[]⟩ : ByteArray)]) ?_ 1 _ rfl; (with_reducible repeat (first | refine blk_drewN ?_ _ | refine blk_drew ?_ | refine blk_alloc ?_ _)); refine blk_put (cs := #[.int .i64 0, .int .i64 0, .string (⟨#[]⟩ : ByteArray)]) ?_ 0 _ rfl; (with_reducible repeat (first | refine blk_drewN ?_ _ | refine blk_drew ?_ | refine blk_alloc ?_ _)); exact BKA0.out) k_ hk)); (case aO => exact (by (with_reducible repeat (first | apply Kd.R_alloc | apply Kd.R_drewN | apply Kd.R_drew)); exact Kd.R_mono (Kd.R_far (p := ⟨gbA0, 2, none⟩) (Kd.R_far (p := ⟨gbA0, 1, none⟩) (Kd.R_far (p := ⟨gbA0, 0, none⟩) (Kd.R_mono HO_4.out (fun k_ hk => (⟨hk, hk.2⟩ : _ ∧ k_ ≠ gbA0))) (fun _ hk => hk.2) (.int .i64 tA1)) (fun _ hk => hk.2) (.int .i64 tA2)) (fun _ hk => hk.2) (.string tA3)) (fun _ hk => hk.1.2))); (case aS => exact (bsz HB)); (case aL => have := LMc17.out; omega); intro vB6 w22 ho hb hg hat; rw [← NyA7.out] at ho; replace BKA0 := Aside0.mk (blk_grown (g := gbA0) (o := .cells #[.int .i64 tA1, .int .i64 tA2, .string tA3] 51 (0, 0)) (by (with_reducible repeat (first | refine blk_drewN ?_ _ | refine blk_drew ?_ | refine blk_alloc ?_ _)); refine blk_put (cs := #[.int .i64 tA1, .int .i64 tA2, .string (⟨#[]⟩ : ByteArray)]) ?_ 2 _ rfl; (with_reducible repeat (first | refine blk_drewN ?_ _ | refine blk_drew ?_ | refine blk_alloc ?_ _)); refine blk_put (cs := #[.int .i64 tA1, .int .i64 0, .string (⟨#[]⟩ : ByteArray)]) ?_ 1 _ rfl; (with_reducible repeat (first | refine blk_drewN ?_ _ | refine blk_drew ?_ | refine blk_alloc ?_ _)); refine blk_put (cs := #[.int .i64 0, .int .i64 0, .string (⟨#[]⟩ : ByteArray)]) ?_ 0 _ rfl; (with_reducible repeat (first | refine blk_drewN ?_ _ | refine blk_drew ?_ | refine blk_alloc ?_ _)); exact BKA0.out) hg (Kd.R_away HO_4.out (fun _ hk => hk.2))); replace HB := Aside0.mk (hb); have HOB2 := Aside0.mk (ho); clear HO_4; clear ho hb hg hat))
         go_roundg k1
         case measure => have := HK1.out; omega
         case rel => exact ⟨(yA7), (tA4), rs_, H', ⟨by have := HK1.out; omega⟩, ⟨crM HOB2 fun _ hk => trivial⟩, ⟨blw HB⟩⟩
        ·
         rw [if_neg c17] at H
         exact absurd H (by simp)
      ·
       replace c9 := Bool.eq_false_iff.mpr c9
       subst c9
       rw [if_neg (show ¬ (false = true) by decide)] at H
       obtain ⟨yA8, hy136⟩ : ∃ y_ : List (S51), y_ = (([] : List (S51))) := ⟨_, rfl⟩
       replace H : (some (yA8, 3)) = some (r1, r2) := by subst hy136; first | with_reducible exact H | with_reducible exact (Option.bind_some _ _).symm.trans H | exact H
       have NyA8 := Aside0.mk hy136
       clear hy136
       simp only [Option.some.injEq, Prod.mk.injEq] at H
       obtain ⟨rfl, rfl⟩ := H
       have p6 : 0 ≤ (x5_1 : Int) := of_decide_eq_true (by first | (with_reducible assumption) | assumption)
       have q6 : x5_1 < (a0.size : Int) := of_decide_eq_true (by first | (with_reducible assumption) | assumption)
       have hx6 := bt_at a0 x5_1
       replace p6 := eq_true p6
       replace q6 := eq_true q6
       go_wp2_with (first | ((with_reducible refine gate_callee (f := 25) rfl ?_); refine gL_ (some 23) Tryz.func25 #[.string a0, .int .i64 x5_1] ?_; (with_reducible refine (spec_l04Next.calls k1 a0 x5_1 tA1 tA2 tA3 tA4 false _ A8.out).mono ?_); rintro e w23 ⟨rfl, hb⟩; refine ⟨_, rfl, ?_⟩; replace HO_4 := rblR HO_4 hb; replace HB := bst HB hb; (try clear hb); (try clear hb2); (try clear hk); (try clear hi)) | ((with_reducible refine gate_dst (N := 6) rfl ?_); refine bx_ (N := 6) (cs := #[.int .i64 0, .int .i64 0, .string (⟨#[]⟩ : ByteArray)]) (t := 51) ?_; intro gbA0 hg w24 hbox hb; replace HO_4 := Aside0.mk (Kd.R_below (Kd.R_elderB (crR HO_4) gbA0 (Nat.le_of_eq hg.symm)) hb); have BKA0 := Aside0.mk (hbox); have GWA0 := geh hg HB; have GEA0 := geh hg HB; replace HB := bst HB hb; clear hb hbox hg; have hcz25_0 := bce BKA0 0 (.int .i64 0); have hcz25_1 := bce BKA0 1 (.int .i64 0); have hcz25_2 : w24.cell? ⟨gbA0, 2, none⟩ = some (.string (⟨#[]⟩ : ByteArray)) := bce BKA0 2 _; have hfz25_0 := blk_frozen BKA0.out 0; have hfz25_1 := blk_frozen BKA0.out 1; have hfz25_2 := blk_frozen BKA0.out 2) | ((with_reducible refine gate_dst (N := 29) rfl ?_); refine Kd.R_lit k51 _ 51 ?hg (N := 29) ?hd (xs := ([] : List (S51))) (inner := []) (ok := fun _ => True) (okp := fun _ => True) ?hr ?hp (fun _ hk => hk) trivial (Below.refl _ _) (Nat.le_refl _) (by simp) ?_; (case hd => rfl); (case hg => rfl); (case hr => first | (go_simp; done) | (go_simp; rfl)); (case hp => exact (Reps.none _ _)); intro vB7 w26 ho27 hb hg_ hnew_; clear hg_ hnew_; (first | rw [← NyA8.out] at ho27 | (simp only [Int.reduceToNat] at ho27; rw [← NyA8.out] at ho27)); have HOB3 := lwR (Kd.R_newB (Kd.R_new' ho27 (Kd.R_lt (by (with_reducible repeat (first | apply Kd.R_alloc | apply Kd.R_drewN | apply Kd.R_drew)); exact (Kd.R_mono (Kd.R_far (p := ⟨gbA0, 2, none⟩) (Kd.R_far (p := ⟨gbA0, 1, none⟩) (Kd.R_far (p := ⟨gbA0, 0, none⟩) (Kd.R_mono HO_4.out (fun k_ hk => (⟨hk, hk.2⟩ : _ ∧ k_ ≠ gbA0))) (fun _ hk => hk.2) (.int .i64 tA1)) (fun _ hk => hk.2) (.int .i64 tA2)) (fun _ hk => hk.2) (.string tA3)) (fun _ h_ => h_.1))))) (g := gbA0) (o := .cells #[.int .i64 tA1, .int .i64 tA2, .string tA3] 51 (0, 0)) (by (with_reducible repeat (first | refine blk_drewN ?_ _ | refine blk_drew ?_ | refine blk_alloc ?_ _)); refine blk_put (cs := #[.int .i64 tA1, .int .i64 tA2, .string (⟨#[]⟩ : ByteArray)]) ?_ 2 _ rfl; (with_reducible repeat (first | refine blk_drewN ?_ _ | refine blk_drew ?_ | refine blk_alloc ?_ _)); refine blk_put (cs := #[.int .i64 tA1, .int .i64 0, .string (⟨#[]⟩ : ByteArray)]) ?_ 1 _ rfl; (with_reducible repeat (first | refine blk_drewN ?_ _ | refine blk_drew ?_ | refine blk_alloc ?_ _)); refine blk_put (cs := #[.int .i64 0, .int .i64 0, .string (⟨#[]⟩ : ByteArray)]) ?_ 0 _ rfl; (with_reducible repeat (first | refine blk_drewN ?_ _ | refine blk_drew ?_ | refine blk_alloc ?_ _)); exact BKA0.out)) HB; replace HO_4 := Aside0.mk (Kd.R_elder' (by (with_reducible repeat (first | apply Kd.R_alloc | apply Kd.R_drewN | apply Kd.R_drew)); exact (Kd.R_mono (Kd.R_far (p := ⟨gbA0, 2, none⟩) (Kd.R_far (p := ⟨gbA0, 1, none⟩) (Kd.R_far (p := ⟨gbA0, 0, none⟩) (Kd.R_mono HO_4.out (fun k_ hk => (⟨hk, hk.2⟩ : _ ∧ k_ ≠ gbA0))) (fun _ hk => hk.2) (.int .i64 tA1)) (fun _ hk => hk.2) (.int .i64 tA2)) (fun _ hk => hk.2) (.string tA3)) (fun _ h_ => h_.1))) (Kd.R_base ho27) hb); replace BKA0 := bkp BKA0 (.int .i64 tA1) (.int .i64 tA2) (.string tA3) hb; replace HB := bst HB hb; clear hb ho27))
       go_ret2
       exact ⟨_, er_, by (with_reducible repeat (first | apply Kd.R_alloc | apply Kd.R_drewN | apply Kd.R_drew)); exact Kd.R_mono HOB3.out (fun _ hk => trivial), blw HB⟩
    ·
     rw [if_neg c5] at H
     exact absurd H (by simp)
   ·
    rw [if_neg c4] at H
    have c4b0 : decide (x5_1 < (a0.size : Int)) = false := decide_eq_false c4
    clear c4
    simp only [Option.some.injEq, Prod.mk.injEq] at H
    obtain ⟨rfl, rfl⟩ := H
    go_wp2
    go_ret2
    exact ⟨_, er_, by (with_reducible repeat (first | apply Kd.R_alloc | apply Kd.R_drewN | apply Kd.R_drew)); exact HO_4.out, blw HB⟩

def impl_longCode.l0 : Nat → Int → List Int → Int → Int → Option (Int)
 | 0, _, _, _, _ => none
 | k + 1, x0, x7, x8, x9 => if x9 < x8 then (if 0 ≤ x9 then (if x9 < (x7.length : Int) then (if (rd x7 x9) > x0 then (some 2) else (impl_longCode.l0 k x0 x7 x8 (wrap64 (x9 + 1)))) else (none)) else (none)) else (some 0)
def impl_longCode.f (k : Nat) (a0 : Int) (l1 : List Int) : Option (Int) := impl_longCode.l0 k a0 l1 (l1.length : Int) 0
set_option maxHeartbeats 8000000 in
set_option maxRecDepth 100000 in
theorem impl_longCode.calls (k : Nat) (a0 : Int) (A1 : Option Addr) (c1 : Nat) (l1 : List Int) (r : Int) (w : World) (hr1 : Kd.C (Kd.int .i64) w A1 l1.length l1) (hc1 : l1.length ≤ c1) (h : impl_longCode.f k a0 l1 = some r) :
  Calls Tryz.prog 10 #[.int .i64 a0, .slice A1 l1.length c1] w fun e w' => e = .returned (.int .i64 r) ∧ Drawn0 w w' := by
 have HR1 := Aside0.mk hr1
 have HC1 := Aside0.mk hc1
 clear hr1 hc1
 have H : (impl_longCode.l0 k a0 l1 (l1.length : Int) 0) = some r := h
 clear h
 have H' := Aside0.mk H
 clear H
 go_enter Tryz.func10, Tryz.ntmps10
 go_wp2
 go_loopg [9] k (fun kq v9 w' => ∃ (x9_1 : Int), v9 = .int .i64 x9_1 ∧ Aside0 (impl_longCode.l0 kq a0 l1 (l1.length : Int) x9_1 = some r) ∧ Aside0 (kq ≤ k) ∧ Drawn0 w w')
 case atStart => exact ⟨(0), rs_, H', ⟨Nat.le_refl _⟩, by repeat (first | exact Drawn0.refl _ | apply Drawn0.step)⟩
 case round =>
  clear H'
  try clear c1
  try clear p2
  obtain ⟨x9_1, rfl, HA, HK1, ⟨m1, rfl⟩⟩ := hrel
  cases gk with
  | zero => exact absurd HA.out (by simp [impl_longCode.l0])
  | succ k1 =>
   have H := HA.out
   clear HA
   simp only [impl_longCode.l0] at H
   by_cases c3 : x9_1 < (l1.length : Int)
   ·
    rw [if_pos c3] at H
    have c3b0 : decide (x9_1 < (l1.length : Int)) = true := decide_eq_true c3
    clear c3
    by_cases c4 : 0 ≤ x9_1
    ·
     rw [if_pos c4] at H
     have c4b0 : decide (0 ≤ x9_1) = true := decide_eq_true c4
     clear c4
     by_cases c5 : x9_1 < (l1.length : Int)
     ·
      rw [if_pos c5] at H
      have c5b0 : decide (x9_1 < (l1.length : Int)) = true := decide_eq_true c5
      clear c5
      by_cases c6 : (rd l1 x9_1) > a0
      ·
       rw [if_pos c6] at H
       have c6b0 : decide (a0 < (rd l1 x9_1)) = true := decide_eq_true c6
       clear c6
       obtain rfl := Option.some.inj H
       have pA0 : 0 ≤ (x9_1 : Int) := of_decide_eq_true (by first | (with_reducible assumption) | assumption)
       have qA0 : x9_1 < (l1.length : Int) := of_decide_eq_true (by first | (with_reducible assumption) | assumption)
       obtain ⟨adA0, eA0, hxA0_0⟩ := Kd.at_int HR1.out x9_1 pA0 qA0
       cases eA0
       replace pA0 := eq_true pA0
       replace qA0 := eq_true qA0
       go_wp2
       go_ret
       exact ⟨by first | rfl | (simp; done) | (simp [*]; done), by repeat (first | exact Drawn0.refl _ | apply Drawn0.step)⟩
      ·
       rw [if_neg c6] at H
       have c6b0 : decide (a0 < (rd l1 x9_1)) = false := decide_eq_false c6
       clear c6
       have H' := Aside0.mk H
       clear H
       have pA0 : 0 ≤ (x9_1 : Int) := of_decide_eq_true (by first | (with_reducible assumption) | assumption)
       have qA0 : x9_1 < (l1.length : Int) := of_decide_eq_true (by first | (with_reducible assumption) | assumption)
       obtain ⟨adA0, eA0, hxA0_0⟩ := Kd.at_int HR1.out x9_1 pA0 qA0
       cases eA0
       replace pA0 := eq_true pA0
       replace qA0 := eq_true qA0
       go_wp2
       go_roundg k1
       case measure => have := HK1.out; omega
       case rel => exact ⟨(wrap64 (x9_1 + 1)), rs_, H', ⟨by have := HK1.out; omega⟩, by repeat (first | exact Drawn0.refl _ | apply Drawn0.step)⟩
     ·
      rw [if_neg c5] at H
      exact absurd H (by simp)
    ·
     rw [if_neg c4] at H
     exact absurd H (by simp)
   ·
    rw [if_neg c3] at H
    have c3b0 : decide (x9_1 < (l1.length : Int)) = false := decide_eq_false c3
    clear c3
    obtain rfl := Option.some.inj H
    go_wp2
    go_ret
    exact ⟨by first | rfl | (simp; done) | (simp [*]; done), by repeat (first | exact Drawn0.refl _ | apply Drawn0.step)⟩

end Go.Proofs.YtbphhccpkngfoaaGreatDoor.Q
