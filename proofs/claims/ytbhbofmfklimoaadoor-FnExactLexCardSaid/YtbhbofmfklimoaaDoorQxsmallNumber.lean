-- written by a program of this claim's session (myprint.py) out of the translation; Lean checks it.
import Derived.Test.YtbhbofmfklimoaaDoorQx0
namespace Go.Proofs.YtbhbofmfklimoaaDoor.Q
open Go.RowKit Go.Proofs.YtbhbofmfklimoaaDoorW.PrintWords Go.Proofs.YtbhbofmfklimoaaDoorW.PrintLast Go.Proofs.YtbhbofmfklimoaaDoorW.PrintMore
attribute [local go_sem] max2_int min2_int max_two min_two max_three min_three max_four min_four   -- for this text's walks alone
set_option linter.unusedVariables false
set_option linter.unusedSimpArgs false

/-! ### impl_smallNumber: function 25 -/
abbrev NtTab (w : World) : Prop := Lib.TabIs Tryd.prog w "internal/strconv.uint64pow10" .u64 Lib.pow10Tab
/-- An error's variable: nothing, or an error. -/
def LxVar (b : Nat) (w : World) : Prop := ∃ ev, w.cell? ⟨b, 0, none⟩ = some ev ∧ (ev = .nilIface ∨ ∃ te pe, ev = .iface te pe)
/-- The library's variables as they lie: the table of powers, the two errors. -/
def LxW (w : World) : Prop := NtTab w ∧ LxVar 3 w ∧ LxVar 4 w
theorem lxVar_below {w w' : World} {B b : Nat} (h : LxVar b w) (hb : Below B w w') (hB : w.heap.size ≤ B) : LxVar b w' := by
  obtain ⟨ev, h1, h2⟩ := h
  exact ⟨ev, (hb.cell (p := ⟨b, 0, none⟩) (Nat.lt_of_lt_of_le (Lib.lt_of_cell h1) hB)).trans h1, h2⟩
theorem lxW_below {w w' : World} {B : Nat} (h : LxW w) (hb : Below B w w') (hB : w.heap.size ≤ B) : LxW w' := by
  obtain ⟨g, hg⟩ : ∃ g, Tryd.prog.globalNamed "internal/strconv.uint64pow10" = some g := Option.isSome_iff_exists.1 (by kernel_rfl)
  exact ⟨Joins.tab_stays hg h.1 hb hB, lxVar_below h.2.1 hb hB, lxVar_below h.2.2 hb hB⟩
/-- A small number's digits: what strconv.Atoi reads, and whether it is right. -/
def impl_smallNumber.f (a0 : ByteArray) : Option (Int × Bool) :=
  if a0.size ≤ 281474976710656 then
    match Lib.atoiAll a0.data.toList with
    | .ok v => some (v, decide (v ≤ 999999999) && Lib.itoa v == a0.toList)
    | .«syntax» => some (0, false)
    | .range => some (Lib.atoiSat a0.data.toList, false)
  else none
theorem lx_itoa (x : Int) (h0 : -9223372036854775808 ≤ x) (h1 : x ≤ 9223372036854775807) (W : World) (ht : LxW W) :
    Calls Tryd.prog 36 #[.int .i64 x] W fun e W' => e = .returned (.string ⟨(Lib.itoa x).toArray⟩) ∧ Below W.heap.size W W' := by
  refine (Tryd.strconv_Itoa x h0 h1 W ht.1).mono ?_
  rintro e W' ⟨rfl, k, os, rfl⟩
  exact ⟨rfl, Lib.below_grow _ _ (Nat.le_refl _) _ _⟩
theorem lx_ok (s : ByteArray) (hl : s.size ≤ 281474976710656) (v : Int) (h : Lib.atoiAll s.data.toList = .ok v) (w : World) :
    Calls Tryd.prog 35 #[.string s] w fun e w' => e = .returned (.tuple #[.int .i64 v, .nilIface]) ∧ Below w.heap.size w w' := by
  refine (Tryd.strconv_Atoi_ok s (by omega) v h w).mono ?_
  rintro e w' ⟨rfl, rfl | ⟨t, rfl⟩⟩
  · exact ⟨rfl, Below.refl _ _⟩
  · exact ⟨rfl, Lib.bytesWorld_below _ _ _⟩
theorem lx_no (s : ByteArray) (hl : s.size ≤ 281474976710656) (n : Int) (h : Lib.atoiAll s.data.toList = .«syntax» ∧ n = 0 ∨ Lib.atoiAll s.data.toList = .range ∧ n = Lib.atoiSat s.data.toList) (w : World) (hw : LxW w) :
    Calls Tryd.prog 35 #[.string s] w fun e w' => (∃ N, e = .returned (.tuple #[.int .i64 n, .iface 74 (.pointer (some ⟨N, 0, none⟩))])) ∧ Below w.heap.size w w' := by
  rcases h with ⟨h, rfl⟩ | ⟨h, rfl⟩
  · obtain ⟨ev, h1, h2⟩ := hw.2.1
    refine (Tryd.strconv_Atoi_syntax s hl h ev w h1 h2).mono ?_
    rintro e w' ⟨N, rfl, _, _, hb⟩
    exact ⟨⟨N, rfl⟩, hb⟩
  · obtain ⟨ev, h1, h2⟩ := hw.2.2
    refine (Tryd.strconv_Atoi_range s hl h ev w h1 h2).mono ?_
    rintro e w' ⟨N, rfl, _, _, hb⟩
    exact ⟨⟨N, rfl⟩, hb⟩
set_option maxHeartbeats 4000000 in
set_option maxRecDepth 100000 in
theorem small_no (s : ByteArray) (hl : s.size ≤ 281474976710656) (n : Int) (h : Lib.atoiAll s.data.toList = .«syntax» ∧ n = 0 ∨ Lib.atoiAll s.data.toList = .range ∧ n = Lib.atoiSat s.data.toList) (w : World) (hw : LxW w) :
    Calls Tryd.prog 25 #[.string s] w fun e w' => e = .returned (.tuple #[.int .i64 n, .bool false]) ∧ Below w.heap.size w w' := by
  have C := Lib.hid (lx_no s hl n h w hw)
  clear h hw hl
  go_enter Tryd.func25, Tryd.ntmps25
  go_wp2_with (go_at_call 35; refine C.out.mono ?_; rintro e w' ⟨⟨N, rfl⟩, hb⟩)
  go_ret2
  exact ⟨rfl, hb⟩
set_option maxHeartbeats 4000000 in
set_option maxRecDepth 100000 in
theorem small_ok (s : ByteArray) (hl : s.size ≤ 281474976710656) (v : Int) (h : Lib.atoiAll s.data.toList = .ok v) (w : World) (hw : LxW w) :
    Calls Tryd.prog 25 #[.string s] w fun e w' => e = .returned (.tuple #[.int .i64 v, .bool (decide (v ≤ 999999999) && Lib.itoa v == s.toList)]) ∧ Below w.heap.size w w' := by
  have hbd := Lib.atoiAll_bounds h
  have C := Lib.hid (lx_ok s hl v h w)
  have hbd1 := hbd.1
  have hbd2 := hbd.2
  have D := Lib.hid (fun W (hb : Below w.heap.size w W) => lx_itoa v hbd.1 hbd.2 W (lxW_below hw hb (Nat.le_refl _)))
  clear h hw hl hbd
  go_enter Tryd.func25, Tryd.ntmps25
  by_cases hv : v ≤ 999999999
  · go_wp2_with (first | (go_at_call 35; refine C.out.mono ?_; rintro e w1 ⟨rfl, hb1⟩) | (go_at_call 36; refine (D.out _ hb1).mono ?_; rintro e w2 ⟨rfl, hb2⟩))
    go_ret2
    rw [decide_eq_true hv]
    exact ⟨rfl, hb1.trans (hb2.mono hb1.size)⟩
  · go_wp2_with (go_at_call 35; refine C.out.mono ?_; rintro e w1 ⟨rfl, hb1⟩)
    go_ret2
    rw [decide_eq_false (show ¬ v ≤ 999999999 by omega)]
    exact ⟨rfl, hb1⟩
theorem impl_smallNumber.calls (a0 : ByteArray) (r1 : Int) (r2 : Bool) (w : World) (hg_ : LxW w) (h : impl_smallNumber.f a0 = some (r1, r2)) :
    Calls Tryd.prog 25 #[.string a0] w fun e w' => e = .returned (.tuple #[.int .i64 r1, .bool r2]) ∧ Below w.heap.size w w' := by
  unfold impl_smallNumber.f at h
  by_cases hl : a0.size ≤ 281474976710656
  · rw [if_pos hl] at h
    cases ha : Lib.atoiAll a0.data.toList with
    | ok v =>
      rw [ha] at h
      cases h
      exact small_ok a0 hl _ ha w hg_
    | «syntax» =>
      rw [ha] at h
      cases h
      exact small_no a0 hl 0 (.inl ⟨ha, rfl⟩) w hg_
    | range =>
      rw [ha] at h
      cases h
      exact small_no a0 hl _ (.inr ⟨ha, rfl⟩) w hg_
  · rw [if_neg hl] at h; cases h

end Go.Proofs.YtbhbofmfklimoaaDoor.Q
