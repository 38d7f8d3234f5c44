-- written by a program of this claim's session (myprint.py) out of the translation; Lean checks it.
import Derived.Test.YtbhbofmfklimoaaDoorQx0
namespace Go.Proofs.YtbhbofmfklimoaaDoor.Q
open Go.RowKit Go.Proofs.YtbhbofmfklimoaaDoorW.PrintWords Go.Proofs.YtbhbofmfklimoaaDoorW.PrintLast Go.Proofs.YtbhbofmfklimoaaDoorW.PrintMore
attribute [local go_sem] max2_int min2_int max_two min_two max_three min_three max_four min_four   -- for this text's walks alone
set_option linter.unusedVariables false
set_option linter.unusedSimpArgs false

/-! ### strings_Contains: function 27 -/
/-- Contains, for one byte. -/
def strings_Contains.f (a0 : ByteArray) (a1 : ByteArray) : Option (Bool) := if a1.data.size = 1 then some (decide (0 ≤ Lib.indexByte a0.data.toList (a1.data[0]?.getD 0))) else none
theorem strings_Contains.calls (a0 : ByteArray) (a1 : ByteArray) (r : Bool) (w : World) (h : strings_Contains.f a0 a1 = some r) :
    Calls Tryd.prog 27 #[.string a0, .string a1] w fun e w' => e = .returned (.bool r) ∧ Drawn0 w w' := by
  unfold strings_Contains.f at h
  by_cases e : a1.data.size = 1
  · rw [if_pos e] at h
    obtain rfl := Option.some.inj h
    obtain ⟨c, hc⟩ : ∃ c, a1.data = #[c] := Array.size_eq_one_iff.1 e
    obtain rfl : a1 = ⟨#[c]⟩ := by cases a1; simp only at hc; rw [hc]
    refine (Tryd.strings_Contains_one a0 c w).mono ?_
    rintro e w' ⟨rfl, rfl⟩
    exact ⟨rfl, Drawn0.refl _⟩
  · rw [if_neg e] at h
    cases h

end Go.Proofs.YtbhbofmfklimoaaDoor.Q
