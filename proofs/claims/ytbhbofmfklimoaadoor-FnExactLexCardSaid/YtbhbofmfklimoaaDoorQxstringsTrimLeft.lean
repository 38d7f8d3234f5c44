-- written by a program of this claim's session (myprint.py) out of the translation; Lean checks it.
import Derived.Test.YtbhbofmfklimoaaDoorQx0
namespace Go.Proofs.YtbhbofmfklimoaaDoor.Q
open Go.RowKit Go.Proofs.YtbhbofmfklimoaaDoorW.PrintWords Go.Proofs.YtbhbofmfklimoaaDoorW.PrintLast Go.Proofs.YtbhbofmfklimoaaDoorW.PrintMore
attribute [local go_sem] max2_int min2_int max_two min_two max_three min_three max_four min_four   -- for this text's walks alone
set_option linter.unusedVariables false
set_option linter.unusedSimpArgs false

/-! ### strings_TrimLeft: function 15 -/
/-- TrimLeft, at the blank. -/
def strings_TrimLeft.f (a0 : ByteArray) (a1 : ByteArray) : Option (ByteArray) := if a1.data = #[32] then some ⟨(Lib.trimLeftB a0.data.toList 32).toArray⟩ else none
theorem strings_TrimLeft.calls (a0 : ByteArray) (a1 : ByteArray) (r : ByteArray) (w : World) (h : strings_TrimLeft.f a0 a1 = some r) :
    Calls Tryd.prog 15 #[.string a0, .string a1] w fun e w' => e = .returned (.string r) ∧ Drawn0 w w' := by
  unfold strings_TrimLeft.f at h
  by_cases e : a1.data = #[32]
  · rw [if_pos e] at h
    obtain rfl := Option.some.inj h
    obtain rfl : a1 = ⟨#[32]⟩ := by cases a1; simp only at e; rw [e]
    refine (Tryd.strings_TrimLeft_one a0 32 (by decide) w).mono ?_
    rintro e w' ⟨rfl, rfl⟩
    exact ⟨rfl, Drawn0.refl _⟩
  · rw [if_neg e] at h
    cases h

end Go.Proofs.YtbhbofmfklimoaaDoor.Q
