-- written by a program of this claim's session (myprint.py) out of the translation; Lean checks it.
import Derived.Test.YtgldcdnlojcchaaDoorQx0
namespace Go.Proofs.YtgldcdnlojcchaaDoor.Q
open Go.RowKit Go.Proofs.YtgldcdnlojcchaaDoorW.PrintWords Go.Proofs.YtgldcdnlojcchaaDoorW.PrintLast Go.Proofs.YtgldcdnlojcchaaDoorW.PrintMore
attribute [local go_sem] max2_int min2_int max_two min_two max_three min_three max_four min_four   -- for this text's walks alone
set_option linter.unusedVariables false
set_option linter.unusedSimpArgs false

/-! ### strconv_Atoi_29: function 29 -/
def strconv_Atoi_29.f (a0 : ByteArray) : Option (Int × Option Int) := if a0.size ≤ 18 then (Lib.atoi a0.data.toList).bind fun n => some (n, none) else none
theorem strconv_Atoi_29.calls (a0 : ByteArray) (r1 : Int) (r2 : Option Int) (w : World) (h : strconv_Atoi_29.f a0 = some (r1, r2)) :
    Calls Tryd.prog 29 #[.string a0] w fun e w' => e = .returned (.tuple #[.int .i64 r1, errW r2]) ∧ Below w.heap.size w w' := by
  unfold strconv_Atoi_29.f at h
  by_cases hl : a0.size ≤ 18
  · rw [if_pos hl] at h
    cases ha : Lib.atoi a0.data.toList with
    | none => rw [ha] at h; cases h
    | some n =>
      rw [ha] at h
      cases h
      refine (Tryd.strconv_Atoi a0 _ hl ha w).mono ?_
      rintro e w' ⟨rfl, t, rfl⟩
      exact ⟨rfl, Lib.bytesWorld_below _ _ _⟩
  · rw [if_neg hl] at h; cases h

end Go.Proofs.YtgldcdnlojcchaaDoor.Q
