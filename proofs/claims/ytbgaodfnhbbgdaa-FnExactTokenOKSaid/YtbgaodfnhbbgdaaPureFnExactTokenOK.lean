/-
The Go program's TokenOK returns what the reference's returns, for all tokens: the law FnExactTokenOK holds. Conditions: those of the given row alone.
-/
import Derived.Test.YtbgaodfnhbbgdaaQxlawsFnExactTokenOK
namespace Go.Proofs.Ytbgaodfnhbbgdaa.Pure
open Go.RowKit Go.Proofs.Ytbgaodfnhbbgdaa.Q Go.Proofs.YtbgaodfnhbbgdaaW.PrintWords Go.Proofs.YtbgaodfnhbbgdaaW.PrintLast
set_option linter.unusedVariables false
set_option linter.unusedSimpArgs false

theorem tk_wrap {x : Int} (h0 : -9223372036854775808 ≤ x) (h1 : x ≤ 9223372036854775807) : wrap64 x = x := by
  simp only [wrap64]; omega
theorem punct (t : ByteArray) : spec_l04Punct.f t = if (t.size : Int) = 1 then strings_Contains.f (⟨#[43, 45, 42, 47, 94, 40, 41]⟩ : ByteArray) t else some false := by
  unfold spec_l04Punct.f strings_Contains.f
  rw [Lib.toList_data]
  obtain ⟨⟨l⟩⟩ := t
  have hs : (ByteArray.mk ⟨l⟩).size = l.length := rfl
  rw [hs]
  show _ = if (l.length : Int) = 1 then if l.length = 1 then some (decide (0 ≤ Lib.indexByte [43, 45, 42, 47, 94, 40, 41] ((⟨l⟩ : Array UInt8)[0]?.getD 0))) else none else some false
  match l with
  | [] => rfl
  | [c] =>
    show _ = some (decide (0 ≤ Lib.indexByte [43, 45, 42, 47, 94, 40, 41] c))
    by_cases h1 : c = 43
    · subst h1; rfl
    by_cases h2 : c = 45
    · subst h2; rfl
    by_cases h3 : c = 42
    · subst h3; rfl
    by_cases h4 : c = 47
    · subst h4; rfl
    by_cases h5 : c = 94
    · subst h5; rfl
    by_cases h6 : c = 40
    · subst h6; rfl
    by_cases h7 : c = 41
    · subst h7; rfl
    have g : ∀ d : UInt8, c ≠ d → (d == c) = false := fun d h => beq_eq_false_iff_ne.2 fun e => h e.symm
    simp [Lib.indexByte, g _ h1, g _ h2, g _ h3, g _ h4, g _ h5, g _ h6, g _ h7, h1, h2, h3, h4, h5, h6, h7]
  | a :: b :: r => rw [if_neg (by simp), if_neg (by simp), if_neg (by simp), if_neg (by simp), if_neg (by simp), if_neg (by simp), if_neg (by simp only [List.length_cons]; omega)]; simp
theorem tok_eq (a b : Int) (t : ByteArray) : impl_TokenOK.f a b t = spec_TokenOK.f a b t := by
  unfold impl_TokenOK.f spec_TokenOK.f
  rw [punct]
  by_cases h3 : (t.size : Int) = 1
  · rw [if_pos h3, if_pos h3]; rfl
  · rw [if_neg h3, if_neg h3]; rfl
theorem tok_some (a b : Int) (t : ByteArray) : ∃ r, spec_TokenOK.f a b t = some r := by
  unfold spec_TokenOK.f spec_l01In.f
  split
  · split <;> simp only [Option.bind_some] <;> split <;> exact ⟨_, rfl⟩
  · split
    · split <;> simp only [Option.bind_some] <;> split <;> exact ⟨_, rfl⟩
    · split
      · split
        · rw [punct]
          by_cases h3 : (t.size : Int) = 1
          · rw [if_pos h3]
            unfold strings_Contains.f
            rw [if_pos (by have h : t.size = t.data.size := rfl; omega)]
            exact ⟨_, rfl⟩
          · rw [if_neg h3]; exact ⟨_, rfl⟩
        · exact ⟨_, rfl⟩
      · exact ⟨_, rfl⟩
theorem FnExactTokenOK : laws_FnExactTokenOK.Pure := by
  intro a b t ⟨_, _, h⟩
  simp only [maxLen] at h
  unfold laws_FnExactTokenOK.f laws_szToken.f
  rw [tk_wrap (by omega) (by omega)]
  by_cases hs : (1048576 : Int) - (t.size : Int) < 0
  · rw [if_pos hs]; rfl
  · rw [if_neg hs, Option.bind_some, if_neg hs]
    unfold laws_toToken.f
    simp only [Option.bind_some]
    rw [tok_eq]
    obtain ⟨r, hr⟩ := tok_some a b t
    rw [hr]
    simp
end Go.Proofs.Ytbgaodfnhbbgdaa.Pure
