/-
The Go program's NameOK tells the same as the reference's, for every text: the law FnExactNameOK holds. Conditions: none beyond those of the given row.
-/
import Derived.Test.YtjieomccbejpjaaPFnExactNameOKx2
namespace Go.Proofs.Ytjieomccbejpjaa.Pure
open Go.RowKit Go.Proofs.Ytjieomccbejpjaa.PFnExactNameOK Go.Proofs.YtjieomccbejpjaaW.PrintWords Go.Proofs.YtjieomccbejpjaaW.PrintLast

theorem wrap_in {x : Int} (h0 : -9223372036854775808 ≤ x) (h1 : x ≤ 9223372036854775807) : wrap64 x = x := by
  unfold wrap64; omega
def letter (c : Int) : Prop := (97 ≤ c ∧ c ≤ 122) ∨ (65 ≤ c ∧ c ≤ 90) ∨ c = 95
def digit (c : Int) : Prop := 48 ≤ c ∧ c ≤ 57
theorem spec_letter (c : Int) : ∃ r, spec_l00Letter.f c = some r ∧ (r = true ↔ letter c) := by
  unfold spec_l00Letter.f letter
  repeat' split
  all_goals (refine ⟨_, rfl, ?_⟩; simp only [true_iff, beq_iff_eq]; omega)
theorem spec_digit (c : Int) : ∃ r, spec_l00Digit.f c = some r ∧ (r = true ↔ digit c) := by
  unfold spec_l00Digit.f digit
  split
  all_goals (refine ⟨_, rfl, ?_⟩; simp only [decide_eq_true_eq, Bool.false_eq_true, false_iff]; omega)
theorem impl_digit (c : Int) : ∃ r, impl_isDigit.f c = some r ∧ (r = true ↔ digit c) := by
  unfold impl_isDigit.f digit
  split
  all_goals (refine ⟨_, rfl, ?_⟩; simp only [decide_eq_true_eq, Bool.false_eq_true, false_iff]; omega)

theorem spec_loop (s : ByteArray) (hn : s.size ≤ 140737488351232) (d : Nat) : ∀ (k i : Nat), i + d = s.size → d < k →
    ∃ r, spec_l00Word.l0 k s i = some r ∧ (r = true ↔ ∀ j : Nat, i ≤ j → j < s.size → letter (bt s j) ∨ digit (bt s j)) := by
  induction d with
  | zero =>
    intro k i hi hk
    obtain ⟨k, rfl⟩ : ∃ m, k = m + 1 := ⟨k - 1, by omega⟩
    refine ⟨true, by simp only [spec_l00Word.l0]; rw [if_neg (by omega)], ?_⟩
    simp only [true_iff]; intro j h1 h2; omega
  | succ d ih =>
    intro k i hi hk
    obtain ⟨k, rfl⟩ : ∃ m, k = m + 1 := ⟨k - 1, by omega⟩
    obtain ⟨r, hr, h⟩ := ih k (i + 1) (by omega) (by omega)
    obtain ⟨a, ha, ha'⟩ := spec_letter (bt s i)
    obtain ⟨b, hb, hb'⟩ := spec_digit (bt s i)
    have hw : wrap64 ((i : Int) + 1) = ((i + 1 : Nat) : Int) := by rw [wrap_in (by omega) (by omega)]; omega
    have hstep : (letter (bt s i) ∨ digit (bt s i)) → (r = true ↔ ∀ j : Nat, i ≤ j → j < s.size → letter (bt s j) ∨ digit (bt s j)) := fun hl => by
      rw [h]
      constructor
      · intro hh j h1 h2
        by_cases e : j = i
        · subst e; exact hl
        · exact hh j (by omega) h2
      · intro hh j h1 h2; exact hh j (by omega) h2
    cases a with
    | true =>
      refine ⟨r, ?_, hstep (.inl (ha'.1 rfl))⟩
      simp only [spec_l00Word.l0]; rw [if_pos (by omega), if_pos (by omega), ha]; simp only [Option.bind_some, if_true]; rw [hw]; exact hr
    | false =>
      cases b with
      | true =>
        refine ⟨r, ?_, hstep (.inr (hb'.1 rfl))⟩
        simp only [spec_l00Word.l0]; rw [if_pos (by omega), if_pos (by omega), ha, hb]; simp only [Option.bind_some, if_true, Bool.false_eq_true, if_false]; rw [hw]; exact hr
      | false =>
        refine ⟨false, ?_, ?_⟩
        · simp only [spec_l00Word.l0]; rw [if_pos (by omega), if_pos (by omega), ha, hb]; simp only [Option.bind_some, Bool.false_eq_true, if_false]
        · simp only [Bool.false_eq_true, false_iff]
          intro hh
          rcases hh i (by omega) (by omega) with hl | hl
          · exact absurd (ha'.2 hl) (by simp)
          · exact absurd (hb'.2 hl) (by simp)

theorem impl_loop (s : ByteArray) (hn : s.size ≤ 140737488351232) (d : Nat) : ∀ (k i : Nat), i + d = s.size → d < k →
    ∃ r, impl_NameOK.l0 k s s.size i = some r ∧ (r = true ↔ ∀ j : Nat, i ≤ j → j < s.size → letter (bt s j) ∨ digit (bt s j)) := by
  induction d with
  | zero =>
    intro k i hi hk
    obtain ⟨k, rfl⟩ : ∃ m, k = m + 1 := ⟨k - 1, by omega⟩
    refine ⟨true, by simp only [impl_NameOK.l0]; rw [if_neg (by omega)], ?_⟩
    simp only [true_iff]; intro j h1 h2; omega
  | succ d ih =>
    intro k i hi hk
    obtain ⟨k, rfl⟩ : ∃ m, k = m + 1 := ⟨k - 1, by omega⟩
    obtain ⟨r, hr, h⟩ := ih k (i + 1) (by omega) (by omega)
    obtain ⟨b, hb, hb'⟩ := impl_digit (bt s i)
    have hw : wrap64 ((i : Int) + 1) = ((i + 1 : Nat) : Int) := by rw [wrap_in (by omega) (by omega)]; omega
    have hstep : (letter (bt s i) ∨ digit (bt s i)) → (r = true ↔ ∀ j : Nat, i ≤ j → j < s.size → letter (bt s j) ∨ digit (bt s j)) := fun hl => by
      rw [h]
      constructor
      · intro hh j h1 h2
        by_cases e : j = i
        · subst e; exact hl
        · exact hh j (by omega) h2
      · intro hh j h1 h2; exact hh j (by omega) h2
    cases b with
    | true =>
      refine ⟨r, ?_, hstep (.inr (hb'.1 rfl))⟩
      simp only [impl_NameOK.l0]; rw [if_pos (by omega), if_pos (by omega), if_pos (by omega), hb]; simp only [Option.bind_some, if_true]; rw [hw]; exact hr
    | false =>
      have hnd : ¬ digit (bt s i) := fun e => absurd (hb'.2 e) (by simp)
      by_cases hl : letter (bt s i)
      · refine ⟨r, ?_, hstep (.inl hl)⟩
        simp only [impl_NameOK.l0]; rw [if_pos (by omega), if_pos (by omega), if_pos (by omega), hb]; simp only [Option.bind_some, Bool.false_eq_true, if_false]; rw [hw, hr]
        unfold letter at hl
        repeat' split
        all_goals first | rfl | omega
      · refine ⟨false, ?_, ?_⟩
        · simp only [impl_NameOK.l0]; rw [if_pos (by omega), if_pos (by omega), if_pos (by omega), hb]; simp only [Option.bind_some, Bool.false_eq_true, if_false]
          unfold letter at hl
          repeat' split
          all_goals first | rfl | omega
        · simp only [Bool.false_eq_true, false_iff]
          intro hh
          exact (hh i (by omega) (by omega)).elim hl hnd

theorem FnExactNameOK : laws_FnExactNameOK.Pure := by
  intro s hn
  refine ⟨s.size + 3, ?_⟩
  unfold laws_FnExactNameOK.f
  by_cases hbig : (s.size : Int) > 1048576
  · rw [if_pos hbig]
  rw [if_neg hbig]
  unfold spec_NameOK.f spec_l00Word.f impl_NameOK.f
  by_cases h1 : (s.size : Int) < 1
  · rw [if_pos h1, if_pos h1]; simp [spec_l00Word.j0, impl_NameOK.j0]
  rw [if_neg h1, if_neg h1]
  by_cases h2 : (s.size : Int) > 40
  · rw [if_pos h2, if_pos h2]; simp [spec_l00Word.j0, impl_NameOK.j0]
  rw [if_neg h2, if_neg h2, if_pos (by omega), if_pos (by omega)]
  obtain ⟨a, ha, ha'⟩ := spec_letter (bt s 0)
  obtain ⟨b, hb, hb'⟩ := impl_digit (bt s 0)
  obtain ⟨r, hr, h⟩ := spec_loop s hn (s.size - 1) (s.size + 2) 1 (by omega) (by omega)
  obtain ⟨q, hq, g⟩ := impl_loop s hn s.size (s.size + 2) 0 (by omega) (by omega)
  have hr' : spec_l00Word.l0 (s.size + 2) s 1 = some r := hr
  have hq' : impl_NameOK.l0 (s.size + 2) s s.size 0 = some q := hq
  rw [ha, hb]
  simp only [Option.bind_some, spec_l00Word.j0, impl_NameOK.j0]
  rw [hr', hq']
  have hdl : letter (bt s 0) → ¬ digit (bt s 0) := by unfold letter digit; omega
  have key : (a = true ∧ r = true) ↔ (b = false ∧ q = true) := by
    rw [ha', h, g]
    constructor
    · rintro ⟨x, y⟩
      refine ⟨by cases b with | true => exact absurd (hb'.1 rfl) (hdl x) | false => rfl, fun j h1 h2 => ?_⟩
      by_cases e : j = 0
      · subst e; exact .inl x
      · exact y j (by omega) h2
    · rintro ⟨x, y⟩
      refine ⟨?_, fun j h1 h2 => y j (by omega) h2⟩
      rcases y 0 (by omega) (by omega) with z | z
      · exact z
      · exact absurd (hb'.2 z) (by simp [x])
  cases a <;> cases b <;> cases r <;> cases q <;> simp at key ⊢

end Go.Proofs.Ytjieomccbejpjaa.Pure
