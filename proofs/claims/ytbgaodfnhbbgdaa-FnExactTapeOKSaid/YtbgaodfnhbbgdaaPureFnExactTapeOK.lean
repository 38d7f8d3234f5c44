/-
The Go program's TapeOK returns what the reference's returns, for all tapes; it leaves its argument alone: the law FnExactTapeOK holds. Conditions: those of the given row alone.
-/
import Derived.Test.YtbgaodfnhbbgdaaPtA
import Derived.Test.YtbgaodfnhbbgdaaQxl07Step
import Derived.Test.YtbgaodfnhbbgdaaQxl07Find
import Derived.Test.YtbgaodfnhbbgdaaQxslicesContainsimplNodeimplNode
import Derived.Test.YtbgaodfnhbbgdaaQxlawsFnExactTapeOK
namespace Go.Proofs.Ytbgaodfnhbbgdaa.Pure
open Go.RowKit Go.Proofs.Ytbgaodfnhbbgdaa.Q Go.Proofs.Ytbgaodfnhbbgdaa.Pt Go.Proofs.YtbgaodfnhbbgdaaW.PrintWords Go.Proofs.YtbgaodfnhbbgdaaW.PrintLast Go.Proofs.YtbgaodfnhbbgdaaW.PrintMore
set_option linter.unusedVariables false
set_option linter.unusedSimpArgs false

theorem step_f (op a b n i : Int) (hi : 0 ≤ i ∧ i ≤ 4000000000000000000) : spec_l07Step.f op a b n i = some (decide (Plain op a b n i)) := by
  unfold spec_l07Step.f
  rw [two_f, Option.bind_some, node_f op a b n i hi, wrap_in (x := i - 1) (by omega) (by omega)]
  by_cases h2 : 3 ≤ op ∧ op ≤ 6
  · rw [if_pos (decide_eq_true h2), in_f, Option.bind_some]
    by_cases h3 : 0 ≤ a ∧ a ≤ i - 1
    · rw [if_pos (decide_eq_true h3), in_f, Option.bind_some]
      by_cases h4 : 0 ≤ b ∧ b ≤ i - 1
      · rw [if_pos (decide_eq_true h4)]
        exact some_beq (by unfold Plain; omega)
      · rw [if_neg (by simp only [decide_eq_true_eq]; exact h4)]
        exact some_no (by unfold Plain; omega)
    · rw [if_neg (by simp only [decide_eq_true_eq]; exact h3)]
      exact some_no (by unfold Plain; omega)
  · rw [if_neg (by simp only [decide_eq_true_eq]; exact h2), one_f, Option.bind_some]
    by_cases h3 : op = 7 ∨ op = 8
    · rw [if_pos (decide_eq_true h3), in_f, Option.bind_some]
      by_cases h4 : 0 ≤ a ∧ a ≤ i - 1
      · rw [if_pos (decide_eq_true h4)]
        by_cases h6 : b = 0
        · rw [if_pos h6]
          by_cases h8 : op = 8
          · have e : (op == 8) = true := by simp [h8]
            rw [e, show spec_l01Bit.f true = some 1 from rfl, Option.bind_some, wrap_in (x := 8 * 1) (by omega) (by omega), in_f, Option.bind_some]
            exact some_dec (by unfold Plain; omega)
          · have e : (op == 8) = false := by simp [h8]
            rw [e, show spec_l01Bit.f false = some 0 from rfl, Option.bind_some, wrap_in (x := 8 * 0) (by omega) (by omega), in_f, Option.bind_some]
            exact some_dec (by unfold Plain; omega)
        · rw [if_neg h6]; exact some_no (by unfold Plain; omega)
      · rw [if_neg (by simp only [decide_eq_true_eq]; exact h4)]
        exact some_no (by unfold Plain; omega)
    · rw [if_neg (by simp only [decide_eq_true_eq]; exact h3), Option.bind_some]
      refine some_dec ⟨fun h => ?_, fun h => ?_⟩
      · rcases h with h | h | h | h | h
        · exact absurd ⟨h.1, h.2.1⟩ h2
        · exact absurd (.inl h.1) h3
        · exact absurd (.inr h.1) h3
        · exact .inr (.inr (.inr (.inl h)))
        · exact .inr (.inr (.inr (.inr h)))
      · rcases h with h | h | h | h | h
        · exact absurd ⟨h.1, h.2.1⟩ h2
        · exact absurd (.inl h.1) h3
        · exact absurd (.inr h.1) h3
        · exact .inr (.inr (.inr (.inl h)))
        · exact .inr (.inr (.inr (.inr h)))
def neq (x y : S46) : Bool := !(x.f0 == y.f0) || (!(x.f1 == y.f1) || (!(x.f2 == y.f2) || !(x.f3 == y.f3)))
theorem neq_iff (x y : S46) : neq x y = true ↔ x ≠ y := by
  obtain ⟨a, b, c, d⟩ := x
  obtain ⟨a', b', c', d'⟩ := y
  unfold neq
  by_cases h1 : a = a' <;> by_cases h2 : b = b' <;> by_cases h3 : c = c' <;> by_cases h4 : d = d' <;> simp [h1, h2, h3, h4]
theorem neq_false (x y : S46) : neq x y = false ↔ x = y := by
  have h := neq_iff x y
  constructor
  · intro e
    rw [e] at h
    exact Classical.byContradiction fun z => by have := h.2 z; cases this
  · intro e
    cases q : neq x y with
    | false => rfl
    | true => exact absurd e (h.1 q)
instance : DecidableEq S46 := fun x y => decidable_of_iff (neq x y = false) (neq_false x y)
def beqN (x : S46) (a b c d : Int) : Bool := x.f0 == a && (x.f1 == b && (x.f2 == c && (x.f3 == d)))
theorem beqN_iff (x v : S46) : beqN x v.f0 v.f1 v.f2 v.f3 = true ↔ x = v := by
  obtain ⟨a, b, c, d⟩ := x
  obtain ⟨a', b', c', d'⟩ := v
  unfold beqN
  by_cases h1 : a = a' <;> by_cases h2 : b = b' <;> by_cases h3 : c = c' <;> by_cases h4 : d = d' <;> simp [h1, h2, h3, h4]
def beqM (a b c d : Int) (x : S46) : Bool := a == x.f0 && (b == x.f1 && (c == x.f2 && (d == x.f3)))
theorem bq (a b : Int) : (a == b) = (b == a) := by
  by_cases h : a = b
  · subst h; rfl
  · rw [beq_eq_false_iff_ne.2 h, beq_eq_false_iff_ne.2 (Ne.symm h)]
theorem beqM_iff (x v : S46) : beqM v.f0 v.f1 v.f2 v.f3 x = true ↔ x = v := by
  rw [← beqN_iff]
  unfold beqM beqN
  rw [bq v.f0, bq v.f1, bq v.f2, bq v.f3]
/-- Whether a node lies in a list of nodes. -/
def Has (x : List S46) (v : S46) : Bool := decide (v ∈ x)
theorem has_drop (x : List S46) (v : S46) (i : Nat) (h : i < x.length) : Has (x.drop i) v = (decide (x[i]?.getD z46 = v) || Has (x.drop (i + 1)) v) := by
  unfold Has
  rw [at_next (z := z46) h]
  by_cases e : x[i]?.getD z46 = v
  · simp [e]
  · simp [e, Ne.symm e]
theorem spec_find (x : List S46) (v : S46) (hb : x.length ≤ 4000000000000000000) : ∀ (d i : Nat), i + d = x.length → ∃ r : Int, Ev (fun k => spec_l07Find.l0 k x (i : Int) v.f0 v.f1 v.f2 v.f3) r ∧ decide (r ≥ 0) = Has (x.drop i) v := by
  intro d
  induction d with
  | zero =>
    intro i hd
    refine ⟨-1, ev_const fun k => ?_, ?_⟩
    · simp only [spec_l07Find.l0]; rw [if_neg (by omega)]
    · rw [List.drop_of_length_le (by omega)]; simp [Has]
  | succ d ih =>
    intro i hd
    by_cases he : x[i]?.getD z46 = v
    · refine ⟨i, ev_const fun k => ?_, ?_⟩
      · simp only [spec_l07Find.l0, rdT]
        rw [if_pos (by omega), if_pos (by omega)]
        exact if_pos ((beqN_iff _ _).2 he)
      · rw [has_drop x v i (by omega), decide_eq_true he, decide_eq_true (by omega)]; rfl
    · obtain ⟨r, s, hr⟩ := ih (i + 1) (by omega)
      refine ⟨r, Ev.step (fun k => ?_) s, ?_⟩
      · simp only [spec_l07Find.l0, rdT]
        rw [if_pos (by omega), if_pos (by omega), wsucc (by omega)]
        exact if_neg fun z => he ((beqN_iff _ _).1 z)
      · rw [has_drop x v i (by omega), decide_eq_false he, hr]; rfl
theorem impl_find (x : List S46) (v : S46) (hb : x.length ≤ 4000000000000000000) : ∀ (d i : Nat), i + d = x.length → ∃ r : Int, Ev (fun k => impl_Node_69.l0 k x (x.length : Int) (i : Int) v.f0 v.f1 v.f2 v.f3) r ∧ decide (r ≥ 0) = Has (x.drop i) v := by
  intro d
  induction d with
  | zero =>
    intro i hd
    refine ⟨-1, ev_const fun k => ?_, ?_⟩
    · simp only [impl_Node_69.l0]; rw [if_neg (by omega)]
    · rw [List.drop_of_length_le (by omega)]; simp [Has]
  | succ d ih =>
    intro i hd
    by_cases he : x[i]?.getD z46 = v
    · refine ⟨i, ev_const fun k => ?_, ?_⟩
      · simp only [impl_Node_69.l0, rdT]
        rw [if_pos (by omega), if_pos (by omega), if_pos (by omega)]
        exact if_pos ((beqM_iff _ _).2 he)
      · rw [has_drop x v i (by omega), decide_eq_true he, decide_eq_true (by omega)]; rfl
    · obtain ⟨r, s, hr⟩ := ih (i + 1) (by omega)
      refine ⟨r, Ev.step (fun k => ?_) s, ?_⟩
      · simp only [impl_Node_69.l0, rdT]
        rw [if_pos (by omega), if_pos (by omega), if_pos (by omega), wsucc (by omega)]
        exact if_neg fun z => he ((beqM_iff _ _).1 z)
      · rw [has_drop x v i (by omega), decide_eq_false he, hr]; rfl
theorem spec_find_ev (x : List S46) (v : S46) (hb : x.length ≤ 1048576) : ∃ r : Int, Ev (fun k => spec_l07Find.f k x v.f0 v.f1 v.f2 v.f3) r ∧ decide (r ≥ 0) = Has x v := by
  obtain ⟨r, e, h⟩ := spec_find x v (by omega) x.length 0 (by omega)
  exact ⟨r, e, h⟩
theorem impl_has_ev (x : List S46) (v : S46) (hb : x.length ≤ 1048576) : Ev (fun k => impl_Node_51.f k x v.f0 v.f1 v.f2 v.f3) (Has x v) := by
  obtain ⟨r, e, h⟩ := impl_find x v (by omega) x.length 0 (by omega)
  rw [List.drop_zero] at h
  rw [← h]
  exact Ev.bind (f := fun _ t => some (decide (t ≥ 0))) e (Ev.now _)
def tpAns (x : List S46) : Nat → Nat → Bool
  | 0, _ => true
  | d + 1, i => if decide (Plain (x[i]?.getD z46).f0 (x[i]?.getD z46).f1 (x[i]?.getD z46).f2 (x[i]?.getD z46).f3 i) = true then (if Has (x.take i) (x[i]?.getD z46) = true then false else tpAns x d (i + 1)) else false
theorem spec_tp (x : List S46) (a : Int) (hb : x.length ≤ 1048576) : ∀ (d i : Nat), i + d = x.length → Ev (fun k => spec_TapeOK.l0 k (i : Int) x a) (tpAns x d i) := by
  intro d
  induction d with
  | zero =>
    intro i hd
    refine ev_const fun k => ?_
    simp only [spec_TapeOK.l0]; rw [if_neg (by omega)]; rfl
  | succ d ih =>
    intro i hd
    unfold tpAns
    by_cases hp : decide (Plain (x[i]?.getD z46).f0 (x[i]?.getD z46).f1 (x[i]?.getD z46).f2 (x[i]?.getD z46).f3 i) = true
    · rw [if_pos hp]
      obtain ⟨r, s, hr⟩ := spec_find_ev (x.take i) (x[i]?.getD z46) (by simp; omega)
      refine Ev.step (f := fun k => (spec_l07Find.f k (x.take i) (x[i]?.getD z46).f0 (x[i]?.getD z46).f1 (x[i]?.getD z46).f2 (x[i]?.getD z46).f3).bind fun t => if t ≥ 0 then some false else spec_TapeOK.l0 k ((i + 1 : Nat) : Int) x a) (fun k => ?_) (Ev.bind s ?_)
      · simp only [spec_TapeOK.l0, rdT]
        rw [if_pos (by omega), if_pos (by omega), step_f _ _ _ _ _ (by omega), Option.bind_some, if_pos hp, if_pos (by omega), Int.toNat_natCast, wsucc (by omega)]
      · by_cases hh : r ≥ 0
        · rw [if_pos (by rw [← hr]; exact decide_eq_true hh)]
          exact Ev.congr (fun k => if_pos hh) (Ev.now _)
        · rw [if_neg (by rw [← hr]; simp [hh])]
          exact Ev.congr (fun k => if_neg hh) (ih (i + 1) (by omega))
    · rw [if_neg hp]
      refine ev_const fun k => ?_
      simp only [spec_TapeOK.l0, rdT]
      rw [if_pos (by omega), if_pos (by omega), step_f _ _ _ _ _ (by omega), Option.bind_some, if_neg hp]
theorem impl_tp (x : List S46) (a : Int) (hb : x.length ≤ 1048576) : ∀ (d i : Nat), i + d = x.length → Ev (fun k => impl_TapeOK.l0 k x (x.length : Int) (i : Int) x a) (tpAns x d i) := by
  intro d
  induction d with
  | zero =>
    intro i hd
    refine ev_const fun k => ?_
    simp only [impl_TapeOK.l0]; rw [if_neg (by omega)]; rfl
  | succ d ih =>
    intro i hd
    unfold tpAns
    have hpe : Ev (fun k => impl_Node_plainOk.f k (x[i]?.getD z46).f0 (x[i]?.getD z46).f1 (x[i]?.getD z46).f2 (x[i]?.getD z46).f3 (i : Int)) (decide (Plain (x[i]?.getD z46).f0 (x[i]?.getD z46).f1 (x[i]?.getD z46).f2 (x[i]?.getD z46).f3 i)) := ev_const fun k => plain_f k _ _ _ _ _ (by omega)
    refine Ev.step (f := fun k => (impl_Node_plainOk.f k (x[i]?.getD z46).f0 (x[i]?.getD z46).f1 (x[i]?.getD z46).f2 (x[i]?.getD z46).f3 (i : Int)).bind fun t => if t = true then (impl_Node_51.f k (x.take i) (x[i]?.getD z46).f0 (x[i]?.getD z46).f1 (x[i]?.getD z46).f2 (x[i]?.getD z46).f3).bind (fun t => if t = true then some false else impl_TapeOK.l0 k x (x.length : Int) ((i + 1 : Nat) : Int) x a) else some false) (fun k => ?_) (Ev.bind hpe ?_)
    · simp only [impl_TapeOK.l0, rdT]
      rw [if_pos (by omega), if_pos (by omega), if_pos (by omega), if_pos (show (i : Int) ≤ (x.length : Int) by omega), Int.toNat_natCast, wsucc (by omega)]
    · by_cases hp : decide (Plain (x[i]?.getD z46).f0 (x[i]?.getD z46).f1 (x[i]?.getD z46).f2 (x[i]?.getD z46).f3 i) = true
      · rw [if_pos hp]
        refine Ev.congr (fun k => if_pos hp) (Ev.bind (impl_has_ev (x.take i) (x[i]?.getD z46) (by simp; omega)) ?_)
        by_cases hh : Has (x.take i) (x[i]?.getD z46) = true
        · rw [if_pos hh]; exact Ev.congr (fun k => if_pos hh) (Ev.now _)
        · rw [if_neg hh]; exact Ev.congr (fun k => if_neg hh) (ih (i + 1) (by omega))
      · rw [if_neg hp]; exact Ev.congr (fun k => if_neg hp) (Ev.now _)
def tapeAns (x : List S46) (a : Int) : Bool := if decide (1 ≤ (x.length : Int) ∧ (x.length : Int) ≤ 60) = true then (if (a != (wrap64 ((x.length : Int) - 1))) = true then false else tpAns x x.length 0) else false
theorem spec_tape_ev (x : List S46) (a : Int) (hb : x.length ≤ 1048576) : Ev (fun k => spec_TapeOK.f k x a) (tapeAns x a) := by
  unfold spec_TapeOK.f tapeAns
  rw [in_f]
  by_cases h : decide (1 ≤ (x.length : Int) ∧ (x.length : Int) ≤ 60) = true
  · rw [if_pos h]
    refine Ev.congr (fun k => (if_pos h : (if _ then _ else _) = _)) ?_
    generalize (a != (wrap64 ((x.length : Int) - 1))) = c
    cases c with
    | true => exact ev_const fun k => by simp only [spec_TapeOK.j0]; rfl
    | false => exact Ev.step (fun k => by simp only [spec_TapeOK.j0]; rfl) (spec_tp x a hb x.length 0 (by omega))
  · rw [if_neg h]
    refine Ev.congr (fun k => (if_neg h : (if _ then _ else _) = _)) ?_
    exact ev_const fun k => by simp only [spec_TapeOK.j0]; rfl
theorem impl_tape_ev (x : List S46) (a : Int) (hb : x.length ≤ 1048576) : Ev (fun k => impl_TapeOK.f k x a) (tapeAns x a) := by
  unfold impl_TapeOK.f tapeAns
  rw [bw_f]
  by_cases h : decide (1 ≤ (x.length : Int) ∧ (x.length : Int) ≤ 60) = true
  · rw [if_pos h]
    refine Ev.congr (fun k => (if_pos h : (if _ then _ else _) = _)) ?_
    generalize (a != (wrap64 ((x.length : Int) - 1))) = c
    cases c with
    | true => exact ev_const fun k => by simp only [impl_TapeOK.j0]; rfl
    | false => exact Ev.step (fun k => by simp only [impl_TapeOK.j0]; rfl) (impl_tp x a hb x.length 0 (by omega))
  · rw [if_neg h]
    refine Ev.congr (fun k => (if_neg h : (if _ then _ else _) = _)) ?_
    exact ev_const fun k => by simp only [impl_TapeOK.j0]; rfl
theorem toTape_ev (x : List S79) (a : Int) (hb : x.length ≤ 1048576) : Ev (fun k => laws_toTape.f k x a) (x.map cv, a) := Ev.bind (f := fun _ t => some (t, a)) (toNodes_ev x hb) (Ev.now _)
theorem eqTape_ev (x : List S46) (a : Int) (hb : x.length ≤ 1048576) : Ev (fun k => laws_eqTape.f k x a x a) true := by
  refine Ev.bind (f := fun _ t => if t = true then (if a = a then some true else some false) else some false) (eqNodes_ev x hb) ?_
  rw [if_pos rfl]
  exact Ev.congr (fun _ => if_pos rfl) (Ev.now _)
theorem szTape_f (x : List S79) (a left : Int) (hl : 0 ≤ left ∧ left ≤ 1048576) (hn : x.length ≤ maxLen) : laws_szTape.f x a left = some (szT x.length left) := by
  unfold laws_szTape.f
  rw [szT_f x left hl hn, Option.bind_some]
  unfold szT
  by_cases h1 : left - (x.length : Int) < 0
  · rw [if_pos h1]; rfl
  · rw [if_neg h1, if_neg h1]
theorem FnExactTapeOK : laws_FnExactTapeOK.Pure := by
  intro x a ⟨⟨h1, _⟩, _⟩
  have z1 := szTape_f x a 1048576 (by omega) h1
  by_cases hbig : szT x.length 1048576 < 0
  · exact ⟨0, by unfold laws_FnExactTapeOK.f; rw [z1, Option.bind_some, if_pos hbig]⟩
  have hl := szT_in (by omega) hbig
  obtain ⟨K0, e0⟩ := toTape_ev x a hl.1
  obtain ⟨K2, e2⟩ := spec_tape_ev (x.map cv) a (by simp; omega)
  obtain ⟨K3, e3⟩ := impl_tape_ev (x.map cv) a (by simp; omega)
  obtain ⟨K4, e4⟩ := eqTape_ev (x.map cv) a (by simp; omega)
  obtain ⟨K, hK⟩ : ∃ K, K = K0 + K2 + K3 + K4 := ⟨_, rfl⟩
  generalize tapeAns (x.map cv) a = r at e2 e3
  refine ⟨K, ?_⟩
  have e0' := e0 K (by omega)
  have e2' := e2 K (by omega)
  have e3' := e3 K (by omega)
  have e4' := e4 K (by omega)
  simp only at e0' e2' e3' e4'
  unfold laws_FnExactTapeOK.f
  rw [z1, Option.bind_some, if_neg hbig]
  simp only [e0', e2', e3', e4', Option.bind_some, bne_self_eq_false, Bool.false_eq_true, if_false, if_true]

end Go.Proofs.Ytbgaodfnhbbgdaa.Pure
