/-
The Go program's SameExpr returns what the reference's returns, for all expressions; it leaves its arguments alone: the law FnExactSameExpr holds. Conditions: those of the given row alone.
-/
import Derived.Test.YtbgaodfnhbbgdaaPtE
import Derived.Test.YtbgaodfnhbbgdaaQxl05Same
import Derived.Test.YtbgaodfnhbbgdaaQxslicesEqualimplNodeimplNode
import Derived.Test.YtbgaodfnhbbgdaaQxlawsFnExactSameExpr
namespace Go.Proofs.Ytbgaodfnhbbgdaa.Pure
open Go.RowKit Go.Proofs.Ytbgaodfnhbbgdaa.Q Go.Proofs.Ytbgaodfnhbbgdaa.Pt Go.Proofs.YtbgaodfnhbbgdaaW.PrintWords Go.Proofs.YtbgaodfnhbbgdaaW.PrintLast Go.Proofs.YtbgaodfnhbbgdaaW.PrintMore
set_option linter.unusedVariables false
set_option linter.unusedSimpArgs false

def neq (x y : S46) : Bool := !(x.f0 == y.f0) || (!(x.f1 == y.f1) || (!(x.f2 == y.f2) || !(x.f3 == y.f3)))
theorem neq_iff (x y : S46) : neq x y = true ↔ x ≠ y := by
  obtain ⟨a, b, c, d⟩ := x
  obtain ⟨a', b', c', d'⟩ := y
  unfold neq
  by_cases h1 : a = a' <;> by_cases h2 : b = b' <;> by_cases h3 : c = c' <;> by_cases h4 : d = d' <;> simp [h1, h2, h3, h4]
theorem neq_false (x y : S46) : neq x y = false ↔ x = y := by
  have h := neq_iff x y
  constructor
  · intro e
    rw [e] at h
    exact Classical.byContradiction fun z => by have := h.2 z; cases this
  · intro e
    cases q : neq x y with
    | false => rfl
    | true => exact absurd e (h.1 q)
instance : DecidableEq S46 := fun x y => decidable_of_iff (neq x y = false) (neq_false x y)
theorem take_next {x y : List S46} {i : Nat} (hx : i < x.length) (hy : i < y.length) (h : x.take i = y.take i) (he : x[i]?.getD z46 = y[i]?.getD z46) : x.take (i + 1) = y.take (i + 1) := by
  rw [List.getElem?_eq_getElem hx, List.getElem?_eq_getElem hy] at he
  simp only [Option.getD_some] at he
  rw [List.take_add_one, List.take_add_one, h, List.getElem?_eq_getElem hx, List.getElem?_eq_getElem hy, he]
theorem ne_of_at {x y : List S46} {i : Nat} (he : x[i]?.getD z46 ≠ y[i]?.getD z46) : x ≠ y := fun e => he (by rw [e])
theorem spec_same_loop (x y : List S46) (hl : x.length = y.length) (hb : x.length ≤ 4000000000000000000) : ∀ (d i : Nat), i + d = x.length → x.take i = y.take i → Ev (fun k => spec_l05Same.l0 k (i : Int) x y) (decide (x = y)) := by
  intro d
  induction d with
  | zero =>
    intro i hd ht
    rw [List.take_of_length_le (by omega), List.take_of_length_le (by omega)] at ht
    rw [decide_eq_true ht]
    refine Ev.step (f := fun _ => some true) (fun k => ?_) (Ev.now _)
    simp only [spec_l05Same.l0]; rw [if_neg (by omega)]
  | succ d ih =>
    intro i hd ht
    by_cases he : x[i]?.getD z46 = y[i]?.getD z46
    · have s := ih (i + 1) (by omega) (take_next (by omega) (by omega) ht he)
      refine Ev.step (fun k => ?_) s
      simp only [spec_l05Same.l0, rdT]
      rw [if_pos (by omega), if_pos (by omega), if_pos (by omega), wsucc (by omega)]
      exact if_neg (fun z => (neq_iff _ _).1 z he)
    · rw [decide_eq_false (ne_of_at he)]
      refine Ev.step (f := fun _ => some false) (fun k => ?_) (Ev.now _)
      simp only [spec_l05Same.l0, rdT]
      rw [if_pos (by omega), if_pos (by omega), if_pos (by omega)]
      exact if_pos ((neq_iff _ _).2 he)
theorem impl_same_loop (x y : List S46) (hl : x.length = y.length) (hb : x.length ≤ 4000000000000000000) : ∀ (d i : Nat), i + d = x.length → x.take i = y.take i → Ev (fun k => impl_Node_37.l0 k x y (x.length : Int) (i : Int)) (decide (x = y)) := by
  intro d
  induction d with
  | zero =>
    intro i hd ht
    rw [List.take_of_length_le (by omega), List.take_of_length_le (by omega)] at ht
    rw [decide_eq_true ht]
    refine Ev.step (f := fun _ => some true) (fun k => ?_) (Ev.now _)
    simp only [impl_Node_37.l0]; rw [if_neg (by omega)]
  | succ d ih =>
    intro i hd ht
    by_cases he : x[i]?.getD z46 = y[i]?.getD z46
    · have s := ih (i + 1) (by omega) (take_next (by omega) (by omega) ht he)
      refine Ev.step (fun k => ?_) s
      simp only [impl_Node_37.l0, rdT]
      rw [if_pos (by omega), if_pos (by omega), if_pos (by omega), if_pos (by omega), wsucc (by omega)]
      exact if_neg (fun z => (neq_iff _ _).1 z he)
    · rw [decide_eq_false (ne_of_at he)]
      refine Ev.step (f := fun _ => some false) (fun k => ?_) (Ev.now _)
      simp only [impl_Node_37.l0, rdT]
      rw [if_pos (by omega), if_pos (by omega), if_pos (by omega), if_pos (by omega)]
      exact if_pos ((neq_iff _ _).2 he)
theorem ne_len {x y : List S46} (h : ¬ (x.length : Int) = (y.length : Int)) : x ≠ y := fun e => h (by rw [e])
theorem spec_same_ev (x y : List S46) (hb : x.length ≤ 1048576) : Ev (fun k => spec_l05Same.f k x y) (decide (x = y)) := by
  unfold spec_l05Same.f
  by_cases hl : (x.length : Int) = (y.length : Int)
  · have e := spec_same_loop x y (by omega) (by omega) x.length 0 (by omega) (by simp)
    exact Ev.congr (fun k => if_pos hl) e
  · rw [decide_eq_false (ne_len hl)]
    exact Ev.congr (fun k => if_neg hl) (Ev.now _)
theorem impl_same_ev (x y : List S46) (hb : x.length ≤ 1048576) : Ev (fun k => impl_Node_37.f k x y) (decide (x = y)) := by
  unfold impl_Node_37.f
  by_cases hl : (x.length : Int) = (y.length : Int)
  · have e := impl_same_loop x y (by omega) (by omega) x.length 0 (by omega) (by simp)
    exact Ev.congr (fun k => if_pos hl) e
  · rw [decide_eq_false (ne_len hl)]
    exact Ev.congr (fun k => if_neg hl) (Ev.now _)
def sameAns (x y : List S46) : Bool := if exAns x = true then (if exAns y = true then decide (x = y) else false) else false
theorem spec_ev (x y : List S46) (hb : x.length ≤ 1048576) : Ev (fun k => spec_SameExpr.f k x y) (sameAns x y) := by
  unfold spec_SameExpr.f sameAns
  refine Ev.bind (spec_ex_ev x) ?_
  by_cases h : exAns x = true
  · rw [if_pos h]
    refine Ev.congr (fun k => (if_pos h : (if _ then _ else _) = _)) (Ev.bind (spec_ex_ev y) ?_)
    by_cases h' : exAns y = true
    · rw [if_pos h']
      exact Ev.congr (fun k => (if_pos h' : (if _ then _ else _) = _)) (Ev.bind (f := fun _ t => some t) (spec_same_ev x y hb) (Ev.now _))
    · rw [if_neg h']
      exact Ev.congr (fun k => (if_neg h' : (if _ then _ else _) = _)) (Ev.now _)
  · rw [if_neg h]
    exact Ev.congr (fun k => (if_neg h : (if _ then _ else _) = _)) (Ev.now _)
theorem impl_ev (x y : List S46) (hb : x.length ≤ 1048576) : Ev (fun k => impl_SameExpr.f k x y) (sameAns x y) := by
  unfold impl_SameExpr.f sameAns
  refine Ev.bind (impl_ex_ev x) ?_
  by_cases h : exAns x = true
  · rw [if_pos h]
    refine Ev.congr (fun k => (if_pos h : (if _ then _ else _) = _)) (Ev.bind (impl_ex_ev y) ?_)
    by_cases h' : exAns y = true
    · rw [if_pos h']
      exact Ev.congr (fun k => (if_pos h' : (if _ then _ else _) = _)) (Ev.bind (f := fun _ t => some t) (impl_same_ev x y hb) (Ev.now _))
    · rw [if_neg h']
      exact Ev.congr (fun k => (if_neg h' : (if _ then _ else _) = _)) (Ev.now _)
  · rw [if_neg h]
    exact Ev.congr (fun k => (if_neg h : (if _ then _ else _) = _)) (Ev.now _)
theorem FnExactSameExpr : laws_FnExactSameExpr.Pure := by
  intro x y ⟨h1, _⟩ ⟨h2, _⟩
  have z1 := szExpr_f x 1048576 (by omega) h1
  by_cases hbig : szT x.length 1048576 < 0
  · exact ⟨0, by unfold laws_FnExactSameExpr.f; rw [z1, Option.bind_some, if_pos hbig]⟩
  have hl := szT_in (by omega) hbig
  have z2 := szExpr_f y (szT x.length 1048576) hl.2 h2
  by_cases hbig2 : szT y.length (szT x.length 1048576) < 0
  · exact ⟨0, by unfold laws_FnExactSameExpr.f; rw [z1, Option.bind_some, if_neg hbig, z2, Option.bind_some, if_pos hbig2]⟩
  have hl2 := szT_in hl.2 hbig2
  obtain ⟨K0, e0⟩ := toExpr_ev x hl.1
  obtain ⟨K1, e1⟩ := toExpr_ev y hl2.1
  obtain ⟨K2, e2⟩ := spec_ev (x.map cv) (y.map cv) (by simp; omega)
  obtain ⟨K3, e3⟩ := impl_ev (x.map cv) (y.map cv) (by simp; omega)
  obtain ⟨K4, e4⟩ := eqExpr_ev (x.map cv) (by simp; omega)
  obtain ⟨K5, e5⟩ := eqExpr_ev (y.map cv) (by simp; omega)
  obtain ⟨K, hK⟩ : ∃ K, K = K0 + K1 + K2 + K3 + K4 + K5 := ⟨_, rfl⟩
  generalize sameAns (x.map cv) (y.map cv) = r at e2 e3
  refine ⟨K, ?_⟩
  have e0' := e0 K (by omega)
  have e1' := e1 K (by omega)
  have e2' := e2 K (by omega)
  have e3' := e3 K (by omega)
  have e4' := e4 K (by omega)
  have e5' := e5 K (by omega)
  simp only at e0' e1' e2' e3' e4' e5'
  unfold laws_FnExactSameExpr.f
  rw [z1, Option.bind_some, if_neg hbig, z2, Option.bind_some, if_neg hbig2]
  simp only [e0', e1', e2', e3', e4', e5', Option.bind_some, bne_self_eq_false, Bool.false_eq_true, if_false, if_true]

end Go.Proofs.Ytbgaodfnhbbgdaa.Pure
