/-
The Go program's SameTape returns what the reference's returns, for all tapes; it leaves its arguments alone: the law FnExactSameTape holds. Conditions: those of the given row alone.
-/
import Derived.Test.YtbgaodfnhbbgdaaQxlawsFnExactSameTape
namespace Go.Proofs.Ytbgaodfnhbbgdaa.Pure
open Go.RowKit Go.Proofs.Ytbgaodfnhbbgdaa.Q Go.Proofs.YtbgaodfnhbbgdaaW.PrintWords Go.Proofs.YtbgaodfnhbbgdaaW.PrintLast
set_option linter.unusedVariables false
set_option linter.unusedSimpArgs false

theorem wrap_in {x : Int} (h0 : -9223372036854775808 ≤ x) (h1 : x ≤ 9223372036854775807) : wrap64 x = x := by
  simp only [wrap64]; omega
theorem wsucc {i : Nat} (h : (i : Int) < 9223372036854775807) : wrap64 ((i : Int) + 1) = ((i + 1 : Nat) : Int) := by rw [wrap_in (by omega) (by omega)]; omega
/-- A node, as the program has it. -/
def cv (x : S79) : S46 := ⟨x.f0, x.f1, x.f2, x.f3⟩
def neq (x y : S46) : Bool := !(x.f0 == y.f0) || (!(x.f1 == y.f1) || (!(x.f2 == y.f2) || !(x.f3 == y.f3)))
theorem neq_iff (x y : S46) : neq x y = true ↔ x ≠ y := by
  obtain ⟨a, b, c, d⟩ := x
  obtain ⟨a', b', c', d'⟩ := y
  unfold neq
  by_cases h1 : a = a' <;> by_cases h2 : b = b' <;> by_cases h3 : c = c' <;> by_cases h4 : d = d' <;> simp [h1, h2, h3, h4]
theorem neq_false (x y : S46) : neq x y = false ↔ x = y := by
  have h := neq_iff x y
  constructor
  · intro e
    rw [e] at h
    exact Classical.byContradiction fun z => by have := h.2 z; cases this
  · intro e
    cases q : neq x y with
    | false => rfl
    | true => exact absurd e (h.1 q)
instance : DecidableEq S46 := fun x y => decidable_of_iff (neq x y = false) (neq_false x y)
theorem rdT (l : List S46) (i : Nat) : rd_T46 l (i : Int) = l[i]?.getD z46 := by simp [rd_T46, List.getD_eq_getElem?_getD]
theorem rdL (l : List S79) (i : Nat) : rd_T79 l (i : Int) = l[i]?.getD z79 := by simp [rd_T79, List.getD_eq_getElem?_getD]
theorem take_next {x y : List S46} {i : Nat} (hx : i < x.length) (hy : i < y.length) (h : x.take i = y.take i) (he : x[i]?.getD z46 = y[i]?.getD z46) : x.take (i + 1) = y.take (i + 1) := by
  rw [List.getElem?_eq_getElem hx, List.getElem?_eq_getElem hy] at he
  simp only [Option.getD_some] at he
  rw [List.take_add_one, List.take_add_one, h, List.getElem?_eq_getElem hx, List.getElem?_eq_getElem hy, he]
theorem ne_of_at {x y : List S46} {i : Nat} (he : x[i]?.getD z46 ≠ y[i]?.getD z46) : x ≠ y := fun e => he (by rw [e])
theorem spec_loop (x y : List S46) (hl : x.length = y.length) (hb : x.length ≤ 4000000000000000000) : ∀ (d i : Nat), i + d = x.length → x.take i = y.take i → Ev (fun k => spec_l05Same.l0 k (i : Int) x y) (decide (x = y)) := by
  intro d
  induction d with
  | zero =>
    intro i hd ht
    rw [List.take_of_length_le (by omega), List.take_of_length_le (by omega)] at ht
    rw [decide_eq_true ht]
    refine Ev.step (f := fun _ => some true) (fun k => ?_) (Ev.now _)
    simp only [spec_l05Same.l0]; rw [if_neg (by omega)]
  | succ d ih =>
    intro i hd ht
    by_cases he : x[i]?.getD z46 = y[i]?.getD z46
    · have s := ih (i + 1) (by omega) (take_next (by omega) (by omega) ht he)
      refine Ev.step (fun k => ?_) s
      simp only [spec_l05Same.l0, rdT]
      rw [if_pos (by omega), if_pos (by omega), if_pos (by omega), wsucc (by omega)]
      exact if_neg (fun z => (neq_iff _ _).1 z he)
    · rw [decide_eq_false (ne_of_at he)]
      refine Ev.step (f := fun _ => some false) (fun k => ?_) (Ev.now _)
      simp only [spec_l05Same.l0, rdT]
      rw [if_pos (by omega), if_pos (by omega), if_pos (by omega)]
      exact if_pos ((neq_iff _ _).2 he)
theorem impl_loop (x y : List S46) (hl : x.length = y.length) (hb : x.length ≤ 4000000000000000000) : ∀ (d i : Nat), i + d = x.length → x.take i = y.take i → Ev (fun k => impl_Node.l0 k x y (x.length : Int) (i : Int)) (decide (x = y)) := by
  intro d
  induction d with
  | zero =>
    intro i hd ht
    rw [List.take_of_length_le (by omega), List.take_of_length_le (by omega)] at ht
    rw [decide_eq_true ht]
    refine Ev.step (f := fun _ => some true) (fun k => ?_) (Ev.now _)
    simp only [impl_Node.l0]; rw [if_neg (by omega)]
  | succ d ih =>
    intro i hd ht
    by_cases he : x[i]?.getD z46 = y[i]?.getD z46
    · have s := ih (i + 1) (by omega) (take_next (by omega) (by omega) ht he)
      refine Ev.step (fun k => ?_) s
      simp only [impl_Node.l0, rdT]
      rw [if_pos (by omega), if_pos (by omega), if_pos (by omega), if_pos (by omega), wsucc (by omega)]
      exact if_neg (fun z => (neq_iff _ _).1 z he)
    · rw [decide_eq_false (ne_of_at he)]
      refine Ev.step (f := fun _ => some false) (fun k => ?_) (Ev.now _)
      simp only [impl_Node.l0, rdT]
      rw [if_pos (by omega), if_pos (by omega), if_pos (by omega), if_pos (by omega)]
      exact if_pos ((neq_iff _ _).2 he)
theorem eq_loop (x : List S46) (hb : x.length ≤ 4000000000000000000) : ∀ (d i : Nat), i + d = x.length → Ev (fun k => laws_eqNodeS.l0 k x x (i : Int)) true := by
  intro d
  induction d with
  | zero =>
    intro i hd
    refine Ev.step (f := fun _ => some true) (fun k => ?_) (Ev.now _)
    simp only [laws_eqNodeS.l0]; rw [if_neg (by omega)]
  | succ d ih =>
    intro i hd
    refine Ev.step (fun k => ?_) (ih (i + 1) (by omega))
    simp only [laws_eqNodeS.l0, laws_eqNode.f, if_true]
    rw [if_pos (by omega), if_pos (by omega), if_pos (by omega), wsucc (by omega)]; rfl
theorem set_mid {α : Type} {l r : List α} {x v : α} {i : Nat} (h : l.length = i) : (l ++ x :: r).set i v = l ++ v :: r := by
  rw [List.set_append_right _ _ (by omega), show i - l.length = 0 by omega, List.set_cons_zero]
theorem to_loop (x : List S79) (hb : x.length ≤ 1048576) : ∀ (d i : Nat), i + d = x.length → Ev (fun k => laws_toNodeS.l0 k x ((x.take i).map cv ++ List.replicate d z46) (i : Int)) (x.map cv) := by
  intro d
  induction d with
  | zero =>
    intro i hd
    rw [List.take_of_length_le (by omega), List.replicate_zero, List.append_nil]
    refine Ev.step (f := fun _ => some (x.map cv)) (fun k => ?_) (Ev.now _)
    simp only [laws_toNodeS.l0]; rw [if_neg (by omega)]
  | succ d ih =>
    intro i hd
    have hi : i < x.length := by omega
    have ht : (x.take i).length = i := by rw [List.length_take]; omega
    have e : (x.take (i + 1)).map cv = (x.take i).map cv ++ [cv (x[i]?.getD z79)] := by
      rw [List.take_add_one, List.getElem?_eq_getElem hi, List.map_append]; rfl
    refine Ev.step (fun k => ?_) (ih (i + 1) (by omega))
    simp only [laws_toNodeS.l0, laws_toNode.f, rdL, Option.bind_some, Int.toNat_natCast]
    rw [if_pos (by omega), if_pos (by omega), if_pos (by simp; omega), wsucc (by omega), List.replicate_succ, set_mid (by simp; omega), e, List.append_assoc]; rfl
theorem toTape_ev (x : List S79) (a : Int) (hb : x.length ≤ 1048576) : Ev (fun k => laws_toTape.f k x a) (x.map cv, a) := by
  obtain ⟨K, e⟩ := to_loop x hb x.length 0 (by omega)
  refine ⟨K, fun k hk => ?_⟩
  have e' := e k hk
  simp only [List.take_zero, List.map_nil, List.nil_append] at e'
  show laws_toTape.f k x a = _
  unfold laws_toTape.f laws_toNodeS.f
  rw [if_pos (by omega), if_pos (by omega), Int.toNat_natCast]
  have e0 : ((0 : Nat) : Int) = 0 := rfl
  rw [e0] at e'
  rw [e']; rfl
theorem eqTape_ev (x : List S46) (a : Int) (hb : x.length ≤ 1048576) : Ev (fun k => laws_eqTape.f k x a x a) true := by
  obtain ⟨K, e⟩ := eq_loop x (by omega) x.length 0 (by omega)
  refine ⟨K, fun k hk => ?_⟩
  have e' := e k hk
  simp only at e'
  have e0 : ((0 : Nat) : Int) = 0 := rfl
  rw [e0] at e'
  show laws_eqTape.f k x a x a = _
  unfold laws_eqTape.f laws_eqNodeS.f
  rw [if_pos rfl, e', Option.bind_some, if_pos rfl, if_pos rfl]
def sameAns (x : List S46) (a : Int) (y : List S46) (b : Int) : Bool := if a = b then (if (x.length : Int) = (y.length : Int) then decide (x = y) else false) else false
theorem spec_ev (x : List S46) (a : Int) (y : List S46) (b : Int) (hb : x.length ≤ 1048576) : Ev (fun k => spec_SameTape.f k x a y b) (sameAns x a y b) := by
  unfold sameAns
  by_cases h : a = b
  · by_cases hl : (x.length : Int) = (y.length : Int)
    · obtain ⟨K, e⟩ := spec_loop x y (by omega) (by omega) x.length 0 (by omega) (by simp)
      refine ⟨K, fun k hk => ?_⟩
      have e' := e k hk
      simp only at e'
      have e0 : ((0 : Nat) : Int) = 0 := rfl
      rw [e0] at e'
      show spec_SameTape.f k x a y b = _
      unfold spec_SameTape.f spec_l05Same.f
      rw [if_pos h, if_pos hl, if_pos h, if_pos hl, e', Option.bind_some]
    · refine ⟨0, fun k hk => ?_⟩
      show spec_SameTape.f k x a y b = _
      unfold spec_SameTape.f spec_l05Same.f
      rw [if_pos h, if_neg hl, if_pos h, if_neg hl, Option.bind_some]
  · refine ⟨0, fun k hk => ?_⟩
    show spec_SameTape.f k x a y b = _
    unfold spec_SameTape.f
    rw [if_neg h, if_neg h]
theorem impl_ev (x : List S46) (a : Int) (y : List S46) (b : Int) (hb : x.length ≤ 1048576) : Ev (fun k => impl_SameTape.f k x a y b) (sameAns x a y b) := by
  unfold sameAns
  by_cases h : a = b
  · by_cases hl : (x.length : Int) = (y.length : Int)
    · obtain ⟨K, e⟩ := impl_loop x y (by omega) (by omega) x.length 0 (by omega) (by simp)
      refine ⟨K, fun k hk => ?_⟩
      have e' := e k hk
      simp only at e'
      have e0 : ((0 : Nat) : Int) = 0 := rfl
      rw [e0] at e'
      show impl_SameTape.f k x a y b = _
      unfold impl_SameTape.f impl_Node.f
      rw [if_pos h, if_pos hl, if_pos h, if_pos hl, e', Option.bind_some]
    · refine ⟨0, fun k hk => ?_⟩
      show impl_SameTape.f k x a y b = _
      unfold impl_SameTape.f impl_Node.f
      rw [if_pos h, if_neg hl, if_pos h, if_neg hl, Option.bind_some]
  · refine ⟨0, fun k hk => ?_⟩
    show impl_SameTape.f k x a y b = _
    unfold impl_SameTape.f
    rw [if_neg h, if_neg h]
def szT (n : Nat) (left : Int) : Int := if left - n < 0 then -1 else left - n
theorem szT_f (x : List S79) (a left : Int) (hl : 0 ≤ left ∧ left ≤ 1048576) (hn : x.length ≤ maxLen) : laws_szTape.f x a left = some (szT x.length left) := by
  simp only [maxLen] at hn
  unfold laws_szTape.f laws_szNodeS.f szT
  rw [wrap_in (x := left - x.length) (by omega) (by omega)]
  by_cases h1 : left - (x.length : Int) < 0
  · rw [if_pos h1, if_pos h1]; rfl
  · rw [if_neg h1, if_neg h1, Option.bind_some, if_neg h1]
theorem FnExactSameTape : laws_FnExactSameTape.Pure := by
  intro x a y b ⟨⟨h1, _⟩, _⟩ ⟨⟨h2, _⟩, _⟩
  have z1 := szT_f x a 1048576 (by omega) h1
  by_cases hbig : szT x.length 1048576 < 0
  · exact ⟨0, by unfold laws_FnExactSameTape.f; rw [z1, Option.bind_some, if_pos hbig]⟩
  have hl : x.length ≤ 1048576 ∧ 0 ≤ szT x.length 1048576 ∧ szT x.length 1048576 ≤ 1048576 := by
    unfold szT at hbig ⊢; split at hbig <;> (rename_i q; simp only [q, if_true, if_false]; omega)
  have z2 := szT_f y b (szT x.length 1048576) hl.2 h2
  by_cases hbig2 : szT y.length (szT x.length 1048576) < 0
  · exact ⟨0, by unfold laws_FnExactSameTape.f; rw [z1, Option.bind_some, if_neg hbig, z2, Option.bind_some, if_pos hbig2]⟩
  have hl2 : y.length ≤ 1048576 := by
    generalize szT x.length 1048576 = q at *
    unfold szT at hbig2; split at hbig2 <;> omega
  obtain ⟨K0, e0⟩ := toTape_ev x a hl.1
  obtain ⟨K1, e1⟩ := toTape_ev y b hl2
  obtain ⟨K2, e2⟩ := spec_ev (x.map cv) a (y.map cv) b (by simp; omega)
  obtain ⟨K3, e3⟩ := impl_ev (x.map cv) a (y.map cv) b (by simp; omega)
  obtain ⟨K4, e4⟩ := eqTape_ev (x.map cv) a (by simp; omega)
  obtain ⟨K5, e5⟩ := eqTape_ev (y.map cv) b (by simp; omega)
  obtain ⟨K, hK⟩ : ∃ K, K = K0 + K1 + K2 + K3 + K4 + K5 := ⟨_, rfl⟩
  generalize sameAns (x.map cv) a (y.map cv) b = r at e2 e3
  refine ⟨K, ?_⟩
  have e0' := e0 K (by omega)
  have e1' := e1 K (by omega)
  have e2' := e2 K (by omega)
  have e3' := e3 K (by omega)
  have e4' := e4 K (by omega)
  have e5' := e5 K (by omega)
  simp only at e0' e1' e2' e3' e4' e5'
  unfold laws_FnExactSameTape.f
  rw [z1, Option.bind_some, if_neg hbig, z2, Option.bind_some, if_neg hbig2]
  simp only [e0', e1', e2', e3', e4', e5', Option.bind_some, bne_self_eq_false, Bool.false_eq_true, if_false, if_true]

end Go.Proofs.Ytbgaodfnhbbgdaa.Pure
