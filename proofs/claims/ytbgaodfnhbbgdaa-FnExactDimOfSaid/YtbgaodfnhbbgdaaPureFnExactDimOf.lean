/-
The Go program's DimOf returns what the reference's returns, for all expressions; it leaves its arguments alone: the law FnExactDimOf holds. Conditions: those of the given row alone.
-/
import Derived.Test.YtbgaodfnhbbgdaaPtE
import Derived.Test.YtbgaodfnhbbgdaaQxlawsFnExactDimOf
namespace Go.Proofs.Ytbgaodfnhbbgdaa.Pure
open Go.RowKit Go.Proofs.Ytbgaodfnhbbgdaa.Q Go.Proofs.Ytbgaodfnhbbgdaa.Pt Go.Proofs.YtbgaodfnhbbgdaaW.PrintWords Go.Proofs.YtbgaodfnhbbgdaaW.PrintLast Go.Proofs.YtbgaodfnhbbgdaaW.PrintMore
set_option linter.unusedVariables false
set_option linter.unusedSimpArgs false

theorem code_ev (x : List S46) : Ev (fun k => impl_exprCode.f k x) (if exAns x = true then 0 else 1) := by
  refine Ev.bind (f := fun _ t => (impl_unless.f t 1).bind fun u => some u) (impl_ex_ev x) ?_
  unfold impl_unless.f
  by_cases h : exAns x = true
  · rw [if_pos h]; exact Ev.congr (fun k => by rw [if_pos h]; rfl) (Ev.now _)
  · rw [if_neg h]; exact Ev.congr (fun k => by rw [if_neg h]; rfl) (Ev.now _)
def dimAns (x : List S46) : Nat → Nat → Int → Int
  | 0, _, c => c
  | d + 1, i, c => dimAns x d (i + 1) (if (x[i]?.getD z46).f0 = 2 then mx c (wrap64 ((x[i]?.getD z46).f3 + 1)) else c)
theorem spec_dim (x : List S46) (hb : x.length ≤ 1048576) : ∀ (d i : Nat) (c : Int), i + d = x.length → Ev (fun k => spec_l05Dim.l0 k c (i : Int) x) (dimAns x d i c) := by
  intro d
  induction d with
  | zero =>
    intro i c hd
    refine ev_const fun k => ?_
    rw [spec_l05Dim.l0, if_neg (by omega)]; rfl
  | succ d ih =>
    intro i c hd
    refine Ev.step (fun k => ?_) (ih (i + 1) _ (by omega))
    rw [spec_l05Dim.l0, if_pos (by omega), if_pos (by omega), rdT, wsucc (by omega)]
    split <;> rfl
theorem impl_dim (x : List S46) (hb : x.length ≤ 1048576) : ∀ (d i : Nat) (c : Int), i + d = x.length → Ev (fun k => impl_dimOf.l0 k c x (x.length : Int) (i : Int)) (dimAns x d i c) := by
  intro d
  induction d with
  | zero =>
    intro i c hd
    refine ev_const fun k => ?_
    rw [impl_dimOf.l0, if_neg (by omega)]; rfl
  | succ d ih =>
    intro i c hd
    refine Ev.step (fun k => ?_) (ih (i + 1) _ (by omega))
    rw [impl_dimOf.l0, if_pos (by omega), if_pos (by omega), if_pos (by omega), rdT, wsucc (by omega)]
    split <;> rfl
theorem both_ev (x : List S46) (hb : x.length ≤ 1048576) : ∃ r, Ev (fun k => spec_DimOf.f k x) r ∧ Ev (fun k => impl_DimOf.f k x) r := by
  refine ⟨if exAns x = true then (dimAns x x.length 0 0, 0) else (0, 1), ?_, ?_⟩
  · refine Ev.bind (f := fun k t => if t = true then (spec_l05Dim.f k x).bind (fun t => some (t, 0)) else some (0, 1)) (spec_ex_ev x) ?_
    by_cases h : exAns x = true
    · rw [if_pos h]
      exact Ev.congr (fun k => if_pos h) (Ev.bind (f := fun _ t => some (t, 0)) (spec_dim x hb x.length 0 0 (by omega)) (Ev.now _))
    · rw [if_neg h]; exact Ev.congr (fun k => if_neg h) (Ev.now _)
  · refine Ev.bind (f := fun k t => if t = 0 then (impl_dimOf.f k x).bind (fun t => some (t, 0)) else some (0, t)) (code_ev x) ?_
    by_cases h : exAns x = true
    · rw [if_pos h, if_pos h]
      exact Ev.congr (fun k => if_pos rfl) (Ev.bind (f := fun _ t => some (t, 0)) (impl_dim x hb x.length 0 0 (by omega)) (Ev.now _))
    · rw [if_neg h, if_neg h]; exact Ev.congr (fun k => if_neg (by decide)) (Ev.now _)
theorem FnExactDimOf : laws_FnExactDimOf.Pure := by
  intro x ⟨h1, _⟩
  have z1 := szExpr_f x 1048576 (by omega) h1
  by_cases hbig : szT x.length 1048576 < 0
  · exact ⟨0, by unfold laws_FnExactDimOf.f; rw [z1, Option.bind_some, if_pos hbig]⟩
  have hl := szT_in (by omega) hbig
  obtain ⟨K0, e0⟩ := toExpr_ev x hl.1
  obtain ⟨r, e2, e3⟩ := both_ev (x.map cv) (by simp; omega)
  obtain ⟨K2, e2⟩ := e2
  obtain ⟨K3, e3⟩ := e3
  obtain ⟨K4, e4⟩ := eqExpr_ev (x.map cv) (by simp; omega)
  obtain ⟨K, hK⟩ : ∃ K, K = K0 + K2 + K3 + K4 := ⟨_, rfl⟩
  refine ⟨K + 1, ?_⟩
  have e0' := e0 (K + 1) (by omega)
  have e0'' := e0 K (by omega)
  have e2' := e2 (K + 1) (by omega)
  have e3' := e3 (K + 1) (by omega)
  have e4' := e4 K (by omega)
  simp only at e0' e0'' e2' e3' e4'
  unfold laws_FnExactDimOf.f
  rw [z1, Option.bind_some, if_neg hbig]
  simp only [e0', e2', e3', Option.bind_some, bne_self_eq_false, if_true]
  rw [laws_FnExactDimOf.j0]
  simp only [e0'', e4', Option.bind_some, Bool.false_eq_true, if_false, if_true]

end Go.Proofs.Ytbgaodfnhbbgdaa.Pure
