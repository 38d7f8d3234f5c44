/-
The Go program's ExprOK returns what the reference's returns, for all expressions; it leaves its arguments alone: the law FnExactExprOK holds. Conditions: those of the given row alone.
-/
import Derived.Test.YtbgaodfnhbbgdaaPtE
import Derived.Test.YtbgaodfnhbbgdaaQxlawsFnExactExprOK
namespace Go.Proofs.Ytbgaodfnhbbgdaa.Pure
open Go.RowKit Go.Proofs.Ytbgaodfnhbbgdaa.Q Go.Proofs.Ytbgaodfnhbbgdaa.Pt Go.Proofs.YtbgaodfnhbbgdaaW.PrintWords Go.Proofs.YtbgaodfnhbbgdaaW.PrintLast Go.Proofs.YtbgaodfnhbbgdaaW.PrintMore
set_option linter.unusedVariables false
set_option linter.unusedSimpArgs false

theorem FnExactExprOK : laws_FnExactExprOK.Pure := by
  intro x ⟨h1, _⟩
  have z1 := szExpr_f x 1048576 (by omega) h1
  by_cases hbig : szT x.length 1048576 < 0
  · exact ⟨0, by unfold laws_FnExactExprOK.f; rw [z1, Option.bind_some, if_pos hbig]⟩
  have hl := szT_in (by omega) hbig
  obtain ⟨K0, e0⟩ := toExpr_ev x hl.1
  obtain ⟨K2, e2⟩ := spec_ex_ev (x.map cv)
  obtain ⟨K3, e3⟩ := impl_ex_ev (x.map cv)
  obtain ⟨K4, e4⟩ := eqExpr_ev (x.map cv) (by simp; omega)
  obtain ⟨K, hK⟩ : ∃ K, K = K0 + K2 + K3 + K4 := ⟨_, rfl⟩
  generalize exAns (x.map cv) = r at e2 e3
  refine ⟨K, ?_⟩
  have e0' := e0 K (by omega)
  have e2' := e2 K (by omega)
  have e3' := e3 K (by omega)
  have e4' := e4 K (by omega)
  simp only at e0' e2' e3' e4'
  unfold laws_FnExactExprOK.f
  rw [z1, Option.bind_some, if_neg hbig]
  simp only [e0', e2', e3', e4', Option.bind_some, bne_self_eq_false, Bool.false_eq_true, if_false, if_true]

end Go.Proofs.Ytbgaodfnhbbgdaa.Pure
