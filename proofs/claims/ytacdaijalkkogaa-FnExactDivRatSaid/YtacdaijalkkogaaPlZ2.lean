import Derived.Test.YtacdaijalkkogaaPlY
namespace Go.Proofs.Ytacdaijalkkogaa.Pl
open Go.RowKit Go.Proofs.Ytacdaijalkkogaa.Q Go.Proofs.Ytacdaijalkkogaa.Pn Go.Proofs.YtacdaijalkkogaaW.PrintWords Go.Proofs.YtacdaijalkkogaaW.PrintLast Go.Proofs.YtacdaijalkkogaaW.PrintMore
set_option linter.unusedVariables false
set_option linter.unusedSimpArgs false

theorem ask_ev (b : Bool) (n d : List Int) (b' : Bool) (n' d' : List Int) (h1 : n.length ≤ 1048576) (h2 : d.length ≤ 1048576) (h3 : n'.length ≤ 1048576) (h4 : d'.length ≤ 1048576) : Ev (fun k => spec_l02Ask.f k b n d b' n' d') (ratOKB (b, n, d) && ratOKB (b', n', d')) := by
  obtain ⟨K, e⟩ := specRatOK_ev b n d h1 h2
  obtain ⟨K1, e1⟩ := specRatOK_ev b' n' d' h3 h4
  refine ⟨K + K1, fun k hk => ?_⟩
  have e' := e k (by omega)
  have e1' := e1 k (by omega)
  simp only at e' e1'
  show spec_l02Ask.f k b n d b' n' d' = _
  unfold spec_l02Ask.f
  rw [e', Option.bind_some]
  cases ratOKB (b, n, d) with
  | false => rfl
  | true => rw [if_pos rfl, e1']; rfl
theorem ok_sm {r : R3} (h : ratOKB r = true) : Sm 40 r := ((ratOKB_iff r).1 h).1.sm ((ratOKB_iff r).1 h).2.1 ((ratOKB_iff r).1 h).2.2
theorem fit_tail (z : R3) : ((impl_fullRat.f z.1 z.2.1 z.2.2).bind fun t => some (t.1, t.2.1, t.2.2.1, t.2.2.2)) = some (fit4 z) := by rw [fullRat_f, Option.bind_some]
theorem fitR_tail (z : R3) : ((spec_l02Fit.f z.1 z.2.1 z.2.2).bind fun t => some (t.1, t.2.1, t.2.2.1, t.2.2.2)) = some (fit4 z) := by rw [l02Fit_f, Option.bind_some]
end Go.Proofs.Ytacdaijalkkogaa.Pl
