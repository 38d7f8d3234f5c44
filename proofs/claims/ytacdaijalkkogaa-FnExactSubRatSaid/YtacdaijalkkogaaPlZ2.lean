import Derived.Test.YtacdaijalkkogaaPlY
namespace Go.Proofs.Ytacdaijalkkogaa.Pl
open Go.RowKit Go.Proofs.Ytacdaijalkkogaa.Q Go.Proofs.Ytacdaijalkkogaa.Pn Go.Proofs.YtacdaijalkkogaaW.PrintWords Go.Proofs.YtacdaijalkkogaaW.PrintLast Go.Proofs.YtacdaijalkkogaaW.PrintMore
set_option linter.unusedVariables false
set_option linter.unusedSimpArgs false

theorem ask_ev (b : Bool) (n d : List Int) (b' : Bool) (n' d' : List Int) (h1 : n.length ≤ 1048576) (h2 : d.length ≤ 1048576) (h3 : n'.length ≤ 1048576) (h4 : d'.length ≤ 1048576) : Ev (fun k => spec_l02Ask.f k b n d b' n' d') (ratOKB (b, n, d) && ratOKB (b', n', d')) := by
 obtain ⟨K, e⟩ := specRatOK_ev b n d h1 h2
 obtain ⟨K1, e1⟩ := specRatOK_ev b' n' d' h3 h4
 refine ⟨K + K1, fun k hk => ?_⟩
 have e' := e k (by omega)
 have e1' := e1 k (by omega)
 simp only at e' e1'
 show spec_l02Ask.f k b n d b' n' d' = _
 unfold spec_l02Ask.f
 rw [e', Option.bind_some]
 cases ratOKB (b, n, d) with
 | false => rfl
 | true => rw [if_pos rfl, e1']; rfl
theorem ok_sm {r : R3} (h : ratOKB r = true) : Sm 40 r := ((ratOKB_iff r).1 h).1.sm ((ratOKB_iff r).1 h).2.1 ((ratOKB_iff r).1 h).2.2
def twoAns (op : R3 → R3 → R3) (r s : R3) : R4 := if ratOKB r = true ∧ ratOKB s = true then fit4 (op r s) else bad4 1
theorem twoAns_len (op : R3 → R3 → R3) (r s : R3) : (twoAns op r s).2.1.length ≤ 40 ∧ (twoAns op r s).2.2.1.length ≤ 40 := by
 unfold twoAns
 split
 ·
  exact fit4_len _
 ·
  simp [bad4]
theorem fit_tail (z : R3) : ((impl_fullRat.f z.1 z.2.1 z.2.2).bind fun t => some (t.1, t.2.1, t.2.2.1, t.2.2.2)) = some (fit4 z) := by rw [fullRat_f, Option.bind_some]
theorem fitR_tail (z : R3) : ((spec_l02Fit.f z.1 z.2.1 z.2.2).bind fun t => some (t.1, t.2.1, t.2.2.1, t.2.2.2)) = some (fit4 z) := by rw [l02Fit_f, Option.bind_some]
theorem ev_two {op : R3 → R3 → R3} {r s : R3} {code : Nat → Option Int} {g : Nat → Option R3} (e : Ev code (if ratOKB r = true ∧ ratOKB s = true then 0 else 1)) (h : ratOKB r = true → ratOKB s = true → Ev g (op r s)) :
  Ev (fun k => (code k).bind fun t => if t = 0 then (g k).bind (fun z => (impl_fullRat.f z.1 z.2.1 z.2.2).bind fun t => some (t.1, t.2.1, t.2.2.1, t.2.2.2)) else some (false, ([] : List Int), ([] : List Int), t)) (twoAns op r s) := by
 refine Ev.bind (f := fun k t => if t = 0 then (g k).bind (fun z => (impl_fullRat.f z.1 z.2.1 z.2.2).bind fun t => some (t.1, t.2.1, t.2.2.1, t.2.2.2)) else some (false, ([] : List Int), ([] : List Int), t)) e ?_
 unfold twoAns
 by_cases c : ratOKB r = true ∧ ratOKB s = true
 ·
  rw [if_pos c, if_pos c]
  refine Ev.congr (fun k => if_pos rfl) (Ev.bind (f := fun _ z => (impl_fullRat.f z.1 z.2.1 z.2.2).bind fun t => some (t.1, t.2.1, t.2.2.1, t.2.2.2)) (h c.1 c.2) ?_)
  exact Ev.congr (fun k => fit_tail _) (Ev.now _)
 ·
  rw [if_neg c, if_neg c]
  exact Ev.congr (fun k => if_neg (by decide)) (Ev.now _)
theorem ev_twoR {op : R3 → R3 → R3} {r s : R3} {ask : Nat → Option Bool} {g : Nat → Option R3} (e : Ev ask (ratOKB r && ratOKB s)) (h : ratOKB r = true → ratOKB s = true → Ev g (op r s)) :
  Ev (fun k => (ask k).bind fun t => if t = true then (g k).bind (fun z => (spec_l02Fit.f z.1 z.2.1 z.2.2).bind fun t => some (t.1, t.2.1, t.2.2.1, t.2.2.2)) else some (false, ([] : List Int), ([] : List Int), 1)) (twoAns op r s) := by
 refine Ev.bind (f := fun k t => if t = true then (g k).bind (fun z => (spec_l02Fit.f z.1 z.2.1 z.2.2).bind fun t => some (t.1, t.2.1, t.2.2.1, t.2.2.2)) else some (false, ([] : List Int), ([] : List Int), 1)) e ?_
 unfold twoAns
 by_cases c : ratOKB r = true ∧ ratOKB s = true
 ·
  rw [if_pos c, c.1, c.2]
  refine Ev.congr (fun k => if_pos rfl) (Ev.bind (f := fun _ z => (spec_l02Fit.f z.1 z.2.1 z.2.2).bind fun t => some (t.1, t.2.1, t.2.2.1, t.2.2.2)) (h c.1 c.2) ?_)
  exact Ev.congr (fun k => fitR_tail _) (Ev.now _)
 ·
  rw [if_neg c]
  exact Ev.congr (fun k => if_neg (by simp only [Bool.and_eq_true]; exact c)) (Ev.now _)
end Go.Proofs.Ytacdaijalkkogaa.Pl
