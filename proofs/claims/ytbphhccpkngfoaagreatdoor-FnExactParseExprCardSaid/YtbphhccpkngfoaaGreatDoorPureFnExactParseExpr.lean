/-
The program's ParseExpr tells what the reference's tells, whatever the text. Conditions: none.
-/
import Derived.Test.YtbphhccpkngfoaaGreatDoorPwC
import Derived.Test.YtbphhccpkngfoaaGreatDoorPwD
import Derived.Test.YtbphhccpkngfoaaGreatDoorQxlawsFnExactParseExpr
namespace Go.Proofs.YtbphhccpkngfoaaGreatDoor.Pure
open Go.RowKit Go.Proofs.YtbphhccpkngfoaaGreatDoor.Q Go.Proofs.YtbphhccpkngfoaaGreatDoor.Pl Go.Proofs.YtbphhccpkngfoaaGreatDoorW.PrintWords Go.Proofs.YtbphhccpkngfoaaGreatDoorW.PrintLast
set_option linter.unusedVariables false
set_option linter.unusedSimpArgs false

theorem FnExactParseExpr : laws_FnExactParseExpr.Pure := by
  intro a0 h0
  refine Ev.rounds (g := fun k => laws_FnExactParseExpr.f k a0) ?_
  by_cases hs : (a0.size : Int) > 1048576
  · refine Ev.congr (fun k => ?_) (Ev.now _)
    unfold laws_FnExactParseExpr.f
    rw [if_pos hs]
  · obtain ⟨r, hr, e1, e2⟩ := Parse_both a0
    have eq := Pt.eqExpr_ev r.1 (by omega)
    have mk := Pt.markE_ev r.1 (by omega)
    have hd := Pt.heldE_ev r.1.length (by omega)
    have hne : (r.2 != r.2) = false := by simp
    refine Ev.congr (f := fun k => (spec_ParseExpr.f k a0).bind fun bt338 => ((impl_ParseExpr.f k a0).bind fun bt343 => ((laws_eqExpr.f k bt343.1 bt338.1).bind fun t348 => (if t348 = true then (laws_FnExactParseExpr.j0 k a0 bt338.2 (bt343.2 != bt338.2) bt338.1 bt343.1) else (laws_FnExactParseExpr.j0 k a0 bt338.2 true bt338.1 bt343.1))))) (fun k => by unfold laws_FnExactParseExpr.f; rw [if_neg hs]) ?_
    refine Ev.bind (f := fun k bt338 => ((impl_ParseExpr.f k a0).bind fun bt343 => ((laws_eqExpr.f k bt343.1 bt338.1).bind fun t348 => (if t348 = true then (laws_FnExactParseExpr.j0 k a0 bt338.2 (bt343.2 != bt338.2) bt338.1 bt343.1) else (laws_FnExactParseExpr.j0 k a0 bt338.2 true bt338.1 bt343.1))))) e1 ?_
    refine Ev.bind (f := fun k bt343 => ((laws_eqExpr.f k bt343.1 r.1).bind fun t348 => (if t348 = true then (laws_FnExactParseExpr.j0 k a0 r.2 (bt343.2 != r.2) r.1 bt343.1) else (laws_FnExactParseExpr.j0 k a0 r.2 true r.1 bt343.1)))) e2 ?_
    refine Ev.bind (f := fun k t348 => (if t348 = true then (laws_FnExactParseExpr.j0 k a0 r.2 (r.2 != r.2) r.1 r.1) else (laws_FnExactParseExpr.j0 k a0 r.2 true r.1 r.1))) eq ?_
    refine Ev.congr (f := fun k => laws_FnExactParseExpr.j0 k a0 r.2 false r.1 r.1) (fun k => by rw [if_pos rfl, hne]) ?_
    refine Ev.step (f := fun k => (laws_markExpr.f k r.1 1).bind fun bt349 => ((laws_heldExpr.f k bt349.2 1).bind fun t351 => (if t351 < 0 then (some false) else (if t351 = bt349.1 then ((impl_ParseExpr.f k a0).bind fun bt352 => ((laws_eqExpr.f k bt352.1 r.1).bind fun t357 => (if t357 = true then (laws_FnExactParseExpr.j1 k bt349.1 (bt352.2 != r.2) bt349.2) else (laws_FnExactParseExpr.j1 k bt349.1 true bt349.2)))) else (some false))))) (fun k => by rw [laws_FnExactParseExpr.j0, if_neg (by decide)]) ?_
    refine Ev.bind (f := fun k bt349 => ((laws_heldExpr.f k bt349.2 1).bind fun t351 => (if t351 < 0 then (some false) else (if t351 = bt349.1 then ((impl_ParseExpr.f k a0).bind fun bt352 => ((laws_eqExpr.f k bt352.1 r.1).bind fun t357 => (if t357 = true then (laws_FnExactParseExpr.j1 k bt349.1 (bt352.2 != r.2) bt349.2) else (laws_FnExactParseExpr.j1 k bt349.1 true bt349.2)))) else (some false))))) mk ?_
    refine Ev.bind (f := fun k t351 => (if t351 < 0 then (some false) else (if t351 = 1 + 4 * (r.1.length : Int) then ((impl_ParseExpr.f k a0).bind fun bt352 => ((laws_eqExpr.f k bt352.1 r.1).bind fun t357 => (if t357 = true then (laws_FnExactParseExpr.j1 k (1 + 4 * (r.1.length : Int)) (bt352.2 != r.2) (Pt.marks r.1.length)) else (laws_FnExactParseExpr.j1 k (1 + 4 * (r.1.length : Int)) true (Pt.marks r.1.length))))) else (some false)))) hd ?_
    refine Ev.congr (f := fun k => (impl_ParseExpr.f k a0).bind fun bt352 => ((laws_eqExpr.f k bt352.1 r.1).bind fun t357 => (if t357 = true then (laws_FnExactParseExpr.j1 k (1 + 4 * (r.1.length : Int)) (bt352.2 != r.2) (Pt.marks r.1.length)) else (laws_FnExactParseExpr.j1 k (1 + 4 * (r.1.length : Int)) true (Pt.marks r.1.length))))) (fun k => by rw [if_neg (by omega), if_pos rfl]) ?_
    refine Ev.bind (f := fun k bt352 => ((laws_eqExpr.f k bt352.1 r.1).bind fun t357 => (if t357 = true then (laws_FnExactParseExpr.j1 k (1 + 4 * (r.1.length : Int)) (bt352.2 != r.2) (Pt.marks r.1.length)) else (laws_FnExactParseExpr.j1 k (1 + 4 * (r.1.length : Int)) true (Pt.marks r.1.length))))) e2 ?_
    refine Ev.bind (f := fun k t357 => (if t357 = true then (laws_FnExactParseExpr.j1 k (1 + 4 * (r.1.length : Int)) (r.2 != r.2) (Pt.marks r.1.length)) else (laws_FnExactParseExpr.j1 k (1 + 4 * (r.1.length : Int)) true (Pt.marks r.1.length)))) eq ?_
    refine Ev.congr (f := fun k => laws_FnExactParseExpr.j1 k (1 + 4 * (r.1.length : Int)) false (Pt.marks r.1.length)) (fun k => by rw [if_pos rfl, hne]) ?_
    refine Ev.step (f := fun k => (laws_heldExpr.f k (Pt.marks r.1.length) 1).bind fun t358 => (if t358 < 0 then (some false) else (if t358 = 1 + 4 * (r.1.length : Int) then (some true) else (some false)))) (fun k => by rw [laws_FnExactParseExpr.j1, if_neg (by decide)]) ?_
    refine Ev.bind (f := fun _ t358 => (if t358 < 0 then (some false) else (if t358 = 1 + 4 * (r.1.length : Int) then (some true) else (some false)))) hd ?_
    refine Ev.congr (fun k => ?_) (Ev.now _)
    rw [if_neg (by omega), if_pos rfl]
end Go.Proofs.YtbphhccpkngfoaaGreatDoor.Pure
