/-
The program's Lex tells what the reference's tells, whatever the text. Conditions: none.
-/
import Derived.Test.YtbhbofmfklimoaaDoorPxB
import Derived.Test.YtbhbofmfklimoaaDoorPxC
import Derived.Test.YtbhbofmfklimoaaDoorQxlawsFnExactLex
namespace Go.Proofs.YtbhbofmfklimoaaDoor.Pure
open Go.RowKit Go.Proofs.YtbhbofmfklimoaaDoor.Q Go.Proofs.YtbhbofmfklimoaaDoor.Pl Go.Proofs.YtbhbofmfklimoaaDoorW.PrintWords Go.Proofs.YtbhbofmfklimoaaDoorW.PrintLast
set_option linter.unusedVariables false
set_option linter.unusedSimpArgs false

theorem FnExactLex : laws_FnExactLex.Pure := by
  intro a0 h0
  refine Ev.rounds (g := fun k => laws_FnExactLex.f k a0) ?_
  by_cases hs : (a0.size : Int) > 1048576
  · refine Ev.congr (fun k => ?_) (Ev.now _)
    unfold laws_FnExactLex.f
    rw [if_pos hs]
  · obtain ⟨r, hr, e1, e2⟩ := Lex_both a0
    have eq := eqTokens_ev r.1 (by omega)
    have mk := mark_ev r.1 (by omega)
    have hd := held_ev r.1.length (by omega)
    have hne : (r.2 != r.2) = false := by simp
    refine Ev.congr (f := fun k => (spec_Lex.f k a0).bind fun bt226 => ((impl_Lex.f k a0).bind fun bt230 => ((laws_eqTokenS.f k bt230.1 bt226.1).bind fun t234 => (if t234 = true then (laws_FnExactLex.j0 k a0 bt226.1 bt226.2 bt230.1 (bt230.2 != bt226.2)) else (laws_FnExactLex.j0 k a0 bt226.1 bt226.2 bt230.1 true))))) (fun k => by unfold laws_FnExactLex.f; rw [if_neg hs]) ?_
    refine Ev.bind (f := fun k bt226 => ((impl_Lex.f k a0).bind fun bt230 => ((laws_eqTokenS.f k bt230.1 bt226.1).bind fun t234 => (if t234 = true then (laws_FnExactLex.j0 k a0 bt226.1 bt226.2 bt230.1 (bt230.2 != bt226.2)) else (laws_FnExactLex.j0 k a0 bt226.1 bt226.2 bt230.1 true))))) e1 ?_
    refine Ev.bind (f := fun k bt230 => ((laws_eqTokenS.f k bt230.1 r.1).bind fun t234 => (if t234 = true then (laws_FnExactLex.j0 k a0 r.1 r.2 bt230.1 (bt230.2 != r.2)) else (laws_FnExactLex.j0 k a0 r.1 r.2 bt230.1 true)))) e2 ?_
    refine Ev.bind (f := fun k t234 => (if t234 = true then (laws_FnExactLex.j0 k a0 r.1 r.2 r.1 (r.2 != r.2)) else (laws_FnExactLex.j0 k a0 r.1 r.2 r.1 true))) eq ?_
    refine Ev.congr (f := fun k => laws_FnExactLex.j0 k a0 r.1 r.2 r.1 false) (fun k => by rw [if_pos rfl, hne]) ?_
    refine Ev.step (f := fun k => (laws_markTokenS.f k r.1 1).bind fun bt235 => ((laws_heldTokenS.f k bt235.2 1).bind fun t237 => (if t237 < 0 then (some false) else (if t237 = bt235.1 then ((impl_Lex.f k a0).bind fun bt238 => ((laws_eqTokenS.f k bt238.1 r.1).bind fun t242 => (if t242 = true then (laws_FnExactLex.j1 k bt235.2 bt235.1 (bt238.2 != r.2)) else (laws_FnExactLex.j1 k bt235.2 bt235.1 true)))) else (some false))))) (fun k => by rw [laws_FnExactLex.j0, if_neg (by decide)]) ?_
    refine Ev.bind (f := fun k bt235 => ((laws_heldTokenS.f k bt235.2 1).bind fun t237 => (if t237 < 0 then (some false) else (if t237 = bt235.1 then ((impl_Lex.f k a0).bind fun bt238 => ((laws_eqTokenS.f k bt238.1 r.1).bind fun t242 => (if t242 = true then (laws_FnExactLex.j1 k bt235.2 bt235.1 (bt238.2 != r.2)) else (laws_FnExactLex.j1 k bt235.2 bt235.1 true)))) else (some false))))) mk ?_
    refine Ev.bind (f := fun k t237 => (if t237 < 0 then (some false) else (if t237 = 1 + 3 * (r.1.length : Int) then ((impl_Lex.f k a0).bind fun bt238 => ((laws_eqTokenS.f k bt238.1 r.1).bind fun t242 => (if t242 = true then (laws_FnExactLex.j1 k (marks r.1.length) (1 + 3 * (r.1.length : Int)) (bt238.2 != r.2)) else (laws_FnExactLex.j1 k (marks r.1.length) (1 + 3 * (r.1.length : Int)) true)))) else (some false)))) hd ?_
    refine Ev.congr (f := fun k => (impl_Lex.f k a0).bind fun bt238 => ((laws_eqTokenS.f k bt238.1 r.1).bind fun t242 => (if t242 = true then (laws_FnExactLex.j1 k (marks r.1.length) (1 + 3 * (r.1.length : Int)) (bt238.2 != r.2)) else (laws_FnExactLex.j1 k (marks r.1.length) (1 + 3 * (r.1.length : Int)) true)))) (fun k => by rw [if_neg (by omega), if_pos rfl]) ?_
    refine Ev.bind (f := fun k bt238 => ((laws_eqTokenS.f k bt238.1 r.1).bind fun t242 => (if t242 = true then (laws_FnExactLex.j1 k (marks r.1.length) (1 + 3 * (r.1.length : Int)) (bt238.2 != r.2)) else (laws_FnExactLex.j1 k (marks r.1.length) (1 + 3 * (r.1.length : Int)) true)))) e2 ?_
    refine Ev.bind (f := fun k t242 => (if t242 = true then (laws_FnExactLex.j1 k (marks r.1.length) (1 + 3 * (r.1.length : Int)) (r.2 != r.2)) else (laws_FnExactLex.j1 k (marks r.1.length) (1 + 3 * (r.1.length : Int)) true))) eq ?_
    refine Ev.congr (f := fun k => laws_FnExactLex.j1 k (marks r.1.length) (1 + 3 * (r.1.length : Int)) false) (fun k => by rw [if_pos rfl, hne]) ?_
    refine Ev.step (f := fun k => (laws_heldTokenS.f k (marks r.1.length) 1).bind fun t243 => (if t243 < 0 then (some false) else (if t243 = 1 + 3 * (r.1.length : Int) then (some true) else (some false)))) (fun k => by rw [laws_FnExactLex.j1, if_neg (by decide)]) ?_
    refine Ev.bind (f := fun _ t243 => (if t243 < 0 then (some false) else (if t243 = 1 + 3 * (r.1.length : Int) then (some true) else (some false)))) hd ?_
    refine Ev.congr (fun k => ?_) (Ev.now _)
    rw [if_neg (by omega), if_pos rfl]
end Go.Proofs.YtbhbofmfklimoaaDoor.Pure
