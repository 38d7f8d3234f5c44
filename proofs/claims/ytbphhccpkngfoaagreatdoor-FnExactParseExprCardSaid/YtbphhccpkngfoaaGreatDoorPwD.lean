/-
A text's expression: the program and the reference read the same one.
-/
import Derived.Test.YtbphhccpkngfoaaGreatDoorPwB
import Derived.Test.YtbphhccpkngfoaaGreatDoorPwE
import Derived.Test.YtbphhccpkngfoaaGreatDoorPyF
import Derived.Test.YtbphhccpkngfoaaGreatDoorQxParseExpr
namespace Go.Proofs.YtbphhccpkngfoaaGreatDoor.Pl
open Go.RowKit Go.Proofs.YtbphhccpkngfoaaGreatDoor.Q Go.Proofs.YtbphhccpkngfoaaGreatDoorW.PrintWords Go.Proofs.YtbphhccpkngfoaaGreatDoorW.PrintLast Go.Proofs.YtbphhccpkngfoaaGreatDoorW.PrintMore
set_option linter.unusedVariables false
set_option linter.unusedSimpArgs false

/-- The answer to tokens. -/
def parA (l : List S51) : List S49 × Int := match sumF (facF 12) l [] with
  | .error c => ([], c)
  | .ok (t, n, _) => if t.length = 0 then (if n.length ≤ 60 then (if Pt.exAns n = true then (n, 0) else ([], 12)) else ([], 6)) else ([], 3)
theorem parA_len (l : List S51) : (parA l).1.length ≤ 60 := by
  unfold parA
  split
  · simp
  · split
    · split
      · split
        · assumption
        · simp
      · simp
    · simp
theorem parT_ev (ok : Nat → List S49 → Option Bool) (h : ∀ n, Ev (fun k => ok k n) (Pt.exAns n)) (l : List S51) : Ev (fun k => parT (ok k) l) (parA l) := by
  unfold parT parA
  cases sumF (facF 12) l [] with
  | error c => exact Ev.now _
  | ok r =>
    obtain ⟨t, n, o⟩ := r
    dsimp only
    by_cases ht : t.length = 0
    · by_cases hn : n.length ≤ 60
      · refine Ev.congr (f := fun k => (ok k n).bind fun b => if b = true then some (n, 0) else some ([], 12)) (fun k => by rw [if_pos ht, if_pos hn]) ?_
        rw [if_pos ht, if_pos hn]
        refine Ev.bind (f := fun _ b => if b = true then some (n, 0) else some ([], 12)) (h n) ?_
        cases Pt.exAns n with
        | true => exact Ev.now _
        | false => exact Ev.now _
      · refine Ev.congr (f := fun _ => some ([], 6)) (fun k => by rw [if_pos ht, if_neg hn]) ?_
        rw [if_pos ht, if_neg hn]
        exact Ev.now _
    · refine Ev.congr (f := fun _ => some ([], 3)) (fun k => by rw [if_neg ht]) ?_
      rw [if_neg ht]
      exact Ev.now _
theorem tkb_of {l : List S51} (h : l.length ≤ 400 ∧ ∀ x ∈ l, Tk1 x) : tkb l = true := by
  simp only [tkb, Bool.and_eq_true, List.all_eq_true, Bool.or_eq_true, beq_iff_eq, decide_eq_true_eq]
  exact ⟨by omega, h.2⟩
def ansT (r : List S51 × Int) : List S49 × Int := if r.2 = 0 then parA r.1 else ([], r.2)
theorem ansT_len (r : List S51 × Int) : (ansT r).1.length ≤ 60 := by
  unfold ansT
  split
  · exact parA_len _
  · simp
theorem spec_par {s : ByteArray} {r : List S51 × Int} (h0 : r.1.length ≤ 400 ∧ ∀ x ∈ r.1, Tk1 x) (h : Ev (fun k => spec_l04Lex.f k s) r) : Ev (fun k => spec_l05Parse.f k s) (ansT r) := by
  unfold spec_l05Parse.f
  refine Ev.bind (f := fun k bt => if bt.2 = 0 then (if tkb bt.1 = true then parT (spec_ExprOK.f k) bt.1 else none) else some ([], bt.2)) h ?_
  unfold ansT
  by_cases hc : r.2 = 0
  · refine Ev.congr (f := fun k => parT (spec_ExprOK.f k) r.1) (fun k => by rw [if_pos hc, if_pos (tkb_of h0)]) ?_
    rw [if_pos hc]
    exact parT_ev spec_ExprOK.f Pt.spec_ex_ev r.1
  · refine Ev.congr (f := fun _ => some ([], r.2)) (fun k => by rw [if_neg hc]) ?_
    rw [if_neg hc]
    exact Ev.now _
theorem impl_par {s : ByteArray} {r : List S51 × Int} (h0 : r.1.length ≤ 400 ∧ ∀ x ∈ r.1, Tk1 x) (h : Ev (fun k => impl_lex.f k s) r) : Ev (fun k => impl_parse.f k s) (ansT r) := by
  unfold impl_parse.f
  refine Ev.bind (f := fun k bt => if bt.2 = 0 then (if bt.1.length ≤ 1000000 then parT (impl_ExprOK.f k) bt.1 else none) else some ([], bt.2)) h ?_
  unfold ansT
  by_cases hc : r.2 = 0
  · refine Ev.congr (f := fun k => parT (impl_ExprOK.f k) r.1) (fun k => by rw [if_pos hc, if_pos (by omega)]) ?_
    rw [if_pos hc]
    exact parT_ev impl_ExprOK.f Pt.impl_ex_ev r.1
  · refine Ev.congr (f := fun _ => some ([], r.2)) (fun k => by rw [if_neg hc]) ?_
    rw [if_neg hc]
    exact Ev.now _
/-- Both read the same expression. -/
theorem Parse_both (s : ByteArray) : ∃ r : List S49 × Int, r.1.length ≤ 60 ∧ Ev (fun k => spec_ParseExpr.f k s) r ∧ Ev (fun k => impl_ParseExpr.f k s) r := by
  have lc : Ev (fun k => impl_longCode.f k 65536 [(s.size : Int)]) (if (s.size : Int) > 65536 then 2 else 0) := ⟨2, fun k hk => by
    obtain ⟨j, rfl⟩ : ∃ j, k = j + 2 := ⟨k - 2, by omega⟩
    exact longCode_one j _ _⟩
  have im : ∀ {r}, Ev (fun k => if (if (s.size : Int) > 65536 then (2 : Int) else 0) = 0 then ((impl_parse.f k s).bind fun bt313 => (some (bt313.1, bt313.2))) else (some (([] : List (S49)), (if (s.size : Int) > 65536 then (2 : Int) else 0)))) r → Ev (fun k => impl_ParseExpr.f k s) r := fun {r} h => by
    unfold impl_ParseExpr.f
    exact Ev.bind (f := fun k t312 => (if t312 = 0 then ((impl_parse.f k s).bind fun bt313 => (some (bt313.1, bt313.2))) else (some (([] : List (S49)), t312)))) lc h
  by_cases hs : (s.size : Int) > 65536
  · refine ⟨([], 2), by simp, ?_, im ?_⟩
    · refine Ev.congr (fun k => ?_) (Ev.now _)
      unfold spec_ParseExpr.f
      rw [if_pos hs]
    · refine Ev.congr (fun k => ?_) (Ev.now _)
      rw [if_pos hs]; rfl
  · obtain ⟨r, h0, h1, h2⟩ := lex_all s (by omega)
    refine ⟨ansT r, ansT_len r, ?_, im ?_⟩
    · refine Ev.congr (f := fun k => (spec_l05Parse.f k s).bind fun bt => (some (bt.1, bt.2))) (fun k => ?_) (Ev.bind (g := fun k => spec_l05Parse.f k s) (f := fun _ bt => (some (bt.1, bt.2))) (spec_par h0 h1) (Ev.now _))
      unfold spec_ParseExpr.f
      rw [if_neg hs]
    · refine Ev.congr (f := fun k => (impl_parse.f k s).bind fun bt => (some (bt.1, bt.2))) (fun k => ?_) (Ev.bind (g := fun k => impl_parse.f k s) (f := fun _ bt => (some (bt.1, bt.2))) (impl_par h0 h2) (Ev.now _))
      rw [if_neg hs]; rfl
end Go.Proofs.YtbphhccpkngfoaaGreatDoor.Pl
