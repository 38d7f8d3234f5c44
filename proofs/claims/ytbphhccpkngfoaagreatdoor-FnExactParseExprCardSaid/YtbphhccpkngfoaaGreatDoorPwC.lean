/-
Nodes: marks are found again.
-/
import Derived.Test.YtbphhccpkngfoaaGreatDoorPwF
import Derived.Test.YtbphhccpkngfoaaGreatDoorQla
namespace Go.Proofs.YtbphhccpkngfoaaGreatDoor.Pt
open Go.RowKit Go.Proofs.YtbphhccpkngfoaaGreatDoor.Q Go.Proofs.YtbphhccpkngfoaaGreatDoorW.PrintWords Go.Proofs.YtbphhccpkngfoaaGreatDoorW.PrintLast Go.Proofs.YtbphhccpkngfoaaGreatDoorW.PrintMore
set_option linter.unusedVariables false
set_option linter.unusedSimpArgs false

/-- The node at i, marked. -/
def mk4 (i : Nat) : S49 := ⟨1 + 4 * (i : Int), 1 + 4 * (i : Int) + 1, 1 + 4 * (i : Int) + 1 + 1, 1 + 4 * (i : Int) + 1 + 1 + 1⟩
def marks (n : Nat) : List S49 := (List.range n).map mk4
theorem marks_length (n : Nat) : (marks n).length = n := by simp [marks]
theorem marks_rd {n i : Nat} (h : i < n) : rd_T49 (marks n) (i : Int) = mk4 i := by
  rw [rdT]; simp [marks, h]
theorem rd_set (l : List S49) (i : Nat) (v : S49) (h : i < l.length) : rd_T49 (l.set i v) (i : Int) = v := by
  rw [rdT, List.getElem?_set_self (by simpa using h)]; rfl
theorem set_take {l : List S49} {i : Nat} {x : S49} (h : i < l.length) : (l.set i x).take (i + 1) = l.take i ++ [x] := by
  rw [List.take_add_one, List.take_set_of_le (Nat.le_refl _)]
  simp [h]
theorem mark_ev (l : List S49) (h : l.length ≤ 100000) : Ev (fun k => laws_markNodeS.f k l 1) (1 + 4 * (l.length : Int), marks l.length) := by
  have loop : ∀ (d i : Nat) (out : List S49), out.length = l.length → i + d = l.length → out.take i = (marks l.length).take i →
      Ev (fun k => laws_markNodeS.l0 k out (1 + 4 * (i : Int)) (i : Int)) (1 + 4 * (l.length : Int), marks l.length) := by
    intro d
    induction d with
    | zero =>
      intro i out ho hi ht
      have e : out = marks l.length := by
        have h1 : out.take i = out := List.take_of_length_le (by omega)
        have h2 : (marks l.length).take i = marks l.length := List.take_of_length_le (by rw [marks_length]; omega)
        rw [h1, h2] at ht; exact ht
      refine ev_const fun k => ?_
      rw [laws_markNodeS.l0, if_neg (by omega), e, show i = l.length by omega]
    | succ d ih =>
      intro i out ho hi ht
      have hs : (out.set i (mk4 i)).take (i + 1) = (marks l.length).take (i + 1) := by
        rw [set_take (by omega), ht, List.take_add_one (l := marks l.length)]
        simp [marks, show i < l.length by omega]
      have nx := ih (i + 1) (out.set i (mk4 i)) (by simp [ho]) (by omega) hs
      refine Ev.step (fun k => ?_) nx
      rw [laws_markNodeS.l0, if_pos (by omega), if_pos (by omega), Option.bind_some, Int.toNat_natCast, rd_set _ _ _ (by omega), Option.bind_some, List.set_set, rd_set _ _ _ (by simp only [List.length_set]; omega), Option.bind_some, List.set_set, rd_set _ _ _ (by simp only [List.length_set]; omega), List.set_set]
      rw [wrap_in (x := 1 + 4 * (i : Int) + 1) (by omega) (by omega), wrap_in (x := 1 + 4 * (i : Int) + 1 + 1) (by omega) (by omega), wrap_in (x := 1 + 4 * (i : Int) + 1 + 1 + 1) (by omega) (by omega), wrap_in (x := 1 + 4 * (i : Int) + 1 + 1 + 1 + 1) (by omega) (by omega), wsucc (by omega)]
      rw [show 1 + 4 * (i : Int) + 1 + 1 + 1 + 1 = 1 + 4 * ((i + 1 : Nat) : Int) by omega]
      rfl
  exact loop l.length 0 l rfl (by omega) (by simp)
theorem held_ev (n : Nat) (h : n ≤ 100000) : Ev (fun k => laws_heldNodeS.f k (marks n) 1) (1 + 4 * (n : Int)) := by
  have loop : ∀ (d i : Nat), i + d = n → Ev (fun k => laws_heldNodeS.l0 k (marks n) (1 + 4 * (i : Int)) (i : Int)) (1 + 4 * (n : Int)) := by
    intro d
    induction d with
    | zero =>
      intro i hi
      refine ev_const fun k => ?_
      rw [laws_heldNodeS.l0, if_neg (by rw [marks_length]; omega), show i = n by omega]
    | succ d ih =>
      intro i hi
      refine Ev.step (fun k => ?_) (ih (i + 1) (by omega))
      rw [laws_heldNodeS.l0, if_pos (by rw [marks_length]; omega), if_pos (by omega), marks_rd (by omega)]
      rw [wrap_in (x := 1 + 4 * (i : Int) + 1) (by omega) (by omega), wrap_in (x := 1 + 4 * (i : Int) + 1 + 1) (by omega) (by omega), wrap_in (x := 1 + 4 * (i : Int) + 1 + 1 + 1) (by omega) (by omega), wrap_in (x := 1 + 4 * (i : Int) + 1 + 1 + 1 + 1) (by omega) (by omega), wsucc (by omega)]
      rw [if_pos (show (mk4 i).f0 = 1 + 4 * (i : Int) from rfl), if_pos (show (mk4 i).f1 = 1 + 4 * (i : Int) + 1 from rfl), if_pos (show (mk4 i).f2 = 1 + 4 * (i : Int) + 1 + 1 from rfl), if_pos (show (mk4 i).f3 = 1 + 4 * (i : Int) + 1 + 1 + 1 from rfl)]
      rw [show 1 + 4 * (i : Int) + 1 + 1 + 1 + 1 = 1 + 4 * ((i + 1 : Nat) : Int) by omega]
  exact loop n 0 (by omega)
theorem markE_ev (l : List S49) (h : l.length ≤ 100000) : Ev (fun k => laws_markExpr.f k l 1) (1 + 4 * (l.length : Int), marks l.length) := Ev.bind (f := fun _ (bt : Int × List S49) => some (bt.1, bt.2)) (mark_ev l h) (Ev.now _)
theorem heldE_ev (n : Nat) (h : n ≤ 100000) : Ev (fun k => laws_heldExpr.f k (marks n) 1) (1 + 4 * (n : Int)) := Ev.bind (f := fun _ t => if t < 0 then some (-1) else some t) (held_ev n h) (Ev.congr (f := fun _ => some (1 + 4 * (n : Int))) (fun k => if_neg (by omega)) (Ev.now _))
end Go.Proofs.YtbphhccpkngfoaaGreatDoor.Pt
