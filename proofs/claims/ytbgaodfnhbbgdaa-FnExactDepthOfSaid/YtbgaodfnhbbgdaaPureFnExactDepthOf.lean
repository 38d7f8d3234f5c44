/-
The Go program's DepthOf returns what the reference's returns, for all expressions; it leaves its arguments alone: the law FnExactDepthOf holds. Conditions: those of the given row alone.
-/
import Derived.Test.YtbgaodfnhbbgdaaPtE
import Derived.Test.YtbgaodfnhbbgdaaQxlawsFnExactDepthOf
namespace Go.Proofs.Ytbgaodfnhbbgdaa.Pure
open Go.RowKit Go.Proofs.Ytbgaodfnhbbgdaa.Q Go.Proofs.Ytbgaodfnhbbgdaa.Pt Go.Proofs.YtbgaodfnhbbgdaaW.PrintWords Go.Proofs.YtbgaodfnhbbgdaaW.PrintLast Go.Proofs.YtbgaodfnhbbgdaaW.PrintMore
set_option linter.unusedVariables false
set_option linter.unusedSimpArgs false

theorem code_ev (x : List S46) : Ev (fun k => impl_exprCode.f k x) (if exAns x = true then 0 else 1) := by
  refine Ev.bind (f := fun _ t => (impl_unless.f t 1).bind fun u => some u) (impl_ex_ev x) ?_
  unfold impl_unless.f
  by_cases h : exAns x = true
  · rw [if_pos h]; exact Ev.congr (fun k => by rw [if_pos h]; rfl) (Ev.now _)
  · rw [if_neg h]; exact Ev.congr (fun k => by rw [if_neg h]; rfl) (Ev.now _)
/-- The reference finds how deep each tree is. -/
def Deep (x : List S46) (ds : List Int) : Prop := ∀ (j : Nat), j < ds.length → ∀ k, j + 1 ≤ k → spec_l05Depth.f k x (j : Int) = some (rd ds j)
theorem Deep.next {x : List S46} {bs ds : List Int} (hf : Fine bs ds) (h : Deep x ds) (hi : bs.length < x.length) (hb : x.length ≤ 1048576) {n : S46} (hx : x[bs.length]?.getD z46 = n) (v : V bs n) : Deep x (ds ++ [dpn ds n]) := by
  have hl := hf.len
  refine rd_next (P := fun y j => ∀ k, j + 1 ≤ k → spec_l05Depth.f k x (j : Int) = some y) h ?_
  intro k hk
  obtain ⟨m, rfl⟩ : ∃ m, k = m + 1 := ⟨k - 1, by omega⟩
  have at_ : ∀ a : Int, 0 ≤ a → a < (ds.length : Int) → spec_l05Depth.f m x a = some (rd ds a) := by
    intro a h0 h1
    obtain ⟨j, rfl⟩ : ∃ j : Nat, a = j := ⟨a.toNat, by omega⟩
    exact h j (by omega) m (by omega)
  rw [spec_l05Depth.f, if_pos (by omega), if_pos (by omega), rdT, ← hl, hx, two_f, Option.bind_some, one_f, Option.bind_some]
  unfold dpn
  rcases kd_of n.f0 with q | q | q
  · rw [if_neg (by simp only [decide_eq_true_eq]; exact q.2.1), if_neg (by simp only [decide_eq_true_eq]; exact q.2.2), if_pos q.1]
  · have a := plain_a v.1 (.inl q.1)
    have g := hf.da (a := n.f1) (by omega) (by omega)
    rw [if_neg (by simp only [decide_eq_true_eq]; exact q.2.1), if_pos (decide_eq_true q.2.2), if_neg (by omega), if_pos q.1, at_ _ (by omega) (by omega), Option.bind_some, wrap_in (by omega) (by omega), Int.add_comm]
  · have a := plain_a v.1 (.inr q.1)
    have b := plain_b v.1 q.1
    have g := hf.da (a := n.f1) (by omega) (by omega)
    have g2 := hf.da (a := n.f2) (by omega) (by omega)
    have qm : 1 ≤ mx (rd ds n.f1) (rd ds n.f2) ∧ mx (rd ds n.f1) (rd ds n.f2) ≤ ds.length := by unfold mx; split <;> omega
    rw [if_pos (decide_eq_true q.2.1), if_neg (by omega), if_neg (by omega), at_ _ (by omega) (by omega), Option.bind_some, at_ _ (by omega) (by omega), Option.bind_some, wrap_in (by omega) (by omega), Int.add_comm]
theorem deep_all (x : List S46) (hb : x.length ≤ 1048576) : ∀ (e i : Nat), i + e = x.length → ∀ bs ds b d : List Int, bs.length = i → Fine bs ds → Deep x ds → sh (x.drop i) bs ds = some (b, d) → Deep x d := by
  intro e
  induction e with
  | zero =>
    intro i he bs ds b d hi hf hd h
    rw [List.drop_of_length_le (by omega)] at h
    simp only [sh, Option.some.injEq, Prod.mk.injEq] at h
    rw [← h.2]; exact hd
  | succ e ih =>
    intro i he bs ds b d hi hf hd h
    rw [at_next (z := z46) (i := i) (by omega)] at h
    unfold sh at h
    split at h
    · rename_i v
      exact ih (i + 1) (by omega) _ _ b d (by simp; omega) (hf.next v) (hd.next hf (by omega) hb (by rw [hi]) v) h
    · cases h
theorem both_ev (x : List S46) (hb : x.length ≤ 1048576) : ∃ r, Ev (fun k => spec_DepthOf.f k x) r ∧ Ev (fun k => impl_DepthOf.f k x) r := by
  by_cases h : exAns x = true
  · have h' := h
    unfold exAns at h'
    split at h'
    · rename_i hn
      have hn' := of_decide_eq_true hn
      cases hs : sh x [] [] with
      | none => rw [hs] at h'; cases h'
      | some o =>
        obtain ⟨b, d⟩ := o
        obtain ⟨hl, hf, _⟩ := sh_len x [] [] b d Fine.zero hs
        have hl' : d.length = x.length := by rw [← hf.len, hl]; simp
        have hd := deep_all x hb x.length 0 (by omega) [] [] b d rfl Fine.zero (fun j hj => absurd hj (by simp)) hs
        refine ⟨(rd d ((x.length - 1 : Nat) : Int), 0), ?_, ?_⟩
        · refine Ev.bind (f := fun k t => if t = true then (spec_l05Depth.f k x (wrap64 ((x.length : Int) - 1))).bind (fun t => some (t, 0)) else some (0, 1)) (spec_ex_ev x) (Ev.congr (fun k => if_pos h) ?_)
          rw [wrap_in (x := (x.length : Int) - 1) (by omega) (by omega), show (x.length : Int) - 1 = ((x.length - 1 : Nat) : Int) by omega]
          exact Ev.bind (f := fun _ t => some (t, 0)) ⟨x.length, fun k hk => hd (x.length - 1) (by omega) k (by omega)⟩ (Ev.now _)
        · unfold impl_DepthOf.f
          refine Ev.bind (code_ev x) ?_
          rw [if_pos h]
          refine Ev.congr (fun k => (if_pos rfl : (if _ then _ else _) = _)) (Ev.bind (shape_ev x hb) ?_)
          rw [hs]
          show Ev (fun k => if 0 ≤ (wrap64 ((d.length : Int) - 1)) then (if (wrap64 ((d.length : Int) - 1)) < (d.length : Int) then (some (rd d (wrap64 ((d.length : Int) - 1)), 0)) else (none)) else (none)) _
          rw [wrap_in (x := (d.length : Int) - 1) (by omega) (by omega), if_pos (by omega), if_pos (by omega), show (d.length : Int) - 1 = ((x.length - 1 : Nat) : Int) by omega]
          exact Ev.now _
    · cases h'
  · refine ⟨(0, 1), ?_, ?_⟩
    · exact Ev.bind (f := fun k t => if t = true then (spec_l05Depth.f k x (wrap64 ((x.length : Int) - 1))).bind (fun t => some (t, 0)) else some (0, 1)) (spec_ex_ev x) (Ev.congr (fun k => if_neg h) (Ev.now _))
    · unfold impl_DepthOf.f
      refine Ev.bind (code_ev x) ?_
      rw [if_neg h]
      exact Ev.congr (fun k => (if_neg (by decide) : (if _ then _ else _) = _)) (Ev.now _)
theorem FnExactDepthOf : laws_FnExactDepthOf.Pure := by
  intro x ⟨h1, _⟩
  have z1 := szExpr_f x 1048576 (by omega) h1
  by_cases hbig : szT x.length 1048576 < 0
  · exact ⟨0, by unfold laws_FnExactDepthOf.f; rw [z1, Option.bind_some, if_pos hbig]⟩
  have hl := szT_in (by omega) hbig
  obtain ⟨K0, e0⟩ := toExpr_ev x hl.1
  obtain ⟨r, e2, e3⟩ := both_ev (x.map cv) (by simp; omega)
  obtain ⟨K2, e2⟩ := e2
  obtain ⟨K3, e3⟩ := e3
  obtain ⟨K4, e4⟩ := eqExpr_ev (x.map cv) (by simp; omega)
  obtain ⟨K, hK⟩ : ∃ K, K = K0 + K2 + K3 + K4 := ⟨_, rfl⟩
  refine ⟨K + 1, ?_⟩
  have e0' := e0 (K + 1) (by omega)
  have e0'' := e0 K (by omega)
  have e2' := e2 (K + 1) (by omega)
  have e3' := e3 (K + 1) (by omega)
  have e4' := e4 K (by omega)
  simp only at e0' e0'' e2' e3' e4'
  unfold laws_FnExactDepthOf.f
  rw [z1, Option.bind_some, if_neg hbig]
  simp only [e0', e2', e3', Option.bind_some, bne_self_eq_false, if_true]
  rw [laws_FnExactDepthOf.j0]
  simp only [e0'', e4', Option.bind_some, Bool.false_eq_true, if_false, if_true]

end Go.Proofs.Ytbgaodfnhbbgdaa.Pure
