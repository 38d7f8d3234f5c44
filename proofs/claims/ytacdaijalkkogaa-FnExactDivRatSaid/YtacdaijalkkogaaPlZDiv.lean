import Derived.Test.YtacdaijalkkogaaPlZ2
import Derived.Test.YtacdaijalkkogaaQxDivRat
namespace Go.Proofs.Ytacdaijalkkogaa.Pl
open Go.RowKit Go.Proofs.Ytacdaijalkkogaa.Q Go.Proofs.Ytacdaijalkkogaa.Pn Go.Proofs.YtacdaijalkkogaaW.PrintWords Go.Proofs.YtacdaijalkkogaaW.PrintLast Go.Proofs.YtacdaijalkkogaaW.PrintMore
set_option linter.unusedVariables false
set_option linter.unusedSimpArgs false

def divAns (r s : R3) : R4 := if ratOKB r = true ∧ ratOKB s = true then (if s.2.1 = [] then bad4 9 else fit4 (divZ r s)) else bad4 1
theorem divAns_len (r s : R3) : (divAns r s).2.1.length ≤ 40 ∧ (divAns r s).2.2.1.length ≤ 40 := by
  unfold divAns
  split
  · split
    · simp [bad4]
    · exact fit4_len _
  · simp [bad4]
theorem first2 (a b : Int) : Ev (fun k => impl_first.f k [a, b]) (if a = 0 then b else a) := by
  refine ⟨3, fun k hk => ?_⟩
  obtain ⟨k, rfl⟩ : ∃ q, k = q + 3 := ⟨k - 3, by omega⟩
  show impl_first.f (k + 3) [a, b] = _
  unfold impl_first.f
  rw [impl_first.l0, if_pos (by simp), if_pos (by omega), if_pos (by simp), show rd [a, b] 0 = a from rfl]
  by_cases h : a = 0
  · rw [if_pos h, if_pos h, show wrap64 (0 + 1) = 1 from by simp only [wrap64]; omega, impl_first.l0, if_pos (by simp), if_pos (by omega), if_pos (by simp), show rd [a, b] 1 = b from rfl]
    by_cases h' : b = 0
    · rw [if_pos h', h', show wrap64 (1 + 1) = 2 from by simp only [wrap64]; omega, impl_first.l0, if_neg (by simp)]
    · rw [if_neg h']
  · rw [if_neg h, if_neg h]
theorem zero_b (n : List Int) : ((n.length : Int) == 0) = decide (n = []) := by
  cases n with
  | nil => rfl
  | cons a l => rw [decide_eq_false (by simp), beq_eq_false_iff_ne.2 (by simp only [List.length_cons]; omega)]
theorem implDiv_ev (b : Bool) (n d : List Int) (b' : Bool) (n' d' : List Int) : Ev (fun k => impl_DivRat.f k b n d b' n' d') (divAns (b, n, d) (b', n', d')) := by
  unfold impl_DivRat.f impl_Rat_isZero.f impl_unless.f
  refine Ev.bind (ratsCode2 b n d b' n' d') ?_
  refine Ev.congr (fun k => Option.bind_some _ _) ?_
  rw [zero_b]
  have tail : ∀ u : Int, (u = if n' = [] then 9 else 0) → Ev (fun k => (impl_first.f k [(if ratOKB (b, n, d) = true ∧ ratOKB (b', n', d') = true then 0 else 1), u]).bind fun t1140 => (if t1140 = 0 then ((impl_Rat_over.f k b n d b' n' d').bind fun bt1141 => ((impl_fullRat.f bt1141.1 bt1141.2.1 bt1141.2.2).bind fun bt1148 => (some (bt1148.1, bt1148.2.1, bt1148.2.2.1, bt1148.2.2.2)))) else (some (false, ([] : List Int), ([] : List Int), t1140)))) (divAns (b, n, d) (b', n', d')) := by
    intro u hu
    refine Ev.bind (first2 _ _) ?_
    unfold divAns
    by_cases c : ratOKB (b, n, d) = true ∧ ratOKB (b', n', d') = true
    · rw [if_pos c, if_pos c, if_pos rfl, hu]
      by_cases h : n' = []
      · rw [if_pos h, if_pos h]
        exact Ev.congr (fun k => (if_neg (by decide) : (if _ then _ else _) = _)) (Ev.now _)
      · rw [if_neg h, if_neg h]
        refine Ev.congr (fun k => (if_pos rfl : (if _ then _ else _) = _)) ?_
        have e := overE (ok_sm c.1) (ok_sm c.2) h (by omega)
        refine Ev.bind e ?_
        exact Ev.congr (fun k => fit_tail _) (Ev.now _)
    · rw [if_neg c, if_neg c, if_neg (by decide)]
      exact Ev.congr (fun k => (if_neg (by decide) : (if _ then _ else _) = _)) (Ev.now _)
  by_cases h : n' = []
  · rw [decide_eq_true h]
    exact tail 9 (by rw [if_pos h])
  · rw [decide_eq_false h]
    exact tail 0 (by rw [if_neg h])
theorem specDiv_ev (b : Bool) (n d : List Int) (b' : Bool) (n' d' : List Int) (l1 : n.length ≤ 1048576) (l2 : d.length ≤ 1048576) (l3 : n'.length ≤ 1048576) (l4 : d'.length ≤ 1048576) : Ev (fun k => spec_DivRat.f k b n d b' n' d') (divAns (b, n, d) (b', n', d')) := by
  unfold spec_DivRat.f spec_l02Zero.f
  refine Ev.bind (ask_ev b n d b' n' d' l1 l2 l3 l4) ?_
  unfold divAns
  by_cases c : ratOKB (b, n, d) = true ∧ ratOKB (b', n', d') = true
  · rw [if_pos c, c.1, c.2]
    refine Ev.congr (fun k => (if_pos rfl : (if _ then _ else _) = _)) (Ev.congr (fun k => Option.bind_some _ _) ?_)
    rw [zero_b]
    by_cases h : n' = []
    · rw [if_pos h]
      exact Ev.congr (fun k => (if_pos (decide_eq_true h) : (if _ then _ else _) = _)) (Ev.now _)
    · rw [if_neg h]
      refine Ev.congr (fun k => (if_neg (by simp [h]) : (if _ then _ else _) = _)) ?_
      refine Ev.bind (divRE (ok_sm c.1) (ok_sm c.2) h (by omega)) ?_
      exact Ev.congr (fun k => fitR_tail _) (Ev.now _)
  · rw [if_neg c]
    exact Ev.congr (fun k => (if_neg (by simp only [Bool.and_eq_true]; exact c) : (if _ then _ else _) = _)) (Ev.now _)
end Go.Proofs.Ytacdaijalkkogaa.Pl
