import Derived.Test.YtegbmillbbcmfaaWords
import Derived.Deep.Slices
import Derived.ChangeArms
import Derived.DataReads
import Derived.KernelRfl
namespace Go.Proofs.Ytegbmillbbcmfaa.Op
open Go.ChangeShapes Go.WideShapes Go.RowKit Go.Deep Go.Proofs.YtegbmillbbcmfaaW.PrintWords
set_option linter.unusedVariables false

/-- Whatever is read at type t is of kind d, and Wf holds of it. -/
def Opens {α : Type} (P : Program) (t : TypeId) (d : Kd α) (Wf : α → Prop) : Prop :=
  ∀ (H : Type) (enc : TypeId × Value → H) (w : World) (fuel : Nat) (cs : List Value) (x : DataW H × List MemPlace), DataW.trod enc P w 0 (fun _ => true) true fuel t cs = some x → ∃ a, d.K w a cs ∧ Wf a
theorem opens_int {P : Program} {t : TypeId} {k : IntKind} (ht : P.underlying t = some (.int k)) : Opens P t (Kd.int k) (fun n => (Lit.int k n).wf = true) := fun H enc w fuel cs x h => by
  obtain ⟨n, e1, _, hw⟩ := DataW.trod_int ht h
  exact ⟨n, e1, hw⟩
theorem opens_bool {P : Program} {t : TypeId} (ht : P.underlying t = some .bool) : Opens P t Kd.bool (fun _ => True) := fun H enc w fuel cs x h => by
  obtain ⟨b, e1, _⟩ := DataW.trod_bool ht h
  exact ⟨b, e1, trivial⟩
theorem opens_slice {α : Type} {P : Program} {t e : TypeId} {d : Kd α} {Wf : α → Prop} (z : α) (ht : P.underlying t = some (.slice e)) (hc : P.cellsOf e = d.sz) (ho : Opens P e d Wf) :
    Opens P t (Kd.slice e d) (fun l => l.length ≤ maxLen ∧ ∀ x ∈ l, Wf x) := fun H enc w fuel cs x h => by
  rcases open_slice ht h with ⟨rfl, _⟩ | ⟨a, len, cap, m, n, D, Pl, rfl, _, hl, hm, hmm, _, hx⟩
  · exact ⟨[], ⟨none, 0, rfl, Nat.le_refl _, rfl, by simp, fun h => absurd h (by simp)⟩, by simp, fun x hx => by simp at hx⟩
  · simp only [if_true] at hmm
    subst hmm
    have each : ∀ i, i < len → ∃ v : α, ∃ c, w.cells? 0 (a.add (i * d.sz)) d.sz = some c ∧ d.K w v c ∧ Wf v := fun i hi => by
      obtain ⟨c, h1, h2⟩ := hx i (by omega)
      obtain ⟨v, h3, h4⟩ := ho _ _ _ _ _ _ h2
      rw [hc] at h1
      exact ⟨v, c, h1, h3, h4⟩
    obtain ⟨V, hV⟩ := @choose_lt α ⟨z⟩ len _ each
    refine ⟨(List.range len).map V, ⟨some a, m, by simp, by simp; omega, by simp, by simp [maxLen] at hm ⊢; omega, fun _ => ⟨a, rfl, fun j p hj => ?_⟩⟩, by simp; omega, fun x hx => ?_⟩
    · obtain ⟨hj1, hj2⟩ : j < len ∧ p = V j := by
        by_cases hjl : j < len
        · refine ⟨hjl, ?_⟩
          simp [hjl] at hj
          exact hj.symm
        · simp [hjl] at hj
      subst hj2
      obtain ⟨c, h1, h2, _⟩ := hV j hj1
      obtain ⟨_, h5, h6⟩ := World.cells?_some h1
      refine ⟨c, h5, h2, fun i u hi => ?_⟩
      have hi2 : i < d.sz := by
        have := (List.getElem?_eq_some_iff.1 hi).1
        omega
      rw [← hi, ← h6 i hi2]
      congr 1
      generalize j * d.sz = q
      by_cases q0 : q = 0 <;> by_cases i0 : i = 0 <;> simp [Addr.add, q0, i0, Nat.add_assoc]
    · obtain ⟨i, hi, rfl⟩ := List.mem_map.1 hx
      obtain ⟨_, _, _, h4⟩ := hV i (by simpa using hi)
      exact h4
end Go.Proofs.Ytegbmillbbcmfaa.Op
