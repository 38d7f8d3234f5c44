import Derived.Test.YtacdaijalkkogaaPlV
import Derived.Test.YtacdaijalkkogaaQxrk
import Derived.Test.YtacdaijalkkogaaQxrlaw
namespace Go.Proofs.Ytacdaijalkkogaa.Pl
open Go.RowKit Go.Proofs.Ytacdaijalkkogaa.Q Go.Proofs.Ytacdaijalkkogaa.Pn Go.Proofs.YtacdaijalkkogaaW.PrintWords Go.Proofs.YtacdaijalkkogaaW.PrintLast
set_option linter.unusedVariables false
set_option linter.unusedSimpArgs false

theorem eqRat_ev (r s : Bool × List Int × List Int) (hn : r.2.1.length ≤ 9223372036854775806) (hd : r.2.2.length ≤ 9223372036854775806) : Ev (fun k => laws_eqRat.f k r.1 r.2.1 r.2.2 s.1 s.2.1 s.2.2) (decide (r = s)) := by
  obtain ⟨b, n, d⟩ := r
  obtain ⟨b', n', d'⟩ := s
  obtain ⟨K1, e1⟩ := eqIntS_ev n n' hn
  obtain ⟨K2, e2⟩ := eqIntS_ev d d' hd
  refine ⟨K1 + K2, fun k hk => ?_⟩
  have e1' := e1 k (by omega)
  have e2' := e2 k (by omega)
  simp only at e1' e2'
  show laws_eqRat.f k b n d b' n' d' = _
  unfold laws_eqRat.f
  simp only [e1', e2', Option.bind_some]
  by_cases h1 : b = b'
  · by_cases h2 : n = n'
    · by_cases h3 : d = d' <;> simp [h1, h2, h3]
    · simp [h1, h2]
  · simp [h1]
theorem eqRat_self (r : Bool × List Int × List Int) (hn : r.2.1.length ≤ 9223372036854775806) (hd : r.2.2.length ≤ 9223372036854775806) : Ev (fun k => laws_eqRat.f k r.1 r.2.1 r.2.2 r.1 r.2.1 r.2.2) true := by
  have := eqRat_ev r r hn hd
  rw [decide_eq_true rfl] at this
  exact this
theorem markRat_ev (b : Bool) (n d : List Int) (k0 : Int) (h0 : 0 ≤ k0) (hk : k0 ≤ 1000000000000) (hn : n.length ≤ 1000000000000) (hd : d.length ≤ 1000000000000) :
    Ev (fun k => laws_markRat.f k b n d k0) (k0 + n.length + d.length, marks k0 n.length, marks (k0 + n.length) d.length) := by
  obtain ⟨K1, e1⟩ := mark_ev n k0 h0 (by omega) (by omega)
  obtain ⟨K2, e2⟩ := mark_ev d (k0 + n.length) (by omega) (by omega) (by omega)
  refine ⟨K1 + K2, fun k hk => ?_⟩
  have e1' := e1 k (by omega)
  have e2' := e2 k (by omega)
  simp only at e1' e2'
  show laws_markRat.f k b n d k0 = _
  unfold laws_markRat.f
  simp only [e1', e2', Option.bind_some]
theorem heldRat_ev (b : Bool) (n d : Nat) (k0 : Int) (h0 : 0 ≤ k0) (hk : k0 ≤ 1000000000000) (hn : n ≤ 1000000000000) (hd : d ≤ 1000000000000) :
    Ev (fun k => laws_heldRat.f k b (marks k0 n) (marks (k0 + n) d) k0) (k0 + n + d) := by
  obtain ⟨K1, e1⟩ := held_ev n k0 h0 (by omega) (by omega)
  obtain ⟨K2, e2⟩ := held_ev d (k0 + n) (by omega) (by omega) (by omega)
  refine ⟨K1 + K2, fun k hk => ?_⟩
  have e1' := e1 k (by omega)
  have e2' := e2 k (by omega)
  simp only at e1' e2'
  show laws_heldRat.f k b _ _ k0 = _
  unfold laws_heldRat.f
  simp only [e1', e2', Option.bind_some]
  rw [if_neg (by omega), if_neg (by omega)]

end Go.Proofs.Ytacdaijalkkogaa.Pl
