import Derived.Test.YtacdaijalkkogaaPlW
import Derived.Test.YtacdaijalkkogaaQxrim
import Derived.Test.YtacdaijalkkogaaQxrin
import Derived.Test.YtacdaijalkkogaaQxrsp
import Derived.Test.YtacdaijalkkogaaQxrsq
namespace Go.Proofs.Ytacdaijalkkogaa.Pl
open Go.RowKit Go.Proofs.Ytacdaijalkkogaa.Q Go.Proofs.Ytacdaijalkkogaa.Pn Go.Proofs.YtacdaijalkkogaaW.PrintWords Go.Proofs.YtacdaijalkkogaaW.PrintLast
set_option linter.unusedVariables false
set_option linter.unusedSimpArgs false

abbrev R3 := Bool × List Int × List Int
/-- Naturals of at most n limbs, over one that is not 0. -/
def Sm (n : Nat) (r : R3) : Prop := Nm r.2.1 ∧ Nm r.2.2 ∧ r.2.2 ≠ [] ∧ r.2.1.length ≤ n ∧ r.2.2.length ≤ n
theorem RO.sm {r : R3} (h : RO r) {n : Nat} (h1 : r.2.1.length ≤ n) (h2 : r.2.2.length ≤ n) : Sm n r := ⟨h.1, h.2.1, h.2.2.1, h1, h2⟩
theorem mulIE {a b : List Int} (ha : Nm a) (hb : Nm b) (hla : a.length ≤ 1000000) (hlb : b.length ≤ 1000000) : Ev (fun k => impl_natMul.f k a b) (nat (vl a * vl b)) := impl_natMul_ev ha.1 hb.1 (by omega) (by omega)
theorem mulSE {a b : List Int} (ha : Nm a) (hb : Nm b) (hla : a.length ≤ 1000000) (hlb : b.length ≤ 1000000) : Ev (fun k => spec_l01Mul.f k a b) (nat (vl a * vl b)) := spec_l01Mul_ev ha.1 hb.1 (by omega) (by omega)
theorem pw_mul {n : Nat} {a b : Int} (ha : 0 ≤ a ∧ a < 10000 ^ n) (hb : 0 ≤ b ∧ b < 10000 ^ n) : 0 ≤ a * b ∧ a * b < 10000 ^ (n + n) := by
  rw [Int.pow_add]; exact mul_lt2 ha hb
theorem nm_bd {l : List Int} (h : Nm l) {n : Nat} (hl : l.length ≤ n) : 0 ≤ vl l ∧ vl l < 10000 ^ n := ⟨vl_nonneg h.1, Int.lt_of_lt_of_le (vl_lt h.1) (pow_mono' hl)⟩
theorem pw_up {n m : Nat} {a : Int} (h : a < 10000 ^ n) (hm : n ≤ m) : a < 10000 ^ m := Int.lt_of_lt_of_le h (pow_mono' hm)

def divZ (r s : R3) : R3 := low (r.1 != s.1) (vl r.2.1 * vl s.2.2) (vl r.2.2 * vl s.2.1)
theorem overE {r s : R3} {n : Nat} (hr : Sm n r) (hs : Sm n s) (h0 : s.2.1 ≠ []) (hn : n ≤ 400) : Ev (fun k => impl_Rat_over.f k r.1 r.2.1 r.2.2 s.1 s.2.1 s.2.2) (divZ r s) := by
  obtain ⟨r1, r2, r3, r4, r5⟩ := hr
  obtain ⟨s1, s2, s3, s4, s5⟩ := hs
  obtain ⟨K1, e1⟩ := mulIE r1 s2 (by omega) (by omega)
  obtain ⟨K2, e2⟩ := mulIE r2 s1 (by omega) (by omega)
  have b1 := pw_mul (nm_bd r1 r4) (nm_bd s2 s5)
  have b2 := pw_mul (nm_bd r2 r5) (nm_bd s1 s4)
  obtain ⟨K3, e3⟩ := lowestE (neg := r.1 != s.1) b1.1 (Int.mul_pos (vl_pos r2 r3) (vl_pos s1 h0)) (pw_up b1.2 (by omega)) (pw_up b2.2 (by omega))
  refine ⟨K1 + K2 + K3, fun k hk => ?_⟩
  have e1' := e1 k (by omega)
  have e2' := e2 k (by omega)
  have e3' := e3 k (by omega)
  simp only at e1' e2' e3'
  show impl_Rat_over.f k _ _ _ _ _ _ = _
  unfold impl_Rat_over.f divZ
  simp only [e1', e2', e3', Option.bind_some]
theorem divRE {r s : R3} {n : Nat} (hr : Sm n r) (hs : Sm n s) (h0 : s.2.1 ≠ []) (hn : n ≤ 400) : Ev (fun k => spec_l02Div.f k r.1 r.2.1 r.2.2 s.1 s.2.1 s.2.2) (divZ r s) := by
  obtain ⟨r1, r2, r3, r4, r5⟩ := hr
  obtain ⟨s1, s2, s3, s4, s5⟩ := hs
  obtain ⟨K1, e1⟩ := mulSE r1 s2 (by omega) (by omega)
  obtain ⟨K2, e2⟩ := mulSE r2 s1 (by omega) (by omega)
  have b1 := pw_mul (nm_bd r1 r4) (nm_bd s2 s5)
  have b2 := pw_mul (nm_bd r2 r5) (nm_bd s1 s4)
  obtain ⟨K3, e3⟩ := makeE (neg := r.1 != s.1) b1.1 (Int.mul_pos (vl_pos r2 r3) (vl_pos s1 h0)) (pw_up b1.2 (by omega)) (pw_up b2.2 (by omega))
  refine ⟨K1 + K2 + K3, fun k hk => ?_⟩
  have e1' := e1 k (by omega)
  have e2' := e2 k (by omega)
  have e3' := e3 k (by omega)
  simp only at e1' e2' e3'
  show spec_l02Div.f k _ _ _ _ _ _ = _
  unfold spec_l02Div.f divZ
  simp only [e1', e2', e3', Option.bind_some]
def negZ (r : R3) : R3 := (!r.1 && !decide (r.2.1 = []), r.2.1, r.2.2)
theorem Sm.neg {r : R3} {n : Nat} (h : Sm n r) : Sm n (negZ r) := h
end Go.Proofs.Ytacdaijalkkogaa.Pl
