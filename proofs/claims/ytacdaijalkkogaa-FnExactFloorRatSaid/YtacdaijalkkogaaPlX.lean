import Derived.Test.YtacdaijalkkogaaPlW
import Derived.Test.YtacdaijalkkogaaQxrim
import Derived.Test.YtacdaijalkkogaaQxrin
import Derived.Test.YtacdaijalkkogaaQxrsp
import Derived.Test.YtacdaijalkkogaaQxrsq
namespace Go.Proofs.Ytacdaijalkkogaa.Pl
open Go.RowKit Go.Proofs.Ytacdaijalkkogaa.Q Go.Proofs.Ytacdaijalkkogaa.Pn Go.Proofs.YtacdaijalkkogaaW.PrintWords Go.Proofs.YtacdaijalkkogaaW.PrintLast
set_option linter.unusedVariables false
set_option linter.unusedSimpArgs false

abbrev R3 := Bool × List Int × List Int
theorem nm_bd {l : List Int} (h : Nm l) {n : Nat} (hl : l.length ≤ n) : 0 ≤ vl l ∧ vl l < 10000 ^ n := ⟨vl_nonneg h.1, Int.lt_of_lt_of_le (vl_lt h.1) (pow_mono' hl)⟩
theorem pw_up {n m : Nat} {a : Int} (h : a < 10000 ^ n) (hm : n ≤ m) : a < 10000 ^ m := Int.lt_of_lt_of_le h (pow_mono' hm)

theorem addE {x y : Int} (hx : 0 ≤ x) (hy : 0 ≤ y) {n m : Nat} (hn : x < 10000 ^ n) (hm : y < 10000 ^ m) (hb : n ≤ 1000000000) (hb' : m ≤ 1000000000) : Ev (fun k => spec_l01Add.f k (nat x) (nat y)) (nat (x + y)) := by
  have h := spec_l01Add_ev (nm_nat x) (nm_nat y) (by have := nat_len x n hn; omega) (by have := nat_len y m hm; omega)
  rw [vl_nat x hx, vl_nat y hy] at h
  exact h
theorem addIE {x y : Int} (hx : 0 ≤ x) (hy : 0 ≤ y) {n m : Nat} (hn : x < 10000 ^ n) (hm : y < 10000 ^ m) (hb : n ≤ 1000000000) (hb' : m ≤ 1000000000) : Ev (fun k => impl_natAdd.f k (nat x) (nat y)) (nat (x + y)) := by
  have h := impl_natAdd_ev (nm_nat x) (nm_nat y) (by have := nat_len x n hn; omega) (by have := nat_len y m hm; omega)
  rw [vl_nat x hx, vl_nat y hy] at h
  exact h
end Go.Proofs.Ytacdaijalkkogaa.Pl
