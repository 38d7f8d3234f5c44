/-
A rational is at least its floor and below the next one, and powers add their exponents: the law FnFloor holds, whatever the bytes. Conditions: those of the given row alone.
-/
import Derived.Test.YtacdaijalkkogaaPl
import Derived.Test.YtacdaijalkkogaaPlZ
import Derived.Test.YtacdaijalkkogaaQxlawsFnFloor
namespace Go.Proofs.Ytacdaijalkkogaa.Pure
open Go.RowKit Go.Proofs.Ytacdaijalkkogaa.Q Go.Proofs.Ytacdaijalkkogaa.Pn Go.Proofs.Ytacdaijalkkogaa.Pl Go.Proofs.YtacdaijalkkogaaW.PrintWords Go.Proofs.YtacdaijalkkogaaW.PrintLast
set_option linter.unusedVariables false
set_option linter.unusedSimpArgs false

theorem one_v : V (wholeR 1) 1 1 := by
  obtain ⟨h1, h2, h3⟩ := wholeR_ro 1
  have := V.of_ro h1
  rwa [h2, h3] at this
theorem pw_v {r : R3} (h : RO r) : ∀ k : Nat, V (pwZ r k) (tp r ^ k) (Pl.bt r ^ k)
  | 0 => by rw [← pwZ_0, Int.pow_zero, Int.pow_zero]; exact one_v
  | k + 1 => by
    have := (pw_v h k).mul (V.of_ro h)
    rwa [mulZ_pw h, ← Int.pow_succ, ← Int.pow_succ] at this
theorem bd_pow {n : Nat} {x : Int} (h : Bd n x) : ∀ k : Nat, Bd (n * k + 1) (x ^ k)
  | 0 => by rw [Int.pow_zero, Nat.mul_zero]; unfold Bd; omega
  | k + 1 => by
    rw [Int.pow_succ]
    exact ((bd_pow h k).mul h).mono (by rw [Nat.mul_succ]; omega)
theorem pow_ok {r : R3} (hr : RO r) (h1 : r.2.1.length ≤ 1) (h2 : r.2.2.length ≤ 1) {i : Nat} (hi : i ≤ 7) : ratOKB (pwZ r i) = true ∧ Ev (fun k => impl_PowRat.f k r.1 r.2.1 r.2.2 (i : Int)) (ok4 (pwZ r i)) := by
  obtain ⟨b1, b2⟩ := V.bd hr h1 h2
  have v := pw_v hr i
  have n1 := (bd_pow b1 i).mono (show 1 * i + 1 ≤ 40 by omega)
  have n2 := (bd_pow b2 i).mono (show 1 * i + 1 ≤ 40 by omega)
  refine ⟨v.ok n1 n2, ?_⟩
  have e : Ev _ (powAns r (i : Int)) := implPow_ev r.1 r.2.1 r.2.2 (i : Int)
  unfold powAns at e
  rw [if_pos ((V.of_ro hr).ok (b1.mono (by omega)) (b2.mono (by omega))), if_pos (by omega), Int.toNat_natCast, v.fit n1 n2] at e
  exact e
/-- The floor of a rational. -/
theorem fl_v {a : R3} (h : RO a) (h1 : a.2.1.length ≤ 4) : ∃ F : Int, V (flZ a) F 1 ∧ Bd 5 F ∧ F * Pl.bt a ≤ tp a ∧ tp a < (F + 1) * Pl.bt a ∧ (flZ a).2.2 = [1] := by
  have hn := nm_bd h.1 h1
  have hd := vl_pos h.2.1 h.2.2.1
  have ediv := Int.emod_add_mul_ediv (vl a.2.1) (vl a.2.2)
  have hm0 := Int.emod_nonneg (vl a.2.1) (Int.ne_of_gt hd)
  have hm1 := Int.emod_lt_of_pos (vl a.2.1) hd
  have hq0 : 0 ≤ vl a.2.1 / vl a.2.2 := Int.ediv_nonneg hn.1 (Int.le_of_lt hd)
  have hq1 := Int.ediv_le_self (vl a.2.2) hn.1
  have et : tp a = if a.1 = true then -vl a.2.1 else vl a.2.1 := rfl
  rw [et]
  unfold flZ Pl.bt
  generalize vl a.2.1 / vl a.2.2 = q at *
  generalize vl a.2.1 % vl a.2.2 = m at *
  generalize vl a.2.1 = n at *
  generalize vl a.2.2 = d at *
  have hb : (10000 : Int) ^ 5 = 10000 ^ 4 * 10000 := Int.pow_succ _ _
  by_cases c : a.1 = true ∧ 0 < m
  · rw [if_pos c, if_pos c.1]
    refine ⟨-(q + 1), ⟨by omega, ?_⟩, by unfold Bd; omega, ?_, ?_, rfl⟩
    · have := low_eq (neg := true) (a := q + 1) (d := 1) (by omega)
      rw [if_pos rfl] at this
      rw [← this, low_one (by omega), decide_eq_true (by omega)]; rfl
    · rw [Int.neg_mul, Int.add_mul, Int.mul_comm q d]; omega
    · rw [Int.add_mul, Int.neg_mul, Int.add_mul, Int.mul_comm q d]; omega
  · rw [if_neg c]
    refine ⟨if a.1 = true then -q else q, ⟨by omega, ?_⟩, by unfold Bd; split <;> omega, ?_, ?_, rfl⟩
    · rw [← low_eq hq0, low_one hq0]
    · split
      · rename_i hs
        have : m = 0 := by
          have : ¬ 0 < m := fun z => c ⟨hs, z⟩
          omega
        rw [Int.neg_mul, Int.mul_comm q d]; omega
      · rw [Int.mul_comm q d]; omega
    · split
      · rw [Int.add_mul, Int.neg_mul, Int.mul_comm q d]; omega
      · rw [Int.add_mul, Int.mul_comm q d]; omega
theorem at_some {l : List Int} (h : By l) (hl : l.length ≤ 1048576) {i n : Int} (hi : 0 ≤ i ∧ i ≤ 1) (hn : 2 ≤ n ∧ n ≤ 5) : ∃ r : Nat, laws_at.f l i n = some (r : Int) ∧ (r : Int) < n := by
  have fin : ∀ x : Int, 0 ≤ x → ∃ r : Nat, (some (Int.tmod x n) : Option Int) = some (r : Int) ∧ (r : Int) < n := fun x hx => by
    rw [Int.tmod_eq_emod_of_nonneg hx]
    have a1 := Int.emod_nonneg x (show n ≠ 0 by omega)
    have a2 := Int.emod_lt_of_pos x (show 0 < n by omega)
    exact ⟨(x % n).toNat, congrArg some (by omega), by omega⟩
  unfold laws_at.f
  rw [if_neg (by omega)]
  by_cases h0 : (l.length : Int) = 0
  · rw [if_pos h0, if_neg (by omega), Pl.wrap_in (by omega) (by omega)]
    exact fin _ (by omega)
  · have hL : 0 < (l.length : Int) := by omega
    rw [if_neg h0, Pl.wrap_in (x := i + 1) (by omega) (by omega), Int.tmod_eq_emod_of_nonneg hi.1, Int.tmod_eq_emod_of_nonneg (show 0 ≤ i + 1 by omega)]
    have p1 := Int.emod_nonneg i (show (l.length : Int) ≠ 0 by omega)
    have p2 := Int.emod_lt_of_pos i hL
    have q1 := Int.emod_nonneg (i + 1) (show (l.length : Int) ≠ 0 by omega)
    have q2 := Int.emod_lt_of_pos (i + 1) hL
    rw [if_pos p1, if_pos p2, if_pos q1, if_pos q2, if_neg (by omega)]
    have r1 := rd_by h p1 p2
    have r2 := rd_by h q1 q2
    have d0 : Int.tdiv i (l.length : Int) = i / (l.length : Int) := Int.tdiv_eq_ediv_of_nonneg hi.1
    have d1 := Int.ediv_nonneg hi.1 (Int.le_of_lt hL)
    have d2 := Int.ediv_le_self (l.length : Int) hi.1
    rw [d0]
    generalize rd l (i % (l.length : Int)) = x at *
    generalize rd l ((i + 1) % (l.length : Int)) = y at *
    generalize i / (l.length : Int) = z at *
    rw [Pl.wrap_in (x := x) (by omega) (by omega), Pl.wrap_in (x := y) (by omega) (by omega), Pl.wrap_in (x := z) (by omega) (by omega), Pl.wrap_in (x := x * 31) (by omega) (by omega), Pl.wrap_in (x := x * 31 + y) (by omega) (by omega), Pl.wrap_in (x := x * 31 + y + z) (by omega) (by omega)]
    exact fin _ (by omega)
theorem sgI_le {x : Int} (h : x ≤ 0) : sgI x ≤ 0 := by unfold sgI; split <;> (try split) <;> omega
theorem sgI_lt {x : Int} (h : x < 0) : sgI x = -1 := by unfold sgI; rw [if_pos h]
set_option maxHeartbeats 4000000 in
theorem FnFloor : laws_FnFloor.Pure := by
  intro l0 l1 hl0 hw0 hl1 hw1
  have y0 := by_wf hw0
  have y1 := by_wf hw1
  obtain ⟨a, ea, ra, a1, a2⟩ := wide_ev y0 (by omega)
  obtain ⟨r, er, rr, r1, r2⟩ := rat_ev y1 (by omega)
  obtain ⟨i, ei, hi⟩ := at_some y1 hl1 (i := 0) (n := 5) (by omega) (by omega)
  obtain ⟨j, ej, hj⟩ := at_some y1 hl1 (i := 1) (n := 4) (by omega) (by omega)
  obtain ⟨nA, dA⟩ := V.bd ra a1 a2
  have va := V.of_ro ra
  have oka := va.ok (nA.mono (by omega)) (dA.mono (by omega))
  have b1 : Bd 1 1 := by unfold Bd; omega
  -- the floor
  obtain ⟨F, vf, nF, le, lt, den⟩ := fl_v ra a1
  have okf := vf.ok (nF.mono (by omega)) (b1.mono (by omega))
  have ff := vf.fit (nF.mono (by omega)) (b1.mono (by omega))
  have ef : Ev (fun k => impl_FloorRat.f k a.1 a.2.1 a.2.2) (ok4 (flZ a)) := by
    have e : Ev _ (flAns a) := implFl_ev a.1 a.2.1 a.2.2
    unfold flAns at e
    rw [if_pos oka, ff] at e
    exact e
  have et : Ev (fun k => spec_FloorRat.f k a.1 a.2.1 a.2.2) (ok4 (flZ a)) := by
    have e : Ev _ (flAns a) := specFl_ev a.1 a.2.1 a.2.2 (by omega) (by omega)
    unfold flAns at e
    rw [if_pos oka, ff] at e
    exact e
  -- the next one
  have eo : Ev (fun k => impl_MakeRat.f k 1 1) (ok4 (wholeR 1)) := by
    have e := implMake_ev 1 1
    have h : makeAns 1 1 = ok4 (wholeR 1) := by
      unfold makeAns
      rw [if_pos (by omega), if_neg (by omega)]
      have : low (decide ((1 : Int) < 0) != decide ((1 : Int) < 0)) (absI 1) (absI 1) = wholeR 1 := by
        show low false 1 1 = _
        rw [low_one (by omega), nat_1]
        unfold wholeR
        rw [show absI 1 = 1 from rfl, nat_1]; rfl
      rw [this]; rfl
    rw [h] at e
    exact e
  have vn := vf.add one_v
  rw [Int.mul_one, Int.mul_one] at vn
  have nn := (nF.add (b1.mono (show 1 ≤ 5 by omega)))
  have oko := one_v.ok (b1.mono (by omega)) (b1.mono (by omega))
  have en := addOK okf oko (vn.fit (nn.mono (by omega)) (b1.mono (by omega)))
  have okn := vn.ok (nn.mono (by omega)) (b1.mono (by omega))
  -- comparing
  have ek : Ev (fun k => impl_CmpRat.f k (flZ a).1 (flZ a).2.1 (flZ a).2.2 a.1 a.2.1 a.2.2) (sgI (F * Pl.bt a - tp a), 0) := by
    have e : Ev _ (cmpAns (flZ a) a) := implCmpR_ev (flZ a).1 (flZ a).2.1 (flZ a).2.2 a.1 a.2.1 a.2.2
    unfold cmpAns at e
    rw [if_pos ⟨okf, oka⟩] at e
    have h := vf.num
    rw [Int.mul_one] at h
    rw [h, show F * Pl.bt (flZ a) * Pl.bt a - tp a * Pl.bt (flZ a) = (F * Pl.bt a - tp a) * Pl.bt (flZ a) by rw [Int.sub_mul, Int.mul_right_comm], sgI_mul vf.ro.bt] at e
    exact e
  have em : Ev (fun k => impl_CmpRat.f k a.1 a.2.1 a.2.2 (addZ (flZ a) (wholeR 1)).1 (addZ (flZ a) (wholeR 1)).2.1 (addZ (flZ a) (wholeR 1)).2.2) (-1, 0) := by
    have e : Ev _ (cmpAns a (addZ (flZ a) (wholeR 1))) := implCmpR_ev a.1 a.2.1 a.2.2 (addZ (flZ a) (wholeR 1)).1 (addZ (flZ a) (wholeR 1)).2.1 (addZ (flZ a) (wholeR 1)).2.2
    unfold cmpAns at e
    rw [if_pos ⟨oka, okn⟩] at e
    have h := vn.num
    rw [Int.mul_one] at h
    rw [h, show tp a * Pl.bt (addZ (flZ a) (wholeR 1)) - (F + 1) * Pl.bt (addZ (flZ a) (wholeR 1)) * Pl.bt a = (tp a - (F + 1) * Pl.bt a) * Pl.bt (addZ (flZ a) (wholeR 1)) by rw [Int.sub_mul, Int.mul_right_comm], sgI_mul vn.ro.bt, sgI_lt (by omega)] at e
    exact e
  -- powers
  obtain ⟨okx, ex⟩ := pow_ok rr r1 r2 (i := i) (by omega)
  obtain ⟨oky, ey⟩ := pow_ok rr r1 r2 (i := j) (by omega)
  obtain ⟨okz, ez⟩ := pow_ok rr r1 r2 (i := i + j) (by omega)
  have exyz : mulZ (pwZ r i) (pwZ r j) = pwZ r (i + j) := by
    refine V.eq ((pw_v rr i).mul (pw_v rr j)) (pw_v rr (i + j)) ?_
    rw [Int.pow_add, Int.pow_add]
  have fz : fit4 (mulZ (pwZ r i) (pwZ r j)) = ok4 (mulZ (pwZ r i) (pwZ r j)) := by
    rw [exyz]; unfold fit4; rw [if_pos (len40 okz)]
  have ep := mulOK okx oky fz
  rw [exyz] at ep
  have s1 := sameOK okf
  have s2 := sameOK okz
  have s3 := sameInts_ev (flZ a).2.2 [1] (by rw [den]; simp)
  rw [decide_eq_true den] at s3
  obtain ⟨K1, h1⟩ := ea
  obtain ⟨K2, h2⟩ := ef
  obtain ⟨K3, h3⟩ := et
  obtain ⟨K4, h4⟩ := eo
  obtain ⟨K5, h5⟩ := en
  obtain ⟨K6, h6⟩ := ek
  obtain ⟨K7, h7⟩ := em
  obtain ⟨K8, h8⟩ := er
  obtain ⟨K9, h9⟩ := ex
  obtain ⟨K10, h10⟩ := ey
  obtain ⟨K11, h11⟩ := ez
  obtain ⟨K12, h12⟩ := ep
  obtain ⟨K13, h13⟩ := s1
  obtain ⟨K14, h14⟩ := s2
  obtain ⟨K15, h15⟩ := s3
  exact ⟨K1 + K2 + K3 + K4 + K5 + K6 + K7 + K8 + K9 + K10 + K11 + K12 + K13 + K14 + K15, a, flZ a, flZ a, wholeR 1, addZ (flZ a) (wholeR 1), r, pwZ r i, pwZ r j, pwZ r (i + j), pwZ r (i + j), 0, sgI (F * Pl.bt a - tp a), (i : Int), (j : Int),
    h1 _ (by omega), h2 _ (by omega), h3 _ (by omega), h4 _ (by omega), h5 _ (by omega), h6 _ (by omega), h7 _ (by omega), h8 _ (by omega), ei, ej, h9 _ (by omega), h10 _ (by omega), h11 _ (by omega), h12 _ (by omega), h13 _ (by omega), h15 _ (by omega), h14 _ (by omega), sgI_le (by omega), by omega, by omega, by omega, by omega⟩
end Go.Proofs.Ytacdaijalkkogaa.Pure
