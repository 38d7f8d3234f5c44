/-
Rationals are a field: the law FnField holds, whatever the bytes. Conditions: those of the given row alone.
-/
import Derived.Test.YtacdaijalkkogaaPl
import Derived.Test.YtacdaijalkkogaaPlZ
import Derived.Test.YtacdaijalkkogaaQxlawsFnField
namespace Go.Proofs.Ytacdaijalkkogaa.Pure
open Go.RowKit Go.Proofs.Ytacdaijalkkogaa.Q Go.Proofs.Ytacdaijalkkogaa.Pn Go.Proofs.Ytacdaijalkkogaa.Pl Go.Proofs.YtacdaijalkkogaaW.PrintWords Go.Proofs.YtacdaijalkkogaaW.PrintLast
set_option linter.unusedVariables false
set_option linter.unusedSimpArgs false

set_option maxHeartbeats 4000000 in
theorem FnField : laws_FnField.Pure := by
  intro l0 l1 hl0 hw0 hl1 hw1
  have y0 := by_wf hw0
  have y1 := by_wf hw1
  have y3 : By ([3] ++ l1) := fun x hx => by
    rcases List.mem_cons.1 hx with rfl | hx
    · omega
    · exact y1 x hx
  obtain ⟨a, ea, ra, a1, a2⟩ := wide_ev y0 (by omega)
  obtain ⟨b, eb, rb, b1, b2⟩ := rat_ev y1 (by omega)
  obtain ⟨c, ec, rc, c1, c2⟩ := wide_ev y3 (by simp; omega)
  obtain ⟨nA, dA⟩ := V.bd ra a1 a2
  obtain ⟨nB, dB⟩ := V.bd rb b1 b2
  obtain ⟨nC, dC⟩ := V.bd rc c1 c2
  have va := V.of_ro ra
  have vb := V.of_ro rb
  have vc := V.of_ro rc
  have oka := va.ok (nA.mono (by omega)) (dA.mono (by omega))
  have okb := vb.ok (nB.mono (by omega)) (dB.mono (by omega))
  have okc := vc.ok (nC.mono (by omega)) (dC.mono (by omega))
  -- s = b + c
  have vs := vb.add vc
  have ns := (nB.mul dC).add (nC.mul dB)
  have ds := dB.mul dC
  have oks := vs.ok (ns.mono (by omega)) (ds.mono (by omega))
  have es := addOK okb okc (vs.fit (ns.mono (by omega)) (ds.mono (by omega)))
  -- x = a * s
  have vx := va.mul vs
  have nx := nA.mul ns
  have dx := dA.mul ds
  have okx := vx.ok (nx.mono (by omega)) (dx.mono (by omega))
  have ex := mulOK oka oks (vx.fit (nx.mono (by omega)) (dx.mono (by omega)))
  -- p = a * b, q = a * c
  have vp := va.mul vb
  have np := nA.mul nB
  have dp := dA.mul dB
  have okp := vp.ok (np.mono (by omega)) (dp.mono (by omega))
  have fp := vp.fit (np.mono (by omega)) (dp.mono (by omega))
  have ep := mulOK oka okb fp
  have vq := va.mul vc
  have nq := nA.mul nC
  have dq := dA.mul dC
  have okq := vq.ok (nq.mono (by omega)) (dq.mono (by omega))
  have eq := mulOK oka okc (vq.fit (nq.mono (by omega)) (dq.mono (by omega)))
  -- y = p + q, which is x
  have vy := vp.add vq
  have ny := (np.mul dq).add (nq.mul dp)
  have dy := dp.mul dq
  have ey := addOK okp okq (vy.fit (ny.mono (by omega)) (dy.mono (by omega)))
  have exy : addZ (mulZ a b) (mulZ a c) = mulZ a (addZ b c) := by
    refine V.eq vy vx ?_
    simp only [Int.add_mul, Int.mul_add, Int.mul_assoc, Int.mul_comm, Int.mul_left_comm]
  rw [exy] at ey
  -- z = s - c, which is b
  have vz := vs.add vc.neg
  have nz := ((ns.mul dC).mono (show _ ≤ 10 by omega)).add ((nC.neg.mul ds).mono (show _ ≤ 10 by omega))
  have dz := ds.mul dC
  have ezb : addZ (addZ b c) (negZ c) = b := by
    refine V.eq vz vb ?_
    simp only [Int.add_mul, Int.mul_add, Int.neg_mul, Int.mul_neg, Int.mul_assoc, Int.mul_comm, Int.mul_left_comm]
    omega
  have ez : Ev (fun k => impl_SubRat.f k (addZ b c).1 (addZ b c).2.1 (addZ b c).2.2 c.1 c.2.1 c.2.2) (ok4 b) := by
    have e : Ev _ (twoAns (fun r s => addZ r (negZ s)) (addZ b c) c) := implSub_ev (addZ b c).1 (addZ b c).2.1 (addZ b c).2.2 c.1 c.2.1 c.2.2
    rw [two_ok (op := fun r s => addZ r (negZ s)) oks okc (vz.fit (nz.mono (by omega)) (dz.mono (by omega)))] at e
    simp only [ezb] at e
    exact e
  -- what the reference answers
  have et : Ev (fun k => spec_MulRat.f k a.1 a.2.1 a.2.2 b.1 b.2.1 b.2.2) (ok4 (mulZ a b)) := by
    have e : Ev _ (twoAns mulZ a b) := specMul_ev a.1 a.2.1 a.2.2 b.1 b.2.1 b.2.2 (by omega) (by omega) (by omega) (by omega)
    rw [two_ok oka okb fp] at e
    exact e
  -- a + (-a)
  have vo := va.add va.neg
  have no := (nA.mul dA).add (nA.neg.mul dA)
  have dO := dA.mul dA
  have okn : ratOKB (negZ a) = true := va.neg.ok (nA.neg.mono (by omega)) (dA.mono (by omega))
  have en : Ev (fun k => impl_NegRat.f k a.1 a.2.1 a.2.2) (ok4 (negZ a)) := by
    have e : Ev _ (negAns a) := implNeg_ev a.1 a.2.1 a.2.2
    unfold negAns at e
    rw [if_pos oka] at e
    exact e
  have eo := addOK oka okn (vo.fit (no.mono (by omega)) (dO.mono (by omega)))
  have o0 : (addZ a (negZ a)).2.1 = [] := by
    have h := vo.2
    rw [show tp a * bt a + -tp a * bt a = 0 by rw [Int.neg_mul]; omega] at h
    rw [h]
    unfold lowZ
    show nat (absI 0 / _) = []
    rw [show absI 0 = 0 from rfl, Int.zero_ediv, nat_zero]
  have s1 := sameOK okx
  have s2 := sameOK okb
  have s3 := sameOK okp
  have s4 := sameOK oka
  have s5 : Ev (fun k => impl_RatOK.f k (mulZ a (addZ b c)).1 (mulZ a (addZ b c)).2.1 (mulZ a (addZ b c)).2.2) true := by
    have e := implRatOK_ev (mulZ a (addZ b c)).1 (mulZ a (addZ b c)).2.1 (mulZ a (addZ b c)).2.2
    rw [show ratOKB ((mulZ a (addZ b c)).1, (mulZ a (addZ b c)).2.1, (mulZ a (addZ b c)).2.2) = true from okx] at e
    exact e
  have ed : Ev (fun k => impl_DivRat.f k (mulZ a b).1 (mulZ a b).2.1 (mulZ a b).2.2 b.1 b.2.1 b.2.2) (if b.2.1 = [] then bad4 9 else ok4 a) := by
    have e : Ev _ (Pl.divAns (mulZ a b) b) := implDiv_ev (mulZ a b).1 (mulZ a b).2.1 (mulZ a b).2.2 b.1 b.2.1 b.2.2
    unfold Pl.divAns at e
    rw [if_pos ⟨okp, okb⟩] at e
    by_cases hz : b.2.1 = []
    · rw [if_pos hz] at e ⊢; exact e
    · rw [if_neg hz] at e ⊢
      have hd : divZ (mulZ a b) b = a := (V.div_back ra rb hz).1.eq va rfl
      rw [hd, va.fit (nA.mono (by omega)) (dA.mono (by omega))] at e
      exact e
  obtain ⟨K1, h1⟩ := ea
  obtain ⟨K2, h2⟩ := eb
  obtain ⟨K3, h3⟩ := ec
  obtain ⟨K4, h4⟩ := es
  obtain ⟨K5, h5⟩ := ex
  obtain ⟨K6, h6⟩ := ep
  obtain ⟨K7, h7⟩ := eq
  obtain ⟨K8, h8⟩ := ey
  obtain ⟨K9, h9⟩ := ez
  obtain ⟨K10, h10⟩ := et
  obtain ⟨K11, h11⟩ := s1
  obtain ⟨K12, h12⟩ := s2
  obtain ⟨K13, h13⟩ := s3
  obtain ⟨K14, h14⟩ := s4
  obtain ⟨K15, h15⟩ := s5
  obtain ⟨K16, h16⟩ := ed
  obtain ⟨K17, h17⟩ := en
  obtain ⟨K18, h18⟩ := eo
  refine ⟨K1 + K2 + K3 + K4 + K5 + K6 + K7 + K8 + K9 + K10 + K11 + K12 + K13 + K14 + K15 + K16 + K17 + K18, a, b, c, addZ b c, mulZ a (addZ b c), mulZ a b, mulZ a c, mulZ a (addZ b c), b, mulZ a b, (if b.2.1 = [] then (false, [], []) else a), negZ a, addZ a (negZ a), 0, (if b.2.1 = [] then 9 else 0),
    h1 _ (by omega), h2 _ (by omega), h3 _ (by omega), h4 _ (by omega), h5 _ (by omega), h6 _ (by omega), h7 _ (by omega), h8 _ (by omega), h9 _ (by omega), h10 _ (by omega), h11 _ (by omega), h12 _ (by omega), h13 _ (by omega), h15 _ (by omega), ?_, h17 _ (by omega), h18 _ (by omega), o0, ?_⟩
  · refine (h16 _ (by omega)).trans ?_
    by_cases hz : b.2.1 = []
    · rw [if_pos hz, if_pos hz, if_pos hz]; rfl
    · rw [if_neg hz, if_neg hz, if_neg hz]; rfl
  · by_cases hz : b.2.1 = []
    · exact .inl ⟨hz, if_pos hz⟩
    · refine .inr ⟨List.length_pos_iff.2 hz, if_neg hz, ?_⟩
      rw [if_neg hz]
      exact h14 _ (by omega)
end Go.Proofs.Ytacdaijalkkogaa.Pure
