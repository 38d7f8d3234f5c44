-- written by a program of this claim's session (myprint.py) out of the translation; Lean checks it.
import Derived.Test.YtacdaijalkkogaaRows
import Derived.Test.YtacdaijalkkogaaQxlawsFnExactSubRat
import Derived.Test.YtacdaijalkkogaaPureFnExactSubRat
import Derived.Test.YtacdaijalkkogaaOp0
import Derived.WalkKit
import Derived.ProofKit
import Derived.OpenShut
import Derived.ShutString
import Derived.ChangeOld
import Derived.Below
import Derived.SizedLaws
import Derived.ChangeArms
import Derived.ChangeSlices
namespace Go.Proofs.Ytacdaijalkkogaa.fnExactSubRat
open Go.ChangeShapes Go.WideShapes Go.ChangeAt Go.RowKit Go.Proofs.Ytacdaijalkkogaa.Q Go.Proofs.YtacdaijalkkogaaW.PrintWords Go.Proofs.Ytacdaijalkkogaa
open Go.ChangeMaps (open_string shut_string)
set_option linter.unusedVariables false
theorem own : ownKnob Try.prog.godebug = none := by kernel_rfl
theorem laidOut : laidOutB Try.prog = true := by kernel_rfl
theorem opens_30 : Op.Opens Try.prog 30 k30 (fun x_ => (True ∧ (x_.f1.length ≤ maxLen ∧ ∀ y0_ ∈ x_.f1, (Lit.int .i64 y0_).wf = true) ∧ (x_.f2.length ≤ maxLen ∧ ∀ y0_ ∈ x_.f2, (Lit.int .i64 y0_).wf = true))) := fun H enc w fuel cs x h => by
  obtain ⟨xs, n, _, _, hl, hlen, hf⟩ := DataW.trod_struct Try.underlying30 h
  have hl' : cs.length = 3 := hl.trans (by kernel_rfl)
  have hlen' : xs.length = 3 := hlen
  obtain ⟨u0, u1, u2, rfl⟩ : ∃ u0 u1 u2, cs = [u0, u1, u2] := match cs, hl' with | [u0, u1, u2], _ => ⟨u0, u1, u2, rfl⟩
  obtain ⟨a0, k0, w0⟩ := (Op.opens_bool Try.underlying4) H enc w n _ _ ((hf 0 _ rfl).trans (List.getElem?_eq_getElem (show 0 < xs.length by omega)))
  have c0 : Try.prog.cellsOf 4 = 1 := by kernel_rfl
  replace k0 : Kd.bool.K w a0 ((([u0, u1, u2] : List Value).drop 0).take (Try.prog.cellsOf 4)) := k0
  rw [c0] at k0
  obtain ⟨a1, k1, w1⟩ := (Op.opens_slice (e := 3) (0 : Int) Try.underlying22 (by kernel_rfl) (Op.opens_int Try.underlying3)) H enc w n _ _ ((hf 1 _ rfl).trans (List.getElem?_eq_getElem (show 1 < xs.length by omega)))
  have c1 : Try.prog.cellsOf 22 = 1 := by kernel_rfl
  replace k1 : (Kd.slice 3 (Kd.int .i64)).K w a1 ((([u0, u1, u2] : List Value).drop 1).take (Try.prog.cellsOf 22)) := k1
  rw [c1] at k1
  obtain ⟨a2, k2, w2⟩ := (Op.opens_slice (e := 3) (0 : Int) Try.underlying22 (by kernel_rfl) (Op.opens_int Try.underlying3)) H enc w n _ _ ((hf 2 _ rfl).trans (List.getElem?_eq_getElem (show 2 < xs.length by omega)))
  have c2 : Try.prog.cellsOf 22 = 1 := by kernel_rfl
  replace k2 : (Kd.slice 3 (Kd.int .i64)).K w a2 ((([u0, u1, u2] : List Value).drop 2).take (Try.prog.cellsOf 22)) := k2
  rw [c2] at k2
  exact ⟨⟨a0, a1, a2⟩, ⟨[u0], [u1, u2], rfl, k0, [u1], [u2], rfl, k1, k2⟩, w0, w1, w2⟩
set_option maxRecDepth 100000 in
theorem lifted (os : Os) (started : os.Started) (H : Type) (enc : TypeId × Value → H) :
    ReturnsInHanded {} Try.checked os 12 .any (Rows.fnExactSubRatSpec.pre6 enc Try.prog Try.f12 Rows.fnExactSubRatRow.domain false) (Rows.fnExactSubRatSpec.post enc Try.prog Try.f12 false true false false) := by
  refine returnsInHanded_of_change_sized (C := Try.checked) own started (by kernel_rfl) Try.func12
    (ChangeSpec.witness6 (enc := enc) (C := Try.checked) false ⟨#[], #[.agg #[.bool false, .slice none 0 0, .slice none 0 0], .agg #[.bool false, .slice none 0 0, .slice none 0 0]], []⟩ 8 (by kernel_rfl) (by kernel_rfl) (by kernel_rfl) (by kernel_rfl)) ?_
  intro W base args ds gs before hval0 hW hcnd hsz0 _
  have hsz : (DataW.weightsEach Try.prog (Try.f12.params.toList ++ Rows.fnExactSubRatSpec.plain.varTypes Try.prog) (ds ++ gs)).all (· ≤ reachBytes) = true := hsz0
  have hval : ∀ (j : Nat) t v, Try.f12.params[j]? = some t → args[j]? = some v → Value.okWide Try.prog W .any base t v := hval0
  have hW' := hW
  obtain ⟨p, q, hA0, hV, rfl, hfz, hnd⟩ := hW
  have hA : DataW.TrodAll enc Try.prog W 0 (fun _ => true) true Try.f12.params.toList args.toList ds p := hA0
  rw [Try.params12] at hA hval hsz
  obtain ⟨v0, vs0, d0, ds0, p0, q0, hargs, rfl, rfl, h0, r0⟩ := trodAll_cons hA
  obtain ⟨v1, vs1, d1, ds1, p1, q1, rfl, rfl, rfl, h1, r1⟩ := trodAll_cons r0
  obtain ⟨rfl, rfl, rfl⟩ := trodAll_nil r1
  obtain rfl : args = #[v0, v1] := by cases args; simp_all
  obtain ⟨rfl, rfl⟩ := trodVars_none hV
  have k0 := h0
  have lt0 : ∀ x ∈ p0, x.block < W.heap.size := by obtain ⟨m, hm⟩ := k0; exact DataW.trod_lt m _ _ _ hm
  obtain ⟨cs0, rfl, _⟩ := okWide_struct Try.underlying30 (hval 0 30 v0 rfl rfl)
  obtain ⟨x0, K0, W0⟩ : ∃ x_, k30.K W x_ cs0.toList ∧ (True ∧ (x_.f1.length ≤ maxLen ∧ ∀ y0_ ∈ x_.f1, (Lit.int .i64 y0_).wf = true) ∧ (x_.f2.length ≤ maxLen ∧ ∀ y0_ ∈ x_.f2, (Lit.int .i64 y0_).wf = true)) := by
    obtain ⟨fuel, hf⟩ := h0
    exact opens_30 H enc W fuel _ _ hf
  obtain ⟨A0_1, c0_1, A0_2, c0_2, e0, l0_1, g0_1, l0_2, g0_2⟩ := k30_open K0
  obtain rfl : cs0 = #[.bool x0.f0, .slice A0_1 x0.f1.length c0_1, .slice A0_2 x0.f2.length c0_2] := by cases cs0; simpa using e0
  have k1 := h1
  have lt1 : ∀ x ∈ p1, x.block < W.heap.size := by obtain ⟨m, hm⟩ := k1; exact DataW.trod_lt m _ _ _ hm
  obtain ⟨cs1, rfl, _⟩ := okWide_struct Try.underlying30 (hval 1 30 v1 rfl rfl)
  obtain ⟨x1, K1, W1⟩ : ∃ x_, k30.K W x_ cs1.toList ∧ (True ∧ (x_.f1.length ≤ maxLen ∧ ∀ y0_ ∈ x_.f1, (Lit.int .i64 y0_).wf = true) ∧ (x_.f2.length ≤ maxLen ∧ ∀ y0_ ∈ x_.f2, (Lit.int .i64 y0_).wf = true)) := by
    obtain ⟨fuel, hf⟩ := h1
    exact opens_30 H enc W fuel _ _ hf
  obtain ⟨A1_1, c1_1, A1_2, c1_2, e1, l1_1, g1_1, l1_2, g1_2⟩ := k30_open K1
  obtain rfl : cs1 = #[.bool x1.f0, .slice A1_1 x1.f1.length c1_1, .slice A1_2 x1.f2.length c1_2] := by cases cs1; simpa using e1
  clear hA0 hval0 hsz0 hsz
  obtain ⟨k, hk⟩ := Pure.FnExactSubRat x0.f0 x0.f1 x0.f2 x1.f0 x1.f1 x1.f2 W0 W1
  refine (Q.laws_FnExactSubRat.calls k x0.f0 _ _ x0.f1 _ _ x0.f2 x1.f0 _ _ x1.f1 _ _ x1.f2 true W g0_1 l0_1 g0_2 l0_2 g1_1 l1_1 g1_2 l1_2 hk rfl).mono fun e W' he => ?_
  obtain ⟨he, bel⟩ := he
  subst he
  exact ⟨_, rfl, _, _, _, [], _, [], hW', trodAll_mk1 (shut_bool Try.underlying4 _), (trodAll_cons_mk (Below.trod laidOut (by kernel_rfl) (of_decide_eq_true (by kernel_rfl)) k0 bel lt0) (trodAll_cons_mk (Below.trod laidOut (by kernel_rfl) (of_decide_eq_true (by kernel_rfl)) k1 bel lt1) trodAll_mk0)), rfl, bel.frame _, fun h => by cases h⟩
theorem over : Rows.fnExactSubRatRow.holds Try.pinned (OpenSpec.ofChange Rows.fnExactSubRatSpec) :=
  OpenClaim.holds_of_wide 12 Try.f12 rfl rfl rfl rfl rfl rfl rfl ⟨rfl, rfl, rfl, rfl, rfl⟩ rfl rfl rfl rfl rfl (by kernel_rfl) Try.func12 (by kernel_rfl)
    (of_decide_eq_true (by kernel_rfl)) (by unfold Func.isWrapper; first | (rw [if_pos (by decide +kernel)]; kernel_rfl) | (rw [if_neg (by decide +kernel)]; exact ⟨rfl, rfl⟩))
    (fun os started H enc _ => lifted os started H enc)
theorem proved : Rows.FnExactSubRatSaid := over
#print axioms proved
end Go.Proofs.Ytacdaijalkkogaa.fnExactSubRat
namespace Go.Proofs.Ytacdaijalkkogaa
/-- The row, under a short name, for the claim. -/
theorem fnExactSubRat_holds : Rows.FnExactSubRatSaid := fnExactSubRat.proved
end Go.Proofs.Ytacdaijalkkogaa
