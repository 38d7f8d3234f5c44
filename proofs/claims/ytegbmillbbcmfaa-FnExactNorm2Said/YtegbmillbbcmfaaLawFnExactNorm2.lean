-- written by a program of this claim's session (myprint.py) out of the translation; Lean checks it.
import Derived.Test.YtegbmillbbcmfaaRows
import Derived.Test.YtegbmillbbcmfaaQxlawsFnExactNorm2
import Derived.Test.YtegbmillbbcmfaaPureFnExactNorm2
import Derived.Test.YtegbmillbbcmfaaOp0
import Derived.WalkKit
import Derived.ProofKit
import Derived.OpenShut
import Derived.ShutString
import Derived.ChangeOld
import Derived.Below
import Derived.SizedLaws
import Derived.ChangeArms
import Derived.ChangeSlices
namespace Go.Proofs.Ytegbmillbbcmfaa.fnExactNorm2
open Go.ChangeShapes Go.WideShapes Go.ChangeAt Go.RowKit Go.Proofs.Ytegbmillbbcmfaa.Q Go.Proofs.YtegbmillbbcmfaaW.PrintWords Go.Proofs.Ytegbmillbbcmfaa
open Go.ChangeMaps (open_string shut_string)
set_option linter.unusedVariables false
theorem own : ownKnob Try.prog.godebug = none := by kernel_rfl
theorem laidOut : laidOutB Try.prog = true := by kernel_rfl
theorem opens_40 : Op.Opens Try.prog 40 k40 (fun x_ => (True ∧ (x_.f1.length ≤ maxLen ∧ ∀ y0_ ∈ x_.f1, (Lit.int .i64 y0_).wf = true) ∧ (x_.f2.length ≤ maxLen ∧ ∀ y0_ ∈ x_.f2, (Lit.int .i64 y0_).wf = true))) := fun H enc w fuel cs x h => by
  obtain ⟨xs, n, _, _, hl, hlen, hf⟩ := DataW.trod_struct Try.underlying40 h
  have hl' : cs.length = 3 := hl.trans (by kernel_rfl)
  have hlen' : xs.length = 3 := hlen
  obtain ⟨u0, u1, u2, rfl⟩ : ∃ u0 u1 u2, cs = [u0, u1, u2] := match cs, hl' with | [u0, u1, u2], _ => ⟨u0, u1, u2, rfl⟩
  obtain ⟨a0, k0, w0⟩ := (Op.opens_bool Try.underlying4) H enc w n _ _ ((hf 0 _ rfl).trans (List.getElem?_eq_getElem (show 0 < xs.length by omega)))
  have c0 : Try.prog.cellsOf 4 = 1 := by kernel_rfl
  replace k0 : Kd.bool.K w a0 ((([u0, u1, u2] : List Value).drop 0).take (Try.prog.cellsOf 4)) := k0
  rw [c0] at k0
  obtain ⟨a1, k1, w1⟩ := (Op.opens_slice (e := 3) (0 : Int) Try.underlying30 (by kernel_rfl) (Op.opens_int Try.underlying3)) H enc w n _ _ ((hf 1 _ rfl).trans (List.getElem?_eq_getElem (show 1 < xs.length by omega)))
  have c1 : Try.prog.cellsOf 30 = 1 := by kernel_rfl
  replace k1 : (Kd.slice 3 (Kd.int .i64)).K w a1 ((([u0, u1, u2] : List Value).drop 1).take (Try.prog.cellsOf 30)) := k1
  rw [c1] at k1
  obtain ⟨a2, k2, w2⟩ := (Op.opens_slice (e := 3) (0 : Int) Try.underlying30 (by kernel_rfl) (Op.opens_int Try.underlying3)) H enc w n _ _ ((hf 2 _ rfl).trans (List.getElem?_eq_getElem (show 2 < xs.length by omega)))
  have c2 : Try.prog.cellsOf 30 = 1 := by kernel_rfl
  replace k2 : (Kd.slice 3 (Kd.int .i64)).K w a2 ((([u0, u1, u2] : List Value).drop 2).take (Try.prog.cellsOf 30)) := k2
  rw [c2] at k2
  exact ⟨⟨a0, a1, a2⟩, ⟨[u0], [u1, u2], rfl, k0, [u1], [u2], rfl, k1, k2⟩, w0, w1, w2⟩
set_option maxRecDepth 100000 in
theorem lifted (os : Os) (started : os.Started) (H : Type) (enc : TypeId × Value → H) :
    ReturnsInHanded {} Try.checked os 6 .any (Rows.fnExactNorm2Spec.pre6 enc Try.prog Try.f6 Rows.fnExactNorm2Row.domain false) (Rows.fnExactNorm2Spec.post enc Try.prog Try.f6 false true false false) := by
  refine returnsInHanded_of_change_sized (C := Try.checked) own started (by kernel_rfl) Try.func6
    (ChangeSpec.witness6 (enc := enc) (C := Try.checked) false ⟨#[], #[.slice none 0 0], []⟩ 8 (by kernel_rfl) (by kernel_rfl) (by kernel_rfl) (by kernel_rfl)) ?_
  intro W base args ds gs before hval0 hW hcnd hsz0 _
  have hsz : (DataW.weightsEach Try.prog (Try.f6.params.toList ++ Rows.fnExactNorm2Spec.plain.varTypes Try.prog) (ds ++ gs)).all (· ≤ reachBytes) = true := hsz0
  have hval : ∀ (j : Nat) t v, Try.f6.params[j]? = some t → args[j]? = some v → Value.okWide Try.prog W .any base t v := hval0
  have hW' := hW
  obtain ⟨p, q, hA0, hV, rfl, hfz, hnd⟩ := hW
  have hA : DataW.TrodAll enc Try.prog W 0 (fun _ => true) true Try.f6.params.toList args.toList ds p := hA0
  rw [Try.params6] at hA hval hsz
  obtain ⟨v0, vs0, d0, ds0, p0, q0, hargs, rfl, rfl, h0, r0⟩ := trodAll_cons hA
  obtain ⟨rfl, rfl, rfl⟩ := trodAll_nil r0
  obtain rfl : args = #[v0] := by cases args; simp_all
  obtain ⟨rfl, rfl⟩ := trodVars_none hV
  have k0 := h0
  have lt0 : ∀ x ∈ p0, x.block < W.heap.size := by obtain ⟨m, hm⟩ := k0; exact DataW.trod_lt m _ _ _ hm
  obtain ⟨b0, len0, cap0, rfl⟩ := okWide_slice Try.underlying22 (hval 0 22 v0 rfl rfl)
  obtain ⟨x0, ⟨A0, c0, e0, l0, g0⟩, W0⟩ : ∃ x_, (Kd.slice 40 k40).K W x_ [.slice b0 len0 cap0] ∧ (x_.length ≤ maxLen ∧ ∀ y0_ ∈ x_, (True ∧ (y0_.f1.length ≤ maxLen ∧ ∀ y1_ ∈ y0_.f1, (Lit.int .i64 y1_).wf = true) ∧ (y0_.f2.length ≤ maxLen ∧ ∀ y1_ ∈ y0_.f2, (Lit.int .i64 y1_).wf = true))) := by
    obtain ⟨fuel, hf⟩ := h0
    exact (Op.opens_slice (e := 40) z40 Try.underlying22 (by kernel_rfl) opens_40) H enc W fuel _ _ hf
  simp only [List.cons.injEq, Value.slice.injEq, and_true] at e0
  obtain ⟨rfl, rfl, rfl⟩ := e0
  clear hA0 hval0 hsz0 hsz
  obtain ⟨k, hk⟩ := Pure.FnExactNorm2 x0 W0
  refine (Q.laws_FnExactNorm2.calls k _ _ x0 W g0 l0 hk).mono fun e W' he => ?_
  obtain ⟨he, bel⟩ := he
  subst he
  exact ⟨_, rfl, _, _, _, [], _, [], hW', trodAll_mk1 (shut_bool Try.underlying4 _), (trodAll_cons_mk (Below.trod laidOut (by kernel_rfl) (of_decide_eq_true (by kernel_rfl)) k0 bel lt0) trodAll_mk0), rfl, bel.frame _, fun h => by cases h⟩
theorem over : Rows.fnExactNorm2Row.holds Try.pinned (OpenSpec.ofChange Rows.fnExactNorm2Spec) :=
  OpenClaim.holds_of_wide 6 Try.f6 rfl rfl rfl rfl rfl rfl rfl ⟨rfl, rfl, rfl, rfl, rfl⟩ rfl rfl rfl rfl rfl (by kernel_rfl) Try.func6 (by kernel_rfl)
    (of_decide_eq_true (by kernel_rfl)) (by unfold Func.isWrapper; first | (rw [if_pos (by decide +kernel)]; kernel_rfl) | (rw [if_neg (by decide +kernel)]; exact ⟨rfl, rfl⟩))
    (fun os started H enc _ => lifted os started H enc)
theorem proved : Rows.FnExactNorm2Said := over
#print axioms proved
end Go.Proofs.Ytegbmillbbcmfaa.fnExactNorm2
namespace Go.Proofs.Ytegbmillbbcmfaa
/-- The row, under a short name, for the claim. -/
theorem fnExactNorm2_holds : Rows.FnExactNorm2Said := fnExactNorm2.proved
end Go.Proofs.Ytegbmillbbcmfaa
