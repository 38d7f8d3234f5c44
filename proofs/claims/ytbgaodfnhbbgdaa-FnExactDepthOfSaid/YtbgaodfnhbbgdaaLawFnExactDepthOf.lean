-- written by a program of this claim's session (myprint.py) out of the translation; Lean checks it.
import Derived.Test.YtbgaodfnhbbgdaaRows
import Derived.Test.YtbgaodfnhbbgdaaQxlawsFnExactDepthOf
import Derived.Test.YtbgaodfnhbbgdaaPureFnExactDepthOf
import Derived.Test.YtbgaodfnhbbgdaaOp0
import Derived.WalkKit
import Derived.ProofKit
import Derived.OpenShut
import Derived.ShutString
import Derived.ChangeOld
import Derived.Below
import Derived.SizedLaws
import Derived.ChangeArms
import Derived.ChangeSlices
namespace Go.Proofs.Ytbgaodfnhbbgdaa.fnExactDepthOf
open Go.ChangeShapes Go.WideShapes Go.ChangeAt Go.RowKit Go.Proofs.Ytbgaodfnhbbgdaa.Q Go.Proofs.YtbgaodfnhbbgdaaW.PrintWords Go.Proofs.Ytbgaodfnhbbgdaa
open Go.ChangeMaps (open_string shut_string)
set_option linter.unusedVariables false
theorem own : ownKnob Try.prog.godebug = none := by kernel_rfl
theorem laidOut : laidOutB Try.prog = true := by kernel_rfl
theorem opens_79 : Op.Opens Try.prog 79 k79 (fun x_ => ((Lit.int .i64 x_.f0).wf = true ∧ (Lit.int .i64 x_.f1).wf = true ∧ (Lit.int .i64 x_.f2).wf = true ∧ (Lit.int .i64 x_.f3).wf = true)) := fun H enc w fuel cs x h => by
  obtain ⟨xs, n, _, _, hl, hlen, hf⟩ := DataW.trod_struct Try.underlying79 h
  have hl' : cs.length = 4 := hl.trans (by kernel_rfl)
  have hlen' : xs.length = 4 := hlen
  obtain ⟨u0, u1, u2, u3, rfl⟩ : ∃ u0 u1 u2 u3, cs = [u0, u1, u2, u3] := match cs, hl' with | [u0, u1, u2, u3], _ => ⟨u0, u1, u2, u3, rfl⟩
  obtain ⟨a0, k0, w0⟩ := (Op.opens_int Try.underlying3) H enc w n _ _ ((hf 0 _ rfl).trans (List.getElem?_eq_getElem (show 0 < xs.length by omega)))
  have c0 : Try.prog.cellsOf 3 = 1 := by kernel_rfl
  replace k0 : (Kd.int .i64).K w a0 ((([u0, u1, u2, u3] : List Value).drop 0).take (Try.prog.cellsOf 3)) := k0
  rw [c0] at k0
  obtain ⟨a1, k1, w1⟩ := (Op.opens_int Try.underlying3) H enc w n _ _ ((hf 1 _ rfl).trans (List.getElem?_eq_getElem (show 1 < xs.length by omega)))
  have c1 : Try.prog.cellsOf 3 = 1 := by kernel_rfl
  replace k1 : (Kd.int .i64).K w a1 ((([u0, u1, u2, u3] : List Value).drop 1).take (Try.prog.cellsOf 3)) := k1
  rw [c1] at k1
  obtain ⟨a2, k2, w2⟩ := (Op.opens_int Try.underlying3) H enc w n _ _ ((hf 2 _ rfl).trans (List.getElem?_eq_getElem (show 2 < xs.length by omega)))
  have c2 : Try.prog.cellsOf 3 = 1 := by kernel_rfl
  replace k2 : (Kd.int .i64).K w a2 ((([u0, u1, u2, u3] : List Value).drop 2).take (Try.prog.cellsOf 3)) := k2
  rw [c2] at k2
  obtain ⟨a3, k3, w3⟩ := (Op.opens_int Try.underlying3) H enc w n _ _ ((hf 3 _ rfl).trans (List.getElem?_eq_getElem (show 3 < xs.length by omega)))
  have c3 : Try.prog.cellsOf 3 = 1 := by kernel_rfl
  replace k3 : (Kd.int .i64).K w a3 ((([u0, u1, u2, u3] : List Value).drop 3).take (Try.prog.cellsOf 3)) := k3
  rw [c3] at k3
  exact ⟨⟨a0, a1, a2, a3⟩, ⟨[u0], [u1, u2, u3], rfl, k0, [u1], [u2, u3], rfl, k1, [u2], [u3], rfl, k2, k3⟩, w0, w1, w2, w3⟩
theorem opens_51 : Op.Opens Try.prog 51 k51 (fun x_ => ((x_.f0.length ≤ maxLen ∧ ∀ y0_ ∈ x_.f0, ((Lit.int .i64 y0_.f0).wf = true ∧ (Lit.int .i64 y0_.f1).wf = true ∧ (Lit.int .i64 y0_.f2).wf = true ∧ (Lit.int .i64 y0_.f3).wf = true)))) := fun H enc w fuel cs x h => by
  obtain ⟨xs, n, _, _, hl, hlen, hf⟩ := DataW.trod_struct Try.underlying51 h
  have hl' : cs.length = 1 := hl.trans (by kernel_rfl)
  have hlen' : xs.length = 1 := hlen
  obtain ⟨u0, rfl⟩ : ∃ u0, cs = [u0] := match cs, hl' with | [u0], _ => ⟨u0, rfl⟩
  obtain ⟨a0, k0, w0⟩ := (Op.opens_slice (e := 79) z79 Try.underlying22 (by kernel_rfl) opens_79) H enc w n _ _ ((hf 0 _ rfl).trans (List.getElem?_eq_getElem (show 0 < xs.length by omega)))
  have c0 : Try.prog.cellsOf 22 = 1 := by kernel_rfl
  replace k0 : (Kd.slice 79 k79).K w a0 ((([u0] : List Value).drop 0).take (Try.prog.cellsOf 22)) := k0
  rw [c0] at k0
  exact ⟨⟨a0⟩, k0, w0⟩
set_option maxRecDepth 100000 in
theorem lifted (os : Os) (started : os.Started) (H : Type) (enc : TypeId × Value → H) :
    ReturnsInHanded {} Try.checked os 9 .any (Rows.fnExactDepthOfSpec.pre6 enc Try.prog Try.f9 Rows.fnExactDepthOfRow.domain false) (Rows.fnExactDepthOfSpec.post enc Try.prog Try.f9 false true false false) := by
  refine returnsInHanded_of_change_sized (C := Try.checked) own started (by kernel_rfl) Try.func9
    (ChangeSpec.witness6 (enc := enc) (C := Try.checked) false ⟨#[], #[.agg #[.slice none 0 0]], []⟩ 8 (by kernel_rfl) (by kernel_rfl) (by kernel_rfl) (by kernel_rfl)) ?_
  intro W base args ds gs before hval0 hW hcnd hsz0 _
  have hsz : (DataW.weightsEach Try.prog (Try.f9.params.toList ++ Rows.fnExactDepthOfSpec.plain.varTypes Try.prog) (ds ++ gs)).all (· ≤ reachBytes) = true := hsz0
  have hval : ∀ (j : Nat) t v, Try.f9.params[j]? = some t → args[j]? = some v → Value.okWide Try.prog W .any base t v := hval0
  have hW' := hW
  obtain ⟨p, q, hA0, hV, rfl, hfz, hnd⟩ := hW
  have hA : DataW.TrodAll enc Try.prog W 0 (fun _ => true) true Try.f9.params.toList args.toList ds p := hA0
  rw [Try.params9] at hA hval hsz
  obtain ⟨v0, vs0, d0, ds0, p0, q0, hargs, rfl, rfl, h0, r0⟩ := trodAll_cons hA
  obtain ⟨rfl, rfl, rfl⟩ := trodAll_nil r0
  obtain rfl : args = #[v0] := by cases args; simp_all
  obtain ⟨rfl, rfl⟩ := trodVars_none hV
  have k0 := h0
  have lt0 : ∀ x ∈ p0, x.block < W.heap.size := by obtain ⟨m, hm⟩ := k0; exact DataW.trod_lt m _ _ _ hm
  obtain ⟨cs0, rfl, _⟩ := okWide_struct Try.underlying51 (hval 0 51 v0 rfl rfl)
  obtain ⟨x0, K0, W0⟩ : ∃ x_, k51.K W x_ cs0.toList ∧ ((x_.f0.length ≤ maxLen ∧ ∀ y0_ ∈ x_.f0, ((Lit.int .i64 y0_.f0).wf = true ∧ (Lit.int .i64 y0_.f1).wf = true ∧ (Lit.int .i64 y0_.f2).wf = true ∧ (Lit.int .i64 y0_.f3).wf = true))) := by
    obtain ⟨fuel, hf⟩ := h0
    exact opens_51 H enc W fuel _ _ hf
  obtain ⟨A0_0, c0_0, e0, l0_0, g0_0⟩ := k51_open K0
  obtain rfl : cs0 = #[.slice A0_0 x0.f0.length c0_0] := by cases cs0; simpa using e0
  clear hA0 hval0 hsz0 hsz
  obtain ⟨k, hk⟩ := Pure.FnExactDepthOf x0.f0 W0
  refine (Q.laws_FnExactDepthOf.calls k _ _ x0.f0 true W g0_0 l0_0 hk rfl).mono fun e W' he => ?_
  obtain ⟨he, bel⟩ := he
  subst he
  exact ⟨_, rfl, _, _, _, [], _, [], hW', trodAll_mk1 (shut_bool Try.underlying4 _), (trodAll_cons_mk (Below.trod laidOut (by kernel_rfl) (of_decide_eq_true (by kernel_rfl)) k0 bel lt0) trodAll_mk0), rfl, bel.frame _, fun h => by cases h⟩
theorem over : Rows.fnExactDepthOfRow.holds Try.pinned (OpenSpec.ofChange Rows.fnExactDepthOfSpec) :=
  OpenClaim.holds_of_wide 9 Try.f9 rfl rfl rfl rfl rfl rfl rfl ⟨rfl, rfl, rfl, rfl, rfl⟩ rfl rfl rfl rfl rfl (by kernel_rfl) Try.func9 (by kernel_rfl)
    (of_decide_eq_true (by kernel_rfl)) (by unfold Func.isWrapper; first | (rw [if_pos (by decide +kernel)]; kernel_rfl) | (rw [if_neg (by decide +kernel)]; exact ⟨rfl, rfl⟩))
    (fun os started H enc _ => lifted os started H enc)
theorem proved : Rows.FnExactDepthOfSaid := over
#print axioms proved
end Go.Proofs.Ytbgaodfnhbbgdaa.fnExactDepthOf
namespace Go.Proofs.Ytbgaodfnhbbgdaa
/-- The row, under a short name, for the claim. -/
theorem fnExactDepthOf_holds : Rows.FnExactDepthOfSaid := fnExactDepthOf.proved
end Go.Proofs.Ytbgaodfnhbbgdaa
