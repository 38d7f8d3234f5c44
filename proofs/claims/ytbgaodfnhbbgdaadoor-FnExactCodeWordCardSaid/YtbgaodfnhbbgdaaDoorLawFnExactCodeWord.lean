/-
The Go program's CodeWord returns what the reference's returns, for all whole numbers: the tied card of the law FnExactCodeWord holds. Conditions: those of the given card alone (the table of words lies as the program's own text lays it).
-/
import Derived.Test.YtbgaodfnhbbgdaaDoorWords
import Derived.Test.YtbgaodfnhbbgdaaDoorCards
import Derived.Test.YtbgaodfnhbbgdaaDoorTie
import Derived.SevenTiedAt
import Derived.OpenVars
namespace Go.Proofs.YtbgaodfnhbbgdaaDoor.fnExactCodeWord
open Go.ChangeShapes Go.WideShapes Go.ChangeAt Go.RowKit Go.Proofs.YtbgaodfnhbbgdaaDoor.Q Go.Proofs.YtbgaodfnhbbgdaaDoor.Words Go.Proofs.YtbgaodfnhbbgdaaDoorW.PrintWords Go.Proofs.YtbgaodfnhbbgdaaDoorW.PrintLast Go.Proofs.YtbgaodfnhbbgdaaDoorW.PrintMore
set_option linter.unusedVariables false

theorem walk (A : Option Addr) (c : Nat) (w : World) (hG : w.cell? ⟨0, 0, none⟩ = some (.slice A 20 c)) (hC : Kd.C Kd.string w A 20 WS) (i : Int) (hw : (Lit.int .i64 i).wf = true) :
    Calls Tryd.prog 3 #[.int .i64 i] w fun e w' => e = .returned (.bool true) ∧ Below w.heap.size w w' := by
  obtain ⟨s, hs⟩ : ∃ s, wordAt i = s := ⟨_, rfl⟩
  have h5 : ∀ W, Calls Tryd.prog 5 #[.int .i64 i] W fun e w' => e = .returned (.string s) ∧ Below W.heap.size W w' := fun W => spec_CodeWord.calls i s W (by rw [spec_word, hs])
  have h6 : ∀ W, Below w.heap.size w W → Calls Tryd.prog 6 #[.int .i64 i] W fun e w' => e = .returned (.string s) ∧ w' = W := fun W hb => by
    rw [← hs]
    exact impl_word A c W ((hb.cell (p := ⟨0, 0, none⟩) (World.block_lt_of_cell? w _ hG)).trans hG) (Kd.C_below hC hb) i hw
  have H5 := Aside0.mk h5
  have H6 := Aside0.mk h6
  clear h5 h6 hG hC hs hw
  go_enter Tryd.func3, Tryd.ntmps3
  go_wp2_with (first | (go_at_call 5; refine (H5.out _).mono ?_; rintro e w1 ⟨rfl, hb⟩) | (go_at_call 6; refine (H6.out _ hb).mono ?_; rintro e w2 ⟨rfl, rfl⟩))
  go_ret
  exact ⟨rfl, hb⟩
set_option maxRecDepth 100000 in
theorem lifted (os : Os) (started : os.Started) (H : Type) (enc : TypeId × Value → H) :
    ReturnsInHanded {} Tryd.checked os 3 .any (fun w args => (Rows.fnExactCodeWordSpec.pre enc Tryd.prog Tryd.f3 [] false w args ∧ laidMetH Tryd.prog L w) ∧ sizedMet enc Tryd.prog Tryd.f3 (OpenSpec.ofChange Rows.fnExactCodeWordSpec) false w args)
      (Rows.fnExactCodeWordSpec.post enc Tryd.prog Tryd.f3 false true false false) := by
  refine returnsInHanded_of_change_and (C := Tryd.checked) (X := fun w _ => laidMetH Tryd.prog L w) (fun _ _ _ hh h => h.of_heap hh) own started (by kernel_rfl) Tryd.func3
    (ChangeSpec.witness_shaped (enc := enc) (C := Tryd.checked) (os := os) (X := fun w _ => laidMetH Tryd.prog L w) false (World.doorLaid Tryd.prog 14 os) #[.int .i64 0] 8 rfl (World.shaped_of_RefB (by kernel_rfl) (by kernel_rfl)) (by kernel_rfl) (by kernel_rfl) (by kernel_rfl) (door_met os _)) ?_
  intro W base args ds gs before hval0 hW _ _ hL _
  have hval : ∀ (j : Nat) t v, Tryd.f3.params[j]? = some t → args[j]? = some v → Value.okWide Tryd.prog W .any base t v := hval0
  have hW' := hW
  obtain ⟨p, q, hA0, hV0, rfl, hfz, hnd⟩ := hW
  have hA : DataW.TrodAll enc Tryd.prog W 0 (fun _ => true) true Tryd.f3.params.toList args.toList ds p := hA0
  have hV : DataW.TrodVars enc Tryd.prog W (fun _ => true) ["loop.example/g00615/impl.words"] gs q := hV0
  rw [Tryd.params3] at hA hval
  obtain ⟨v0, d0, rfl, rfl, h0⟩ := trodAll_one hA
  obtain ⟨a0, rfl, rfl, rfl, w0⟩ := open_int Tryd.underlying3 (hval 0 3 v0 rfl rfl) h0
  obtain ⟨A, c, hG, _, hC⟩ := of_laid hL
  obtain ⟨g1, hg1⟩ : ∃ g1, gs = [g1] := by
    obtain ⟨g, t, cs, fuel, d, p', rfl, _⟩ := trodVars_one hV
    exact ⟨_, rfl⟩
  subst hg1
  refine (walk A c W hG hC a0 w0).mono fun e W' ⟨he, bel⟩ => ?_
  subst he
  have hV2 := Below.trodVars laidOut bel (by kernel_rfl) hV
  exact ⟨_, rfl, _, _, _, [], _, _, hW', trodAll_mk1 (shut_bool Tryd.underlying4 _), trodAll_mk1 (shut_int Tryd.underlying3 w0), hV2, bel.frame _, fun h => by cases h⟩
theorem said : Rows.FnExactCodeWordSaid :=
  OpenClaim.holds_of_wide 3 Tryd.f3 rfl rfl rfl rfl rfl rfl rfl ⟨rfl, rfl, rfl, rfl, rfl⟩ rfl rfl rfl rfl rfl (by kernel_rfl) Tryd.func3 (by kernel_rfl)
    (of_decide_eq_true (by kernel_rfl)) (by unfold Func.isWrapper; first | (rw [if_pos (by decide +kernel)]; kernel_rfl) | (rw [if_neg (by decide +kernel)]; exact ⟨rfl, rfl⟩))
    (fun os started H enc _ => lifted os started H enc)
theorem card : Rows.FnExactCodeWordCardSaid :=
  Claim7.holds_tied_plain_at .later [] [.widerDeep] true (true, "5d1dd12a8a1296f659440b96939e6be4f036576a5814f8c60d6beb2bbf624d6c") false
    said (fun _ h => by cases h) (by kernel_rfl) (fun _ h => by cases h) fnExactCodeWord_row_tie rfl ⟨rfl, rfl⟩ (by kernel_rfl) rfl
    (fun f fn hf hfn => by
      obtain rfl : f = 3 := Option.some.inj ((show Tryd.prog.funcNamed "loop.example/g00615/laws.FnExactCodeWord" = some 3 by kernel_rfl).symm.trans hf) |>.symm
      obtain rfl : fn = Tryd.f3 := (Option.some.inj (Tryd.func3.symm.trans hfn)).symm
      exact ⟨by kernel_rfl, fun j t ht => by
        rw [Tryd.params3] at ht
        have hm : t ∈ [3] := by simpa using Array.mem_of_getElem? ht
        have hall : ([3].all fun u => !Tryd.prog.wantsStandIn u) = true := by kernel_rfl
        exact (show Tryd.prog.wantsStandIn t = false by simpa using List.all_eq_true.1 hall t hm)⟩)
    (by kernel_rfl)
#print axioms card
end Go.Proofs.YtbgaodfnhbbgdaaDoor.fnExactCodeWord
namespace Go.Proofs.YtbgaodfnhbbgdaaDoor
/-- The card, under a short name, for the claim. -/
theorem fnExactCodeWord_holds : Rows.FnExactCodeWordCardSaid := fnExactCodeWord.card
end Go.Proofs.YtbgaodfnhbbgdaaDoor
