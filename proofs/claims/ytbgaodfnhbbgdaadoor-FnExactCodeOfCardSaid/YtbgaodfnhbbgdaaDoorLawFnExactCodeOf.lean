/-
The Go program's CodeOf returns what the reference's returns, for all words: the tied card of the law FnExactCodeOf holds. Conditions: those of the given card alone (the table of words lies as the program's own text lays it).
-/
import Derived.Test.YtbgaodfnhbbgdaaDoorWords
import Derived.Test.YtbgaodfnhbbgdaaDoorCards
import Derived.Test.YtbgaodfnhbbgdaaDoorTie
import Derived.SevenTiedAt
import Derived.OpenVars
import Derived.ChangeMaps5
import Derived.ShutString
namespace Go.Proofs.YtbgaodfnhbbgdaaDoor.fnExactCodeOf
open Go.ChangeShapes Go.WideShapes Go.ChangeAt Go.ChangeMaps Go.RowKit Go.Proofs.YtbgaodfnhbbgdaaDoor.Q Go.Proofs.YtbgaodfnhbbgdaaDoor.Words Go.Proofs.YtbgaodfnhbbgdaaDoorW.PrintWords Go.Proofs.YtbgaodfnhbbgdaaDoorW.PrintLast Go.Proofs.YtbgaodfnhbbgdaaDoorW.PrintMore
set_option linter.unusedVariables false

/-- The first place, from i on, of the n last words, where the word stands. -/
def ans (s : ByteArray) : Nat → Nat → Int
  | 0, _ => -1
  | n + 1, i => if (rdOf ByteArray.empty WS (i : Int)).toList = s.toList then (i : Int) else ans s n (i + 1)
theorem ans_succ (s : ByteArray) (n i : Nat) : ans s (n + 1) i = if (rdOf ByteArray.empty WS (i : Int)).toList = s.toList then (i : Int) else ans s n (i + 1) := rfl
theorem wordAt_rd (i : Nat) (h : i < 20) : wordAt (i : Int) = rdOf ByteArray.empty WS (i : Int) := by
  unfold wordAt
  rw [if_pos (by omega)]
  simp [rdOf, List.getD_eq_getElem?_getD]
theorem wrap_in {x : Int} (h0 : -9223372036854775808 ≤ x) (h1 : x ≤ 9223372036854775807) : wrap64 x = x := by
  simp only [wrap64]; omega
theorem wrapS (i : Nat) (h : i < 20) : wrap64 ((i : Int) + 1) = ((i + 1 : Nat) : Int) := by
  rw [wrap_in (by omega) (by omega)]; omega
theorem spec_ans (s : ByteArray) : ∀ (n i : Nat), i + n = 20 → spec_CodeOf.l0 (n + 1) s (i : Int) = some (ans s n i)
  | 0, i, h => by
    unfold spec_CodeOf.l0
    rw [if_neg (by omega)]; rfl
  | n + 1, i, h => by
    rw [spec_CodeOf.l0, if_pos (by omega), spec_word, Option.bind_some, wordAt_rd i (by omega), wrapS i (by omega), spec_ans s n (i + 1) (by omega)]
    rw [ans_succ]
    split <;> rfl
theorem index_ans (s : ByteArray) : ∀ (n i : Nat), i + n = 20 → slices_Index_string_string.l0 (n + 1) WS s (20 : Int) (i : Int) = some (ans s n i)
  | 0, i, h => by
    unfold slices_Index_string_string.l0
    rw [if_neg (by omega)]; rfl
  | n + 1, i, h => by
    rw [slices_Index_string_string.l0, if_pos (by omega), if_pos (by omega), ws_len, if_pos (by omega), wrapS i (by omega), index_ans s n (i + 1) (by omega)]
    rw [ans_succ]
    by_cases e : s.toList = (rdOf ByteArray.empty WS (i : Int)).toList
    · rw [if_pos e, if_pos e.symm]
    · rw [if_neg e, if_neg fun h => e h.symm]
def code (s : ByteArray) : Int := ans s 20 0
theorem spec_code (s : ByteArray) : spec_CodeOf.f 21 s = some (code s) := spec_ans s 20 0 rfl
theorem index_code (s : ByteArray) : slices_Index_string_string.f 21 WS s = some (code s) := by
  unfold slices_Index_string_string.f
  rw [ws_len]
  exact index_ans s 20 0 rfl

theorem impl_code (A : Option Addr) (c : Nat) (w : World) (hG : w.cell? ⟨0, 0, none⟩ = some (.slice A 20 c)) (hc : 20 ≤ c) (hC : Kd.C Kd.string w A 20 WS) (s : ByteArray) :
    Calls Tryd.prog 8 #[.string s] w fun e w' => e = .returned (.int .i64 (code s)) ∧ Below w.heap.size w w' := by
  have h9 : Calls Tryd.prog 9 #[.slice A 20 c, .string s] w fun e w' => e = .returned (.int .i64 (code s)) ∧ Drawn0 w w' :=
    slices_Index_string_string.calls 21 A c WS s (code s) w hC hc (index_code s)
  have H9 := Aside0.mk h9
  clear h9 hC
  go_enter Tryd.func8, Tryd.ntmps8
  go_wp2_with (go_at_call 9; refine (H9.out).mono ?_; rintro e w1 ⟨rfl, hd⟩)
  go_ret
  exact ⟨rfl, Drawn0.below hd⟩
theorem walk (A : Option Addr) (c : Nat) (w : World) (hG : w.cell? ⟨0, 0, none⟩ = some (.slice A 20 c)) (hc : 20 ≤ c) (hC : Kd.C Kd.string w A 20 WS) (s : ByteArray) :
    Calls Tryd.prog 4 #[.string s] w fun e w' => e = .returned (.bool true) ∧ Below w.heap.size w w' := by
  have h7 : ∀ W, Calls Tryd.prog 7 #[.string s] W fun e w' => e = .returned (.int .i64 (code s)) ∧ Below W.heap.size W w' := fun W => spec_CodeOf.calls 21 s _ W (spec_code s)
  have h8 : ∀ W, Below w.heap.size w W → Calls Tryd.prog 8 #[.string s] W fun e w' => e = .returned (.int .i64 (code s)) ∧ Below W.heap.size W w' := fun W hb =>
    impl_code A c W ((hb.cell (p := ⟨0, 0, none⟩) (World.block_lt_of_cell? w _ hG)).trans hG) hc (Kd.C_below hC hb) s
  have H7 := Aside0.mk h7
  have H8 := Aside0.mk h8
  clear h7 h8 hG hC hc
  by_cases hl : (1048576 : Int) < (s.size : Int)
  · have hb : decide ((1048576 : Int) < (s.size : Int)) = true := decide_eq_true hl
    clear hl
    go_enter Tryd.func4, Tryd.ntmps4
    go_wp2
    go_ret
    exact ⟨rfl, Below.refl _ _⟩
  · have hb : decide ((1048576 : Int) < (s.size : Int)) = false := decide_eq_false hl
    clear hl
    generalize code s = z at H7 H8
    go_enter Tryd.func4, Tryd.ntmps4
    go_wp2_with (first | (go_at_call 7; refine (H7.out _).mono ?_; rintro e w1 ⟨rfl, hb1⟩) | (go_at_call 8; refine (H8.out _ hb1).mono ?_; rintro e w2 ⟨rfl, hb2⟩))
    go_ret
    exact ⟨rfl, hb1.trans (hb2.mono hb1.size)⟩
set_option maxRecDepth 100000 in
theorem lifted (os : Os) (started : os.Started) (H : Type) (enc : TypeId × Value → H) :
    ReturnsInHanded {} Tryd.checked os 4 .any (fun w args => (Rows.fnExactCodeOfSpec.pre enc Tryd.prog Tryd.f4 [] false w args ∧ laidMetH Tryd.prog L w) ∧ sizedMet enc Tryd.prog Tryd.f4 (OpenSpec.ofChange Rows.fnExactCodeOfSpec) false w args)
      (Rows.fnExactCodeOfSpec.post enc Tryd.prog Tryd.f4 false true false false) := by
  refine returnsInHanded_of_change_and (C := Tryd.checked) (X := fun w _ => laidMetH Tryd.prog L w) (fun _ _ _ hh h => h.of_heap hh) own started (by kernel_rfl) Tryd.func4
    (ChangeSpec.witness_shaped (enc := enc) (C := Tryd.checked) (os := os) (X := fun w _ => laidMetH Tryd.prog L w) false (World.doorLaid Tryd.prog 14 os) #[.string ⟨#[]⟩] 8 rfl (World.shaped_of_RefB (by kernel_rfl) (by kernel_rfl)) (by kernel_rfl) (by kernel_rfl) (by kernel_rfl) (door_met os _)) ?_
  intro W base args ds gs before hval0 hW _ _ hL _
  have hval : ∀ (j : Nat) t v, Tryd.f4.params[j]? = some t → args[j]? = some v → Value.okWide Tryd.prog W .any base t v := hval0
  have hW' := hW
  obtain ⟨p, q, hA0, hV0, rfl, hfz, hnd⟩ := hW
  have hA : DataW.TrodAll enc Tryd.prog W 0 (fun _ => true) true Tryd.f4.params.toList args.toList ds p := hA0
  have hV : DataW.TrodVars enc Tryd.prog W (fun _ => true) ["loop.example/g00615/impl.words"] gs q := hV0
  rw [Tryd.params4] at hA hval
  obtain ⟨v0, d0, rfl, rfl, h0⟩ := trodAll_one hA
  obtain ⟨s, rfl, rfl, rfl, hs⟩ := open_string Tryd.underlying9 (hval 0 9 v0 rfl rfl) h0
  obtain ⟨A, c, hG, hc, hC⟩ := of_laid hL
  obtain ⟨g1, hg1⟩ : ∃ g1, gs = [g1] := by
    obtain ⟨g, t, cs, fuel, d, p', rfl, _⟩ := trodVars_one hV
    exact ⟨_, rfl⟩
  subst hg1
  refine (walk A c W hG hc hC s).mono fun e W' ⟨he, bel⟩ => ?_
  subst he
  have hV2 := Below.trodVars laidOut bel (by kernel_rfl) hV
  exact ⟨_, rfl, _, _, _, [], _, _, hW', trodAll_mk1 (shut_bool Tryd.underlying4 _), trodAll_mk1 (shut_string Tryd.underlying9 hs), hV2, bel.frame _, fun h => by cases h⟩
theorem said : Rows.FnExactCodeOfSaid :=
  OpenClaim.holds_of_wide 4 Tryd.f4 rfl rfl rfl rfl rfl rfl rfl ⟨rfl, rfl, rfl, rfl, rfl⟩ rfl rfl rfl rfl rfl (by kernel_rfl) Tryd.func4 (by kernel_rfl)
    (of_decide_eq_true (by kernel_rfl)) (by unfold Func.isWrapper; first | (rw [if_pos (by decide +kernel)]; kernel_rfl) | (rw [if_neg (by decide +kernel)]; exact ⟨rfl, rfl⟩))
    (fun os started H enc _ => lifted os started H enc)
theorem card : Rows.FnExactCodeOfCardSaid :=
  Claim7.holds_tied_plain_at .later [] [.widerDeep] true (true, "5d1dd12a8a1296f659440b96939e6be4f036576a5814f8c60d6beb2bbf624d6c") false
    said (fun _ h => by cases h) (by kernel_rfl) (fun _ h => by cases h) fnExactCodeOf_row_tie rfl ⟨rfl, rfl⟩ (by kernel_rfl) rfl
    (fun f fn hf hfn => by
      obtain rfl : f = 4 := Option.some.inj ((show Tryd.prog.funcNamed "loop.example/g00615/laws.FnExactCodeOf" = some 4 by kernel_rfl).symm.trans hf) |>.symm
      obtain rfl : fn = Tryd.f4 := (Option.some.inj (Tryd.func4.symm.trans hfn)).symm
      exact ⟨by kernel_rfl, fun j t ht => by
        rw [Tryd.params4] at ht
        have hm : t ∈ [9] := by simpa using Array.mem_of_getElem? ht
        have hall : ([9].all fun u => !Tryd.prog.wantsStandIn u) = true := by kernel_rfl
        exact (show Tryd.prog.wantsStandIn t = false by simpa using List.all_eq_true.1 hall t hm)⟩)
    (by kernel_rfl)
#print axioms card
end Go.Proofs.YtbgaodfnhbbgdaaDoor.fnExactCodeOf
namespace Go.Proofs.YtbgaodfnhbbgdaaDoor
/-- The card, under a short name, for the claim. -/
theorem fnExactCodeOf_holds : Rows.FnExactCodeOfCardSaid := fnExactCodeOf.card
end Go.Proofs.YtbgaodfnhbbgdaaDoor
