/-
The words of the codes: what the program's table holds when the call begins, and what CodeWord and CodeOf answer over it.
-/
import Derived.Test.YtbgaodfnhbbgdaaDoorRows
import Derived.Test.YtbgaodfnhbbgdaaDoorQx1
import Derived.WalkKit
import Derived.ProofKit
import Derived.LaidMore
import Derived.OpenShut
import Derived.ShutString
import Derived.Stop.Joined
import Derived.Deep.Slices
import Derived.ChangeVars
import Derived.Below
import Derived.ChangeArms
namespace Go.Proofs.YtbgaodfnhbbgdaaDoor.Words
open Go.ChangeShapes Go.WideShapes Go.ChangeAt Go.RowKit Go.Deep Go.Proofs.YtbgaodfnhbbgdaaDoor.Q Go.Proofs.YtbgaodfnhbbgdaaDoorW.PrintWords Go.Proofs.YtbgaodfnhbbgdaaDoorW.PrintLast Go.Proofs.YtbgaodfnhbbgdaaDoorW.PrintMore
set_option linter.unusedVariables false
set_option linter.unusedSimpArgs false

def bs : List (List UInt8) := [[111, 107], [98, 97, 100], [108, 111, 110, 103], [102, 111, 114, 109], [114, 97, 110, 103, 101], [110, 111, 110, 101], [109, 97, 110, 121], [102, 117, 108, 108], [115, 105, 122, 101], [122, 101, 114, 111], [100, 111, 109, 97, 105, 110], [98, 101, 108, 111, 119], [100, 101, 101, 112], [110, 97, 109, 101], [115, 111, 108, 118, 101, 114], [98, 117, 100, 103, 101, 116], [108, 105, 109, 105, 116], [115, 101, 97, 114, 99, 104], [98, 111, 120], [97, 117, 100, 105, 116]]
def WS : List ByteArray := [(⟨#[111, 107]⟩ : ByteArray), (⟨#[98, 97, 100]⟩ : ByteArray), (⟨#[108, 111, 110, 103]⟩ : ByteArray), (⟨#[102, 111, 114, 109]⟩ : ByteArray), (⟨#[114, 97, 110, 103, 101]⟩ : ByteArray), (⟨#[110, 111, 110, 101]⟩ : ByteArray), (⟨#[109, 97, 110, 121]⟩ : ByteArray), (⟨#[102, 117, 108, 108]⟩ : ByteArray), (⟨#[115, 105, 122, 101]⟩ : ByteArray), (⟨#[122, 101, 114, 111]⟩ : ByteArray), (⟨#[100, 111, 109, 97, 105, 110]⟩ : ByteArray), (⟨#[98, 101, 108, 111, 119]⟩ : ByteArray), (⟨#[100, 101, 101, 112]⟩ : ByteArray), (⟨#[110, 97, 109, 101]⟩ : ByteArray), (⟨#[115, 111, 108, 118, 101, 114]⟩ : ByteArray), (⟨#[98, 117, 100, 103, 101, 116]⟩ : ByteArray), (⟨#[108, 105, 109, 105, 116]⟩ : ByteArray), (⟨#[115, 101, 97, 114, 99, 104]⟩ : ByteArray), (⟨#[98, 111, 120]⟩ : ByteArray), (⟨#[97, 117, 100, 105, 116]⟩ : ByteArray)]
theorem ws_bs : WS = bs.map fun b => (⟨b.toArray⟩ : ByteArray) := rfl
theorem ws_len : WS.length = 20 := rfl
theorem own : ownKnob Tryd.prog.godebug = none := by kernel_rfl
theorem laidOut : laidOutB Tryd.prog = true := by kernel_rfl
theorem gWords : Tryd.prog.globalNamed "loop.example/g00615/impl.words" = some 0 := by kernel_rfl
theorem tWords : (Tryd.prog.globals[0]?).map (·.type) = some 26 := by kernel_rfl
def L {H : Type} : List (String × DataW H) := [("loop.example/g00615/impl.words", Rows.laid_loop_example_g00615_impl_words)]
theorem laid_bs {H : Type} : (Rows.laid_loop_example_g00615_impl_words : DataW H) = .slice (bs.map fun b => .lit (.string b)) [] := rfl
theorem door_met (os : Os) (args : Array Value) : laidMetH Tryd.prog L ((World.doorLaid Tryd.prog 14 os).forCall (fun _ _ => 0) ⟨#[], args, []⟩).memory :=
  laidMetH_of_parts3 (fuel := 8) (laidMet_of_run' 8 (by kernel_rfl) (by kernel_rfl)) (by kernel_rfl) (by kernel_rfl)
/-- What the condition gives the walks: the table's cell, and its words. -/
theorem of_laid {W : World} (h : laidMetH Tryd.prog L W) : ∃ a c, W.cell? ⟨0, 0, none⟩ = some (.slice a 20 c) ∧ 20 ≤ c ∧ Kd.C Kd.string W a 20 WS := by
  rw [MakeChecks.laidMetH_plain _ _ _ (by kernel_rfl)] at h
  obtain ⟨ps, ⟨g0, t0, cs0, f0, p0, q0, hg0, ht0, hv0, hd0, _, _⟩, _, _⟩ := h
  obtain rfl := Option.some.inj (gWords.symm.trans hg0)
  obtain rfl := Option.some.inj (tWords.symm.trans ht0)
  have hcc : Tryd.prog.cellsOf 9 = 1 := by kernel_rfl
  rw [laid_bs] at hd0
  rcases open_slice1 Tryd.underlying26 hcc hd0 with ⟨_, hx⟩ | ⟨a, len, cap, m, n, V, D, Pl, hcs, _, hl, hm, hmm, hx, hel⟩
  · simp at hx
  · simp only [Prod.mk.injEq, DataW.slice.injEq] at hx
    obtain ⟨⟨hx1, _⟩, _⟩ := hx
    have hlen : len = 20 := by
      have := congrArg List.length hx1
      have h0 : bs.length = 20 := rfl
      simpa [h0] using this.symm
    subst hlen
    have hm2 : 20 ≤ m := by rw [hmm]; split <;> omega
    have hcell : W.cell? ⟨0, 0, none⟩ = some (.slice (some a) 20 cap) := by
      have := World.var?_cell hg0 hv0 0
      rw [Array.eq_one_of_toList hcs] at this
      simpa using this
    refine ⟨some a, cap, hcell, hl, ws_len, by omega, fun _ => ⟨a, rfl, fun j p hj => ?_⟩⟩
    have hj20 : j < 20 := by
      have := (List.getElem?_eq_some_iff.1 hj).1
      rw [ws_len] at this; exact this
    obtain ⟨h1, h2⟩ := hel j (by omega)
    obtain ⟨s, e1, e2, _⟩ := DataW.trod_string Tryd.underlying9 h2
    simp only [List.cons.injEq, and_true] at e1
    simp only [Prod.mk.injEq] at e2
    have h3 := congrArg (fun l => l[j]?) hx1
    simp only [List.getElem?_map, List.getElem?_range hj20, Option.map_some] at h3
    rw [ws_bs, List.getElem?_map] at hj
    cases hb : bs[j]? with
    | none => rw [hb] at hj; cases hj
    | some b =>
      rw [hb] at hj h3
      simp only [Option.map_some, Option.some.injEq] at hj h3
      rw [e2.1] at h3
      have h4 : b = s.data.toList := by
        injection h3 with h3
        injection h3 with h3
      refine ⟨[.string p], rfl, rfl, fun i u hi => ?_⟩
      have hi0 : i = 0 ∧ u = .string p := by
        cases i with
        | zero => simp at hi; exact ⟨rfl, hi.symm⟩
        | succ i => simp at hi
      obtain ⟨rfl, rfl⟩ := hi0
      rw [← hj, h4]
      have h5 : (⟨s.data.toList.toArray⟩ : ByteArray) = s := by cases s; simp
      rw [h5, Nat.add_zero]
      rw [e1] at h1
      show W.cell? (a.add (j * 1)) = _
      rw [Nat.mul_one]; exact h1
/-- The word of a code. -/
def wordAt (i : Int) : ByteArray := if 0 ≤ i ∧ i < 20 then WS[i.toNat]?.getD ByteArray.empty else ByteArray.empty
theorem spec_word (i : Int) : spec_CodeWord.f i = some (wordAt i) := by
  unfold spec_CodeWord.f wordAt
  show (some WS).bind _ = _
  rw [Option.bind_some]
  by_cases h : i < 0
  · rw [if_pos h, if_neg (by omega)]; rfl
  · rw [if_neg h, ws_len]
    by_cases h2 : i ≥ ((20 : Nat) : Int)
    · rw [if_pos h2, if_neg (by omega)]; rfl
    · rw [if_neg h2, if_pos (by omega), if_pos (by omega), if_pos (by omega)]
      simp [rdOf, List.getD_eq_getElem?_getD]
theorem impl_word (A : Option Addr) (c : Nat) (w : World) (hG : w.cell? ⟨0, 0, none⟩ = some (.slice A 20 c)) (hC : Kd.C Kd.string w A 20 WS) (i : Int) (hw : (Lit.int .i64 i).wf = true) :
    Calls Tryd.prog 6 #[.int .i64 i] w fun e w' => e = .returned (.string (wordAt i)) ∧ w' = w := by
  by_cases h : i < 0
  · have e : wordAt i = ByteArray.empty := by unfold wordAt; rw [if_neg (by omega)]
    rw [e]
    have hb : decide (i < 0) = true := decide_eq_true h
    clear e hC
    go_enter Tryd.func6, Tryd.ntmps6
    go_wp2
    go_ret
    exact ⟨rfl, rfl⟩
  · by_cases h2 : 20 ≤ i
    · have e : wordAt i = ByteArray.empty := by unfold wordAt; rw [if_neg (by omega)]
      rw [e]
      have hb : decide (i < 0) = false := decide_eq_false h
      have hb2 : decide (20 ≤ i) = true := decide_eq_true h2
      clear e hC
      go_enter Tryd.func6, Tryd.ntmps6
      go_wp2
      go_ret
      exact ⟨rfl, rfl⟩
    · obtain ⟨k, rfl⟩ := Int.eq_ofNat_of_zero_le (by omega : 0 ≤ i)
      obtain ⟨ad, rfl, hc⟩ := hC.2.2 (by omega)
      obtain ⟨s, hs⟩ : ∃ s, WS[k]? = some s := ⟨_, List.getElem?_eq_getElem (by rw [ws_len]; omega)⟩
      obtain ⟨cc, _, hcc, hcl⟩ := hc k s hs
      have hcc' : cc = [.string s] := hcc
      subst hcc'
      have hcell : w.cell? (ad.add k) = some (.string s) := by
        have := hcl 0 _ rfl
        rwa [Nat.add_zero, show k * Kd.string.sz = k from Nat.mul_one k] at this
      have e : wordAt (k : Int) = s := by unfold wordAt; rw [if_pos (by omega), Int.toNat_natCast, hs]; rfl
      rw [e]
      have hb : decide ((k : Int) < 0) = false := decide_eq_false h
      have hb2 : decide (20 ≤ (k : Int)) = false := decide_eq_false h2
      have hb3 : ((k : Int) < 20) = True := eq_true (by omega)
      have hb4 : (k < 20) = True := eq_true (by omega)
      clear e hC hc hcl hs
      go_enter Tryd.func6, Tryd.ntmps6
      go_wp2
      go_ret
      exact ⟨rfl, rfl⟩
end Go.Proofs.YtbgaodfnhbbgdaaDoor.Words
