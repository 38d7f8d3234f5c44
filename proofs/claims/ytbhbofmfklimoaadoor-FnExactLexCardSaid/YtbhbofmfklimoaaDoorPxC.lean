/-
Tokens: a list is equal to itself; marks are found again.
-/
import Derived.Test.YtbhbofmfklimoaaDoorPxA
import Derived.Test.YtbhbofmfklimoaaDoorQxlawseqTokenS
import Derived.Test.YtbhbofmfklimoaaDoorQxlawsmarkTokenS
import Derived.Test.YtbhbofmfklimoaaDoorQxlawsheldTokenS
namespace Go.Proofs.YtbhbofmfklimoaaDoor.Pl
open Go.RowKit Go.Proofs.YtbhbofmfklimoaaDoor.Q Go.Proofs.YtbhbofmfklimoaaDoorW.PrintWords Go.Proofs.YtbhbofmfklimoaaDoorW.PrintLast Go.Proofs.YtbhbofmfklimoaaDoorW.PrintMore
set_option linter.unusedVariables false
set_option linter.unusedSimpArgs false

theorem rdT (l : List S31) (i : Nat) : rd_T31 l (i : Int) = l[i]?.getD z31 := by simp [rd_T31, List.getD_eq_getElem?_getD]
theorem eqToken_self (a b : Int) (t : ByteArray) : laws_eqToken.f a b t a b t = some true := by
  unfold laws_eqToken.f
  rw [if_pos rfl, if_pos rfl, if_pos rfl]
theorem eqTokens_ev (x : List S31) (hb : x.length ≤ 100000) : Ev (fun k => laws_eqTokenS.f k x x) true := by
  have loop : ∀ (d i : Nat), i + d = x.length → Ev (fun k => laws_eqTokenS.l0 k x x (i : Int)) true := by
    intro d
    induction d with
    | zero =>
      intro i hd
      refine evT fun k => ?_
      rw [laws_eqTokenS.l0, if_neg (by omega)]
    | succ d ih =>
      intro i hd
      refine Ev.step (fun k => ?_) (ih (i + 1) (by omega))
      rw [laws_eqTokenS.l0, if_pos (by omega), if_pos (by omega), if_pos (by omega), eqToken_self, Option.bind_some, if_pos rfl, wsucc (by omega)]
  have := loop x.length 0 (by omega)
  refine Ev.congr (fun k => ?_) this
  unfold laws_eqTokenS.f
  rw [if_pos rfl]; rfl
/-- A number's mark. -/
theorem markText_loop : ∀ (n : Nat) (x : Int) (t : ByteArray), 0 ≤ x → x.toNat ≤ n → x ≤ 1000000000 → t.size + n ≤ 4000000000000000000 → ∃ r, Ev (fun k => laws_markText.l0 k x t) r := by
  intro n
  induction n using Nat.strongRecOn with
  | ind n ih =>
    intro x t h0 hn hb ht
    by_cases hx : x > 0
    · have hd : Int.tdiv x 10 = x / 10 := Int.tdiv_eq_ediv_of_nonneg h0
      have hsz : (strOfNums [(wrap64 (48 + (Int.tmod x 10))) % 256]).size = 1 := rfl
      obtain ⟨r, h⟩ := ih (n - 1) (by omega) (x / 10) (strOfNums [(wrap64 (48 + (Int.tmod x 10))) % 256] ++ t) (by omega) (by omega) (by omega) (by rw [ByteArray.size_append, hsz]; omega)
      refine ⟨r, Ev.step (fun k => ?_) h⟩
      rw [laws_markText.l0, if_pos hx, Option.bind_some, hsz, if_pos (by omega), hd, wrap_in (by omega) (by omega)]
    · refine ⟨_, Ev.step (f := fun _ => some ((⟨#[109]⟩ : ByteArray) ++ t)) (fun k => ?_) (Ev.now _)⟩
      rw [laws_markText.l0, if_neg hx, if_pos (by omega)]
theorem markText_ev (x : Int) (h1 : x ≤ 1000000000) : ∃ r, Ev (fun k => laws_markText.f k x) r := by
  by_cases h0 : x ≤ 0
  · refine ⟨⟨#[109, 48]⟩, Ev.congr (f := fun _ => some ⟨#[109, 48]⟩) (fun k => ?_) (Ev.now _)⟩
    unfold laws_markText.f
    rw [if_pos h0]
  · obtain ⟨r, h⟩ := markText_loop x.toNat x ⟨#[]⟩ (by omega) (Nat.le_refl _) h1 (by show 0 + x.toNat ≤ _; omega)
    refine ⟨r, Ev.congr (fun k => ?_) h⟩
    unfold laws_markText.f
    rw [if_neg h0]
noncomputable def mT (x : Int) : ByteArray := open Classical in if h : ∃ r, Ev (fun k => laws_markText.f k x) r then Classical.choose h else ⟨#[]⟩
theorem mT_ev (x : Int) (h1 : x ≤ 1000000000) : Ev (fun k => laws_markText.f k x) (mT x) := by
  have h := markText_ev x h1
  unfold mT
  rw [dif_pos h]
  exact Classical.choose_spec h
/-- The token at i, marked. -/
noncomputable def mk3 (i : Nat) : S31 := ⟨1 + 3 * (i : Int), 1 + 3 * (i : Int) + 1, mT (1 + 3 * (i : Int) + 2)⟩
noncomputable def marks (n : Nat) : List S31 := (List.range n).map mk3
theorem marks_length (n : Nat) : (marks n).length = n := by simp [marks]
theorem marks_rd {n i : Nat} (h : i < n) : rd_T31 (marks n) (i : Int) = mk3 i := by
  rw [rdT]; simp [marks, h]
theorem rd_set (l : List S31) (i : Nat) (v : S31) (h : i < l.length) : rd_T31 (l.set i v) (i : Int) = v := by
  rw [rdT, List.getElem?_set_self (by simpa using h)]; rfl
theorem set_take {l : List S31} {i : Nat} {x : S31} (h : i < l.length) : (l.set i x).take (i + 1) = l.take i ++ [x] := by
  rw [List.take_add_one, List.take_set_of_le (Nat.le_refl _)]
  simp [h]
theorem mark_ev (l : List S31) (h : l.length ≤ 100000) : Ev (fun k => laws_markTokenS.f k l 1) (1 + 3 * (l.length : Int), marks l.length) := by
  have loop : ∀ (d i : Nat) (out : List S31), out.length = l.length → i + d = l.length → out.take i = (marks l.length).take i →
      Ev (fun k => laws_markTokenS.l0 k out (1 + 3 * (i : Int)) (i : Int)) (1 + 3 * (l.length : Int), marks l.length) := by
    intro d
    induction d with
    | zero =>
      intro i out ho hi ht
      have e : out = marks l.length := by
        have h1 : out.take i = out := List.take_of_length_le (by omega)
        have h2 : (marks l.length).take i = marks l.length := List.take_of_length_le (by rw [marks_length]; omega)
        rw [h1, h2] at ht; exact ht
      refine evT fun k => ?_
      rw [laws_markTokenS.l0, if_neg (by omega), e, show i = l.length by omega]
    | succ d ih =>
      intro i out ho hi ht
      have hs : (out.set i (mk3 i)).take (i + 1) = (marks l.length).take (i + 1) := by
        rw [set_take (by omega), ht, List.take_add_one (l := marks l.length)]
        simp [marks, show i < l.length by omega]
      have nx := ih (i + 1) (out.set i (mk3 i)) (by simp [ho]) (by omega) hs
      refine Ev.step (f := fun k => (laws_markText.f k (1 + 3 * (i : Int) + 2)).bind fun t220 => laws_markTokenS.l0 k (out.set i ⟨1 + 3 * (i : Int), 1 + 3 * (i : Int) + 1, t220⟩) (1 + 3 * ((i + 1 : Nat) : Int)) ((i + 1 : Nat) : Int)) (fun k => ?_)
        (Ev.bind (f := fun k t220 => laws_markTokenS.l0 k (out.set i ⟨1 + 3 * (i : Int), 1 + 3 * (i : Int) + 1, t220⟩) (1 + 3 * ((i + 1 : Nat) : Int)) ((i + 1 : Nat) : Int)) (mT_ev (1 + 3 * (i : Int) + 2) (by omega)) nx)
      rw [laws_markTokenS.l0, if_pos (by omega), if_pos (by omega), Option.bind_some, Int.toNat_natCast, rd_set _ _ _ (by omega), Option.bind_some, List.set_set, rd_set _ _ _ (by omega)]
      rw [wrap_in (x := 1 + 3 * (i : Int) + 1) (by omega) (by omega), wrap_in (x := 1 + 3 * (i : Int) + 1 + 1) (by omega) (by omega), wrap_in (x := 1 + 3 * (i : Int) + 1 + 1 + 1) (by omega) (by omega), wsucc (by omega)]
      rw [show 1 + 3 * (i : Int) + 1 + 1 = 1 + 3 * (i : Int) + 2 by omega, show 1 + 3 * (i : Int) + 2 + 1 = 1 + 3 * ((i + 1 : Nat) : Int) by omega]
      congr 1
      funext t
      rw [List.set_set]
  have := loop l.length 0 l rfl (by omega) (by simp)
  exact this
theorem held_ev (n : Nat) (h : n ≤ 100000) : Ev (fun k => laws_heldTokenS.f k (marks n) 1) (1 + 3 * (n : Int)) := by
  have loop : ∀ (d i : Nat), i + d = n → Ev (fun k => laws_heldTokenS.l0 k (marks n) (1 + 3 * (i : Int)) (i : Int)) (1 + 3 * (n : Int)) := by
    intro d
    induction d with
    | zero =>
      intro i hi
      refine evT fun k => ?_
      rw [laws_heldTokenS.l0, if_neg (by rw [marks_length]; omega), show i = n by omega]
    | succ d ih =>
      intro i hi
      refine Ev.step (f := fun k => (laws_markText.f k (1 + 3 * (i : Int) + 2)).bind fun t225 => (if (mT (1 + 3 * (i : Int) + 2)).toList = t225.toList then (laws_heldTokenS.l0 k (marks n) (1 + 3 * ((i + 1 : Nat) : Int)) ((i + 1 : Nat) : Int)) else (some (-1)))) (fun k => ?_)
        (Ev.bind (f := fun k t225 => (if (mT (1 + 3 * (i : Int) + 2)).toList = t225.toList then (laws_heldTokenS.l0 k (marks n) (1 + 3 * ((i + 1 : Nat) : Int)) ((i + 1 : Nat) : Int)) else (some (-1)))) (mT_ev (1 + 3 * (i : Int) + 2) (by omega)) (Ev.congr (fun k => if_pos rfl) (ih (i + 1) (by omega))))
      rw [laws_heldTokenS.l0, if_pos (by rw [marks_length]; omega), if_pos (by omega), marks_rd (by omega), if_pos (show (mk3 i).f0 = 1 + 3 * (i : Int) from rfl)]
      rw [wrap_in (x := 1 + 3 * (i : Int) + 1) (by omega) (by omega), if_pos (show (mk3 i).f1 = 1 + 3 * (i : Int) + 1 from rfl), wrap_in (x := 1 + 3 * (i : Int) + 1 + 1) (by omega) (by omega), wrap_in (x := 1 + 3 * (i : Int) + 1 + 1 + 1) (by omega) (by omega), wsucc (by omega)]
      rw [show 1 + 3 * (i : Int) + 1 + 1 = 1 + 3 * (i : Int) + 2 by omega, show 1 + 3 * (i : Int) + 2 + 1 = 1 + 3 * ((i + 1 : Nat) : Int) by omega]
      rfl
  exact loop n 0 (by omega)
end Go.Proofs.YtbhbofmfklimoaaDoor.Pl
