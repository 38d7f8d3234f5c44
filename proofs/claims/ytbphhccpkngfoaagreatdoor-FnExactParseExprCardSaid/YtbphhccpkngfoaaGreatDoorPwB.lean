/-
A text's tokens: the program and the reference find the same ones.
-/
import Derived.Test.YtbphhccpkngfoaaGreatDoorPxA
import Derived.Test.YtbphhccpkngfoaaGreatDoorQsm
namespace Go.Proofs.YtbphhccpkngfoaaGreatDoor.Pl
open Go.RowKit Go.Proofs.YtbphhccpkngfoaaGreatDoor.Q Go.Proofs.YtbphhccpkngfoaaGreatDoorW.PrintWords Go.Proofs.YtbphhccpkngfoaaGreatDoorW.PrintLast Go.Proofs.YtbphhccpkngfoaaGreatDoorW.PrintMore
set_option linter.unusedVariables false
set_option linter.unusedSimpArgs false

theorem l00_f (b : UInt8) : spec_l00Digit.f (b.toNat : Int) = some (dgb b) := by
  unfold spec_l00Digit.f dgb
  by_cases h : (b.toNat : Int) ≥ 48
  · rw [if_pos h, decide_eq_true (show 48 ≤ b.toNat by omega), Bool.true_and]; exact congrArg some (decide_eq_decide.2 (by omega))
  · rw [if_neg h, decide_eq_false (show ¬ 48 ≤ b.toNat by omega), Bool.false_and]
theorem isDigit_f (b : UInt8) : impl_isDigit.f (b.toNat : Int) = some (dgb b) := by
  unfold impl_isDigit.f dgb
  by_cases h : 48 ≤ (b.toNat : Int)
  · rw [if_pos h, decide_eq_true (show 48 ≤ b.toNat by omega), Bool.true_and]; exact congrArg some (decide_eq_decide.2 (by omega))
  · rw [if_neg h, decide_eq_false (show ¬ 48 ≤ b.toNat by omega), Bool.false_and]
/-- The digits with which a row of bytes begins. -/
def dpre (m : List UInt8) : List UInt8 := m.takeWhile dgb
theorem dpre_dgs : ∀ m : List UInt8, dgs (dpre m)
  | [] => fun _ h => by cases h
  | b :: r => by
    unfold dpre
    rw [List.takeWhile_cons]
    cases h : dgb b with
    | true =>
      intro x hx
      rw [if_pos rfl] at hx
      rcases List.mem_cons.1 hx with rfl | hx
      · exact dgb_iff.1 h
      · exact dpre_dgs r x hx
    | false => intro x hx; rw [if_neg (by decide)] at hx; cases hx
theorem dpre_le (m : List UInt8) : (dpre m).length ≤ m.length := (List.takeWhile_prefix _).length_le
theorem dpre_take (m : List UInt8) : m.take (dpre m).length = dpre m := List.prefix_iff_eq_take.1 (List.takeWhile_prefix dgb) |>.symm
theorem dpre_step (m : List UInt8) (j : Nat) (h : j < (dpre m).length) : dgb (m[j]?.getD 0) = true := by
  have h1 : j < m.length := Nat.lt_of_lt_of_le h (dpre_le m)
  have e : m[j] = (dpre m)[j]'h := by
    have := dpre_take m
    have h2 : (m.take (dpre m).length)[j]? = (dpre m)[j]? := by rw [this]
    rw [List.getElem?_take_of_lt h, List.getElem?_eq_getElem h1, List.getElem?_eq_getElem h] at h2
    exact Option.some.inj h2
  rw [List.getElem?_eq_getElem h1, Option.getD_some, e, dgb_iff]
  exact dpre_dgs m _ (List.getElem_mem _)
theorem dpre_stop : ∀ (m : List UInt8), (dpre m).length < m.length → dgb (m[(dpre m).length]?.getD 0) = false
  | [], h => by cases h
  | b :: r, h => by
    unfold dpre at h ⊢
    rw [List.takeWhile_cons] at h ⊢
    cases hb : dgb b with
    | true =>
      rw [hb, if_pos rfl] at h
      rw [if_pos rfl, List.length_cons, List.getElem?_cons_succ]
      exact dpre_stop r (by simpa [dpre] using h)
    | false =>
      rw [if_neg (by decide)]
      simpa using hb
/-- The signs. -/
def pun (b : UInt8) : Bool := decide (b ∈ ([43, 45, 42, 47, 94, 40, 41] : List UInt8))
theorem punct_f (b : UInt8) : spec_l04Punct.f (tx [b]) = some (pun b) := by
  unfold spec_l04Punct.f
  have e : ∀ c : UInt8, ((tx [b]).toList = [c]) = (b = c) := fun c => by rw [tx_toList]; simp
  simp only [e, pun]
  by_cases h1 : b = 43
  · simp [h1]
  · by_cases h2 : b = 45
    · simp [h2]
    · by_cases h3 : b = 42
      · simp [h3]
      · by_cases h4 : b = 47
        · simp [h4]
        · by_cases h5 : b = 94
          · simp [h5]
          · by_cases h6 : b = 40
            · simp [h6]
            · rw [if_neg h1, if_neg h2, if_neg h3, if_neg h4, if_neg h5, if_neg h6, tx_toList]
              simp [h1, h2, h3, h4, h5, h6]
              by_cases h7 : b = 41
              · simp [h7]
              · simp [h7]
theorem index_f (c : UInt8) : decide (0 ≤ Lib.indexByte [43, 45, 42, 47, 94, 40, 41] c) = pun c := by
  unfold pun
  refine decide_eq_decide.2 ⟨fun h => ?_, fun h => ?_⟩
  · obtain ⟨o, ho⟩ : ∃ o : Nat, Lib.indexByte [43, 45, 42, 47, 94, 40, 41] c = o := ⟨_, (Int.toNat_of_nonneg h).symm⟩
    exact List.mem_of_getElem? (Lib.indexByte_some ho).1
  · refine Decidable.byContradiction fun hn => ?_
    have h1 : Lib.indexByte [43, 45, 42, 47, 94, 40, 41] c = -1 := by have := Lib.indexByte_ge [43, 45, 42, 47, 94, 40, 41] c; omega
    obtain ⟨k, hk⟩ := List.getElem?_of_mem h
    exact Lib.indexByte_none h1 k hk
theorem contains_f (c : UInt8) : strings_Contains.f (⟨#[43, 45, 42, 47, 94, 40, 41]⟩ : ByteArray) (tx [c]) = some (pun c) := by
  unfold strings_Contains.f
  rw [if_pos (show (tx [c]).data.size = 1 from rfl)]
  exact congrArg some (index_f c)
/-- The token with which a row of bytes begins: kind, number, text, length; whether it is one. -/
def tok (m : List UInt8) : (Int × Int × List UInt8 × Nat) × Bool :=
  if dpre m ≠ [] then ((1, vL (dpre m) 0, [], (dpre m).length), numOk (dpre m))
  else if m.head? = some 120 ∧ 1 < m.length ∧ 48 ≤ (m[1]?.getD 0).toNat ∧ (m[1]?.getD 0).toNat ≤ 51 then ((2, ((m[1]?.getD 0).toNat : Int) - 48, [], 2), true)
  else ((3, 0, m.take 1, 1), pun (m[0]?.getD 0))
abbrev isVar (m : List UInt8) : Prop := m.head? = some 120 ∧ 1 < m.length ∧ 48 ≤ (m[1]?.getD 0).toNat ∧ (m[1]?.getD 0).toNat ≤ 51
theorem tok_num {m : List UInt8} (h : dpre m ≠ []) : tok m = ((1, ((vL (dpre m) 0 : Nat) : Int), ([] : List UInt8), (dpre m).length), numOk (dpre m)) := if_pos h
theorem tok_var {m : List UInt8} (h : dpre m = []) (v : isVar m) : tok m = ((2, ((m[1]?.getD 0).toNat : Int) - 48, [], 2), true) := (if_neg (fun n => n h)).trans (if_pos v)
theorem tok_pun {m : List UInt8} (h : dpre m = []) (v : ¬ isVar m) : tok m = ((3, 0, m.take 1, 1), pun (m[0]?.getD 0)) := (if_neg (fun n => n h)).trans (if_neg v)
/-- What the program tells of it. -/
def ansI (t : (Int × Int × List UInt8 × Nat) × Bool) : Int × Int × ByteArray × Int := if t.2 = true then (t.1.1, t.1.2.1, tx t.1.2.2.1, (t.1.2.2.2 : Int)) else (0, 0, ⟨#[]⟩, 0)
theorem dpre_nil {m : List UInt8} (h0 : m ≠ []) (h : dpre m = []) : dgb (m[0]?.getD 0) = false := by
  have := dpre_stop m (by rw [h]; exact List.length_pos_iff.2 h0)
  rwa [h] at this
theorem take1 {m : List UInt8} (h0 : m ≠ []) : m.take 1 = [m[0]?.getD 0] := by
  cases m with
  | nil => exact absurd rfl h0
  | cons b r => rfl
theorem digitsOf_ev (m : List UInt8) (hm : m.length ≤ 100000) : Ev (fun k => impl_digitsOf.f k (tx m)) (tx (dpre m)) := by
  have loop : ∀ (d i : Nat), i + d = (dpre m).length → Ev (fun k => impl_digitsOf.l0 k (tx m) (i : Int)) (tx (dpre m)) := by
    have hle := dpre_le m
    intro d
    induction d with
    | zero =>
      intro i hi
      have e : (tx m).extract 0 i = tx (dpre m) := by rw [tx_ext, List.drop_zero, Nat.sub_zero, show i = (dpre m).length by omega, dpre_take]
      by_cases hlt : i < m.length
      · have hs := dpre_stop m (by omega)
        rw [← show i = (dpre m).length by omega] at hs
        refine evT fun k => ?_
        rw [impl_digitsOf.l0, if_pos (by rw [tx_size]; omega), if_pos (by omega), tx_bt, isDigit_f, hs, Option.bind_some, if_neg (by decide), if_pos (by rw [tx_size]; omega), Int.toNat_natCast, e]
      · refine evT fun k => ?_
        rw [impl_digitsOf.l0, if_neg (by rw [tx_size]; omega), if_pos (by omega), if_pos (by rw [tx_size]; omega), Int.toNat_natCast, e]
    | succ d ih =>
      intro i hi
      refine Ev.step (fun k => ?_) (ih (i + 1) (by omega))
      rw [impl_digitsOf.l0, if_pos (by rw [tx_size]; omega), if_pos (by omega), tx_bt, isDigit_f, dpre_step m i (by omega), Option.bind_some, if_pos rfl, wsucc (by omega)]
  exact loop (dpre m).length 0 (by omega)
theorem next_impl (m : List UInt8) (h0 : m ≠ []) (hm : m.length ≤ 100000) :
    Ev (fun k => impl_nextToken.f k (tx m)) (ansI (tok m)) := by
  have hd := digitsOf_ev m hm
  have hpos : 0 < m.length := List.length_pos_iff.2 h0
  unfold impl_nextToken.f
  by_cases hp : dpre m = []
  · have hg := dpre_nil h0 hp
    have nodig : Ev (fun k => impl_nextToken.j0 k (tx m) false) (ansI ((3, 0, m.take 1, 1), pun (m[0]?.getD 0))) := by
      refine evT fun k => ?_
      rw [impl_nextToken.j0, if_neg (by decide), if_pos (by decide), if_pos (by rw [tx_size]; omega), tx_ext, List.drop_zero, show 1 - 0 = 1 from rfl, take1 h0, contains_f, Option.bind_some]
      cases pun (m[0]?.getD 0) <;> rfl
    have step : ∀ {r}, Ev (fun k => if (bt (tx m) 0) = 120 then (if ((tx m).size : Int) > 1 then (if 1 < ((tx m).size : Int) then ((impl_between.f (wrap64 (bt (tx m) 1)) 48 51).bind fun t188 => (impl_nextToken.j0 k (tx m) t188)) else (none)) else (impl_nextToken.j0 k (tx m) false)) else (impl_nextToken.j0 k (tx m) false)) r →
        Ev (fun k => (impl_digitsOf.f k (tx m)).bind fun t185 => (if t185.toList = ([] : List UInt8) then (if 0 < ((tx m).size : Int) then (if (bt (tx m) 0) = 120 then (if ((tx m).size : Int) > 1 then (if 1 < ((tx m).size : Int) then ((impl_between.f (wrap64 (bt (tx m) 1)) 48 51).bind fun t188 => (impl_nextToken.j0 k (tx m) t188)) else (none)) else (impl_nextToken.j0 k (tx m) false)) else (impl_nextToken.j0 k (tx m) false)) else (none)) else ((impl_smallNumber.f t185).bind fun bt186 => (if bt186.2 = true then (some (1, bt186.1, (⟨#[]⟩ : ByteArray), (t185.size : Int))) else (some (0, 0, (⟨#[]⟩ : ByteArray), 0)))))) r := fun {r} h => by
      refine Ev.bind (f := fun k t185 => (if t185.toList = ([] : List UInt8) then (if 0 < ((tx m).size : Int) then (if (bt (tx m) 0) = 120 then (if ((tx m).size : Int) > 1 then (if 1 < ((tx m).size : Int) then ((impl_between.f (wrap64 (bt (tx m) 1)) 48 51).bind fun t188 => (impl_nextToken.j0 k (tx m) t188)) else (none)) else (impl_nextToken.j0 k (tx m) false)) else (impl_nextToken.j0 k (tx m) false)) else (none)) else ((impl_smallNumber.f t185).bind fun bt186 => (if bt186.2 = true then (some (1, bt186.1, (⟨#[]⟩ : ByteArray), (t185.size : Int))) else (some (0, 0, (⟨#[]⟩ : ByteArray), 0)))))) hd ?_
      refine Ev.congr (fun k => ?_) h
      rw [if_pos (by rw [tx_toList, hp]), if_pos (by rw [tx_size]; omega)]
    have hb0 : bt (tx m) 0 = ((m[0]?.getD 0).toNat : Int) := tx_bt m 0
    have hb1 : bt (tx m) 1 = ((m[1]?.getD 0).toNat : Int) := tx_bt m 1
    have hh : m.head? = some (m[0]?.getD 0) := by
      cases m with
      | nil => exact absurd rfl h0
      | cons b r => rfl
    have hr1 : (m[1]?.getD 0).toNat ≤ 255 := by have := (m[1]?.getD 0).toNat_lt; omega
    have hmod : (((m[1]?.getD 0).toNat : Int) - 48) % 256 = ((m[1]?.getD 0).toNat : Int) - 48 ∨ ¬ 48 ≤ (m[1]?.getD 0).toNat := by omega
    have hbw : impl_between.f (wrap64 ((m[1]?.getD 0).toNat : Int)) 48 51 = some (decide (48 ≤ (m[1]?.getD 0).toNat ∧ (m[1]?.getD 0).toNat ≤ 51)) := by
      unfold impl_between.f
      rw [wrap_in (by omega) (by omega)]
      by_cases hq : (48 : Int) ≤ ((m[1]?.getD 0).toNat : Int)
      · rw [if_pos hq]; exact congrArg some (decide_eq_decide.2 (by omega))
      · rw [if_neg hq]; exact congrArg some (decide_eq_false (by omega)).symm
    refine step ?_
    rw [hb0, hb1]
    have h120 : ((m[0]?.getD 0).toNat : Int) = 120 ↔ (m.head? = some (120 : UInt8)) := by
      rw [hh]
      constructor
      · intro h
        exact congrArg some (UInt8.toNat_inj.1 (by show (m[0]?.getD 0).toNat = 120; omega))
      · intro h
        rw [Option.some.inj h]; rfl
    by_cases hx : ((m[0]?.getD 0).toNat : Int) = 120
    · by_cases hl : 1 < m.length
      · by_cases hq : 48 ≤ (m[1]?.getD 0).toNat ∧ (m[1]?.getD 0).toNat ≤ 51
        · rw [tok_var hp ⟨h120.1 hx, hl, hq⟩]
          refine Ev.congr (f := fun k => impl_nextToken.j0 k (tx m) true) (fun k => ?_) (evT fun k => ?_)
          · rw [if_pos hx, if_pos (by rw [tx_size]; omega), if_pos (by rw [tx_size]; omega), hbw, decide_eq_true hq, Option.bind_some]
          · rw [impl_nextToken.j0, if_pos rfl, if_pos (by rw [tx_size]; omega), hb1, hmod.resolve_right (fun h => h hq.1)]
            rfl
        · rw [tok_pun hp (fun h => hq h.2.2)]
          refine Ev.congr (fun k => ?_) nodig
          rw [if_pos hx, if_pos (by rw [tx_size]; omega), if_pos (by rw [tx_size]; omega), hbw, decide_eq_false hq, Option.bind_some]
      · rw [tok_pun hp (fun h => hl h.2.1)]
        refine Ev.congr (fun k => ?_) nodig
        rw [if_pos hx, if_neg (by rw [tx_size]; omega)]
    · rw [tok_pun hp (fun h => hx (h120.2 h.1))]
      refine Ev.congr (fun k => ?_) nodig
      rw [if_neg hx]
  · obtain ⟨n, e, hn⟩ := small_f hp (dpre_dgs m) (by have := dpre_le m; omega)
    rw [tok_num hp]
    refine Ev.bind (f := fun k t185 => (if t185.toList = ([] : List UInt8) then (if 0 < ((tx m).size : Int) then (if (bt (tx m) 0) = 120 then (if ((tx m).size : Int) > 1 then (if 1 < ((tx m).size : Int) then ((impl_between.f (wrap64 (bt (tx m) 1)) 48 51).bind fun t188 => (impl_nextToken.j0 k (tx m) t188)) else (none)) else (impl_nextToken.j0 k (tx m) false)) else (impl_nextToken.j0 k (tx m) false)) else (none)) else ((impl_smallNumber.f t185).bind fun bt186 => (if bt186.2 = true then (some (1, bt186.1, (⟨#[]⟩ : ByteArray), (t185.size : Int))) else (some (0, 0, (⟨#[]⟩ : ByteArray), 0)))))) hd ?_
    refine Ev.congr (fun k => ?_) (Ev.now _)
    rw [if_neg (by rw [tx_toList]; exact hp), e, Option.bind_some]
    cases ho : numOk (dpre m) with
    | true => rw [hn ho, tx_size]; rfl
    | false => rfl
theorem next_spec (l : List UInt8) (i : Nat) (hi : i < l.length) (hl : l.length ≤ 100000) :
    ∃ r : Int × Int × ByteArray × Int × Bool, Ev (fun k => spec_l04Next.f k (tx l) (i : Int)) r ∧ r.2.2.2.2 = (tok (l.drop i)).2 ∧
      ((tok (l.drop i)).2 = true → r = ((tok (l.drop i)).1.1, (tok (l.drop i)).1.2.1, tx (tok (l.drop i)).1.2.2.1, ((i + (tok (l.drop i)).1.2.2.2 : Nat) : Int), true)) := by
  have h0 : l.drop i ≠ [] := fun h => by have := congrArg List.length h; rw [List.length_drop] at this; simp at this; omega
  have hle := dpre_le (l.drop i)
  rw [List.length_drop] at hle
  have loop : ∀ {r} (d j : Nat), j + d = (dpre (l.drop i)).length → Ev (fun k => spec_l04Next.j1 k (tx l) (i : Int) ((i + (dpre (l.drop i)).length : Nat) : Int)) r → Ev (fun k => spec_l04Next.l0 k (tx l) (i : Int) ((i + j : Nat) : Int)) r := by
    intro r d
    induction d with
    | zero =>
      intro j hj h
      rw [show j = (dpre (l.drop i)).length by omega]
      refine Ev.step (fun k => ?_) h
      by_cases hlt : i + (dpre (l.drop i)).length < l.length
      · have hs := dpre_stop (l.drop i) (by rw [List.length_drop]; omega)
        rw [List.getElem?_drop] at hs
        rw [spec_l04Next.l0, if_pos (by rw [tx_size]; omega), if_pos (by omega), tx_bt, l00_f, hs, Option.bind_some, if_neg (by decide)]
      · rw [spec_l04Next.l0, if_neg (by rw [tx_size]; omega)]
    | succ d ih =>
      intro j hj h
      have hs := dpre_step (l.drop i) j (by omega)
      rw [List.getElem?_drop] at hs
      refine Ev.step (fun k => ?_) (ih (j + 1) (by omega) h)
      rw [spec_l04Next.l0, if_pos (by rw [tx_size]; omega), if_pos (by omega), tx_bt, l00_f, hs, Option.bind_some, if_pos rfl, wsucc (by omega)]
      rfl
  have toF : ∀ {r}, Ev (fun k => spec_l04Next.j1 k (tx l) (i : Int) ((i + (dpre (l.drop i)).length : Nat) : Int)) r → Ev (fun k => spec_l04Next.f k (tx l) (i : Int)) r := fun {r} h => loop (dpre (l.drop i)).length 0 (by omega) h
  have hw1 : wrap64 ((i : Int) + 1) = ((i + 1 : Nat) : Int) := wsucc (by omega)
  by_cases hp : dpre (l.drop i) = []
  · have hg := dpre_nil h0 hp
    rw [List.getElem?_drop, Nat.add_zero] at hg
    rw [hp] at toF
    have hb0 : bt (tx l) (i : Int) = ((l[i]?.getD 0).toNat : Int) := tx_bt l i
    have hb1 : bt (tx l) ((i + 1 : Nat) : Int) = ((l[i + 1]?.getD 0).toNat : Int) := tx_bt l (i + 1)
    have hh : (l.drop i).head? = some (l[i]?.getD 0) := by rw [List.head?_drop, List.getElem?_eq_getElem hi]; rfl
    have e1 : (l.drop i)[1]?.getD 0 = l[i + 1]?.getD 0 := by rw [List.getElem?_drop]
    have e0 : (l.drop i)[0]?.getD 0 = l[i]?.getD 0 := by rw [List.getElem?_drop]; rfl
    have ex : (tx l).extract i (i + 1) = tx ((l.drop i).take 1) := by rw [tx_ext, show i + 1 - i = 1 by omega]
    have ex1 : tx ((l.drop i).take 1) = tx [l[i]?.getD 0] := by rw [take1 h0, e0]
    have tv : ∀ h : isVar (l.drop i), tok (l.drop i) = ((2, ((l[i + 1]?.getD 0).toNat : Int) - 48, [], 2), true) := fun h => by rw [tok_var hp h, e1]
    have tp : ∀ h : ¬ isVar (l.drop i), tok (l.drop i) = ((3, 0, (l.drop i).take 1, 1), pun (l[i]?.getD 0)) := fun h => by rw [tok_pun hp h, e0]
    have iv : isVar (l.drop i) ↔ (some (l[i]?.getD 0) = some (120 : UInt8) ∧ 1 < (l.drop i).length ∧ 48 ≤ (l[i + 1]?.getD 0).toNat ∧ (l[i + 1]?.getD 0).toNat ≤ 51) := by unfold isVar; rw [hh, e1]
    clear hh e1 e0 hg hle loop
    generalize hc1 : l[i + 1]?.getD 0 = c1 at *
    generalize hc0 : l[i]?.getD 0 = c0 at *
    have nodig : ∀ {g : Nat → Option (Int × Int × ByteArray × Int × Bool)}, (∀ k, g k = (if (i : Int) ≤ (wrap64 ((i : Int) + 1)) then (if (wrap64 ((i : Int) + 1)) ≤ ((tx l).size : Int) then ((spec_l04Punct.f ((tx l).extract (i : Int).toNat ((wrap64 ((i : Int) + 1)) : Int).toNat)).bind fun t117 => (some (3, 0, (tx l).extract (i : Int).toNat ((wrap64 ((i : Int) + 1)) : Int).toNat, wrap64 ((i : Int) + 1), t117))) else (none)) else (none))) →
        Ev g (3, 0, tx ((l.drop i).take 1), ((i + 1 : Nat) : Int), pun c0) := fun {g} hk => by
      refine Ev.congr (f := fun _ => some (3, 0, tx ((l.drop i).take 1), ((i + 1 : Nat) : Int), pun c0)) (fun k => ?_) (Ev.now _)
      rw [hk, hw1, if_pos (by omega), if_pos (by rw [tx_size]; omega), Int.toNat_natCast, Int.toNat_natCast, ex, ex1, punct_f]
      rfl
    have hlen : (l.drop i).length = l.length - i := List.length_drop
    have h120 : (c0.toNat : Int) = 120 ↔ (some c0 = some (120 : UInt8)) := by
      constructor
      · intro h
        exact congrArg some (UInt8.toNat_inj.1 (by show c0.toNat = 120; omega))
      · intro h
        rw [Option.some.inj h]; rfl
    have st : ∀ {g : Nat → Option (Int × Int × ByteArray × Int × Bool)} {r}, Ev g r → (∀ k, spec_l04Next.j1 (k + 1) (tx l) (i : Int) ((i + ([] : List UInt8).length : Nat) : Int) = g k) → Ev (fun k => spec_l04Next.f k (tx l) (i : Int)) r := fun {g r} h hk => toF (Ev.step hk h)
    have hi1 : ((i + ([] : List UInt8).length : Nat) : Int) = (i : Int) := rfl
    by_cases hx : (c0.toNat : Int) = 120
    · by_cases hl1 : 1 < (l.drop i).length
      · have hi2 : ((i + 1 : Nat) : Int) < ((tx l).size : Int) := by rw [tx_size]; omega
        by_cases hq1 : 48 ≤ c1.toNat
        · by_cases hq2 : c1.toNat ≤ 51
          · rw [tv (iv.2 ⟨h120.1 hx, hl1, hq1, hq2⟩)]
            refine ⟨_, st (Ev.now (2, (c1.toNat : Int) - 48, tx [], ((i + 2 : Nat) : Int), true)) (fun k => ?_), rfl, fun _ => rfl⟩
            rw [spec_l04Next.j1, hi1, if_neg (by omega), if_pos (by omega), if_pos (by rw [tx_size]; omega), hb0, if_pos hx, hw1, if_pos hi2, if_pos (by omega), hb1, if_pos (by omega), if_pos (by omega), show ((c1.toNat : Int) - 48) % 256 = (c1.toNat : Int) - 48 by omega, wrap_in (by omega) (by omega)]
            rfl
          · rw [tp (fun h => hq2 (iv.1 h).2.2.2)]
            refine ⟨_, st (nodig (fun k => rfl)) (fun k => ?_), rfl, fun h => by
              have h' : pun c0 = true := h
              rw [h']⟩
            rw [spec_l04Next.j1, hi1, if_neg (by omega), if_pos (by omega), if_pos (by rw [tx_size]; omega), hb0, if_pos hx, hw1, if_pos hi2, if_pos (by omega), hb1, if_pos (by omega), if_neg (by omega)]
        · rw [tp (fun h => hq1 (iv.1 h).2.2.1)]
          refine ⟨_, st (nodig (fun k => rfl)) (fun k => ?_), rfl, fun h => by
              have h' : pun c0 = true := h
              rw [h']⟩
          rw [spec_l04Next.j1, hi1, if_neg (by omega), if_pos (by omega), if_pos (by rw [tx_size]; omega), hb0, if_pos hx, hw1, if_pos hi2, if_pos (by omega), hb1, if_neg (by omega)]
      · rw [tp (fun h => hl1 (iv.1 h).2.1)]
        refine ⟨_, st (nodig (fun k => rfl)) (fun k => ?_), rfl, fun h => by
              have h' : pun c0 = true := h
              rw [h']⟩
        rw [spec_l04Next.j1, hi1, if_neg (by omega), if_pos (by omega), if_pos (by rw [tx_size]; omega), hb0, if_pos hx, hw1, if_neg (by rw [tx_size]; omega)]
    · rw [tp (fun h => hx (h120.2 (iv.1 h).1))]
      refine ⟨_, st (nodig (fun k => rfl)) (fun k => ?_), rfl, fun h => by
              have h' : pun c0 = true := h
              rw [h']⟩
      rw [spec_l04Next.j1, hi1, if_neg (by omega), if_pos (by omega), if_pos (by rw [tx_size]; omega), hb0, if_neg hx]
  · obtain ⟨n, e, hn⟩ := l04Number_ev hp (dpre_dgs _) (by omega)
    have hpos : 0 < (dpre (l.drop i)).length := List.length_pos_iff.2 hp
    have ex : (tx l).extract i (i + (dpre (l.drop i)).length) = tx (dpre (l.drop i)) := by rw [tx_ext, Nat.add_sub_cancel_left, dpre_take]
    rw [tok_num hp]
    refine ⟨(1, n, tx [], ((i + (dpre (l.drop i)).length : Nat) : Int), numOk (dpre (l.drop i))), toF (Ev.step (f := fun k => (spec_l04Number.f k (tx (dpre (l.drop i)))).bind fun bt115 => (some (1, bt115.1, (⟨#[]⟩ : ByteArray), ((i + (dpre (l.drop i)).length : Nat) : Int), bt115.2))) (fun k => ?_) (Ev.bind (f := fun _ bt115 => (some (1, bt115.1, (⟨#[]⟩ : ByteArray), ((i + (dpre (l.drop i)).length : Nat) : Int), bt115.2))) e (Ev.now _))), rfl, fun h => ?_⟩
    · rw [spec_l04Next.j1, if_pos (by omega), if_pos (by omega), if_pos (by omega), if_pos (by rw [tx_size]; omega), Int.toNat_natCast, Int.toNat_natCast, ex]
    · have h' : numOk (dpre (l.drop i)) = true := h
      rw [hn h', h']
theorem tok_len {m : List UInt8} (h0 : m ≠ []) : 1 ≤ (tok m).1.2.2.2 ∧ (tok m).1.2.2.2 ≤ m.length := by
  have hpos : 0 < m.length := List.length_pos_iff.2 h0
  unfold tok
  by_cases hp : dpre m = []
  · rw [if_neg (show ¬ (dpre m ≠ []) from fun h => h hp)]
    split
    · rename_i h; exact ⟨Nat.le_succ 1, h.2.1⟩
    · exact ⟨Nat.le_refl 1, hpos⟩
  · rw [if_pos hp]
    exact ⟨List.length_pos_iff.2 hp, dpre_le m⟩
theorem trim_f (m : List UInt8) : strings_TrimLeft.f (tx m) (⟨#[32]⟩ : ByteArray) = some (tx (m.dropWhile (· == 32))) := by
  unfold strings_TrimLeft.f
  rw [if_pos rfl]
  rfl
/-- What a token of the lexer is. -/
def Tk1 (x : S51) : Prop := x.f0 = 3 ∨ ((x.f0 = 1 ∨ x.f0 = 2) ∧ x.f2.toList = [])
theorem tok_tk (m : List UInt8) : Tk1 ⟨(tok m).1.1, (tok m).1.2.1, tx (tok m).1.2.2.1⟩ := by
  by_cases h : dpre m ≠ []
  · rw [tok_num h]; exact .inr ⟨.inl rfl, tx_toList _⟩
  · have h' : dpre m = [] := Classical.not_not.1 h
    by_cases v : isVar m
    · rw [tok_var h' v]; exact .inr ⟨.inr rfl, tx_toList _⟩
    · rw [tok_pun h' v]; exact .inl rfl
theorem lex_both (l : List UInt8) (hl : l.length ≤ 100000) : ∀ (n i : Nat) (out : List S51), i + n = l.length → (out.length ≤ 400 ∧ ∀ x ∈ out, Tk1 x) →
    ∃ r : List S51 × Int, (r.1.length ≤ 400 ∧ ∀ x ∈ r.1, Tk1 x) ∧ Ev (fun k => spec_l04Lex.l0 k (tx l) out (i : Int)) r ∧ Ev (fun k => impl_lex.l0 k (tx (l.drop i)) out) r := by
  intro n
  induction n using Nat.strongRecOn with
  | ind n ih =>
    intro i out hi hoq
    obtain ⟨ho, hoq2⟩ := id hoq
    by_cases hn : n = 0
    · refine ⟨(out, 0), hoq, evT fun k => ?_, evT fun k => ?_⟩
      · rw [spec_l04Lex.l0, if_neg (by rw [tx_size]; omega)]
      · rw [impl_lex.l0, trim_f, List.drop_of_length_le (by omega), Option.bind_some, if_pos (by rw [tx_toList]; rfl)]
    · have hil : i < l.length := by omega
      have hdc : l.drop i = (l[i]'hil) :: l.drop (i + 1) := List.drop_eq_getElem_cons hil
      have hb : bt (tx l) (i : Int) = ((l[i]'hil).toNat : Int) := by rw [tx_bt, List.getElem?_eq_getElem hil]; rfl
      by_cases h32 : l[i]'hil = 32
      · obtain ⟨r, h0, h1, h2⟩ := ih (n - 1) (by omega) (i + 1) out (by omega) hoq
        refine ⟨r, h0, Ev.step (fun k => ?_) h1, ?_⟩
        · rw [spec_l04Lex.l0, if_pos (by rw [tx_size]; omega), if_pos (by omega), hb, if_pos (by rw [h32]; rfl), wsucc (by omega)]
        · refine Ev.congr (fun k => ?_) h2
          cases k with
          | zero => rw [impl_lex.l0, impl_lex.l0]
          | succ k =>
            rw [impl_lex.l0, impl_lex.l0, trim_f, trim_f, hdc, List.dropWhile_cons, if_pos (by rw [h32]; rfl)]
      · have h0 : l.drop i ≠ [] := by rw [hdc]; exact List.cons_ne_nil _ _
        have hn32 : (l[i]'hil).toNat ≠ 32 := fun e => h32 (UInt8.toNat_inj.1 e)
        have htr : (l.drop i).dropWhile (· == 32) = l.drop i := by rw [hdc, List.dropWhile_cons, if_neg (by simpa using h32)]
        obtain ⟨q, s1, s2, s3⟩ := next_spec l i hil hl
        have p1 := next_impl (l.drop i) h0 (by rw [List.length_drop]; omega)
        have tl := tok_len h0
        rw [List.length_drop] at tl
        have sp : ∀ {r}, Ev (fun k => if q.2.2.2.2 = true then (if (out.length : Int) = 400 then (some ((([] : List (S51))), 6)) else (if out.length < 4398046511104 then (spec_l04Lex.l0 k (tx l) (out ++ [(⟨q.1, q.2.1, q.2.2.1⟩ : S51)]) q.2.2.2.1) else (none))) else (some ((([] : List (S51))), 3))) r → Ev (fun k => spec_l04Lex.l0 k (tx l) out (i : Int)) r := fun {r} h => by
          refine Ev.step (f := fun k => (spec_l04Next.f k (tx l) (i : Int)).bind fun bt124 => (if bt124.2.2.2.2 = true then (if (out.length : Int) = 400 then (some ((([] : List (S51))), 6)) else (if out.length < 4398046511104 then (spec_l04Lex.l0 k (tx l) (out ++ [(⟨bt124.1, bt124.2.1, bt124.2.2.1⟩ : S51)]) bt124.2.2.2.1) else (none))) else (some ((([] : List (S51))), 3)))) (fun k => ?_) (Ev.bind (f := fun k bt124 => (if bt124.2.2.2.2 = true then (if (out.length : Int) = 400 then (some ((([] : List (S51))), 6)) else (if out.length < 4398046511104 then (spec_l04Lex.l0 k (tx l) (out ++ [(⟨bt124.1, bt124.2.1, bt124.2.2.1⟩ : S51)]) bt124.2.2.2.1) else (none))) else (some ((([] : List (S51))), 3)))) s1 h)
          rw [spec_l04Lex.l0, if_pos (by rw [tx_size]; omega), if_pos (by omega), hb, if_neg (by omega)]
        have im : ∀ {r}, Ev (fun k => (fun k bt194 => (if bt194.2.2.2 = 0 then (some (([] : List (S51)), 3)) else (if (out.length : Int) ≥ 400 then (some (([] : List (S51)), 6)) else (if out.length < 4398046511104 then (if 0 ≤ bt194.2.2.2 then (if bt194.2.2.2 ≤ ((tx (l.drop i)).size : Int) then (impl_lex.l0 k ((tx (l.drop i)).extract (bt194.2.2.2 : Int).toNat (tx (l.drop i)).size) (out ++ [(⟨bt194.1, bt194.2.1, bt194.2.2.1⟩ : S51)])) else (none)) else (none)) else (none))))) k (ansI (tok (l.drop i)))) r → Ev (fun k => impl_lex.l0 k (tx (l.drop i)) out) r := fun {r} h => by
          refine Ev.step (f := fun k => (impl_nextToken.f k (tx (l.drop i))).bind fun bt194 => (if bt194.2.2.2 = 0 then (some (([] : List (S51)), 3)) else (if (out.length : Int) ≥ 400 then (some (([] : List (S51)), 6)) else (if out.length < 4398046511104 then (if 0 ≤ bt194.2.2.2 then (if bt194.2.2.2 ≤ ((tx (l.drop i)).size : Int) then (impl_lex.l0 k ((tx (l.drop i)).extract (bt194.2.2.2 : Int).toNat (tx (l.drop i)).size) (out ++ [(⟨bt194.1, bt194.2.1, bt194.2.2.1⟩ : S51)])) else (none)) else (none)) else (none))))) (fun k => ?_) (Ev.bind p1 h)
          rw [impl_lex.l0, trim_f, htr, Option.bind_some, if_neg (by rw [tx_toList]; exact h0)]
        cases ht : (tok (l.drop i)).2 with
        | false =>
          refine ⟨(([] : List S51), 3), by simp, sp ?_, im ?_⟩
          · refine Ev.congr (fun k => if_neg ?_) (Ev.now _)
            rw [s2, ht]; decide
          · refine Ev.congr (f := fun _ => some (([] : List S51), 3)) (fun k => ?_) (Ev.now _)
            unfold ansI; rw [ht]; rfl
        | true =>
          have hq := s3 ht
          by_cases h400 : out.length = 400
          · refine ⟨(([] : List S51), 6), by simp, sp ?_, im ?_⟩
            · refine Ev.congr (f := fun _ => some (([] : List S51), 6)) (fun k => ?_) (Ev.now _)
              rw [s2, ht, if_pos rfl, if_pos (by omega)]
            · refine Ev.congr (f := fun _ => some (([] : List S51), 6)) (fun k => ?_) (Ev.now _)
              unfold ansI
              rw [ht, if_pos rfl]
              show (if ((tok (l.drop i)).1.2.2.2 : Int) = 0 then _ else _) = _
              rw [if_neg (by omega), if_pos (by omega)]
          · obtain ⟨r, h0', h1, h2⟩ := ih (n - (tok (l.drop i)).1.2.2.2) (by omega) (i + (tok (l.drop i)).1.2.2.2) (out ++ [(⟨(tok (l.drop i)).1.1, (tok (l.drop i)).1.2.1, tx (tok (l.drop i)).1.2.2.1⟩ : S51)]) (by omega) ⟨by rw [List.length_append]; simp; omega, fun x hx => by
              rcases List.mem_append.1 hx with h | h
              · exact hoq2 x h
              · rw [List.mem_singleton.1 h]; exact tok_tk _⟩
            refine ⟨r, h0', sp ?_, im ?_⟩
            · refine Ev.congr (fun k => ?_) h1
              rw [hq, if_pos rfl, if_neg (by omega), if_pos (by omega)]
            · refine Ev.congr (fun k => ?_) h2
              unfold ansI
              rw [ht, if_pos rfl]
              show (if ((tok (l.drop i)).1.2.2.2 : Int) = 0 then _ else _) = _
              rw [if_neg (by omega), if_neg (by omega), if_pos (by omega), if_pos (show (0 : Int) ≤ ((tok (l.drop i)).1.2.2.2 : Int) by omega)]
              show (if ((tok (l.drop i)).1.2.2.2 : Int) ≤ _ then _ else _) = _
              rw [if_pos (by rw [tx_size, List.length_drop]; omega)]
              show impl_lex.l0 k ((tx (l.drop i)).extract (((tok (l.drop i)).1.2.2.2 : Int)).toNat (tx (l.drop i)).size) _ = _
              rw [Int.toNat_natCast, tx_ext, tx_size, List.drop_drop, List.take_of_length_le (by rw [List.length_drop, List.length_drop]; omega)]
theorem tx_self (s : ByteArray) : s = tx s.data.toList := tx_of rfl
theorem longCode_one (k : Nat) (n m : Int) : impl_longCode.f (k + 2) n [m] = some (if m > n then 2 else 0) := by
  unfold impl_longCode.f
  have hl : (([m] : List Int).length : Int) = 1 := rfl
  have h01 : wrap64 (0 + 1) = 1 := by unfold wrap64; omega
  rw [hl, impl_longCode.l0, if_pos (by omega), if_pos (by omega), hl, if_pos (by omega), h01]
  have e : rd [m] 0 = m := rfl
  rw [e]
  by_cases h : m > n
  · rw [if_pos h, if_pos h]
  · rw [if_neg h, if_neg h, impl_longCode.l0, if_neg (by omega)]
theorem lex_all (s : ByteArray) (hs : s.size ≤ 65536) : ∃ r : List S51 × Int, (r.1.length ≤ 400 ∧ ∀ x ∈ r.1, Tk1 x) ∧ Ev (fun k => spec_l04Lex.f k s) r ∧ Ev (fun k => impl_lex.f k s) r := by
  have hlen : s.data.toList.length = s.size := by rw [Array.length_toList]; rfl
  obtain ⟨r, h0, h1, h2⟩ := lex_both s.data.toList (by omega) s.data.toList.length 0 [] (by omega) (by simp)
  rw [← tx_self s] at h1
  rw [List.drop_zero, ← tx_self s] at h2
  exact ⟨r, h0, h1, h2⟩
end Go.Proofs.YtbphhccpkngfoaaGreatDoor.Pl
