/-
Nodes: their copies, and what the program's and the reference's small tests of a node answer.
-/
import Derived.Test.YtbphhccpkngfoaaGreatDoorQximplNodeplainOk
import Derived.Test.YtbphhccpkngfoaaGreatDoorQxl05Node
import Derived.Test.YtbphhccpkngfoaaGreatDoorQla
namespace Go.Proofs.YtbphhccpkngfoaaGreatDoor.Pt
open Go.RowKit Go.Proofs.YtbphhccpkngfoaaGreatDoor.Q Go.Proofs.YtbphhccpkngfoaaGreatDoorW.PrintWords Go.Proofs.YtbphhccpkngfoaaGreatDoorW.PrintLast Go.Proofs.YtbphhccpkngfoaaGreatDoorW.PrintMore
set_option linter.unusedVariables false
set_option linter.unusedSimpArgs false

theorem wrap_in {x : Int} (h0 : -9223372036854775808 ≤ x) (h1 : x ≤ 9223372036854775807) : wrap64 x = x := by
  simp only [wrap64]; omega
theorem wsucc {i : Nat} (h : (i : Int) < 9223372036854775807) : wrap64 ((i : Int) + 1) = ((i + 1 : Nat) : Int) := by rw [wrap_in (by omega) (by omega)]; omega
theorem rdT (l : List S49) (i : Nat) : rd_T49 l (i : Int) = l[i]?.getD z49 := by simp [rd_T49, List.getD_eq_getElem?_getD]
theorem eq_loop (x : List S49) (hb : x.length ≤ 4000000000000000000) : ∀ (d i : Nat), i + d = x.length → Ev (fun k => laws_eqNodeS.l0 k x x (i : Int)) true := by
  intro d
  induction d with
  | zero =>
    intro i hd
    refine Ev.step (f := fun _ => some true) (fun k => ?_) (Ev.now _)
    simp only [laws_eqNodeS.l0]; rw [if_neg (by omega)]
  | succ d ih =>
    intro i hd
    refine Ev.step (fun k => ?_) (ih (i + 1) (by omega))
    simp only [laws_eqNodeS.l0, laws_eqNode.f, if_true]
    rw [if_pos (by omega), if_pos (by omega), if_pos (by omega), wsucc (by omega)]; rfl
theorem eqNodes_ev (x : List S49) (hb : x.length ≤ 1048576) : Ev (fun k => laws_eqNodeS.f k x x) true := by
  obtain ⟨K, e⟩ := eq_loop x (by omega) x.length 0 (by omega)
  refine ⟨K, fun k hk => ?_⟩
  have e' := e k hk
  simp only at e'
  have e0 : ((0 : Nat) : Int) = 0 := rfl
  rw [e0] at e'
  show laws_eqNodeS.f k x x = _
  unfold laws_eqNodeS.f
  rw [if_pos rfl, e']
theorem in_f (a lo hi : Int) : spec_l01In.f a lo hi = some (decide (lo ≤ a ∧ a ≤ hi)) := by
  unfold spec_l01In.f
  by_cases h : lo ≤ a
  · rw [if_pos h]; simp [h]
  · rw [if_neg h]; simp [h]
theorem bw_f (a lo hi : Int) : impl_between.f a lo hi = some (decide (lo ≤ a ∧ a ≤ hi)) := by
  unfold impl_between.f
  by_cases h : lo ≤ a
  · rw [if_pos h]; simp [h]
  · rw [if_neg h]; simp [h]
/-- How many children an operation has. -/
def kd (op : Int) : Int := if 3 ≤ op ∧ op ≤ 6 then 2 else if op = 7 ∨ op = 8 then 1 else 0
theorem kd_two {op : Int} (h : 3 ≤ op ∧ op ≤ 6) : kd op = 2 := if_pos h
theorem kd_one {op : Int} (h : op = 7 ∨ op = 8) : kd op = 1 := by unfold kd; rw [if_neg (by omega), if_pos h]
theorem kd_zero {op : Int} (h : ¬ (3 ≤ op ∧ op ≤ 6)) (h' : ¬ (op = 7 ∨ op = 8)) : kd op = 0 := by unfold kd; rw [if_neg h, if_neg h']
theorem kids_f (k : Nat) (op a b n : Int) : impl_Node_kids.f (k + 1) op a b n = some (kd op) := by
  unfold impl_Node_kids.f
  simp only [impl_Node_kids.j0]
  by_cases h3 : op = 3
  · rw [if_pos h3, kd_two (by omega)]; subst h3; rfl
  by_cases h4 : op = 4
  · rw [if_neg h3, if_pos h4, kd_two (by omega)]; subst h4; rfl
  by_cases h5 : op = 5
  · rw [if_neg h3, if_neg h4, if_pos h5, kd_two (by omega)]; subst h5; rfl
  rw [if_neg h3, if_neg h4, if_neg h5]
  by_cases h6 : op = 6
  · rw [kd_two (by omega)]; subst h6; rfl
  rw [if_neg (by simp [h6])]
  by_cases h7 : op = 7
  · rw [if_pos h7, kd_one (by omega)]
  by_cases h8 : op = 8
  · rw [if_neg h7, if_pos h8, kd_one (by omega)]
  · rw [if_neg h7, if_neg h8, kd_zero (by omega) (by omega)]
theorem two_f (op : Int) : spec_l05Two.f op = some (decide (3 ≤ op ∧ op ≤ 6)) := by
  unfold spec_l05Two.f; rw [in_f]; rfl
theorem some_dec {p q : Prop} [Decidable p] [Decidable q] (h : p ↔ q) : some (decide p) = some (decide q) := congrArg some (decide_eq_decide.2 h)
theorem some_no {q : Prop} [Decidable q] (h : ¬ q) : some false = some (decide q) := by rw [decide_eq_false h]
theorem some_beq {x y : Int} {q : Prop} [Decidable q] (h : x = y ↔ q) : some (x == y) = some (decide q) := by
  rw [show (x == y) = decide (x = y) from by by_cases e : x = y <;> simp [e]]; exact some_dec h
theorem one_f (op : Int) : spec_l05One.f op = some (decide (op = 7 ∨ op = 8)) := by
  unfold spec_l05One.f
  by_cases h : op = 7
  · rw [if_pos h]; simp [h]
  · rw [if_neg h]; exact some_beq (by omega)
/-- What a node may be at a place of a tape. -/
def Plain (op a b n i : Int) : Prop := (3 ≤ op ∧ op ≤ 6 ∧ 0 ≤ a ∧ a ≤ i - 1 ∧ 0 ≤ b ∧ b ≤ i - 1 ∧ n = 0) ∨ (op = 7 ∧ 0 ≤ a ∧ a ≤ i - 1 ∧ b = 0 ∧ n = 0) ∨ (op = 8 ∧ 0 ≤ a ∧ a ≤ i - 1 ∧ b = 0 ∧ 0 ≤ n ∧ n ≤ 8) ∨ (op = 2 ∧ a = 0 ∧ b = 0 ∧ 0 ≤ n ∧ n ≤ 3) ∨ (op = 1 ∧ a = 0 ∧ b = 0 ∧ 0 ≤ n ∧ n ≤ 999999999)
instance (op a b n i : Int) : Decidable (Plain op a b n i) := by unfold Plain; infer_instance
/-- What a node may be at a place of an expression, but for where its children's trees begin. -/
def Sn (op a b n i : Int) : Prop := (3 ≤ op ∧ op ≤ 6 ∧ 0 ≤ a ∧ a ≤ i - 1 ∧ a + 1 ≤ b ∧ b ≤ i - 1 ∧ n = 0) ∨ (op = 7 ∧ a = i - 1 ∧ 0 < i ∧ b = 0 ∧ n = 0) ∨ (op = 8 ∧ a = i - 1 ∧ 0 < i ∧ b = 0 ∧ 0 ≤ n ∧ n ≤ 8) ∨ (op = 2 ∧ a = 0 ∧ b = 0 ∧ 0 ≤ n ∧ n ≤ 3) ∨ (op = 1 ∧ a = 0 ∧ b = 0 ∧ 0 ≤ n ∧ n ≤ 999999999)
instance (op a b n i : Int) : Decidable (Sn op a b n i) := by unfold Sn; infer_instance
theorem node_f (op a b n i : Int) (hi : 0 ≤ i ∧ i ≤ 4000000000000000000) : spec_l05Node.f op a b n i = some (decide (Sn op a b n i)) := by
  unfold spec_l05Node.f
  rw [in_f, Option.bind_some, wrap_in (x := i - 1) (by omega) (by omega)]
  by_cases h1 : 1 ≤ op ∧ op ≤ 8
  · rw [if_pos (decide_eq_true h1), two_f, Option.bind_some]
    by_cases h2 : 3 ≤ op ∧ op ≤ 6
    · rw [if_pos (decide_eq_true h2), in_f, Option.bind_some]
      by_cases h3 : 0 ≤ a ∧ a ≤ i - 1
      · rw [if_pos (decide_eq_true h3), wrap_in (x := a + 1) (by omega) (by omega), in_f, Option.bind_some]
        by_cases h4 : a + 1 ≤ b ∧ b ≤ i - 1
        · rw [if_pos (decide_eq_true h4)]
          exact some_beq (by unfold Sn; omega)
        · rw [if_neg (by simp only [decide_eq_true_eq]; exact h4)]
          exact some_no (by unfold Sn; omega)
      · rw [if_neg (by simp only [decide_eq_true_eq]; exact h3)]
        exact some_no (by unfold Sn; omega)
    · rw [if_neg (by simp only [decide_eq_true_eq]; exact h2), one_f, Option.bind_some]
      by_cases h3 : op = 7 ∨ op = 8
      · rw [if_pos (decide_eq_true h3)]
        by_cases h4 : a = i - 1
        · rw [if_pos h4]
          by_cases h5 : i > 0
          · rw [if_pos h5]
            by_cases h6 : b = 0
            · rw [if_pos h6]
              by_cases h8 : op = 8
              · have e : (op == 8) = true := by simp [h8]
                rw [e, show spec_l01Bit.f true = some 1 from rfl, Option.bind_some, wrap_in (x := 8 * 1) (by omega) (by omega), in_f, Option.bind_some]
                exact some_dec (by unfold Sn; omega)
              · have e : (op == 8) = false := by simp [h8]
                rw [e, show spec_l01Bit.f false = some 0 from rfl, Option.bind_some, wrap_in (x := 8 * 0) (by omega) (by omega), in_f, Option.bind_some]
                exact some_dec (by unfold Sn; omega)
            · rw [if_neg h6]; exact some_no (by unfold Sn; omega)
          · rw [if_neg h5]; exact some_no (by unfold Sn; omega)
        · rw [if_neg h4]; exact some_no (by unfold Sn; omega)
      · rw [if_neg (by simp only [decide_eq_true_eq]; exact h3)]
        by_cases h4 : op = 2
        · rw [if_pos h4]
          by_cases h5 : a = 0
          · rw [if_pos h5]
            by_cases h6 : b = 0
            · rw [if_pos h6, in_f, Option.bind_some]; exact some_dec (by unfold Sn; omega)
            · rw [if_neg h6]; exact some_no (by unfold Sn; omega)
          · rw [if_neg h5]; exact some_no (by unfold Sn; omega)
        · rw [if_neg h4]
          by_cases h5 : a = 0
          · rw [if_pos h5]
            by_cases h6 : b = 0
            · rw [if_pos h6, in_f, Option.bind_some]; exact some_dec (by unfold Sn; omega)
            · rw [if_neg h6]; exact some_no (by unfold Sn; omega)
          · rw [if_neg h5]; exact some_no (by unfold Sn; omega)
  · rw [if_neg (by simp only [decide_eq_true_eq]; exact h1)]
    exact some_no (by unfold Sn; omega)
def Num (op n : Int) : Prop := (op = 1 ∧ 0 ≤ n ∧ n ≤ 999999999) ∨ (op = 2 ∧ 0 ≤ n ∧ n ≤ 3) ∨ (op = 8 ∧ 0 ≤ n ∧ n ≤ 8) ∨ (op ≠ 1 ∧ op ≠ 2 ∧ op ≠ 8 ∧ n = 0)
instance (op n : Int) : Decidable (Num op n) := by unfold Num; infer_instance
theorem num_f (op a b n : Int) : impl_Node_numberOk.f op a b n = some (decide (Num op n)) := by
  unfold impl_Node_numberOk.f
  by_cases h1 : op = 1
  · rw [if_pos h1, bw_f, Option.bind_some]; exact some_dec (by unfold Num; omega)
  by_cases h2 : op = 2
  · rw [if_neg h1, if_pos h2, bw_f, Option.bind_some]; exact some_dec (by unfold Num; omega)
  by_cases h3 : op = 8
  · rw [if_neg h1, if_neg h2, if_pos h3, bw_f, Option.bind_some]; exact some_dec (by unfold Num; omega)
  rw [if_neg h1, if_neg h2, if_neg h3]; exact some_beq (by unfold Num; omega)
def Ch (h : Prop) (x i : Int) : Prop := (h ∧ 0 ≤ x ∧ x ≤ i - 1) ∨ (¬ h ∧ x = 0)
instance (h : Prop) [Decidable h] (x i : Int) : Decidable (Ch h x i) := by unfold Ch; infer_instance
theorem child_f (h : Prop) [Decidable h] (x i : Int) (hi : 0 ≤ i ∧ i ≤ 4000000000000000000) : impl_Node_child.f (decide h) x i = some (decide (Ch h x i)) := by
  unfold impl_Node_child.f
  rw [wrap_in (x := i - 1) (by omega) (by omega)]
  by_cases e : h
  · rw [if_pos (decide_eq_true e), bw_f]; exact some_dec (by unfold Ch; simp [e])
  · rw [if_neg (by simp [e])]; exact some_beq (by unfold Ch; simp [e])
theorem plain_two {op a b n i : Int} (g : 3 ≤ op ∧ op ≤ 6) : Plain op a b n i ↔ (0 ≤ a ∧ a ≤ i - 1 ∧ 0 ≤ b ∧ b ≤ i - 1 ∧ n = 0) :=
  ⟨fun h => by rcases h with h | h | h | h | h <;> omega, fun h => .inl ⟨g.1, g.2, h⟩⟩
theorem plain_7 {a b n i : Int} : Plain 7 a b n i ↔ (0 ≤ a ∧ a ≤ i - 1 ∧ b = 0 ∧ n = 0) :=
  ⟨fun h => by rcases h with h | h | h | h | h <;> omega, fun h => .inr (.inl ⟨rfl, h⟩)⟩
theorem plain_8 {a b n i : Int} : Plain 8 a b n i ↔ (0 ≤ a ∧ a ≤ i - 1 ∧ b = 0 ∧ 0 ≤ n ∧ n ≤ 8) :=
  ⟨fun h => by rcases h with h | h | h | h | h <;> omega, fun h => .inr (.inr (.inl ⟨rfl, h⟩))⟩
theorem plain_2 {a b n i : Int} : Plain 2 a b n i ↔ (a = 0 ∧ b = 0 ∧ 0 ≤ n ∧ n ≤ 3) :=
  ⟨fun h => by rcases h with h | h | h | h | h <;> omega, fun h => .inr (.inr (.inr (.inl ⟨rfl, h⟩)))⟩
theorem plain_1 {a b n i : Int} : Plain 1 a b n i ↔ (a = 0 ∧ b = 0 ∧ 0 ≤ n ∧ n ≤ 999999999) :=
  ⟨fun h => by rcases h with h | h | h | h | h <;> omega, fun h => .inr (.inr (.inr (.inr ⟨rfl, h⟩)))⟩
theorem ch_yes {h : Prop} {x i : Int} (e : h) : Ch h x i ↔ (0 ≤ x ∧ x ≤ i - 1) := ⟨fun g => by rcases g with g | g; exact g.2; exact absurd e g.1, fun g => .inl ⟨e, g⟩⟩
theorem ch_no {h : Prop} {x i : Int} (e : ¬ h) : Ch h x i ↔ x = 0 := ⟨fun g => by rcases g with g | g; exact absurd g.1 e; exact g.2, fun g => .inr ⟨e, g⟩⟩
theorem plain_iff {op a b n i : Int} (h1 : 1 ≤ op ∧ op ≤ 8) : Plain op a b n i ↔ (Num op n ∧ Ch (0 < kd op) a i ∧ Ch (1 < kd op) b i) := by
  by_cases g : 3 ≤ op ∧ op ≤ 6
  · rw [plain_two g, kd_two g, ch_yes (by decide), ch_yes (by decide), show Num op n ↔ n = 0 by unfold Num; omega]; omega
  by_cases g7 : op = 7
  · subst g7
    rw [plain_7, kd_one (by decide), ch_yes (by decide), ch_no (by decide), show Num 7 n ↔ n = 0 by unfold Num; omega]; omega
  by_cases g8 : op = 8
  · subst g8
    rw [plain_8, kd_one (by decide), ch_yes (by decide), ch_no (by decide), show Num 8 n ↔ (0 ≤ n ∧ n ≤ 8) by unfold Num; omega]; omega
  by_cases g2 : op = 2
  · subst g2
    rw [plain_2, kd_zero (by decide) (by decide), ch_no (by decide), ch_no (by decide), show Num 2 n ↔ (0 ≤ n ∧ n ≤ 3) by unfold Num; omega]; omega
  · obtain rfl : op = 1 := by omega
    rw [plain_1, kd_zero (by decide) (by decide), ch_no (by decide), ch_no (by decide), show Num 1 n ↔ (0 ≤ n ∧ n ≤ 999999999) by unfold Num; omega]; omega
theorem plain_f (k : Nat) (op a b n i : Int) (hi : 0 ≤ i ∧ i ≤ 4000000000000000000) : impl_Node_plainOk.f (k + 1) op a b n i = some (decide (Plain op a b n i)) := by
  unfold impl_Node_plainOk.f
  rw [bw_f, Option.bind_some]
  by_cases h1 : 1 ≤ op ∧ op ≤ 8
  · have hp := plain_iff (a := a) (b := b) (n := n) (i := i) h1
    rw [if_pos (decide_eq_true h1), num_f, Option.bind_some]
    by_cases h2 : Num op n
    · rw [if_pos (decide_eq_true h2), kids_f, Option.bind_some, child_f _ _ _ hi, Option.bind_some]
      by_cases h3 : Ch (0 < kd op) a i
      · rw [if_pos (decide_eq_true h3), child_f _ _ _ hi]
        exact some_dec ⟨fun h => hp.2 ⟨h2, h3, h⟩, fun h => (hp.1 h).2.2⟩
      · rw [if_neg (by simp only [decide_eq_true_eq]; exact h3)]
        exact some_no fun h => h3 (hp.1 h).2.1
    · rw [if_neg (by simp only [decide_eq_true_eq]; exact h2)]
      exact some_no fun h => h2 (hp.1 h).1
  · rw [if_neg (by simp only [decide_eq_true_eq]; exact h1)]
    exact some_no (fun h => by rcases h with h | h | h | h | h <;> omega)
theorem at_next {α : Type} {x : List α} {i : Nat} {z : α} (h : i < x.length) : x.drop i = (x[i]?.getD z) :: x.drop (i + 1) := by
  rw [List.getElem?_eq_getElem h, Option.getD_some, List.drop_eq_getElem_cons h]
theorem rd_nat (l : List Int) (i : Nat) : rd l (i : Int) = l[i]?.getD 0 := by simp [rd, List.getD_eq_getElem?_getD]
theorem rd_left (l r : List Int) (i : Nat) (h : i < l.length) : rd (l ++ r) (i : Int) = rd l (i : Int) := by
  rw [rd_nat, rd_nat, List.getElem?_append_left h]
theorem rd_last (l : List Int) (x : Int) : rd (l ++ [x]) (l.length : Int) = x := by
  rw [rd_nat]; simp
theorem ev_const {α : Type} {g : Nat → Option α} {r : α} (h : ∀ k, g (k + 1) = some r) : Ev g r := Ev.step (f := fun _ => some r) h (Ev.now _)
end Go.Proofs.YtbphhccpkngfoaaGreatDoor.Pt
