/-
Which nodes are an expression, by the program: where each tree begins, how deep it is.
-/
import Derived.Test.YtbgaodfnhbbgdaaSximplNodeplainOk
import Derived.Test.YtbgaodfnhbbgdaaSxshape
import Derived.Test.YtbgaodfnhbbgdaaSxslicesMaxintint
import Derived.Test.YtbgaodfnhbbgdaaSxExprOK
namespace Go.Proofs.Ytbgaodfnhbbgdaa.Ps
open Go.RowKit Go.Proofs.Ytbgaodfnhbbgdaa.S Go.Proofs.YtbgaodfnhbbgdaaW.PrintWords Go.Proofs.YtbgaodfnhbbgdaaW.PrintLast Go.Proofs.YtbgaodfnhbbgdaaW.PrintMore
set_option linter.unusedVariables false
set_option linter.unusedSimpArgs false

theorem wrap_in {x : Int} (h0 : -9223372036854775808 ≤ x) (h1 : x ≤ 9223372036854775807) : wrap64 x = x := by
  simp only [wrap64]; omega
theorem wsucc {i : Nat} (h : (i : Int) < 9223372036854775807) : wrap64 ((i : Int) + 1) = ((i + 1 : Nat) : Int) := by rw [wrap_in (by omega) (by omega)]; omega
theorem rdT (l : List S46) (i : Nat) : rd_T46 l (i : Int) = l[i]?.getD z46 := by simp [rd_T46, List.getD_eq_getElem?_getD]
theorem bw_f (a lo hi : Int) : impl_between.f a lo hi = some (decide (lo ≤ a ∧ a ≤ hi)) := by
  unfold impl_between.f
  by_cases h : lo ≤ a
  · rw [if_pos h]; simp [h]
  · rw [if_neg h]; simp [h]
/-- How many children an operation has. -/
def kd (op : Int) : Int := if 3 ≤ op ∧ op ≤ 6 then 2 else if op = 7 ∨ op = 8 then 1 else 0
theorem kd_two {op : Int} (h : 3 ≤ op ∧ op ≤ 6) : kd op = 2 := if_pos h
theorem kd_one {op : Int} (h : op = 7 ∨ op = 8) : kd op = 1 := by unfold kd; rw [if_neg (by omega), if_pos h]
theorem kd_zero {op : Int} (h : ¬ (3 ≤ op ∧ op ≤ 6)) (h' : ¬ (op = 7 ∨ op = 8)) : kd op = 0 := by unfold kd; rw [if_neg h, if_neg h']
theorem kids_f (k : Nat) (op a b n : Int) : impl_Node_kids.f (k + 1) op a b n = some (kd op) := by
  unfold impl_Node_kids.f
  simp only [impl_Node_kids.j0]
  by_cases h3 : op = 3
  · rw [if_pos h3, kd_two (by omega)]; subst h3; rfl
  by_cases h4 : op = 4
  · rw [if_neg h3, if_pos h4, kd_two (by omega)]; subst h4; rfl
  by_cases h5 : op = 5
  · rw [if_neg h3, if_neg h4, if_pos h5, kd_two (by omega)]; subst h5; rfl
  rw [if_neg h3, if_neg h4, if_neg h5]
  by_cases h6 : op = 6
  · rw [kd_two (by omega)]; subst h6; rfl
  rw [if_neg (by simp [h6])]
  by_cases h7 : op = 7
  · rw [if_pos h7, kd_one (by omega)]
  by_cases h8 : op = 8
  · rw [if_neg h7, if_pos h8, kd_one (by omega)]
  · rw [if_neg h7, if_neg h8, kd_zero (by omega) (by omega)]
theorem some_dec {p q : Prop} [Decidable p] [Decidable q] (h : p ↔ q) : some (decide p) = some (decide q) := congrArg some (decide_eq_decide.2 h)
theorem some_no {q : Prop} [Decidable q] (h : ¬ q) : some false = some (decide q) := by rw [decide_eq_false h]
theorem some_beq {x y : Int} {q : Prop} [Decidable q] (h : x = y ↔ q) : some (x == y) = some (decide q) := by
  rw [show (x == y) = decide (x = y) from by by_cases e : x = y <;> simp [e]]; exact some_dec h
/-- What a node may be at a place of a tape. -/
def Plain (op a b n i : Int) : Prop := (3 ≤ op ∧ op ≤ 6 ∧ 0 ≤ a ∧ a ≤ i - 1 ∧ 0 ≤ b ∧ b ≤ i - 1 ∧ n = 0) ∨ (op = 7 ∧ 0 ≤ a ∧ a ≤ i - 1 ∧ b = 0 ∧ n = 0) ∨ (op = 8 ∧ 0 ≤ a ∧ a ≤ i - 1 ∧ b = 0 ∧ 0 ≤ n ∧ n ≤ 8) ∨ (op = 2 ∧ a = 0 ∧ b = 0 ∧ 0 ≤ n ∧ n ≤ 3) ∨ (op = 1 ∧ a = 0 ∧ b = 0 ∧ 0 ≤ n ∧ n ≤ 999999999)
instance (op a b n i : Int) : Decidable (Plain op a b n i) := by unfold Plain; infer_instance
def Num (op n : Int) : Prop := (op = 1 ∧ 0 ≤ n ∧ n ≤ 999999999) ∨ (op = 2 ∧ 0 ≤ n ∧ n ≤ 3) ∨ (op = 8 ∧ 0 ≤ n ∧ n ≤ 8) ∨ (op ≠ 1 ∧ op ≠ 2 ∧ op ≠ 8 ∧ n = 0)
instance (op n : Int) : Decidable (Num op n) := by unfold Num; infer_instance
theorem num_f (op a b n : Int) : impl_Node_numberOk.f op a b n = some (decide (Num op n)) := by
  unfold impl_Node_numberOk.f
  by_cases h1 : op = 1
  · rw [if_pos h1, bw_f, Option.bind_some]; exact some_dec (by unfold Num; omega)
  by_cases h2 : op = 2
  · rw [if_neg h1, if_pos h2, bw_f, Option.bind_some]; exact some_dec (by unfold Num; omega)
  by_cases h3 : op = 8
  · rw [if_neg h1, if_neg h2, if_pos h3, bw_f, Option.bind_some]; exact some_dec (by unfold Num; omega)
  rw [if_neg h1, if_neg h2, if_neg h3]; exact some_beq (by unfold Num; omega)
def Ch (h : Prop) (x i : Int) : Prop := (h ∧ 0 ≤ x ∧ x ≤ i - 1) ∨ (¬ h ∧ x = 0)
instance (h : Prop) [Decidable h] (x i : Int) : Decidable (Ch h x i) := by unfold Ch; infer_instance
theorem child_f (h : Prop) [Decidable h] (x i : Int) (hi : 0 ≤ i ∧ i ≤ 4000000000000000000) : impl_Node_child.f (decide h) x i = some (decide (Ch h x i)) := by
  unfold impl_Node_child.f
  rw [wrap_in (x := i - 1) (by omega) (by omega)]
  by_cases e : h
  · rw [if_pos (decide_eq_true e), bw_f]; exact some_dec (by unfold Ch; simp [e])
  · rw [if_neg (by simp [e])]; exact some_beq (by unfold Ch; simp [e])
theorem plain_two {op a b n i : Int} (g : 3 ≤ op ∧ op ≤ 6) : Plain op a b n i ↔ (0 ≤ a ∧ a ≤ i - 1 ∧ 0 ≤ b ∧ b ≤ i - 1 ∧ n = 0) :=
  ⟨fun h => by rcases h with h | h | h | h | h <;> omega, fun h => .inl ⟨g.1, g.2, h⟩⟩
theorem plain_7 {a b n i : Int} : Plain 7 a b n i ↔ (0 ≤ a ∧ a ≤ i - 1 ∧ b = 0 ∧ n = 0) :=
  ⟨fun h => by rcases h with h | h | h | h | h <;> omega, fun h => .inr (.inl ⟨rfl, h⟩)⟩
theorem plain_8 {a b n i : Int} : Plain 8 a b n i ↔ (0 ≤ a ∧ a ≤ i - 1 ∧ b = 0 ∧ 0 ≤ n ∧ n ≤ 8) :=
  ⟨fun h => by rcases h with h | h | h | h | h <;> omega, fun h => .inr (.inr (.inl ⟨rfl, h⟩))⟩
theorem plain_2 {a b n i : Int} : Plain 2 a b n i ↔ (a = 0 ∧ b = 0 ∧ 0 ≤ n ∧ n ≤ 3) :=
  ⟨fun h => by rcases h with h | h | h | h | h <;> omega, fun h => .inr (.inr (.inr (.inl ⟨rfl, h⟩)))⟩
theorem plain_1 {a b n i : Int} : Plain 1 a b n i ↔ (a = 0 ∧ b = 0 ∧ 0 ≤ n ∧ n ≤ 999999999) :=
  ⟨fun h => by rcases h with h | h | h | h | h <;> omega, fun h => .inr (.inr (.inr (.inr ⟨rfl, h⟩)))⟩
theorem ch_yes {h : Prop} {x i : Int} (e : h) : Ch h x i ↔ (0 ≤ x ∧ x ≤ i - 1) := ⟨fun g => by rcases g with g | g; exact g.2; exact absurd e g.1, fun g => .inl ⟨e, g⟩⟩
theorem ch_no {h : Prop} {x i : Int} (e : ¬ h) : Ch h x i ↔ x = 0 := ⟨fun g => by rcases g with g | g; exact absurd g.1 e; exact g.2, fun g => .inr ⟨e, g⟩⟩
theorem plain_iff {op a b n i : Int} (h1 : 1 ≤ op ∧ op ≤ 8) : Plain op a b n i ↔ (Num op n ∧ Ch (0 < kd op) a i ∧ Ch (1 < kd op) b i) := by
  by_cases g : 3 ≤ op ∧ op ≤ 6
  · rw [plain_two g, kd_two g, ch_yes (by decide), ch_yes (by decide), show Num op n ↔ n = 0 by unfold Num; omega]; omega
  by_cases g7 : op = 7
  · subst g7
    rw [plain_7, kd_one (by decide), ch_yes (by decide), ch_no (by decide), show Num 7 n ↔ n = 0 by unfold Num; omega]; omega
  by_cases g8 : op = 8
  · subst g8
    rw [plain_8, kd_one (by decide), ch_yes (by decide), ch_no (by decide), show Num 8 n ↔ (0 ≤ n ∧ n ≤ 8) by unfold Num; omega]; omega
  by_cases g2 : op = 2
  · subst g2
    rw [plain_2, kd_zero (by decide) (by decide), ch_no (by decide), ch_no (by decide), show Num 2 n ↔ (0 ≤ n ∧ n ≤ 3) by unfold Num; omega]; omega
  · obtain rfl : op = 1 := by omega
    rw [plain_1, kd_zero (by decide) (by decide), ch_no (by decide), ch_no (by decide), show Num 1 n ↔ (0 ≤ n ∧ n ≤ 999999999) by unfold Num; omega]; omega
theorem plain_f (k : Nat) (op a b n i : Int) (hi : 0 ≤ i ∧ i ≤ 4000000000000000000) : impl_Node_plainOk.f (k + 1) op a b n i = some (decide (Plain op a b n i)) := by
  unfold impl_Node_plainOk.f
  rw [bw_f, Option.bind_some]
  by_cases h1 : 1 ≤ op ∧ op ≤ 8
  · have hp := plain_iff (a := a) (b := b) (n := n) (i := i) h1
    rw [if_pos (decide_eq_true h1), num_f, Option.bind_some]
    by_cases h2 : Num op n
    · rw [if_pos (decide_eq_true h2), kids_f, Option.bind_some, child_f _ _ _ hi, Option.bind_some]
      by_cases h3 : Ch (0 < kd op) a i
      · rw [if_pos (decide_eq_true h3), child_f _ _ _ hi]
        exact some_dec ⟨fun h => hp.2 ⟨h2, h3, h⟩, fun h => (hp.1 h).2.2⟩
      · rw [if_neg (by simp only [decide_eq_true_eq]; exact h3)]
        exact some_no fun h => h3 (hp.1 h).2.1
    · rw [if_neg (by simp only [decide_eq_true_eq]; exact h2)]
      exact some_no fun h => h2 (hp.1 h).1
  · rw [if_neg (by simp only [decide_eq_true_eq]; exact h1)]
    exact some_no (fun h => by rcases h with h | h | h | h | h <;> omega)
theorem at_next {α : Type} {x : List α} {i : Nat} {z : α} (h : i < x.length) : x.drop i = (x[i]?.getD z) :: x.drop (i + 1) := by
  rw [List.getElem?_eq_getElem h, Option.getD_some, List.drop_eq_getElem_cons h]
theorem rd_nat (l : List Int) (i : Nat) : rd l (i : Int) = l[i]?.getD 0 := by simp [rd, List.getD_eq_getElem?_getD]
theorem rd_left (l r : List Int) (i : Nat) (h : i < l.length) : rd (l ++ r) (i : Int) = rd l (i : Int) := by
  rw [rd_nat, rd_nat, List.getElem?_append_left h]
theorem rd_last (l : List Int) (x : Int) : rd (l ++ [x]) (l.length : Int) = x := by
  rw [rd_nat]; simp
theorem ev_nat {α : Type} {g : Nat → Int → Option α} {r : α} (h : Ev (fun k => g k ((0 : Nat) : Int)) r) : Ev (fun k => g k 0) r := h
theorem ev_const {α : Type} {g : Nat → Option α} {r : α} (h : ∀ k, g (k + 1) = some r) : Ev g r := Ev.step (f := fun _ => some r) h (Ev.now _)
theorem kd_of (op : Int) : (kd op = 0 ∧ ¬ (3 ≤ op ∧ op ≤ 6) ∧ ¬ (op = 7 ∨ op = 8)) ∨ (kd op = 1 ∧ ¬ (3 ≤ op ∧ op ≤ 6) ∧ (op = 7 ∨ op = 8)) ∨ (kd op = 2 ∧ (3 ≤ op ∧ op ≤ 6) ∧ ¬ (op = 7 ∨ op = 8)) := by
  by_cases g : 3 ≤ op ∧ op ≤ 6
  · exact .inr (.inr ⟨kd_two g, g, by omega⟩)
  · by_cases g' : op = 7 ∨ op = 8
    · exact .inr (.inl ⟨kd_one g', g, g'⟩)
    · exact .inl ⟨kd_zero g g', g, g'⟩
/-- A node is right behind trees that begin at 'bs'. -/
def V (bs : List Int) (x : S46) : Prop := Plain x.f0 x.f1 x.f2 x.f3 (bs.length : Int) ∧ (kd x.f0 = 1 → x.f1 = (bs.length : Int) - 1) ∧ (kd x.f0 = 2 → x.f2 = (bs.length : Int) - 1 ∧ x.f1 = rd bs x.f2 - 1)
instance (bs : List Int) (x : S46) : Decidable (V bs x) := by unfold V; infer_instance
def bgn (bs : List Int) (x : S46) : Int := if kd x.f0 = 0 then (bs.length : Int) else rd bs x.f1
def dpn (ds : List Int) (x : S46) : Int := if kd x.f0 = 0 then 1 else if kd x.f0 = 1 then rd ds x.f1 + 1 else mx (rd ds x.f1) (rd ds x.f2) + 1
def sh : List S46 → List Int → List Int → Option (List Int × List Int)
  | [], bs, ds => some (bs, ds)
  | x :: xs, bs, ds => if V bs x then sh xs (bs ++ [bgn bs x]) (ds ++ [dpn ds x]) else none
structure Fine (bs ds : List Int) : Prop where
  len : bs.length = ds.length
  b : ∀ j : Nat, j < bs.length → 0 ≤ rd bs j ∧ rd bs j ≤ j
  d : ∀ j : Nat, j < ds.length → 1 ≤ rd ds j ∧ rd ds j ≤ (j : Int) + 1
theorem plain_a {op a b n i : Int} (h : Plain op a b n i) (k : kd op = 1 ∨ kd op = 2) : 0 ≤ a ∧ a ≤ i - 1 := by
  rcases h with h | h | h | h | h
  · omega
  · omega
  · omega
  · rw [kd_zero (by omega) (by omega)] at k; omega
  · rw [kd_zero (by omega) (by omega)] at k; omega
theorem plain_b {op a b n i : Int} (h : Plain op a b n i) (k : kd op = 2) : 0 ≤ b ∧ b ≤ i - 1 := by
  rcases h with h | h | h | h | h
  · omega
  · rw [kd_one (by omega)] at k; omega
  · rw [kd_one (by omega)] at k; omega
  · rw [kd_zero (by omega) (by omega)] at k; omega
  · rw [kd_zero (by omega) (by omega)] at k; omega
theorem rd_in {P : Int → Int → Prop} {l : List Int} (h : ∀ j : Nat, j < l.length → P (rd l j) j) {a : Int} (h0 : 0 ≤ a) (h1 : a < l.length) : P (rd l a) a := by
  obtain ⟨j, rfl⟩ : ∃ j : Nat, a = j := ⟨a.toNat, by omega⟩
  exact h j (by omega)
theorem Fine.ba {bs ds : List Int} (h : Fine bs ds) {a : Int} (h0 : 0 ≤ a) (h1 : a < bs.length) : 0 ≤ rd bs a ∧ rd bs a ≤ a := rd_in (P := fun y j => 0 ≤ y ∧ y ≤ j) h.b h0 h1
theorem Fine.da {bs ds : List Int} (h : Fine bs ds) {a : Int} (h0 : 0 ≤ a) (h1 : a < ds.length) : 1 ≤ rd ds a ∧ rd ds a ≤ a + 1 := rd_in (P := fun y j => 1 ≤ y ∧ y ≤ j + 1) h.d h0 h1
theorem rd_next {P : Int → Nat → Prop} {l : List Int} {y : Int} (h : ∀ j : Nat, j < l.length → P (rd l j) j) (hy : P y l.length) : ∀ j : Nat, j < (l ++ [y]).length → P (rd (l ++ [y]) j) j := by
  intro j hj
  simp only [List.length_append, List.length_cons, List.length_nil] at hj
  by_cases e : j < l.length
  · rw [rd_left _ _ _ e]; exact h j e
  · obtain rfl : j = l.length := by omega
    rw [rd_last]; exact hy
theorem V.bgn_in {bs ds : List Int} (h : Fine bs ds) {x : S46} (v : V bs x) : 0 ≤ bgn bs x ∧ bgn bs x ≤ (bs.length : Int) := by
  unfold bgn
  rcases kd_of x.f0 with k | k | k
  · rw [if_pos k.1]; omega
  · rw [if_neg (by omega)]
    have a := plain_a v.1 (.inl k.1)
    have := h.ba (a := x.f1) (by omega) (by omega)
    omega
  · rw [if_neg (by omega)]
    have a := plain_a v.1 (.inr k.1)
    have := h.ba (a := x.f1) (by omega) (by omega)
    omega
theorem V.dpn_in {bs ds : List Int} (h : Fine bs ds) {x : S46} (v : V bs x) : 1 ≤ dpn ds x ∧ dpn ds x ≤ (ds.length : Int) + 1 := by
  have hl := h.len
  unfold dpn
  rcases kd_of x.f0 with k | k | k
  · rw [if_pos k.1]; omega
  · rw [if_neg (by omega), if_pos k.1]
    have a := plain_a v.1 (.inl k.1)
    have := h.da (a := x.f1) (by omega) (by omega)
    omega
  · rw [if_neg (by omega), if_neg (by omega)]
    have a := plain_a v.1 (.inr k.1)
    have b := plain_b v.1 k.1
    have := h.da (a := x.f1) (by omega) (by omega)
    have := h.da (a := x.f2) (by omega) (by omega)
    unfold mx
    split <;> omega
theorem Fine.next {bs ds : List Int} (h : Fine bs ds) {x : S46} (v : V bs x) : Fine (bs ++ [bgn bs x]) (ds ++ [dpn ds x]) :=
  ⟨by simp [h.len], rd_next (P := fun y j => 0 ≤ y ∧ y ≤ (j : Int)) h.b (v.bgn_in h), rd_next (P := fun y j => 1 ≤ y ∧ y ≤ (j : Int) + 1) h.d (v.dpn_in h)⟩
theorem Fine.zero : Fine [] [] := ⟨rfl, fun j hj => absurd hj (by simp), fun j hj => absurd hj (by simp)⟩
theorem sh_len : ∀ (xs : List S46) (bs ds b d : List Int), Fine bs ds → sh xs bs ds = some (b, d) → b.length = bs.length + xs.length ∧ Fine b d ∧ ∃ e, d = ds ++ e := by
  intro xs
  induction xs with
  | nil =>
    intro bs ds b d hf h
    simp only [sh, Option.some.injEq, Prod.mk.injEq] at h
    obtain ⟨rfl, rfl⟩ := h
    exact ⟨rfl, hf, [], by simp⟩
  | cons x xs ih =>
    intro bs ds b d hf h
    simp only [sh] at h
    split at h
    · rename_i v
      obtain ⟨h1, h2, e, h3⟩ := ih _ _ b d (hf.next v) h
      refine ⟨by rw [h1]; simp; omega, h2, dpn ds x :: e, by rw [h3]; simp⟩
    · cases h
def shAns : Option (List Int × List Int) → List Int × List Int × Bool
  | some (b, d) => (b, d, true)
  | none => ([], [], false)
theorem impl_sh (x : List S46) (hb : x.length ≤ 1048576) : ∀ (d i : Nat), i + d = x.length → ∀ bs ds : List Int, bs.length = i → Fine bs ds → Ev (fun k => impl_shape.l0 k bs ds x (x.length : Int) (i : Int)) (shAns (sh (x.drop i) bs ds)) := by
  intro d
  induction d with
  | zero =>
    intro i hd bs ds hi hf
    rw [List.drop_of_length_le (by omega)]
    refine ev_const fun k => ?_
    rw [impl_shape.l0, if_neg (by omega)]; rfl
  | succ d ih =>
    intro i hd bs ds hi hf
    rw [at_next (z := z46) (by omega)]
    generalize hx : x[i]?.getD z46 = n
    have hl := hf.len
    have go : V bs n → Ev (fun k => impl_shape.l0 k (bs ++ [bgn bs n]) (ds ++ [dpn ds n]) x (x.length : Int) ((i + 1 : Nat) : Int)) (shAns (sh (x.drop (i + 1)) (bs ++ [bgn bs n]) (ds ++ [dpn ds n]))) := fun v => ih (i + 1) (by omega) _ _ (by simp; omega) (hf.next v)
    unfold sh
    have run : ∀ r, (∃ K, ∀ k, K ≤ k → impl_shape.l0 (k + 2) bs ds x (x.length : Int) (i : Int) = some r) → Ev (fun k => impl_shape.l0 k bs ds x (x.length : Int) (i : Int)) r := by
      intro r ⟨K, h⟩
      refine ⟨K + 2, fun k hk => ?_⟩
      obtain ⟨m, rfl⟩ : ∃ m, k = m + 2 := ⟨k - 2, by omega⟩
      exact h m (by omega)
    apply run
    have st : ∀ k, impl_shape.l0 (k + 2) bs ds x (x.length : Int) (i : Int) = if decide (Plain n.f0 n.f1 n.f2 n.f3 i) = true then (if kd n.f0 = 1 then (if n.f1 = (wrap64 ((i : Int) - 1)) then (if 0 ≤ n.f1 then (if n.f1 < (bs.length : Int) then (if n.f1 < (ds.length : Int) then (if bs.length < 17592186044416 then (if ds.length < 17592186044416 then (impl_shape.l0 (k + 1) (bs ++ [rd bs n.f1]) (ds ++ [wrap64 ((rd ds n.f1) + 1)]) x (x.length : Int) (wrap64 ((i : Int) + 1))) else none) else none) else none) else none) else none) else (some (([] : List Int), ([] : List Int), false))) else (if kd n.f0 = 2 then (if n.f2 = (wrap64 ((i : Int) - 1)) then (if 0 ≤ n.f2 then (if n.f2 < (bs.length : Int) then (if n.f1 = (wrap64 ((rd bs n.f2) - 1)) then (if 0 ≤ n.f1 then (if n.f1 < (bs.length : Int) then (if n.f1 < (ds.length : Int) then (if n.f2 < (ds.length : Int) then (if bs.length < 17592186044416 then (if ds.length < 17592186044416 then (impl_shape.l0 (k + 1) (bs ++ [rd bs n.f1]) (ds ++ [wrap64 ((mx (rd ds n.f1) (rd ds n.f2)) + 1)]) x (x.length : Int) (wrap64 ((i : Int) + 1))) else none) else none) else none) else none) else none) else none) else (some (([] : List Int), ([] : List Int), false))) else none) else none) else (some (([] : List Int), ([] : List Int), false))) else (if bs.length < 17592186044416 then (if ds.length < 17592186044416 then (impl_shape.l0 (k + 1) (bs ++ [(i : Int)]) (ds ++ [1]) x (x.length : Int) (wrap64 ((i : Int) + 1))) else none) else none))) else (some (([] : List Int), ([] : List Int), false)) := by
      intro k
      rw [impl_shape.l0, if_pos (by omega), if_pos (by omega), if_pos (by omega), rdT, hx, plain_f k _ _ _ _ _ (by omega), Option.bind_some, kids_f, Option.bind_some]
    by_cases hp : Plain n.f0 n.f1 n.f2 n.f3 i
    · have hp' : Plain n.f0 n.f1 n.f2 n.f3 (bs.length : Int) := by rw [hi]; exact hp
      rcases kd_of n.f0 with k | k | k
      · have v : V bs n := ⟨hp', fun h => by omega, fun h => by omega⟩
        rw [if_pos v]
        obtain ⟨K, e⟩ := go v
        refine ⟨K, fun m hm => ?_⟩
        rw [st, if_pos (decide_eq_true hp), if_neg (by omega), if_neg (by omega), if_pos (by omega), if_pos (by omega), wsucc (by omega)]
        have e' := e (m + 1) (by omega)
        simp only at e'
        rw [← e']
        unfold bgn dpn
        rw [if_pos k.1, if_pos k.1, hi]
      · have a := plain_a hp (.inl k.1)
        by_cases ha : n.f1 = (i : Int) - 1
        · have v : V bs n := ⟨hp', fun h => by omega, fun h => by omega⟩
          rw [if_pos v]
          obtain ⟨K, e⟩ := go v
          refine ⟨K, fun m hm => ?_⟩
          have q := hf.da (a := n.f1) (by omega) (by omega)
          rw [st, if_pos (decide_eq_true hp), if_pos k.1, if_pos (by rw [wrap_in (by omega) (by omega)]; exact ha), if_pos (by omega), if_pos (by omega), if_pos (by omega), if_pos (by omega), if_pos (by omega), wsucc (by omega), wrap_in (x := rd ds n.f1 + 1) (by omega) (by omega)]
          have e' := e (m + 1) (by omega)
          simp only at e'
          rw [← e']
          unfold bgn dpn
          rw [if_neg (by omega), if_neg (by omega), if_pos k.1]
        · have v : ¬ V bs n := fun v => ha (by rw [← hi]; exact v.2.1 k.1)
          rw [if_neg v]
          refine ⟨0, fun m hm => ?_⟩
          rw [st, if_pos (decide_eq_true hp), if_pos k.1, if_neg (by rw [wrap_in (by omega) (by omega)]; exact ha)]; rfl
      · have a := plain_a hp (.inr k.1)
        have b := plain_b hp k.1
        have qb := hf.ba (a := n.f2) (by omega) (by omega)
        by_cases hb2 : n.f2 = (i : Int) - 1
        · by_cases ha : n.f1 = rd bs n.f2 - 1
          · have v : V bs n := ⟨hp', fun h => by omega, fun h => ⟨by omega, ha⟩⟩
            rw [if_pos v]
            obtain ⟨K, e⟩ := go v
            refine ⟨K, fun m hm => ?_⟩
            have q := hf.da (a := n.f1) (by omega) (by omega)
            have q2 := hf.da (a := n.f2) (by omega) (by omega)
            have qm : 1 ≤ mx (rd ds n.f1) (rd ds n.f2) ∧ mx (rd ds n.f1) (rd ds n.f2) ≤ i := by unfold mx; split <;> omega
            rw [st, if_pos (decide_eq_true hp), if_neg (by omega), if_pos k.1, if_pos (by rw [wrap_in (by omega) (by omega)]; exact hb2), if_pos (by omega), if_pos (by omega), if_pos (by rw [wrap_in (by omega) (by omega)]; exact ha), if_pos (by omega), if_pos (by omega), if_pos (by omega), if_pos (by omega), if_pos (by omega), if_pos (by omega), wsucc (by omega), wrap_in (x := mx (rd ds n.f1) (rd ds n.f2) + 1) (by omega) (by omega)]
            have e' := e (m + 1) (by omega)
            simp only at e'
            rw [← e']
            unfold bgn dpn
            rw [if_neg (by omega), if_neg (by omega), if_neg (by omega)]
          · have v : ¬ V bs n := fun v => ha (v.2.2 k.1).2
            rw [if_neg v]
            refine ⟨0, fun m hm => ?_⟩
            rw [st, if_pos (decide_eq_true hp), if_neg (by omega), if_pos k.1, if_pos (by rw [wrap_in (by omega) (by omega)]; exact hb2), if_pos (by omega), if_pos (by omega), if_neg (by rw [wrap_in (by omega) (by omega)]; exact ha)]; rfl
        · have v : ¬ V bs n := fun v => hb2 (by rw [← hi]; exact (v.2.2 k.1).1)
          rw [if_neg v]
          refine ⟨0, fun m hm => ?_⟩
          rw [st, if_pos (decide_eq_true hp), if_neg (by omega), if_pos k.1, if_neg (by rw [wrap_in (by omega) (by omega)]; exact hb2)]; rfl
    · have v : ¬ V bs n := fun v => hp (by rw [← hi]; exact v.1)
      rw [if_neg v]
      refine ⟨0, fun m hm => ?_⟩
      rw [st, if_neg (by simp only [decide_eq_true_eq]; exact hp)]; rfl
theorem shape_ev (x : List S46) (hb : x.length ≤ 1048576) : Ev (fun k => impl_shape.f k x) (shAns (sh x [] [])) := impl_sh x hb x.length 0 (by omega) [] [] rfl Fine.zero
theorem mx_le (p q : Int) : mx p q ≤ 12 ↔ p ≤ 12 ∧ q ≤ 12 := by unfold mx; split <;> omega
theorem max_loop (x : List Int) (hb : x.length ≤ 1048576) : ∀ (d i : Nat) (c : Int), i + d = x.length → ∃ m, Ev (fun k => slices_Max_int_int.l0 k x c (i : Int)) m ∧ (m ≤ 12 ↔ c ≤ 12 ∧ ∀ y ∈ x.drop i, y ≤ 12) := by
  intro d
  induction d with
  | zero =>
    intro i c hd
    refine ⟨c, ev_const fun k => ?_, ?_⟩
    · simp only [slices_Max_int_int.l0]; rw [if_neg (by omega)]
    · rw [List.drop_of_length_le (by omega)]; simp
  | succ d ih =>
    intro i c hd
    obtain ⟨m, s, h⟩ := ih (i + 1) (mx c (x[i]?.getD 0)) (by omega)
    refine ⟨m, Ev.step (fun k => ?_) s, ?_⟩
    · simp only [slices_Max_int_int.l0, rd_nat]
      rw [if_pos (by omega), if_pos (by omega), wsucc (by omega)]
    · rw [h, at_next (z := 0) (i := i) (by omega), mx_le]
      simp only [List.mem_cons, forall_eq_or_imp, and_assoc]
theorem max_ev (x : List Int) (h0 : 0 < x.length) (hb : x.length ≤ 1048576) : ∃ m, Ev (fun k => slices_Max_int_int.f k x) m ∧ (m ≤ 12 ↔ ∀ y ∈ x, y ≤ 12) := by
  obtain ⟨m, s, h⟩ := max_loop x hb (x.length - 1) 1 (x[0]?.getD 0) (by omega)
  refine ⟨m, Ev.congr (fun k => ?_) s, ?_⟩
  · unfold slices_Max_int_int.f
    rw [if_neg (by omega), if_pos (by omega)]; rfl
  · rw [h]
    have e := at_next (x := x) (i := 0) (z := 0) h0
    rw [List.drop_zero] at e
    generalize x[0]?.getD 0 = y at e
    rw [e]; simp
def okA (n : Nat) : Option (List Int × List Int) → Bool
  | none => false
  | some (b, d) => decide (rd b ((n - 1 : Nat) : Int) = 0 ∧ ∀ y ∈ d, y ≤ 12)
def exAns (x : List S46) : Bool := if decide (1 ≤ (x.length : Int) ∧ (x.length : Int) ≤ 60) = true then okA x.length (sh x [] []) else false
theorem impl_ex_ev (x : List S46) : Ev (fun k => impl_ExprOK.f k x) (exAns x) := by
  unfold impl_ExprOK.f exAns
  rw [bw_f]
  by_cases h : decide (1 ≤ (x.length : Int) ∧ (x.length : Int) ≤ 60) = true
  · rw [if_pos h]
    have h' := of_decide_eq_true h
    refine Ev.congr (fun k => (if_pos h : (if _ then _ else _) = _)) (Ev.bind (shape_ev x (by omega)) ?_)
    cases hs : sh x [] [] with
    | none => exact Ev.congr (fun k => if_neg (by simp [shAns])) (Ev.now _)
    | some o =>
      obtain ⟨b, d⟩ := o
      obtain ⟨hl, hf, _⟩ := sh_len x [] [] b d Fine.zero hs
      have hl' : b.length = x.length := by rw [hl]; simp
      have hd := hf.len
      refine Ev.congr (fun k => (if_pos rfl : (if _ then _ else _) = _)) ?_
      rw [wrap_in (x := (x.length : Int) - 1) (by omega) (by omega)]
      refine Ev.congr (fun k => (if_pos (by omega) : (if _ then _ else _) = _)) ?_
      refine Ev.congr (fun k => (if_pos (show (x.length : Int) - 1 < (b.length : Int) by omega) : (if _ then _ else _) = _)) ?_
      have en : (x.length : Int) - 1 = ((x.length - 1 : Nat) : Int) := by omega
      rw [en]
      show Ev _ (decide (rd b ((x.length - 1 : Nat) : Int) = 0 ∧ ∀ y ∈ d, y ≤ 12))
      by_cases hz : rd b ((x.length - 1 : Nat) : Int) = 0
      · refine Ev.congr (fun k => (if_pos hz : (if _ then _ else _) = _)) ?_
        obtain ⟨m, s, hm⟩ := max_ev d (by omega) (by omega)
        rw [show decide (rd b ((x.length - 1 : Nat) : Int) = 0 ∧ ∀ y ∈ d, y ≤ 12) = decide (m ≤ 12) from decide_eq_decide.2 (by rw [hm]; exact ⟨fun g => g.2, fun g => ⟨hz, g⟩⟩)]
        exact Ev.bind (f := fun _ t => some (decide (t ≤ 12))) s (Ev.now _)
      · refine Ev.congr (fun k => (if_neg hz : (if _ then _ else _) = _)) ?_
        rw [decide_eq_false fun g => hz g.1]
        exact Ev.now _
  · rw [if_neg h]
    exact Ev.congr (fun k => (if_neg h : (if _ then _ else _) = _)) (Ev.now _)
end Go.Proofs.Ytbgaodfnhbbgdaa.Ps
