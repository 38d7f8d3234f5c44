/-! Plain numbers: naturals as limbs. Nothing of the program. -/
namespace Go.Proofs.YtgldcdnlojcchaaDoor.Pn
/-! ### Naturals as limbs below 10000, the lowest first -/
def vl : List Int → Int
  | [] => 0
  | x :: xs => x + 10000 * vl xs
def Lm (l : List Int) : Prop := ∀ x ∈ l, 0 ≤ x ∧ x < 10000
theorem Lm.nil : Lm [] := fun _ h => by simp at h
theorem Lm.cons {x : Int} {l : List Int} (h0 : 0 ≤ x) (h1 : x < 10000) (h : Lm l) : Lm (x :: l) := fun y hy => by
  rcases List.mem_cons.1 hy with rfl | hy
  · exact ⟨h0, h1⟩
  · exact h y hy
theorem Lm.head {x : Int} {l : List Int} (h : Lm (x :: l)) : 0 ≤ x ∧ x < 10000 := h x (by simp)
theorem Lm.tail {x : Int} {l : List Int} (h : Lm (x :: l)) : Lm l := fun y hy => h y (by simp [hy])
theorem Lm.append {a b : List Int} (ha : Lm a) (hb : Lm b) : Lm (a ++ b) := fun y hy => (List.mem_append.1 hy).elim (ha y) (hb y)
theorem vl_nonneg : ∀ {l : List Int}, Lm l → 0 ≤ vl l
  | [], _ => by simp [vl]
  | x :: xs, h => by
    have h0 := h.head
    have := vl_nonneg h.tail
    simp only [vl]; omega
theorem vl_append : ∀ (a b : List Int), vl (a ++ b) = vl a + 10000 ^ a.length * vl b
  | [], b => by simp [vl]
  | x :: xs, b => by
    simp only [List.cons_append, vl, vl_append xs b, List.length_cons, Int.pow_succ, Int.mul_add]
    have : 10000 * (10000 ^ xs.length * vl b) = (10000 ^ xs.length * 10000) * vl b := by
      rw [Int.mul_comm ((10000 : Int) ^ xs.length) 10000, Int.mul_assoc]
    omega
theorem vl_lt : ∀ {l : List Int}, Lm l → vl l < 10000 ^ l.length
  | [], _ => by simp [vl]
  | x :: xs, h => by
    have h0 := h.head
    have := vl_lt h.tail
    simp only [vl, List.length_cons, Int.pow_succ]
    omega
theorem pow_pos' (n : Nat) : (0 : Int) < 10000 ^ n := Int.pow_pos (by decide)

theorem pow_mono' {a b : Nat} (h : a ≤ b) : (10000 : Int) ^ a ≤ 10000 ^ b := by
  obtain ⟨d, rfl⟩ : ∃ d, b = a + d := ⟨b - a, by omega⟩
  induction d with
  | zero => exact Int.le_refl _
  | succ d ih =>
    have h1 := ih (by omega)
    have h2 := pow_pos' (a + d)
    rw [show a + (d + 1) = a + d + 1 by omega, Int.pow_succ]; omega
/-- The natural's limbs. -/
def nat (n : Int) : List Int := if h : 0 < n then (n % 10000) :: nat (n / 10000) else []
termination_by n.toNat
decreasing_by omega
theorem nat_zero : nat 0 = [] := by unfold nat; simp
theorem nat_neg {n : Int} (h : ¬ 0 < n) : nat n = [] := by unfold nat; simp [h]
theorem nat_pos {n : Int} (h : 0 < n) : nat n = (n % 10000) :: nat (n / 10000) := by rw [nat]; simp [h]
theorem vl_nat (n : Int) (h : 0 ≤ n) : vl (nat n) = n := by
  by_cases h0 : 0 < n
  · rw [nat_pos h0, vl, vl_nat (n / 10000) (by omega)]; omega
  · rw [nat_neg h0]; simp [vl]; omega
termination_by n.toNat
decreasing_by omega
theorem lm_nat (n : Int) : Lm (nat n) := by
  by_cases h0 : 0 < n
  · rw [nat_pos h0]; exact Lm.cons (by omega) (by omega) (lm_nat (n / 10000))
  · rw [nat_neg h0]; exact Lm.nil
termination_by n.toNat
decreasing_by omega
/-- Limbs, the last one not 0. -/
def Nm (l : List Int) : Prop := Lm l ∧ l.getLast? ≠ some 0
theorem Nm.tail {x : Int} {l : List Int} (h : Nm (x :: l)) : Nm l := ⟨h.1.tail, fun e => h.2 (by
  cases l with
  | nil => simp at e
  | cons y ys => rw [List.getLast?_cons_cons]; exact e)⟩
theorem nat_eq_nil {n : Int} (h : nat n = []) : n ≤ 0 := by
  by_cases h0 : 0 < n
  · rw [nat_pos h0] at h; simp at h
  · omega
theorem nm_nat (n : Int) : Nm (nat n) := by
  refine ⟨lm_nat n, ?_⟩
  by_cases h0 : 0 < n
  · rw [nat_pos h0]
    have ih := (nm_nat (n / 10000)).2
    cases e : nat (n / 10000) with
    | nil =>
      have := nat_eq_nil e
      simp; omega
    | cons y ys => rw [List.getLast?_cons_cons, ← e]; exact ih
  · rw [nat_neg h0]; simp
termination_by n.toNat
decreasing_by omega
theorem vl_pos : ∀ {l : List Int}, Nm l → l ≠ [] → 0 < vl l
  | [], _, h => absurd rfl h
  | [x], h, _ => by
    have h0 := h.1.head
    have : x ≠ 0 := fun e => h.2 (by simp [e])
    simp [vl]; omega
  | x :: y :: ys, h, _ => by
    have h0 := h.1.head
    have := vl_pos (l := y :: ys) h.tail (by simp)
    rw [vl]; omega
theorem nat_vl : ∀ {l : List Int}, Nm l → nat (vl l) = l
  | [], _ => by simp [vl, nat_zero]
  | x :: xs, h => by
    have h0 := h.1.head
    have hp := vl_pos h (by simp)
    rw [nat_pos hp]
    have e1 : vl (x :: xs) % 10000 = x := by rw [vl]; omega
    have e2 : vl (x :: xs) / 10000 = vl xs := by rw [vl]; omega
    rw [e1, e2, nat_vl h.tail]
theorem nm_eq {a b : List Int} (ha : Nm a) (hb : Nm b) (h : vl a = vl b) : a = b := by rw [← nat_vl ha, ← nat_vl hb, h]
theorem nat_of {l : List Int} {n : Int} (h : Nm l) (e : vl l = n) : l = nat n := by rw [← e, nat_vl h]
theorem nat_len (n : Int) (k : Nat) (h : n < 10000 ^ k) : (nat n).length ≤ k := by
  induction k generalizing n with
  | zero => rw [nat_neg (by simp at h; omega)]; simp
  | succ k ih =>
    by_cases h0 : 0 < n
    · rw [nat_pos h0]
      have := ih (n / 10000) (by rw [Int.pow_succ] at h; omega)
      simp; exact this
    · rw [nat_neg h0]; simp
theorem nat_len_ge (n : Int) (k : Nat) (h : (10000 : Int) ^ k ≤ n) : k < (nat n).length := by
  by_cases hk : k < (nat n).length
  · exact hk
  · have h0 : (0 : Int) ≤ n := by have := pow_pos' k; omega
    have h1 := vl_lt (lm_nat n)
    rw [vl_nat n h0] at h1
    have h2 : (10000 : Int) ^ (nat n).length ≤ 10000 ^ k := pow_mono' (by omega)
    omega
theorem nat_len_le_iff (n : Int) (k : Nat) : (nat n).length ≤ k ↔ n < 10000 ^ k :=
  ⟨fun h => Int.not_le.1 fun h' => by have := nat_len_ge n k h'; omega, nat_len n k⟩

/-! ### trimming -/
def trim : List Int → List Int
  | [] => []
  | x :: xs => if trim xs = [] ∧ x = 0 then [] else x :: trim xs
theorem trim_lm : ∀ {l : List Int}, Lm l → Nm (trim l)
  | [], _ => ⟨Lm.nil, by simp [trim]⟩
  | x :: xs, h => by
    have ih := trim_lm h.tail
    unfold trim
    split
    · exact ⟨Lm.nil, by simp⟩
    · rename_i hc
      refine ⟨Lm.cons h.head.1 h.head.2 ih.1, ?_⟩
      cases e : trim xs with
      | nil => simp only [List.getLast?_singleton, ne_eq, Option.some.injEq]; exact fun e0 => hc ⟨e, e0⟩
      | cons y ys => rw [List.getLast?_cons_cons, ← e]; exact ih.2
theorem vl_trim : ∀ (l : List Int), vl (trim l) = vl l
  | [] => rfl
  | x :: xs => by
    have ih := vl_trim xs
    unfold trim
    split
    · rename_i hc
      rw [hc.1] at ih
      simp only [vl] at ih ⊢
      omega
    · simp only [vl, ih]
theorem trim_nat {l : List Int} (h : Lm l) : trim l = nat (vl l) := nat_of (trim_lm h) (vl_trim l)
theorem trim_of_last : ∀ {l : List Int}, l.getLast? ≠ some 0 → trim l = l
  | [], _ => rfl
  | x :: xs, h => by
    cases xs with
    | nil =>
      have : x ≠ 0 := fun e => h (by simp [e])
      simp [trim, this]
    | cons y ys =>
      have ih := trim_of_last (l := y :: ys) (by rw [List.getLast?_cons_cons] at h; exact h)
      rw [trim, ih]; simp
theorem trim_snoc_zero : ∀ (l : List Int), trim (l ++ [0]) = trim l
  | [] => by simp [trim]
  | x :: xs => by
    rw [List.cons_append, trim, trim_snoc_zero xs, ← trim]

/-! ### adding -/
/-- Digits of a + b + c, as the loops find them. -/
def addL : List Int → List Int → Int → List Int
  | [], [], c => if c > 0 then [c % 10000] else []
  | x :: xs, [], c => (x + c) % 10000 :: addL xs [] ((x + c) / 10000)
  | [], y :: ys, c => (y + c) % 10000 :: addL [] ys ((y + c) / 10000)
  | x :: xs, y :: ys, c => (x + y + c) % 10000 :: addL xs ys ((x + y + c) / 10000)
theorem addL_lm : ∀ (a b : List Int) (c : Int), Lm (addL a b c)
  | [], [], c => by
    unfold addL; split
    · exact Lm.cons (by omega) (by omega) Lm.nil
    · exact Lm.nil
  | x :: xs, [], c => by unfold addL; exact Lm.cons (by omega) (by omega) (addL_lm _ _ _)
  | [], y :: ys, c => by unfold addL; exact Lm.cons (by omega) (by omega) (addL_lm _ _ _)
  | x :: xs, y :: ys, c => by unfold addL; exact Lm.cons (by omega) (by omega) (addL_lm _ _ _)
theorem addL_vl : ∀ {a b : List Int} {c : Int}, Lm a → Lm b → 0 ≤ c → c ≤ 1 → vl (addL a b c) = vl a + vl b + c
  | [], [], c, _, _, h0, h1 => by
    unfold addL; split
    · simp [vl]; omega
    · simp [vl]; omega
  | x :: xs, [], c, ha, hb, h0, h1 => by
    have hx := ha.head
    unfold addL; simp only [vl]; rw [addL_vl ha.tail Lm.nil (by omega) (by omega)]; simp only [vl]; omega
  | [], y :: ys, c, ha, hb, h0, h1 => by
    have hy := hb.head
    unfold addL; simp only [vl]; rw [addL_vl Lm.nil hb.tail (by omega) (by omega)]; simp only [vl]; omega
  | x :: xs, y :: ys, c, ha, hb, h0, h1 => by
    have hx := ha.head; have hy := hb.head
    unfold addL; simp only [vl]; rw [addL_vl ha.tail hb.tail (by omega) (by omega)]; omega
/-- The last digit found is not 0. -/
theorem addL_nz : ∀ {a b : List Int} {c : Int}, Nm a → Nm b → 0 ≤ c → c ≤ 1 → (addL a b c).getLast? ≠ some 0
  | [], [], c, _, _, h0, h1 => by
    unfold addL; split
    · simp; omega
    · simp
  | [x], [], c, ha, hb, h0, h1 => by
    have hx := ha.1.head
    have hx0 : x ≠ 0 := fun e => ha.2 (by simp [e])
    unfold addL; unfold addL; split
    · simp; omega
    · simp; omega
  | x :: x' :: xs, [], c, ha, hb, h0, h1 => by
    have hx := ha.1.head
    have ih := addL_nz (a := x' :: xs) (b := []) (c := (x + c) / 10000) ha.tail hb (by omega) (by omega)
    unfold addL
    cases e : addL (x' :: xs) [] ((x + c) / 10000) with
    | nil => unfold addL at e; simp at e
    | cons z zs => rw [List.getLast?_cons_cons, ← e]; exact ih
  | [], [y], c, ha, hb, h0, h1 => by
    have hx := hb.1.head
    have hx0 : y ≠ 0 := fun e => hb.2 (by simp [e])
    unfold addL; unfold addL; split
    · simp; omega
    · simp; omega
  | [], y :: y' :: ys, c, ha, hb, h0, h1 => by
    have hx := hb.1.head
    have ih := addL_nz (a := []) (b := y' :: ys) (c := (y + c) / 10000) ha hb.tail (by omega) (by omega)
    unfold addL
    cases e : addL [] (y' :: ys) ((y + c) / 10000) with
    | nil => unfold addL at e; simp at e
    | cons z zs => rw [List.getLast?_cons_cons, ← e]; exact ih
  | [x], [y], c, ha, hb, h0, h1 => by
    have hx := ha.1.head; have hy := hb.1.head
    have hx0 : x ≠ 0 := fun e => ha.2 (by simp [e])
    unfold addL; unfold addL; split
    · simp; omega
    · simp; omega
  | [x], y :: y' :: ys, c, ha, hb, h0, h1 => by
    have hx := ha.1.head; have hy := hb.1.head
    have ih := addL_nz (a := []) (b := y' :: ys) (c := (x + y + c) / 10000) ha.tail hb.tail (by omega) (by omega)
    unfold addL
    cases e : addL [] (y' :: ys) ((x + y + c) / 10000) with
    | nil => unfold addL at e; simp at e
    | cons z zs => rw [List.getLast?_cons_cons, ← e]; exact ih
  | x :: x' :: xs, y :: ys, c, ha, hb, h0, h1 => by
    have hx := ha.1.head; have hy := hb.1.head
    have ih := addL_nz (a := x' :: xs) (b := ys) (c := (x + y + c) / 10000) ha.tail hb.tail (by omega) (by omega)
    unfold addL
    cases e : addL (x' :: xs) ys ((x + y + c) / 10000) with
    | nil => cases ys <;> (unfold addL at e; simp at e)
    | cons z zs => rw [List.getLast?_cons_cons, ← e]; exact ih
theorem addL_nat {a b : List Int} (ha : Nm a) (hb : Nm b) : addL a b 0 = nat (vl a + vl b) :=
  nat_of ⟨addL_lm _ _ _, addL_nz ha hb (by omega) (by omega)⟩ (by rw [addL_vl ha.1 hb.1 (by omega) (by omega)]; omega)
theorem addL_len : ∀ (a b : List Int) (c : Int), (addL a b c).length ≤ a.length + b.length + 1
  | [], [], c => by unfold addL; split <;> simp
  | x :: xs, [], c => by unfold addL; have := addL_len xs [] ((x + c) / 10000); simp at this ⊢; omega
  | [], y :: ys, c => by unfold addL; have := addL_len [] ys ((y + c) / 10000); simp at this ⊢; omega
  | x :: xs, y :: ys, c => by unfold addL; have := addL_len xs ys ((x + y + c) / 10000); simp at this ⊢; omega

/-! ### taking away: b is not greater -/
def subL : List Int → List Int → Int → List Int
  | [], _, _ => []
  | x :: xs, [], c => (x - c) % 10000 :: subL xs [] (if x - c < 0 then 1 else 0)
  | x :: xs, y :: ys, c => (x - c - y) % 10000 :: subL xs ys (if x - c - y < 0 then 1 else 0)
theorem subL_lm : ∀ (a b : List Int) (c : Int), Lm (subL a b c)
  | [], _, _ => by unfold subL; exact Lm.nil
  | x :: xs, [], c => by unfold subL; exact Lm.cons (by omega) (by omega) (subL_lm _ _ _)
  | x :: xs, y :: ys, c => by unfold subL; exact Lm.cons (by omega) (by omega) (subL_lm _ _ _)
theorem subL_len : ∀ (a b : List Int) (c : Int), (subL a b c).length = a.length
  | [], _, _ => by unfold subL; rfl
  | x :: xs, [], c => by unfold subL; simp [subL_len xs]
  | x :: xs, y :: ys, c => by unfold subL; simp [subL_len xs]
theorem subL_vl : ∀ {a b : List Int} {c : Int}, Lm a → Lm b → 0 ≤ c → c ≤ 1 → vl b + c ≤ vl a → vl (subL a b c) = vl a - vl b - c
  | [], b, c, _, hb, h0, h1, h => by
    have := vl_nonneg hb
    unfold subL; simp only [vl] at h ⊢; omega
  | x :: xs, [], c, ha, hb, h0, h1, h => by
    have hx := ha.head
    simp only [vl] at h
    unfold subL
    simp only [vl]
    by_cases hc : x - c < 0
    · rw [if_pos hc, subL_vl ha.tail Lm.nil (by omega) (by omega) (by simp only [vl]; omega)]; simp only [vl]; omega
    · rw [if_neg hc, subL_vl ha.tail Lm.nil (by omega) (by omega) (by have := vl_nonneg ha.tail; simp only [vl]; omega)]; simp only [vl]; omega
  | x :: xs, y :: ys, c, ha, hb, h0, h1, h => by
    have hx := ha.head; have hy := hb.head
    simp only [vl] at h
    unfold subL
    simp only [vl]
    by_cases hc : x - c - y < 0
    · rw [if_pos hc, subL_vl ha.tail hb.tail (by omega) (by omega) (by omega)]; omega
    · rw [if_neg hc, subL_vl ha.tail hb.tail (by omega) (by omega) (by omega)]; omega
theorem subL_nat {a b : List Int} (ha : Lm a) (hb : Lm b) (h : vl b ≤ vl a) : trim (subL a b 0) = nat (vl a - vl b) := by
  rw [trim_nat (subL_lm _ _ _), subL_vl ha hb (by omega) (by omega) (by omega)]; congr 1; omega

/-! ### comparing -/
theorem vl_lt_of_len {a b : List Int} (ha : Lm a) (hb : Nm b) (h : a.length < b.length) : vl a < vl b := by
  have h1 := vl_lt ha
  have h2 : (10000 : Int) ^ a.length ≤ vl b := by
    by_cases hc : (10000 : Int) ^ a.length ≤ vl b
    · exact hc
    · have := nat_len (vl b) a.length (by omega)
      rw [nat_vl hb] at this; omega
  omega
/-- -1, 0 or 1. -/
def cmpI (x y : Int) : Int := if x < y then -1 else if x = y then 0 else 1
end Go.Proofs.YtgldcdnlojcchaaDoor.Pn
