-- several texts of this claim in one
namespace Go.Proofs.Ytegbmillbbcmfaa.Pn
def vl : List Int → Int
  | [] => 0
  | x :: xs => x + 10000 * vl xs
def Lm (l : List Int) : Prop := ∀ x ∈ l, 0 ≤ x ∧ x < 10000
theorem Lm.nil : Lm [] := fun _ h => by simp at h
theorem Lm.cons {x : Int} {l : List Int} (h0 : 0 ≤ x) (h1 : x < 10000) (h : Lm l) : Lm (x :: l) := fun y hy => by
  rcases List.mem_cons.1 hy with rfl | hy
  · exact ⟨h0, h1⟩
  · exact h y hy
theorem Lm.head {x : Int} {l : List Int} (h : Lm (x :: l)) : 0 ≤ x ∧ x < 10000 := h x (by simp)
theorem Lm.tail {x : Int} {l : List Int} (h : Lm (x :: l)) : Lm l := fun y hy => h y (by simp [hy])
theorem Lm.append {a b : List Int} (ha : Lm a) (hb : Lm b) : Lm (a ++ b) := fun y hy => (List.mem_append.1 hy).elim (ha y) (hb y)
theorem vl_nonneg : ∀ {l : List Int}, Lm l → 0 ≤ vl l
  | [], _ => by simp [vl]
  | x :: xs, h => by
    have h0 := h.head
    have := vl_nonneg h.tail
    simp only [vl]; omega
theorem vl_append : ∀ (a b : List Int), vl (a ++ b) = vl a + 10000 ^ a.length * vl b
  | [], b => by simp [vl]
  | x :: xs, b => by
    simp only [List.cons_append, vl, vl_append xs b, List.length_cons, Int.pow_succ, Int.mul_add]
    have : 10000 * (10000 ^ xs.length * vl b) = (10000 ^ xs.length * 10000) * vl b := by
      rw [Int.mul_comm ((10000 : Int) ^ xs.length) 10000, Int.mul_assoc]
    omega
theorem vl_lt : ∀ {l : List Int}, Lm l → vl l < 10000 ^ l.length
  | [], _ => by simp [vl]
  | x :: xs, h => by
    have h0 := h.head
    have := vl_lt h.tail
    simp only [vl, List.length_cons, Int.pow_succ]
    omega
theorem pow_pos' (n : Nat) : (0 : Int) < 10000 ^ n := Int.pow_pos (by decide)

theorem pow_mono' {a b : Nat} (h : a ≤ b) : (10000 : Int) ^ a ≤ 10000 ^ b := by
  obtain ⟨d, rfl⟩ : ∃ d, b = a + d := ⟨b - a, by omega⟩
  induction d with
  | zero => exact Int.le_refl _
  | succ d ih =>
    have h1 := ih (by omega)
    have h2 := pow_pos' (a + d)
    rw [show a + (d + 1) = a + d + 1 by omega, Int.pow_succ]; omega
/-- The natural's limbs. -/
def nat (n : Int) : List Int := if h : 0 < n then (n % 10000) :: nat (n / 10000) else []
termination_by n.toNat
decreasing_by omega
theorem nat_zero : nat 0 = [] := by unfold nat; simp
theorem nat_neg {n : Int} (h : ¬ 0 < n) : nat n = [] := by unfold nat; simp [h]
theorem nat_pos {n : Int} (h : 0 < n) : nat n = (n % 10000) :: nat (n / 10000) := by rw [nat]; simp [h]
theorem vl_nat (n : Int) (h : 0 ≤ n) : vl (nat n) = n := by
  by_cases h0 : 0 < n
  · rw [nat_pos h0, vl, vl_nat (n / 10000) (by omega)]; omega
  · rw [nat_neg h0]; simp [vl]; omega
termination_by n.toNat
decreasing_by omega
theorem lm_nat (n : Int) : Lm (nat n) := by
  by_cases h0 : 0 < n
  · rw [nat_pos h0]; exact Lm.cons (by omega) (by omega) (lm_nat (n / 10000))
  · rw [nat_neg h0]; exact Lm.nil
termination_by n.toNat
decreasing_by omega
/-- Limbs, the last one not 0. -/
def Nm (l : List Int) : Prop := Lm l ∧ l.getLast? ≠ some 0
theorem Nm.tail {x : Int} {l : List Int} (h : Nm (x :: l)) : Nm l := ⟨h.1.tail, fun e => h.2 (by
  cases l with
  | nil => simp at e
  | cons y ys => rw [List.getLast?_cons_cons]; exact e)⟩
theorem nat_eq_nil {n : Int} (h : nat n = []) : n ≤ 0 := by
  by_cases h0 : 0 < n
  · rw [nat_pos h0] at h; simp at h
  · omega
theorem nm_nat (n : Int) : Nm (nat n) := by
  refine ⟨lm_nat n, ?_⟩
  by_cases h0 : 0 < n
  · rw [nat_pos h0]
    have ih := (nm_nat (n / 10000)).2
    cases e : nat (n / 10000) with
    | nil =>
      have := nat_eq_nil e
      simp; omega
    | cons y ys => rw [List.getLast?_cons_cons, ← e]; exact ih
  · rw [nat_neg h0]; simp
termination_by n.toNat
decreasing_by omega
theorem vl_pos : ∀ {l : List Int}, Nm l → l ≠ [] → 0 < vl l
  | [], _, h => absurd rfl h
  | [x], h, _ => by
    have h0 := h.1.head
    have : x ≠ 0 := fun e => h.2 (by simp [e])
    simp [vl]; omega
  | x :: y :: ys, h, _ => by
    have h0 := h.1.head
    have := vl_pos (l := y :: ys) h.tail (by simp)
    rw [vl]; omega
theorem nat_vl : ∀ {l : List Int}, Nm l → nat (vl l) = l
  | [], _ => by simp [vl, nat_zero]
  | x :: xs, h => by
    have h0 := h.1.head
    have hp := vl_pos h (by simp)
    rw [nat_pos hp]
    have e1 : vl (x :: xs) % 10000 = x := by rw [vl]; omega
    have e2 : vl (x :: xs) / 10000 = vl xs := by rw [vl]; omega
    rw [e1, e2, nat_vl h.tail]
theorem nat_of {l : List Int} {n : Int} (h : Nm l) (e : vl l = n) : l = nat n := by rw [← e, nat_vl h]
theorem nat_len (n : Int) (k : Nat) (h : n < 10000 ^ k) : (nat n).length ≤ k := by
  induction k generalizing n with
  | zero => rw [nat_neg (by simp at h; omega)]; simp
  | succ k ih =>
    by_cases h0 : 0 < n
    · rw [nat_pos h0]
      have := ih (n / 10000) (by rw [Int.pow_succ] at h; omega)
      simp; exact this
    · rw [nat_neg h0]; simp
theorem nat_len_ge (n : Int) (k : Nat) (h : (10000 : Int) ^ k ≤ n) : k < (nat n).length := by
  by_cases hk : k < (nat n).length
  · exact hk
  · have h0 : (0 : Int) ≤ n := by have := pow_pos' k; omega
    have h1 := vl_lt (lm_nat n)
    rw [vl_nat n h0] at h1
    have h2 : (10000 : Int) ^ (nat n).length ≤ 10000 ^ k := pow_mono' (by omega)
    omega
theorem nat_len_le_iff (n : Int) (k : Nat) : (nat n).length ≤ k ↔ n < 10000 ^ k :=
  ⟨fun h => Int.not_le.1 fun h' => by have := nat_len_ge n k h'; omega, nat_len n k⟩

def trim : List Int → List Int
  | [] => []
  | x :: xs => if trim xs = [] ∧ x = 0 then [] else x :: trim xs
theorem trim_lm : ∀ {l : List Int}, Lm l → Nm (trim l)
  | [], _ => ⟨Lm.nil, by simp [trim]⟩
  | x :: xs, h => by
    have ih := trim_lm h.tail
    unfold trim
    split
    · exact ⟨Lm.nil, by simp⟩
    · rename_i hc
      refine ⟨Lm.cons h.head.1 h.head.2 ih.1, ?_⟩
      cases e : trim xs with
      | nil => simp only [List.getLast?_singleton, ne_eq, Option.some.injEq]; exact fun e0 => hc ⟨e, e0⟩
      | cons y ys => rw [List.getLast?_cons_cons, ← e]; exact ih.2
theorem vl_trim : ∀ (l : List Int), vl (trim l) = vl l
  | [] => rfl
  | x :: xs => by
    have ih := vl_trim xs
    unfold trim
    split
    · rename_i hc
      rw [hc.1] at ih
      simp only [vl] at ih ⊢
      omega
    · simp only [vl, ih]
theorem trim_nat {l : List Int} (h : Lm l) : trim l = nat (vl l) := nat_of (trim_lm h) (vl_trim l)
theorem trim_of_last : ∀ {l : List Int}, l.getLast? ≠ some 0 → trim l = l
  | [], _ => rfl
  | x :: xs, h => by
    cases xs with
    | nil =>
      have : x ≠ 0 := fun e => h (by simp [e])
      simp [trim, this]
    | cons y ys =>
      have ih := trim_of_last (l := y :: ys) (by rw [List.getLast?_cons_cons] at h; exact h)
      rw [trim, ih]; simp
theorem trim_snoc_zero : ∀ (l : List Int), trim (l ++ [0]) = trim l
  | [] => by simp [trim]
  | x :: xs => by
    rw [List.cons_append, trim, trim_snoc_zero xs, ← trim]

/-- Digits of a + b + c, as the loops find them. -/
def addL : List Int → List Int → Int → List Int
  | [], [], c => if c > 0 then [c % 10000] else []
  | x :: xs, [], c => (x + c) % 10000 :: addL xs [] ((x + c) / 10000)
  | [], y :: ys, c => (y + c) % 10000 :: addL [] ys ((y + c) / 10000)
  | x :: xs, y :: ys, c => (x + y + c) % 10000 :: addL xs ys ((x + y + c) / 10000)
theorem addL_lm : ∀ (a b : List Int) (c : Int), Lm (addL a b c)
  | [], [], c => by
    unfold addL; split
    · exact Lm.cons (by omega) (by omega) Lm.nil
    · exact Lm.nil
  | x :: xs, [], c => by unfold addL; exact Lm.cons (by omega) (by omega) (addL_lm _ _ _)
  | [], y :: ys, c => by unfold addL; exact Lm.cons (by omega) (by omega) (addL_lm _ _ _)
  | x :: xs, y :: ys, c => by unfold addL; exact Lm.cons (by omega) (by omega) (addL_lm _ _ _)
theorem addL_vl : ∀ {a b : List Int} {c : Int}, Lm a → Lm b → 0 ≤ c → c ≤ 1 → vl (addL a b c) = vl a + vl b + c
  | [], [], c, _, _, h0, h1 => by
    unfold addL; split
    · simp [vl]; omega
    · simp [vl]; omega
  | x :: xs, [], c, ha, hb, h0, h1 => by
    have hx := ha.head
    unfold addL; simp only [vl]; rw [addL_vl ha.tail Lm.nil (by omega) (by omega)]; simp only [vl]; omega
  | [], y :: ys, c, ha, hb, h0, h1 => by
    have hy := hb.head
    unfold addL; simp only [vl]; rw [addL_vl Lm.nil hb.tail (by omega) (by omega)]; simp only [vl]; omega
  | x :: xs, y :: ys, c, ha, hb, h0, h1 => by
    have hx := ha.head; have hy := hb.head
    unfold addL; simp only [vl]; rw [addL_vl ha.tail hb.tail (by omega) (by omega)]; omega
/-- The last digit found is not 0. -/
theorem addL_nz : ∀ {a b : List Int} {c : Int}, Nm a → Nm b → 0 ≤ c → c ≤ 1 → (addL a b c).getLast? ≠ some 0
  | [], [], c, _, _, h0, h1 => by
    unfold addL; split
    · simp; omega
    · simp
  | [x], [], c, ha, hb, h0, h1 => by
    have hx := ha.1.head
    have hx0 : x ≠ 0 := fun e => ha.2 (by simp [e])
    unfold addL; unfold addL; split
    · simp; omega
    · simp; omega
  | x :: x' :: xs, [], c, ha, hb, h0, h1 => by
    have hx := ha.1.head
    have ih := addL_nz (a := x' :: xs) (b := []) (c := (x + c) / 10000) ha.tail hb (by omega) (by omega)
    unfold addL
    cases e : addL (x' :: xs) [] ((x + c) / 10000) with
    | nil => unfold addL at e; simp at e
    | cons z zs => rw [List.getLast?_cons_cons, ← e]; exact ih
  | [], [y], c, ha, hb, h0, h1 => by
    have hx := hb.1.head
    have hx0 : y ≠ 0 := fun e => hb.2 (by simp [e])
    unfold addL; unfold addL; split
    · simp; omega
    · simp; omega
  | [], y :: y' :: ys, c, ha, hb, h0, h1 => by
    have hx := hb.1.head
    have ih := addL_nz (a := []) (b := y' :: ys) (c := (y + c) / 10000) ha hb.tail (by omega) (by omega)
    unfold addL
    cases e : addL [] (y' :: ys) ((y + c) / 10000) with
    | nil => unfold addL at e; simp at e
    | cons z zs => rw [List.getLast?_cons_cons, ← e]; exact ih
  | [x], [y], c, ha, hb, h0, h1 => by
    have hx := ha.1.head; have hy := hb.1.head
    have hx0 : x ≠ 0 := fun e => ha.2 (by simp [e])
    unfold addL; unfold addL; split
    · simp; omega
    · simp; omega
  | [x], y :: y' :: ys, c, ha, hb, h0, h1 => by
    have hx := ha.1.head; have hy := hb.1.head
    have ih := addL_nz (a := []) (b := y' :: ys) (c := (x + y + c) / 10000) ha.tail hb.tail (by omega) (by omega)
    unfold addL
    cases e : addL [] (y' :: ys) ((x + y + c) / 10000) with
    | nil => unfold addL at e; simp at e
    | cons z zs => rw [List.getLast?_cons_cons, ← e]; exact ih
  | x :: x' :: xs, y :: ys, c, ha, hb, h0, h1 => by
    have hx := ha.1.head; have hy := hb.1.head
    have ih := addL_nz (a := x' :: xs) (b := ys) (c := (x + y + c) / 10000) ha.tail hb.tail (by omega) (by omega)
    unfold addL
    cases e : addL (x' :: xs) ys ((x + y + c) / 10000) with
    | nil => cases ys <;> (unfold addL at e; simp at e)
    | cons z zs => rw [List.getLast?_cons_cons, ← e]; exact ih
theorem addL_nat {a b : List Int} (ha : Nm a) (hb : Nm b) : addL a b 0 = nat (vl a + vl b) :=
  nat_of ⟨addL_lm _ _ _, addL_nz ha hb (by omega) (by omega)⟩ (by rw [addL_vl ha.1 hb.1 (by omega) (by omega)]; omega)
def subL : List Int → List Int → Int → List Int
  | [], _, _ => []
  | x :: xs, [], c => (x - c) % 10000 :: subL xs [] (if x - c < 0 then 1 else 0)
  | x :: xs, y :: ys, c => (x - c - y) % 10000 :: subL xs ys (if x - c - y < 0 then 1 else 0)
theorem subL_lm : ∀ (a b : List Int) (c : Int), Lm (subL a b c)
  | [], _, _ => by unfold subL; exact Lm.nil
  | x :: xs, [], c => by unfold subL; exact Lm.cons (by omega) (by omega) (subL_lm _ _ _)
  | x :: xs, y :: ys, c => by unfold subL; exact Lm.cons (by omega) (by omega) (subL_lm _ _ _)
theorem subL_vl : ∀ {a b : List Int} {c : Int}, Lm a → Lm b → 0 ≤ c → c ≤ 1 → vl b + c ≤ vl a → vl (subL a b c) = vl a - vl b - c
  | [], b, c, _, hb, h0, h1, h => by
    have := vl_nonneg hb
    unfold subL; simp only [vl] at h ⊢; omega
  | x :: xs, [], c, ha, hb, h0, h1, h => by
    have hx := ha.head
    simp only [vl] at h
    unfold subL
    simp only [vl]
    by_cases hc : x - c < 0
    · rw [if_pos hc, subL_vl ha.tail Lm.nil (by omega) (by omega) (by simp only [vl]; omega)]; simp only [vl]; omega
    · rw [if_neg hc, subL_vl ha.tail Lm.nil (by omega) (by omega) (by have := vl_nonneg ha.tail; simp only [vl]; omega)]; simp only [vl]; omega
  | x :: xs, y :: ys, c, ha, hb, h0, h1, h => by
    have hx := ha.head; have hy := hb.head
    simp only [vl] at h
    unfold subL
    simp only [vl]
    by_cases hc : x - c - y < 0
    · rw [if_pos hc, subL_vl ha.tail hb.tail (by omega) (by omega) (by omega)]; omega
    · rw [if_neg hc, subL_vl ha.tail hb.tail (by omega) (by omega) (by omega)]; omega
theorem vl_lt_of_len {a b : List Int} (ha : Lm a) (hb : Nm b) (h : a.length < b.length) : vl a < vl b := by
  have h1 := vl_lt ha
  have h2 : (10000 : Int) ^ a.length ≤ vl b := by
    by_cases hc : (10000 : Int) ^ a.length ≤ vl b
    · exact hc
    · have := nat_len (vl b) a.length (by omega)
      rw [nat_vl hb] at this; omega
  omega
/-- -1, 0 or 1. -/
def cmpI (x y : Int) : Int := if x < y then -1 else if x = y then 0 else 1
set_option linter.unusedVariables false
set_option linter.unusedSimpArgs false
/-- The limbs w less q times the limbs b, with what is carried in; what is carried out. -/
def pas (q : Int) : List Int → List Int → Int → List Int × Int
  | [], _, c => ([], c)
  | r :: rs, bs, c => (((r + c - q * bs.headD 0) % 10000) :: (pas q rs bs.tail ((r + c - q * bs.headD 0) / 10000)).1, (pas q rs bs.tail ((r + c - q * bs.headD 0) / 10000)).2)
theorem pas_len (q : Int) : ∀ (w b : List Int) (c : Int), (pas q w b c).1.length = w.length
  | [], _, _ => rfl
  | r :: rs, b, c => by simp [pas, pas_len q rs]
theorem pas_lm (q : Int) : ∀ (w b : List Int) (c : Int), Lm (pas q w b c).1
  | [], _, _ => Lm.nil
  | r :: rs, b, c => Lm.cons (by omega) (by omega) (pas_lm q rs _ _)
theorem pas_vl (q : Int) : ∀ (w b : List Int) (c : Int), b.length ≤ w.length → vl (pas q w b c).1 + 10000 ^ w.length * (pas q w b c).2 = vl w + c - q * vl b
  | [], b, c, h => by
    have : b = [] := List.length_eq_zero_iff.1 (by simpa using h)
    subst this
    simp [pas, vl]
  | r :: rs, [], c, h => by
    have ih := pas_vl q rs [] ((r + c - q * 0) / 10000) (by simp)
    simp only [pas, List.headD_nil, List.tail_nil, vl, List.length_cons, Int.mul_zero] at ih ⊢
    generalize (pas q rs [] ((r + c - 0) / 10000)).1 = U at *
    generalize (pas q rs [] ((r + c - 0) / 10000)).2 = V at *
    have e : (10000 : Int) ^ (rs.length + 1) * V = 10000 * (10000 ^ rs.length * V) := by rw [Int.pow_succ, Int.mul_comm (10000 ^ rs.length) 10000, Int.mul_assoc]
    rw [e]
    generalize (10000 : Int) ^ rs.length * V = T at *
    omega
  | r :: rs, y :: bs, c, h => by
    have ih := pas_vl q rs bs ((r + c - q * y) / 10000) (by simpa using h)
    simp only [pas, List.headD_cons, List.tail_cons, vl, List.length_cons] at ih ⊢
    have e : (10000 : Int) ^ (rs.length + 1) * (pas q rs bs ((r + c - q * y) / 10000)).2 = 10000 * (10000 ^ rs.length * (pas q rs bs ((r + c - q * y) / 10000)).2) := by rw [Int.pow_succ, Int.mul_comm (10000 ^ rs.length) 10000, Int.mul_assoc]
    rw [e]
    generalize (10000 : Int) ^ rs.length * (pas q rs bs ((r + c - q * y) / 10000)).2 = T at *
    have e2 : q * (y + 10000 * vl bs) = q * y + 10000 * (q * vl bs) := by rw [Int.mul_add, Int.mul_left_comm]
    rw [e2]
    generalize q * y = Y at *
    generalize q * vl bs = Z at *
    generalize vl (pas q rs bs ((r + c - Y) / 10000)).1 = U at *
    omega

theorem split3 {w : List Int} {n : Nat} (hw : w.length = n + 3) : ∃ l x y z, w = l ++ [x, y, z] ∧ l.length = n ∧ w[n]?.getD 0 = x ∧ w[n + 1]?.getD 0 = y ∧ w[n + 2]?.getD 0 = z := by
  refine ⟨w.take n, w[n]?.getD 0, w[n + 1]?.getD 0, w[n + 2]?.getD 0, ?_, by simp; omega, rfl, rfl, rfl⟩
  have h0 : n < w.length := by omega
  have h1 : n + 1 < w.length := by omega
  have h2 : n + 2 < w.length := by omega
  conv => lhs; rw [← List.take_append_drop n w]
  congr 1
  rw [List.drop_eq_getElem_cons h0, List.drop_eq_getElem_cons h1, List.drop_eq_getElem_cons h2, List.drop_eq_nil_of_le (by omega)]
  simp [h0, h1, h2]
theorem split2 {w : List Int} {n : Nat} (hw : w.length = n + 2) : ∃ l x y, w = l ++ [x, y] ∧ l.length = n ∧ w[n]?.getD 0 = x ∧ w[n + 1]?.getD 0 = y := by
  refine ⟨w.take n, w[n]?.getD 0, w[n + 1]?.getD 0, ?_, by simp; omega, rfl, rfl⟩
  have h0 : n < w.length := by omega
  have h1 : n + 1 < w.length := by omega
  conv => lhs; rw [← List.take_append_drop n w]
  congr 1
  rw [List.drop_eq_getElem_cons h0, List.drop_eq_getElem_cons h1, List.drop_eq_nil_of_le (by omega)]
  simp [h0, h1]

/-- The guess: out of the three highest limbs by the two highest. -/
def guess (w b : List Int) (n : Nat) : Int := ((w[n + 2]?.getD 0 * 10000 + w[n + 1]?.getD 0) * 10000 + w[n]?.getD 0) / (b[n + 1]?.getD 0 * 10000 + b[n]?.getD 0)
theorem guess_ge {w b : List Int} {n : Nat} (hw : w.length = n + 3) (hb : b.length = n + 2) (lw : Lm w) (lb : Lm b) (ht : 0 < b[n + 1]?.getD 0) : vl w / vl b ≤ guess w b n := by
  obtain ⟨lo, x, y, z, ew, el, ex, ey, ez⟩ := split3 hw
  obtain ⟨lo2, u, v, eb, el2, eu, ev⟩ := split2 hb
  unfold guess
  rw [ex, ey, ez, eu, ev]
  rw [ev] at ht
  have vw : vl w = vl lo + 10000 ^ n * ((z * 10000 + y) * 10000 + x) := by
    rw [ew, vl_append, el]; simp only [vl]
    congr 2; omega
  have vb : vl b = vl lo2 + 10000 ^ n * (v * 10000 + u) := by
    rw [eb, vl_append, el2]; simp only [vl]
    congr 2; omega
  have hlo : Lm lo := fun t ht => lw t (by rw [ew]; exact List.mem_append_left _ ht)
  have hlo2 : Lm lo2 := fun t ht => lb t (by rw [eb]; exact List.mem_append_left _ ht)
  have hu := lb u (by rw [eb]; simp)
  have hB : 0 < v * 10000 + u := by omega
  have h1 := vl_lt hlo
  rw [el] at h1
  have h2 := vl_nonneg hlo2
  have hM := pow_pos' n
  have hqb : vl w / vl b * vl b ≤ vl w := Int.ediv_mul_le _ (by
    have : 0 < 10000 ^ n * (v * 10000 + u) := Int.mul_pos hM (by omega)
    omega)
  have hq0 : 0 ≤ vl w / vl b := Int.ediv_nonneg (vl_nonneg lw) (vl_nonneg lb)
  generalize vl w / vl b = q at *
  generalize (z * 10000 + y) * 10000 + x = H at *
  generalize v * 10000 + u = B at *
  refine Int.le_ediv_of_mul_le hB ?_
  generalize (10000 : Int) ^ n = M at *
  have h3 : q * (M * B) ≤ q * vl b := Int.mul_le_mul_of_nonneg_left (by omega) hq0
  have h4 : M * (q * B) = q * (M * B) := Int.mul_left_comm _ _ _
  have h5 : M * (q * B) < M * (H + 1) := by
    have : M * (H + 1) = M * H + M := by rw [Int.mul_add, Int.mul_one]
    omega
  have := Int.lt_of_mul_lt_mul_left h5 (by omega)
  omega

/-- How a digit's search stands: q is tried, c is owed. -/
def Dig (w b w1 : List Int) (q c : Int) : Prop := Lm w1 ∧ w1.length = w.length ∧ vl w1 + 10000 ^ w.length * c = vl w - q * vl b ∧ vl w / vl b ≤ q ∧ c ≤ 0
theorem owed_le {w1 : List Int} {k : Nat} {c r : Int} (h1 : Lm w1) (e : vl w1 + 10000 ^ k * c = r) (hr : r < 10000 ^ k) : c ≤ 0 := by
  have h0 := vl_nonneg h1
  rcases Int.lt_or_le 0 c with h | h
  · exfalso
    have hp := pow_pos' k
    have : 10000 ^ k * 1 ≤ (10000 : Int) ^ k * c := Int.mul_le_mul_of_nonneg_left (by omega) (by omega)
    omega
  · exact h
theorem dig_start {w b : List Int} {n : Nat} (hw : w.length = n + 3) (hb : b.length = n + 2) (lw : Lm w) (lb : Lm b) (ht : 0 < b[n + 1]?.getD 0) (hlt : vl w < 10000 * vl b) :
    Dig w b (pas (min (guess w b n) 9999) w b 0).1 (min (guess w b n) 9999) (pas (min (guess w b n) 9999) w b 0).2 ∧ 0 ≤ min (guess w b n) 9999 := by
  have h1 := guess_ge hw hb lw lb ht
  have h0 : 0 ≤ vl w / vl b := Int.ediv_nonneg (vl_nonneg lw) (vl_nonneg lb)
  have hvb : 0 < vl b := by
    have := vl_nonneg lw
    omega
  have h2 : vl w / vl b < 10000 := Int.ediv_lt_of_lt_mul hvb hlt
  generalize hq : min (guess w b n) 9999 = q
  have h3 : vl w / vl b ≤ q := by omega
  have h4 : 0 ≤ q := by omega
  have e := pas_vl q w b 0 (by omega)
  refine ⟨⟨pas_lm _ _ _ _, pas_len _ _ _ _, by omega, h3, ?_⟩, h4⟩
  have h5 : 0 ≤ q * vl b := Int.mul_nonneg h4 (by omega)
  exact owed_le (pas_lm q w b 0) e (by have := vl_lt lw; omega)
theorem dig_step {w b w1 : List Int} {q c : Int} (h : Dig w b w1 q c) (hlb : b.length ≤ w.length) (lw : Lm w) (lb : Lm b) (hvb : 0 < vl b) (hc : c < 0) :
    Dig w b (pas (-1) w1 b 0).1 (q - 1) (c + (pas (-1) w1 b 0).2) ∧ 0 < q := by
  obtain ⟨l1, len, e, hq, _⟩ := h
  have e2 := pas_vl (-1) w1 b 0 (by omega)
  rw [len] at e2
  have hM := pow_pos' w.length
  have hlt := vl_lt l1
  rw [len] at hlt
  have h0 : 0 ≤ vl w / vl b := Int.ediv_nonneg (vl_nonneg lw) (vl_nonneg lb)
  have ec : (10000 : Int) ^ w.length * c ≤ 10000 ^ w.length * (-1) := Int.mul_le_mul_of_nonneg_left (by omega) (by omega)
  have hlt2 : vl w < q * vl b := by omega
  have hq2 : vl w / vl b < q := Int.ediv_lt_of_lt_mul hvb hlt2
  have e3 : vl (pas (-1) w1 b 0).1 + 10000 ^ w.length * (c + (pas (-1) w1 b 0).2) = vl w - (q - 1) * vl b := by
    rw [Int.mul_add, Int.sub_mul, Int.one_mul]
    omega
  refine ⟨⟨pas_lm _ _ _ _, by rw [pas_len, len], e3, by omega, ?_⟩, by omega⟩
  have h5 : 0 ≤ (q - 1) * vl b := Int.mul_nonneg (by omega) (by omega)
  exact owed_le (pas_lm _ _ _ _) e3 (by have := vl_lt lw; omega)
theorem dig_end {w b w1 : List Int} {q c : Int} (h : Dig w b w1 q c) (lw : Lm w) (hvb : 0 < vl b) (hc : ¬ c < 0) : q = vl w / vl b ∧ vl w1 = vl w % vl b := by
  obtain ⟨l1, len, e, hq, hc'⟩ := h
  have c0 : c = 0 := by omega
  subst c0
  rw [Int.mul_zero, Int.add_zero] at e
  have h1 := vl_nonneg l1
  have h2 : q ≤ vl w / vl b := Int.le_ediv_of_mul_le hvb (by omega)
  have h3 : q = vl w / vl b := by omega
  refine ⟨h3, ?_⟩
  rw [Int.emod_def, e, h3, Int.mul_comm]

/-- The m lowest limbs of a number. -/
def lims : Nat → Int → List Int
  | 0, _ => []
  | m + 1, x => x % 10000 :: lims m (x / 10000)
theorem lims_eq : ∀ {l : List Int}, Lm l → l = lims l.length (vl l)
  | [], _ => rfl
  | x :: l, h => by
    have ih := lims_eq h.tail
    have hx := h.head
    simp only [List.length_cons, lims, vl]
    have e1 : (x + 10000 * vl l) % 10000 = x := by omega
    have e2 : (x + 10000 * vl l) / 10000 = vl l := by omega
    rw [e1, e2, ← ih]
theorem lims_of {l : List Int} {m : Nat} {x : Int} (h : Lm l) (hm : l.length = m) (hx : vl l = x) : l = lims m x := by
  rw [← hm, ← hx]; exact lims_eq h

/-- How a long division stands with i digits to come: x is what is left, d the digits found. -/
def Lng (a b x d : List Int) (i : Nat) : Prop := Lm x ∧ Lm d ∧ vl a = vl x + 10000 ^ i * (vl d * vl b) ∧ vl x < 10000 ^ i * vl b
theorem lng_start {a b : List Int} {n : Nat} (la : Lm a) (lb : Lm b) (hb : b.length = n + 2) (ht : 0 < b[n + 1]?.getD 0) (hle : b.length ≤ a.length) : Lng a b (a ++ [0]) [] (a.length - b.length + 1) := by
  refine ⟨la.append (Lm.cons (by omega) (by omega) Lm.nil), Lm.nil, by rw [vl_append]; simp [vl], ?_⟩
  obtain ⟨lo, u, v, eb, el, eu, ev⟩ := split2 hb
  rw [ev] at ht
  have hlo : Lm lo := fun t ht => lb t (by rw [eb]; exact List.mem_append_left _ ht)
  have hu := lb u (by rw [eb]; simp)
  have vb : (10000 : Int) ^ (n + 1) ≤ vl b := by
    rw [eb, vl_append, el]; simp only [vl]
    have h1 := vl_nonneg hlo
    have h2 : (10000 : Int) ^ n * 10000 ≤ 10000 ^ n * (u + 10000 * (v + 10000 * 0)) := Int.mul_le_mul_of_nonneg_left (by omega) (Int.le_of_lt (pow_pos' n))
    rw [Int.pow_succ]; omega
  have va : vl (a ++ [0]) < 10000 ^ a.length := by
    rw [vl_append]; simp only [vl]
    have := vl_lt la
    simpa using this
  have e : (10000 : Int) ^ a.length = 10000 ^ (a.length - b.length + 1) * 10000 ^ (n + 1) := by
    rw [← Int.pow_add]; congr 1; omega
  have h3 : (10000 : Int) ^ (a.length - b.length + 1) * 10000 ^ (n + 1) ≤ 10000 ^ (a.length - b.length + 1) * vl b := Int.mul_le_mul_of_nonneg_left vb (Int.le_of_lt (pow_pos' _))
  omega
theorem lng_win {a b p w s d : List Int} {i : Nat} (h : Lng a b (p ++ w ++ s) d (i + 1)) (hp : p.length = i) (hw : w.length = b.length + 1) (lb : Lm b) : vl w < 10000 * vl b ∧ vl s = 0 ∧ Lm p ∧ Lm w ∧ Lm s := by
  obtain ⟨l1, l2, _, e2⟩ := h
  have lp : Lm p := fun t ht => l1 t (by simp [ht])
  have lw : Lm w := fun t ht => l1 t (by simp [ht])
  have ls : Lm s := fun t ht => l1 t (by simp [ht])
  rw [List.append_assoc, vl_append, hp, vl_append, Int.pow_succ, Int.mul_assoc] at e2
  have h0 := vl_nonneg lp
  have h1 := vl_nonneg lw
  have h2 := vl_nonneg ls
  have hbl := vl_lt lb
  have hM := pow_pos' i
  have h3 : (10000 : Int) ^ i * (vl w + 10000 ^ w.length * vl s) < 10000 ^ i * (10000 * vl b) := by omega
  have h4 := Int.lt_of_mul_lt_mul_left h3 (Int.le_of_lt hM)
  have e : (10000 : Int) ^ w.length = 10000 ^ b.length * 10000 := by rw [hw, Int.pow_succ]
  have h5 : vl s = 0 := by
    rcases Int.lt_or_le 0 (vl s) with hs | hs
    · exfalso
      have : (10000 : Int) ^ w.length * 1 ≤ 10000 ^ w.length * vl s := Int.mul_le_mul_of_nonneg_left (by omega) (Int.le_of_lt (pow_pos' _))
      omega
    · omega
  rw [h5, Int.mul_zero] at h4
  exact ⟨by omega, h5, lp, lw, ls⟩
theorem lng_step {a b p w s d w1 : List Int} {i : Nat} (h : Lng a b (p ++ w ++ s) d (i + 1)) (hp : p.length = i) (hw : w.length = b.length + 1) (lb : Lm b) (l1 : Lm w1) (hw1 : w1.length = w.length) (hv : vl w1 = vl w % vl b) (hb : 0 < vl b) :
    Lng a b (p ++ w1 ++ s) (vl w / vl b :: d) i := by
  obtain ⟨hlt, hs, lp, lw, ls⟩ := lng_win h hp hw lb
  obtain ⟨_, ld, e1, e2⟩ := h
  have hq0 : 0 ≤ vl w / vl b := Int.ediv_nonneg (vl_nonneg lw) (vl_nonneg lb)
  have hq1 : vl w / vl b < 10000 := Int.ediv_lt_of_lt_mul hb hlt
  have hm := Int.emod_add_mul_ediv (vl w) (vl b)
  have hm0 := Int.emod_lt_of_pos (vl w) hb
  have hpl := vl_lt lp
  rw [hp] at hpl
  have hM := pow_pos' i
  refine ⟨(lp.append l1).append ls, Lm.cons hq0 hq1 ld, ?_, ?_⟩
  · rw [e1, List.append_assoc, List.append_assoc, vl_append, vl_append, vl_append, vl_append, hw1, hs, hv, hp, Int.pow_succ]
    simp only [vl, Int.mul_zero, Int.add_zero]
    generalize vl w % vl b = R at *
    generalize vl w / vl b = Q at *
    generalize (10000 : Int) ^ i = M at *
    have e3 : vl w = R + vl b * Q := hm.symm
    have e4 : M * vl w = M * R + M * (vl b * Q) := by rw [e3, Int.mul_add]
    have e5 : M * ((Q + 10000 * vl d) * vl b) = M * (vl b * Q) + M * 10000 * (vl d * vl b) := by
      rw [Int.add_mul, Int.mul_add, Int.mul_comm Q, Int.mul_assoc 10000, Int.mul_assoc M 10000]
    omega
  · rw [List.append_assoc, vl_append, vl_append, hw1, hs, hv, hp, Int.mul_zero, Int.add_zero]
    have h1 : (10000 : Int) ^ i * (vl w % vl b) ≤ 10000 ^ i * (vl b - 1) := Int.mul_le_mul_of_nonneg_left (by omega) (Int.le_of_lt hM)
    have h2 : (10000 : Int) ^ i * (vl b - 1) = 10000 ^ i * vl b - 10000 ^ i := by rw [Int.mul_sub, Int.mul_one]
    omega
theorem lng_end {a b x d : List Int} (h : Lng a b x d 0) (hb : 0 < vl b) : vl d = vl a / vl b ∧ vl x = vl a % vl b := by
  obtain ⟨lx, ld, e1, e2⟩ := h
  rw [Int.pow_zero, Int.one_mul] at e1 e2
  have h0 := vl_nonneg lx
  have e3 : vl a / vl b = vl d := by
    rw [e1, Int.add_mul_ediv_right _ _ (by omega), Int.ediv_eq_zero_of_lt h0 e2]; omega
  refine ⟨e3.symm, ?_⟩
  rw [e1, Int.add_mul_emod_self_right, Int.emod_eq_of_lt h0 e2]

end Go.Proofs.Ytegbmillbbcmfaa.Pn
