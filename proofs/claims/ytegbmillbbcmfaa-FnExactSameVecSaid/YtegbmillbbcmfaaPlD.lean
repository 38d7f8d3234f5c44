import Derived.Test.YtegbmillbbcmfaaPlT
import Derived.Test.YtegbmillbbcmfaaQxmul
namespace Go.Proofs.Ytegbmillbbcmfaa.Pl
open Go.RowKit Go.Proofs.Ytegbmillbbcmfaa.Q Go.Proofs.Ytegbmillbbcmfaa.Pn Go.Proofs.YtegbmillbbcmfaaW.PrintWords Go.Proofs.YtegbmillbbcmfaaW.PrintLast
set_option linter.unusedVariables false
set_option linter.unusedSimpArgs false

/-- A row of the product, added from os on. -/
def rowL (x : Int) : List Int → List Int → Int → List Int
  | o :: os, y :: ys, c => (o + x * y + c) % 10000 :: rowL x os ys ((o + x * y + c) / 10000)
  | o :: os, [], c => if c > 0 then (o + c) % 10000 :: rowL x os [] ((o + c) / 10000) else o :: os
  | [], _, _ => []
theorem rowL_lm (x : Int) : ∀ (os ys : List Int) (c : Int), Lm os → Lm (rowL x os ys c)
  | o :: os, y :: ys, c, h => by unfold rowL; exact Lm.cons (by omega) (by omega) (rowL_lm x _ _ _ h.tail)
  | o :: os, [], c, h => by
    unfold rowL; split
    · exact Lm.cons (by omega) (by omega) (rowL_lm x _ _ _ h.tail)
    · exact h
  | [], [], c, h => by unfold rowL; exact Lm.nil
  | [], y :: ys, c, h => by unfold rowL; exact Lm.nil
theorem rowL_len (x : Int) : ∀ (os ys : List Int) (c : Int), (rowL x os ys c).length = os.length
  | o :: os, y :: ys, c => by unfold rowL; simp [rowL_len x os]
  | o :: os, [], c => by unfold rowL; split <;> simp [rowL_len x os]
  | [], [], c => by unfold rowL; rfl
  | [], y :: ys, c => by unfold rowL; rfl
theorem rowL_nil (x : Int) (os : List Int) : rowL x os [] 0 = os := by cases os <;> simp [rowL]
theorem mul_bd {x y : Int} (hx : 0 ≤ x ∧ x < 10000) (hy : 0 ≤ y ∧ y < 10000) : 0 ≤ x * y ∧ x * y ≤ 99980001 := by
  refine ⟨Int.mul_nonneg hx.1 hy.1, ?_⟩
  have h1 : x * y ≤ 9999 * y := Int.mul_le_mul_of_nonneg_right (by omega) hy.1
  omega
theorem rowL_vl {x : Int} (hx : 0 ≤ x ∧ x < 10000) : ∀ {ys os : List Int} {c : Int}, Lm os → Lm ys → 0 ≤ c → c ≤ 9999 → (∃ zs, os.drop ys.length = 0 :: zs) → vl (rowL x os ys c) = vl os + x * vl ys + c
  | [], os, c, ho, hy, h0, h1, ⟨zs, hz⟩ => by
    simp only [List.length_nil, List.drop_zero] at hz
    subst hz
    unfold rowL
    split
    · rw [show (0 + c) / 10000 = 0 by omega, rowL_nil]; simp only [vl]; omega
    · simp only [vl]; omega
  | y :: ys, [], c, ho, hy, h0, h1, ⟨zs, hz⟩ => by simp at hz
  | y :: ys, o :: os, c, ho, hy, h0, h1, ⟨zs, hz⟩ => by
    have hy0 := hy.head; have ho0 := ho.head
    have hb := mul_bd hx hy0
    unfold rowL
    simp only [vl]
    rw [rowL_vl hx ho.tail hy.tail (by omega) (by omega) ⟨zs, by simpa using hz⟩]
    have e : x * (10000 * vl ys) = 10000 * (x * vl ys) := by rw [← Int.mul_assoc, Int.mul_comm x 10000, Int.mul_assoc]
    rw [Int.mul_add x y, e]; omega
theorem rowL_drop {x : Int} : ∀ {ys os : List Int} {c : Int}, 0 ≤ c → c ≤ 9999 → Lm os → Lm ys → 0 ≤ x ∧ x < 10000 → (∃ zs, os.drop ys.length = 0 :: zs) → (rowL x os ys c).drop (ys.length + 1) = os.drop (ys.length + 1)
  | [], os, c, h0, h1, _, _, _, ⟨zs, hz⟩ => by
    simp only [List.length_nil, List.drop_zero] at hz
    subst hz
    unfold rowL
    split
    · rw [show (0 + c) / 10000 = 0 by omega, rowL_nil]; simp
    · rfl
  | y :: ys, [], c, h0, h1, _, _, _, ⟨zs, hz⟩ => by simp at hz
  | y :: ys, o :: os, c, h0, h1, ho, hy, hx, ⟨zs, hz⟩ => by
    have hy0 := hy.head; have ho0 := ho.head
    have hb := mul_bd hx hy0
    unfold rowL
    rw [List.length_cons, List.drop_succ_cons, List.drop_succ_cons]
    exact rowL_drop (by omega) (by omega) ho.tail hy.tail hx ⟨zs, by simpa using hz⟩
theorem drop_mid {l r : List Int} {i : Nat} (h : l.length = i) (n : Nat) : (l ++ r).drop (i + n) = r.drop n := by
  rw [← List.drop_drop, ← h, List.drop_left]

theorem spec_l01Mul_row {a b : List Int} (hb : Lm b) (hlb : b.length ≤ 1000000000) {i : Nat} (hi : i < a.length) (hla : a.length ≤ 1000000000) {x : Int} (hx : Aside0 (rd a i = x)) (hx0 : 0 ≤ x ∧ x < 10000) :
    ∀ (ys os pre : List Int) (c : Int) (kk : Nat), ys = b.drop kk → pre.length = i + kk → kk ≤ 2000000000 → Lm os → 0 ≤ c → c ≤ 9999 → (kk ≤ b.length → ∃ zs, os.drop ys.length = 0 :: zs) → (b.length < kk → c = 0) → ∀ r,
      Ev (fun k => spec_l01Mul.l0 k a b (pre ++ rowL x os ys c) ((i + 1 : Nat) : Int)) r → Ev (fun k => spec_l01Mul.l1 k a b (pre ++ os) i c kk) r
  | [], os, pre, c, kk, hys, hp, hkk, ho, h0, h1, hz, hc, r, hr => by
    have hkb : b.length ≤ kk := by
      by_cases h : kk < b.length
      · rw [drop_cons h] at hys; simp at hys
      · omega
    by_cases c0 : c > 0
    · have hke : kk = b.length := by
        by_cases h : b.length < kk
        · have := hc h; omega
        · omega
      obtain ⟨zs, hz⟩ := hz (by omega)
      simp only [List.length_nil, List.drop_zero] at hz
      subst hz
      refine Ev.step (f := fun k => spec_l01Mul.j2 k a b (pre ++ 0 :: zs) i c kk true) (fun k => by simp only [spec_l01Mul.l1]; rw [if_neg (by omega), decide_eq_true c0]) ?_
      have e1 : rowL x (0 :: zs) [] c = c :: zs := by
        unfold rowL
        rw [if_pos c0, show (0 + c) / 10000 = 0 by omega, rowL_nil, show (0 + c) % 10000 = c by omega]
      have := spec_l01Mul_row hb hlb hi hla hx hx0 [] zs (pre ++ [c]) 0 (kk + 1) (by rw [List.drop_eq_nil_of_le (by omega)]) (by simp [hp]; omega) (by omega) ho.tail (by omega) (by omega) (fun h => by omega) (fun _ => rfl) r (by
        rw [rowL_nil, List.append_assoc]
        rw [e1] at hr
        exact hr)
      rw [List.append_assoc] at this
      refine Ev.step (fun k => ?_) this
      have hw : wrap64 ((i : Int) + (kk : Int)) = ((i + kk : Nat) : Int) := by rw [wrap_in (by omega) (by omega)]; omega
      simp only [spec_l01Mul.j2, if_true]
      rw [hw]
      clear hw this
      rw [if_pos (by omega), if_pos (by simp; omega), if_neg (by omega), rd_mid hp, Int.toNat_natCast, set_mid hp, wrap_in (x := 0 + c) (by omega) (by omega), tmod_pos (by omega), tdiv_pos (by omega), wrap_in (by omega) (by omega), wsucc (by omega)]
      rw [show (0 + c) % 10000 = c by omega, show (0 + c) / 10000 = 0 by omega]; rfl
    · have hc0 : c = 0 := by omega
      subst hc0
      rw [rowL_nil] at hr
      refine Ev.step (f := fun k => spec_l01Mul.j2 k a b (pre ++ os) i 0 kk false) (fun k => by simp only [spec_l01Mul.l1]; rw [if_neg (by omega), decide_eq_false c0]) ?_
      refine Ev.step (fun k => ?_) hr
      simp only [spec_l01Mul.j2, Bool.false_eq_true, if_false]
      rw [wsucc (by omega)]
  | y :: ys, os, pre, c, kk, hys, hp, hkk, ho, h0, h1, hz, hc, r, hr => by
    have hkb : kk < b.length := by
      by_cases h : kk < b.length
      · exact h
      · rw [List.drop_eq_nil_of_le (by omega)] at hys; simp at hys
    have hyy := drop_cons hkb
    rw [← hys] at hyy
    injection hyy with hy1 hy2
    have hyb := rd_lm hb kk
    rw [← hy1] at hyb
    have HY := Aside0.mk hy1
    clear hy1
    obtain ⟨zs, hz⟩ := hz (by omega)
    cases os with
    | nil => simp at hz
    | cons o os =>
      have ho0 := ho.head
      have hm := mul_bd hx0 hyb
      refine Ev.step (f := fun k => spec_l01Mul.j2 k a b (pre ++ o :: os) i c kk true) (fun k => by simp only [spec_l01Mul.l1]; rw [if_pos (by omega)]) ?_
      have := spec_l01Mul_row hb hlb hi hla hx hx0 ys os (pre ++ [(o + x * y + c) % 10000]) ((o + x * y + c) / 10000) (kk + 1) hy2 (by simp [hp]; omega) (by omega) ho.tail (by omega) (by omega) (fun _ => ⟨zs, by simpa using hz⟩) (fun h => by omega) r (by
        rw [List.append_assoc]
        unfold rowL at hr
        exact hr)
      rw [List.append_assoc] at this
      refine Ev.step (fun k => ?_) this
      have hw : wrap64 ((i : Int) + (kk : Int)) = ((i + kk : Nat) : Int) := by rw [wrap_in (by omega) (by omega)]; omega
      simp only [spec_l01Mul.j2, if_true]
      rw [hw]
      clear hw this
      rw [if_pos (by omega), if_pos (by simp; omega), if_pos (by omega), if_pos (by omega), if_pos (by omega), if_pos (by omega), rd_mid hp, hx.out, ← HY.out, Int.toNat_natCast, set_mid hp, wrap_in (x := o + c) (by omega) (by omega), wrap_in (x := x * y) (by omega) (by omega), wrap_in (x := o + c + x * y) (by omega) (by omega), tmod_pos (by omega), tdiv_pos (by omega), wrap_in (by omega) (by omega), wsucc (by omega)]
      rw [show o + c + x * y = o + x * y + c by omega]; rfl

theorem impl_natMul_row {a b : List Int} (hb : Lm b) (hlb : b.length ≤ 1000000000) {i : Nat} (hi : i < a.length) (hla : a.length ≤ 1000000000) {x : Int} (hx : Aside0 (rd a i = x)) (hx0 : 0 ≤ x ∧ x < 10000) :
    ∀ (ys os pre : List Int) (c : Int) (kk : Nat), ys = b.drop kk → pre.length = i + kk → kk ≤ 2000000000 → Lm os → 0 ≤ c → c ≤ 9999 → (kk ≤ b.length → ∃ zs, os.drop ys.length = 0 :: zs) → (b.length < kk → c = 0) → ∀ r,
      Ev (fun k => impl_natMul.l0 k b (pre ++ rowL x os ys c) a a.length ((i + 1 : Nat) : Int)) r → Ev (fun k => impl_natMul.l1 k b (pre ++ os) i x c kk a a.length i) r
  | [], os, pre, c, kk, hys, hp, hkk, ho, h0, h1, hz, hc, r, hr => by
    have hkb : b.length ≤ kk := by
      by_cases h : kk < b.length
      · rw [drop_cons h] at hys; simp at hys
      · omega
    by_cases c0 : c > 0
    · have hke : kk = b.length := by
        by_cases h : b.length < kk
        · have := hc h; omega
        · omega
      obtain ⟨zs, hz⟩ := hz (by omega)
      simp only [List.length_nil, List.drop_zero] at hz
      subst hz
      refine Ev.step (f := fun k => impl_natMul.j2 k b (pre ++ 0 :: zs) i x c kk a a.length i true) (fun k => by simp only [impl_natMul.l1]; rw [if_neg (by omega), decide_eq_true c0]) ?_
      have e1 : rowL x (0 :: zs) [] c = c :: zs := by
        unfold rowL
        rw [if_pos c0, show (0 + c) / 10000 = 0 by omega, rowL_nil, show (0 + c) % 10000 = c by omega]
      have := impl_natMul_row hb hlb hi hla hx hx0 [] zs (pre ++ [c]) 0 (kk + 1) (by rw [List.drop_eq_nil_of_le (by omega)]) (by simp [hp]; omega) (by omega) ho.tail (by omega) (by omega) (fun h => by omega) (fun _ => rfl) r (by
        rw [rowL_nil, List.append_assoc]
        rw [e1] at hr
        exact hr)
      rw [List.append_assoc] at this
      refine Ev.step (fun k => ?_) this
      have hw : wrap64 ((i : Int) + (kk : Int)) = ((i + kk : Nat) : Int) := by rw [wrap_in (by omega) (by omega)]; omega
      simp only [impl_natMul.j2, if_true]
      rw [hw]
      clear hw this
      rw [if_neg (by omega), if_pos (by omega), if_pos (by simp; omega), rd_mid hp, Int.toNat_natCast, set_mid hp, wrap_in (x := c + 0) (by omega) (by omega), tmod_pos (by omega), tdiv_pos (by omega), wrap_in (by omega) (by omega), wsucc (by omega)]
      rw [show (c + 0) % 10000 = c by omega, show (c + 0) / 10000 = 0 by omega]; rfl
    · have hc0 : c = 0 := by omega
      subst hc0
      rw [rowL_nil] at hr
      refine Ev.step (f := fun k => impl_natMul.j2 k b (pre ++ os) i x 0 kk a a.length i false) (fun k => by simp only [impl_natMul.l1]; rw [if_neg (by omega), decide_eq_false c0]) ?_
      refine Ev.step (fun k => ?_) hr
      simp only [impl_natMul.j2, Bool.false_eq_true, if_false]
      rw [wsucc (by omega)]
  | y :: ys, os, pre, c, kk, hys, hp, hkk, ho, h0, h1, hz, hc, r, hr => by
    have hkb : kk < b.length := by
      by_cases h : kk < b.length
      · exact h
      · rw [List.drop_eq_nil_of_le (by omega)] at hys; simp at hys
    have hyy := drop_cons hkb
    rw [← hys] at hyy
    injection hyy with hy1 hy2
    have hyb := rd_lm hb kk
    rw [← hy1] at hyb
    have HY := Aside0.mk hy1
    clear hy1
    obtain ⟨zs, hz⟩ := hz (by omega)
    cases os with
    | nil => simp at hz
    | cons o os =>
      have ho0 := ho.head
      have hm := mul_bd hx0 hyb
      refine Ev.step (f := fun k => impl_natMul.j2 k b (pre ++ o :: os) i x c kk a a.length i true) (fun k => by simp only [impl_natMul.l1]; rw [if_pos (by omega)]) ?_
      have := impl_natMul_row hb hlb hi hla hx hx0 ys os (pre ++ [(o + x * y + c) % 10000]) ((o + x * y + c) / 10000) (kk + 1) hy2 (by simp [hp]; omega) (by omega) ho.tail (by omega) (by omega) (fun _ => ⟨zs, by simpa using hz⟩) (fun h => by omega) r (by
        rw [List.append_assoc]
        unfold rowL at hr
        exact hr)
      rw [List.append_assoc] at this
      refine Ev.step (fun k => ?_) this
      have hw : wrap64 ((i : Int) + (kk : Int)) = ((i + kk : Nat) : Int) := by rw [wrap_in (by omega) (by omega)]; omega
      simp only [impl_natMul.j2, if_true]
      rw [hw]
      clear hw this
      rw [if_pos (by omega), if_pos (by omega), if_pos (by omega), if_pos (by simp; omega), rd_mid hp, ← HY.out, Int.toNat_natCast, set_mid hp, wrap_in (x := x * y) (by omega) (by omega), wrap_in (x := c + x * y) (by omega) (by omega), wrap_in (x := c + x * y + o) (by omega) (by omega), tmod_pos (by omega), tdiv_pos (by omega), wrap_in (by omega) (by omega), wsucc (by omega)]
      rw [show c + x * y + o = o + x * y + c by omega]; rfl

theorem spec_l01Mul_loop {a b : List Int} (ha : Lm a) (hb : Lm b) (hla : a.length ≤ 1000000000) (hlb : b.length ≤ 1000000000) (d : Nat) :
    ∀ (i : Nat) (out : List Int), i + d = a.length → Lm out → out.length = a.length + b.length + 1 → vl out = vl (a.take i) * vl b → out.drop (i + b.length) = List.replicate (a.length - i + 1) 0 →
    Ev (fun k => spec_l01Mul.l0 k a b out i) (nat (vl a * vl b)) := by
  induction d with
  | zero =>
    intro i out hd ho hl hv hz
    rw [List.take_of_length_le (by omega)] at hv
    have e : out.take (tlen out out.length) = nat (vl a * vl b) := by rw [take_tlen ho, hv]
    refine Ev.step (f := fun _ => some (nat (vl a * vl b))) (fun k => ?_) (Ev.now _)
    simp only [spec_l01Mul.l0]; rw [if_neg (by omega), specTrim _ (by omega), e]; rfl
  | succ d ih =>
    intro i out hd ho hl hv hz
    have hi : i < a.length := by omega
    obtain ⟨x, hx, hx0⟩ : ∃ x, rd a i = x ∧ 0 ≤ x ∧ x < 10000 := ⟨_, rfl, rd_lm ha i⟩
    have hsplit : out.take i ++ out.drop i = out := List.take_append_drop i out
    have hpl : (out.take i).length = i := by rw [List.length_take]; omega
    have hos : Lm (out.drop i) := fun y hy => ho y (List.mem_of_mem_drop hy)
    have hzz : (out.drop i).drop b.length = 0 :: List.replicate (a.length - i - 1 + 1) 0 := by
      rw [List.drop_drop, hz, show a.length - i + 1 = (a.length - i - 1 + 1) + 1 by omega, List.replicate_succ]
    have hta : a.take (i + 1) = a.take i ++ [x] := by rw [List.take_add_one, ← hx, rd_nat]; simp [hi]
    have hal : (a.take i).length = i := by rw [List.length_take]; omega
    have key := spec_l01Mul_row hb hlb hi hla (Aside0.mk hx) hx0 b (out.drop i) (out.take i) 0 0 (by simp) (by rw [hpl]; omega) (by omega) hos (by omega) (by omega) (fun _ => ⟨_, hzz⟩) (fun h => by omega) (nat (vl a * vl b)) ?_
    · rw [hsplit] at key
      refine Ev.step (fun k => ?_) key
      simp only [spec_l01Mul.l0]; rw [if_pos (by omega)]; rfl
    · refine ih (i + 1) _ (by omega) ?_ ?_ ?_ ?_
      · exact Lm.append (fun y hy => ho y (List.mem_of_mem_take hy)) (rowL_lm _ _ _ _ hos)
      · rw [List.length_append, rowL_len, ← List.length_append, hsplit, hl]
      · rw [vl_append, rowL_vl hx0 hos hb (by omega) (by omega) ⟨_, hzz⟩, hta, vl_append, hpl, hal]
        have e1 : vl out = vl (out.take i) + 10000 ^ i * vl (out.drop i) := by
          have := vl_append (out.take i) (out.drop i); rw [hsplit, hpl] at this; exact this
        rw [e1] at hv
        simp only [vl]
        rw [Int.mul_zero, Int.add_zero, Int.add_zero, Int.mul_add, Int.add_mul, Int.mul_assoc]; omega
      · rw [show i + 1 + b.length = i + (b.length + 1) by omega, drop_mid hpl, rowL_drop (by omega) (by omega) hos hb hx0 ⟨_, hzz⟩, ← List.drop_drop, hzz, show a.length - (i + 1) + 1 = a.length - i - 1 + 1 by omega]; simp

theorem impl_natMul_loop {a b : List Int} (ha : Lm a) (hb : Lm b) (hla : a.length ≤ 1000000000) (hlb : b.length ≤ 1000000000) (d : Nat) :
    ∀ (i : Nat) (out : List Int), i + d = a.length → Lm out → out.length = a.length + b.length + 0 → vl out = vl (a.take i) * vl b → out.drop (i + b.length) = List.replicate (a.length - i + 0) 0 →
    Ev (fun k => impl_natMul.l0 k b out a a.length i) (nat (vl a * vl b)) := by
  induction d with
  | zero =>
    intro i out hd ho hl hv hz
    rw [List.take_of_length_le (by omega)] at hv
    have e : out.take (tlen out out.length) = nat (vl a * vl b) := by rw [take_tlen ho, hv]
    obtain ⟨K, hK⟩ := trimmed_ev out (by omega)
    refine ⟨K + 1, fun k hk => ?_⟩
    obtain ⟨k, rfl⟩ : ∃ m, k = m + 1 := ⟨k - 1, by omega⟩
    have hK := hK k (by omega)
    simp only at hK ⊢
    simp only [impl_natMul.l0]; rw [if_neg (by omega), hK, e]; rfl
  | succ d ih =>
    intro i out hd ho hl hv hz
    have hi : i < a.length := by omega
    obtain ⟨x, hx, hx0⟩ : ∃ x, rd a i = x ∧ 0 ≤ x ∧ x < 10000 := ⟨_, rfl, rd_lm ha i⟩
    have hsplit : out.take i ++ out.drop i = out := List.take_append_drop i out
    have hpl : (out.take i).length = i := by rw [List.length_take]; omega
    have hos : Lm (out.drop i) := fun y hy => ho y (List.mem_of_mem_drop hy)
    have hzz : (out.drop i).drop b.length = 0 :: List.replicate (a.length - i - 1 + 0) 0 := by
      rw [List.drop_drop, hz, show a.length - i + 0 = (a.length - i - 1) + 1 by omega, List.replicate_succ, Nat.add_zero]
    have hta : a.take (i + 1) = a.take i ++ [x] := by rw [List.take_add_one, ← hx, rd_nat]; simp [hi]
    have hal : (a.take i).length = i := by rw [List.length_take]; omega
    have key := impl_natMul_row hb hlb hi hla (Aside0.mk hx) hx0 b (out.drop i) (out.take i) 0 0 (by simp) (by rw [hpl]; omega) (by omega) hos (by omega) (by omega) (fun _ => ⟨_, hzz⟩) (fun h => by omega) (nat (vl a * vl b)) ?_
    · rw [hsplit] at key
      refine Ev.step (fun k => ?_) key
      simp only [impl_natMul.l0]; rw [if_pos (by omega), if_pos (by omega), if_pos (by omega), hx]; rfl
    · refine ih (i + 1) _ (by omega) ?_ ?_ ?_ ?_
      · exact Lm.append (fun y hy => ho y (List.mem_of_mem_take hy)) (rowL_lm _ _ _ _ hos)
      · rw [List.length_append, rowL_len, ← List.length_append, hsplit, hl]
      · rw [vl_append, rowL_vl hx0 hos hb (by omega) (by omega) ⟨_, hzz⟩, hta, vl_append, hpl, hal]
        have e1 : vl out = vl (out.take i) + 10000 ^ i * vl (out.drop i) := by
          have := vl_append (out.take i) (out.drop i); rw [hsplit, hpl] at this; exact this
        rw [e1] at hv
        simp only [vl]
        rw [Int.mul_zero, Int.add_zero, Int.add_zero, Int.mul_add, Int.add_mul, Int.mul_assoc]; omega
      · rw [show i + 1 + b.length = i + (b.length + 1) by omega, drop_mid hpl, rowL_drop (by omega) (by omega) hos hb hx0 ⟨_, hzz⟩, ← List.drop_drop, hzz, show a.length - (i + 1) + 0 = a.length - i - 1 + 0 by omega]; simp

theorem vl_zeros (n : Nat) : vl (List.replicate n 0) = 0 := by
  induction n with
  | zero => rfl
  | succ n ih => rw [List.replicate_succ, vl, ih]; rfl
theorem lm_zeros (n : Nat) : Lm (List.replicate n 0) := fun y hy => by rw [List.eq_of_mem_replicate hy]; omega
theorem spec_l01Mul_ev {a b : List Int} (ha : Lm a) (hb : Lm b) (hla : a.length ≤ 1000000000) (hlb : b.length ≤ 1000000000) : Ev (fun k => spec_l01Mul.f k a b) (nat (vl a * vl b)) := by
  have := spec_l01Mul_loop ha hb hla hlb a.length 0 (List.replicate (a.length + b.length + 1) 0) (by omega) (lm_zeros _) (by simp) (by rw [vl_zeros]; simp [vl]) (by rw [List.drop_replicate]; congr 1; omega)
  refine Ev.congr (fun k => ?_) this
  unfold spec_l01Mul.f
  have hw : wrap64 (wrap64 ((a.length : Int) + (b.length : Int)) + 1) = ((a.length + b.length + 1 : Nat) : Int) := by rw [wrap_in (x := (a.length : Int) + (b.length : Int)) (by omega) (by omega), wrap_in (by omega) (by omega)]; omega
  rw [hw, if_pos (by omega), if_pos (by omega), Int.toNat_natCast]; rfl
theorem impl_natMul_ev {a b : List Int} (ha : Lm a) (hb : Lm b) (hla : a.length ≤ 1000000000) (hlb : b.length ≤ 1000000000) : Ev (fun k => impl_natMul.f k a b) (nat (vl a * vl b)) := by
  have := impl_natMul_loop ha hb hla hlb a.length 0 (List.replicate (a.length + b.length) 0) (by omega) (lm_zeros _) (by simp) (by rw [vl_zeros]; simp [vl]) (by rw [List.drop_replicate]; congr 1; omega)
  refine Ev.congr (fun k => ?_) this
  unfold impl_natMul.f
  have hw : wrap64 ((a.length : Int) + (b.length : Int)) = ((a.length + b.length : Nat) : Int) := by rw [wrap_in (by omega) (by omega)]; omega
  rw [hw, if_pos (by omega), if_pos (by omega), Int.toNat_natCast]; rfl
end Go.Proofs.Ytegbmillbbcmfaa.Pl
