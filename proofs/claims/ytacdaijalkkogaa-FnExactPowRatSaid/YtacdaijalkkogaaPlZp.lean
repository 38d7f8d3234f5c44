import Derived.Test.YtacdaijalkkogaaPlY
import Derived.Test.YtacdaijalkkogaaQxPowRat
namespace Go.Proofs.Ytacdaijalkkogaa.Pl
open Go.RowKit Go.Proofs.Ytacdaijalkkogaa.Q Go.Proofs.Ytacdaijalkkogaa.Pn Go.Proofs.YtacdaijalkkogaaW.PrintWords Go.Proofs.YtacdaijalkkogaaW.PrintLast Go.Proofs.YtacdaijalkkogaaW.PrintMore
set_option linter.unusedVariables false
set_option linter.unusedSimpArgs false

/-- The sign of a power. -/
def sg (neg : Bool) : Nat → Bool
  | 0 => false
  | k + 1 => sg neg k != neg
def pwZ (r : R3) (k : Nat) : R3 := (sg r.1 k && decide (0 < vl r.2.1 ^ k), nat (vl r.2.1 ^ k), nat (vl r.2.2 ^ k))
theorem ipow_pos {d : Int} (h : 0 < d) (k : Nat) : 0 < d ^ k := Int.pow_pos h
theorem ipow_nn {n : Int} (h : 0 ≤ n) (k : Nat) : 0 ≤ n ^ k := Int.pow_nonneg h
theorem ipow_lt {n : Int} (h : 0 ≤ n) (hb : n < 10000 ^ 40) : ∀ k : Nat, n ^ k ≤ 10000 ^ (40 * k) := by
  intro k
  induction k with
  | zero => rw [Int.pow_zero, Nat.mul_zero, Int.pow_zero]; exact Int.le_refl _
  | succ k ih =>
    rw [Int.pow_succ, Nat.mul_succ, Int.pow_add]
    exact Int.mul_le_mul ih (by omega) h (by have := pow_pos' (40 * k); omega)
theorem ipow_bd {n : Int} (h : 0 ≤ n) (hb : n < 10000 ^ 40) {k : Nat} (hk : k ≤ 9) : n ^ k < 10000 ^ 361 := by
  have h1 := ipow_lt h hb k
  have h2 := pow_mono' (show 40 * k ≤ 360 by omega)
  have h3 : (10000 : Int) ^ 361 = 10000 ^ 360 * 10000 := Int.pow_succ _ _
  have h4 := pow_pos' 360
  omega
theorem gcdI_pow {n d : Int} (hn : 0 ≤ n) (hd : 0 < d) (h : gcdI n d = 1) (k : Nat) : gcdI (n ^ k) (d ^ k) = 1 := by
  obtain ⟨a, rfl⟩ : ∃ a : Nat, n = a := ⟨n.toNat, by omega⟩
  obtain ⟨b, rfl⟩ : ∃ b : Nat, d = b := ⟨d.toNat, by omega⟩
  unfold gcdI at h ⊢
  rw [← Int.natCast_pow, ← Int.natCast_pow]
  simp only [Int.toNat_natCast] at h ⊢
  have h' : Nat.Coprime a b := by unfold Nat.Coprime; omega
  have := Nat.Coprime.pow k k h'
  unfold Nat.Coprime at this
  rw [this]; rfl
theorem pwZ_sm {r : R3} (h : RO r) (h1 : r.2.1.length ≤ 40) (h2 : r.2.2.length ≤ 40) {k : Nat} (hk : k ≤ 9) : Sm 361 (pwZ r k) := by
  have a := nm_bd h.1 h1
  have d := nm_bd h.2.1 h2
  have dp := vl_pos h.2.1 h.2.2.1
  refine ⟨nm_nat _, nm_nat _, fun e => ?_, nat_len _ _ (ipow_bd a.1 a.2 hk), nat_len _ _ (ipow_bd d.1 d.2 hk)⟩
  have := nat_eq_nil e
  have := ipow_pos dp k
  omega
theorem pw_sign {n : Int} (hn : 0 ≤ n) (s neg : Bool) (k : Nat) : ((s && decide (0 < n ^ k)) != neg && decide (0 < n ^ (k + 1))) = ((s != neg) && decide (0 < n ^ (k + 1))) := by
  by_cases h : 0 < n ^ (k + 1)
  · have h0 : 0 < n := by
      rcases Int.lt_or_eq_of_le hn with g | g
      · exact g
      · rw [← g, Int.zero_pow (by omega)] at h; omega
    rw [decide_eq_true h, decide_eq_true (ipow_pos h0 k)]
    simp only [Bool.and_true]
  · rw [decide_eq_false h, Bool.and_false, Bool.and_false]
theorem mulZ_pw {r : R3} (h : RO r) (k : Nat) : mulZ (pwZ r k) r = pwZ r (k + 1) := by
  have a := vl_nonneg h.1.1
  have dp := vl_pos h.2.1 h.2.2.1
  have e1 : vl (pwZ r k).2.1 * vl r.2.1 = vl r.2.1 ^ (k + 1) := by
    show vl (nat (vl r.2.1 ^ k)) * vl r.2.1 = _
    rw [vl_nat _ (ipow_nn a k), Int.pow_succ]
  have e2 : vl (pwZ r k).2.2 * vl r.2.2 = vl r.2.2 ^ (k + 1) := by
    show vl (nat (vl r.2.2 ^ k)) * vl r.2.2 = _
    rw [vl_nat _ (by have := ipow_pos dp k; omega), Int.pow_succ]
  unfold mulZ
  rw [e1, e2]
  unfold low
  rw [gcdI_pow a dp h.2.2.2.2 (k + 1), Int.ediv_one, Int.ediv_one]
  show (_, _, _) = (_, _, _)
  refine Prod.ext ?_ rfl
  exact pw_sign a (sg r.1 k) r.1 k
theorem pwZ_0 (r : R3) : wholeR 1 = pwZ r 0 := by
  unfold wholeR pwZ
  rw [Int.pow_zero, Int.pow_zero, nat_1, show absI 1 = 1 from rfl, nat_1]; rfl
theorem spec_pw {r : R3} (h : RO r) (h1 : r.2.1.length ≤ 40) (h2 : r.2.2.length ≤ 40) (m : Nat) (hm : m ≤ 8) : ∀ (d i : Nat), i + d = m → Ev (fun k => spec_l02Pow.l0 k (m : Int) (i : Int) r.1 r.2.1 r.2.2 (pwZ r i).1 (pwZ r i).2.1 (pwZ r i).2.2) (pwZ r m) := by
  intro d
  induction d with
  | zero =>
    intro i hd
    refine Ev.step (f := fun _ => some (pwZ r m)) (fun k => ?_) (Ev.now _)
    rw [spec_l02Pow.l0, if_neg (by omega), show i = m by omega]
  | succ d ih =>
    intro i hd
    have s := ih (i + 1) (by omega)
    have e := mulRE (pwZ_sm h h1 h2 (show i ≤ 9 by omega)) (h.sm (n := 361) (by omega) (by omega)) (by omega)
    rw [mulZ_pw h i] at e
    refine Ev.step (f := fun k => (spec_l02Mul.f k (pwZ r i).1 (pwZ r i).2.1 (pwZ r i).2.2 r.1 r.2.1 r.2.2).bind fun bt => spec_l02Pow.l0 k (m : Int) ((i + 1 : Nat) : Int) r.1 r.2.1 r.2.2 bt.1 bt.2.1 bt.2.2) (fun k => ?_) (Ev.bind e s)
    rw [spec_l02Pow.l0, if_pos (by omega), wrap_in (x := (i : Int) + 1) (by omega) (by omega)]; rfl
theorem impl_pw {r : R3} (h : RO r) (h1 : r.2.1.length ≤ 40) (h2 : r.2.2.length ≤ 40) (m : Nat) (hm : m ≤ 8) : ∀ (d i : Nat), i + d = m → Ev (fun k => impl_Rat_pow.l0 k (m : Int) (i : Int) r.1 r.2.1 r.2.2 (sg r.1 i) (nat (vl r.2.1 ^ i)) (nat (vl r.2.2 ^ i))) (pwZ r m) := by
  have a := nm_bd h.1 h1
  have d' := nm_bd h.2.1 h2
  have dp := vl_pos h.2.1 h.2.2.1
  intro d
  induction d with
  | zero =>
    intro i hd
    obtain rfl : i = m := by omega
    have hz : (((nat (vl r.2.1 ^ i)).length : Int) == 0) = !decide (0 < vl r.2.1 ^ i) := by
      have g := nat_lp (ipow_nn a.1 i)
      by_cases e : 0 < vl r.2.1 ^ i
      · rw [decide_eq_true e] at g ⊢
        have g' := of_decide_eq_true g
        exact beq_eq_false_iff_ne.2 (by omega)
      · rw [decide_eq_false e] at g ⊢
        have g' := of_decide_eq_false g
        rw [show ((nat (vl r.2.1 ^ i)).length : Int) = 0 by omega]; rfl
    have hj : ∀ k s, impl_Rat_pow.j1 (k + 1) s (nat (vl r.2.1 ^ i)) (nat (vl r.2.2 ^ i)) = some (s, nat (vl r.2.1 ^ i), nat (vl r.2.2 ^ i)) := by
      intro k s
      rw [impl_Rat_pow.j1]
      unfold impl_Rat_isZero.f
      rw [hz, Option.bind_some]
      by_cases e : 0 < vl r.2.1 ^ i
      · rw [decide_eq_true e]; rfl
      · rw [decide_eq_false e, Bool.not_false, if_pos rfl, one_f, Option.bind_some]
        have hn : vl r.2.1 = 0 := by
          rcases Int.lt_or_eq_of_le a.1 with g | g
          · exact absurd (ipow_pos g i) e
          · omega
        have hg := h.2.2.2.2
        rw [hn, gcdI_zl (by omega)] at hg
        rw [hg, Int.one_pow, nat_1]
    refine ⟨2, fun k hk => ?_⟩
    obtain ⟨k, rfl⟩ : ∃ q, k = q + 2 := ⟨k - 2, by omega⟩
    show impl_Rat_pow.l0 (k + 2) _ _ _ _ _ _ _ _ = _
    rw [impl_Rat_pow.l0, if_neg (by omega)]
    unfold impl_Rat_isZero.f
    rw [hz, Option.bind_some, Bool.not_not, hj, hj]
    unfold pwZ
    cases sg r.1 i with
    | true => rw [if_pos rfl, Bool.true_and]
    | false => rw [if_neg (by simp), Bool.false_and]
  | succ d ih =>
    intro i hd
    have s := ih (i + 1) (by omega)
    have n1 := ipow_bd a.1 a.2 (show i ≤ 9 by omega)
    have n2 := ipow_bd d'.1 d'.2 (show i ≤ 9 by omega)
    have e1 := mulIE (nm_nat (vl r.2.1 ^ i)) h.1 (by have := nat_len _ _ n1; omega) (by omega)
    have e2 := mulIE (nm_nat (vl r.2.2 ^ i)) h.2.1 (by have := nat_len _ _ n2; omega) (by omega)
    rw [vl_nat _ (ipow_nn a.1 i), ← Int.pow_succ] at e1
    rw [vl_nat _ (by have := ipow_pos dp i; omega), ← Int.pow_succ] at e2
    refine Ev.step (f := fun k => (impl_natMul.f k (nat (vl r.2.1 ^ i)) r.2.1).bind fun t618 => ((impl_natMul.f k (nat (vl r.2.2 ^ i)) r.2.2).bind fun t621 => (impl_Rat_pow.l0 k (m : Int) ((i + 1 : Nat) : Int) r.1 r.2.1 r.2.2 (sg r.1 (i + 1)) t618 t621))) (fun k => ?_) (Ev.bind e1 (Ev.bind e2 s))
    rw [impl_Rat_pow.l0, if_pos (by omega), wrap_in (x := (i : Int) + 1) (by omega) (by omega)]; rfl
theorem spec_pow_ev {r : R3} (h : RO r) (h1 : r.2.1.length ≤ 40) (h2 : r.2.2.length ≤ 40) (m : Nat) (hm : m ≤ 8) : Ev (fun k => spec_l02Pow.f k r.1 r.2.1 r.2.2 (m : Int)) (pwZ r m) := by
  have s := spec_pw h h1 h2 m hm m 0 (by omega)
  rw [← pwZ_0 r] at s
  exact Ev.bind (f := fun k bt => spec_l02Pow.l0 k (m : Int) 0 r.1 r.2.1 r.2.2 bt.1 bt.2.1 bt.2.2) (l02IntE (n := 1) (by omega) (by omega)) s
theorem impl_pow_ev {r : R3} (h : RO r) (h1 : r.2.1.length ≤ 40) (h2 : r.2.2.length ≤ 40) (m : Nat) (hm : m ≤ 8) : Ev (fun k => impl_Rat_pow.f k r.1 r.2.1 r.2.2 (m : Int)) (pwZ r m) := by
  have s := impl_pw h h1 h2 m hm m 0 (by omega)
  refine Ev.bind (f := fun k bt => impl_Rat_pow.l0 k (m : Int) 0 r.1 r.2.1 r.2.2 bt.1 bt.2.1 bt.2.2) (wholeE (n := 1) (by omega) (by omega)) ?_
  have e : wholeR 1 = (sg r.1 0, nat (vl r.2.1 ^ 0), nat (vl r.2.2 ^ 0)) := by
    rw [Int.pow_zero, Int.pow_zero, nat_1]; unfold wholeR; rw [show absI 1 = 1 from rfl, nat_1]; rfl
  rw [e]
  exact s
def powAns (r : R3) (n : Int) : R4 := if ratOKB r = true then (if 0 ≤ n ∧ n ≤ 8 then fit4 (pwZ r n.toNat) else bad4 4) else bad4 1
theorem powAns_len (r : R3) (n : Int) : (powAns r n).2.1.length ≤ 40 ∧ (powAns r n).2.2.1.length ≤ 40 := by
  unfold powAns
  split
  · split
    · exact fit4_len _
    · simp [bad4]
  · simp [bad4]
theorem first2 (a b : Int) : Ev (fun k => impl_first.f k [a, b]) (if a = 0 then b else a) := by
  refine ⟨3, fun k hk => ?_⟩
  obtain ⟨k, rfl⟩ : ∃ q, k = q + 3 := ⟨k - 3, by omega⟩
  show impl_first.f (k + 3) [a, b] = _
  unfold impl_first.f
  rw [impl_first.l0, if_pos (by simp), if_pos (by omega), if_pos (by simp), show rd [a, b] 0 = a from rfl]
  by_cases h : a = 0
  · rw [if_pos h, if_pos h, show wrap64 (0 + 1) = 1 from by simp only [wrap64]; omega, impl_first.l0, if_pos (by simp), if_pos (by omega), if_pos (by simp), show rd [a, b] 1 = b from rfl]
    by_cases h' : b = 0
    · rw [if_pos h', h', show wrap64 (1 + 1) = 2 from by simp only [wrap64]; omega, impl_first.l0, if_neg (by simp)]
    · rw [if_neg h']
  · rw [if_neg h, if_neg h]
theorem implPow_ev (b : Bool) (n d : List Int) (m : Int) : Ev (fun k => impl_PowRat.f k b n d m) (powAns (b, n, d) m) := by
  have e := ratsCode1 b n d
  have tail : ∀ u : Int, (u = if 0 ≤ m ∧ m ≤ 8 then 0 else 4) → Ev (fun k => (impl_first.f k [(if ratOKB (b, n, d) = true then 0 else 1), u]).bind fun t => impl_PowRat.j0 k m t b n d) (powAns (b, n, d) m) := by
    intro u hu
    refine Ev.bind (first2 _ _) ?_
    unfold powAns
    by_cases h : ratOKB (b, n, d) = true
    · have hr := (ratOKB_iff _).1 h
      rw [if_pos h, if_pos h, if_pos rfl, hu]
      by_cases hm : 0 ≤ m ∧ m ≤ 8
      · rw [if_pos hm, if_pos hm]
        obtain ⟨q, rfl⟩ : ∃ q : Nat, m = q := ⟨m.toNat, by omega⟩
        have e2 := impl_pow_ev hr.1 hr.2.1 hr.2.2 q (by omega)
        rw [Int.toNat_natCast]
        generalize pwZ (b, n, d) q = z at e2
        refine Ev.step (f := fun k => (impl_Rat_pow.f k b n d (q : Int)).bind fun bt => (impl_fullRat.f bt.1 bt.2.1 bt.2.2).bind fun bt => some (bt.1, bt.2.1, bt.2.2.1, bt.2.2.2)) (fun k => ?_) (Ev.bind e2 ?_)
        · rw [impl_PowRat.j0, if_pos rfl]
        · rw [fullRat_f z]
          exact Ev.congr (fun k => rfl) (Ev.now _)
      · rw [if_neg hm, if_neg hm]
        refine Ev.step (f := fun _ => some (bad4 4)) (fun k => ?_) (Ev.now _)
        rw [impl_PowRat.j0, if_neg (by omega)]; rfl
    · rw [if_neg h, if_neg h, if_neg (by omega)]
      refine Ev.step (f := fun _ => some (bad4 1)) (fun k => ?_) (Ev.now _)
      rw [impl_PowRat.j0, if_neg (by omega)]; rfl
  unfold impl_PowRat.f impl_unless.f
  refine Ev.bind e ?_
  by_cases h0 : 0 ≤ m
  · refine Ev.congr (fun k => (if_pos h0 : (if _ then _ else _) = _)) ?_
    by_cases h8 : m ≤ 8
    · rw [decide_eq_true h8, if_pos rfl]
      exact tail 0 (by rw [if_pos ⟨h0, h8⟩])
    · rw [decide_eq_false h8, if_neg (by simp)]
      exact tail 4 (by rw [if_neg fun g => h8 g.2])
  · refine Ev.congr (fun k => (if_neg h0 : (if _ then _ else _) = _)) ?_
    rw [if_neg (by simp)]
    exact tail 4 (by rw [if_neg fun g => h0 g.1])
theorem specPow_ev (b : Bool) (n d : List Int) (m : Int) (l1 : n.length ≤ 1048576) (l2 : d.length ≤ 1048576) : Ev (fun k => spec_PowRat.f k b n d m) (powAns (b, n, d) m) := by
  have e := specRatOK_ev b n d l1 l2
  unfold spec_PowRat.f powAns
  refine Ev.bind e ?_
  by_cases h : ratOKB (b, n, d) = true
  · have hr := (ratOKB_iff _).1 h
    rw [if_pos h]
    refine Ev.congr (fun k => (if_pos h : (if _ then _ else _) = _)) ?_
    by_cases h0 : 0 ≤ m
    · have eI : spec_l01In.f m 0 8 = some (decide (m ≤ 8)) := by unfold spec_l01In.f; rw [if_pos h0]
      rw [eI]
      refine Ev.congr (fun k => Option.bind_some _ _) ?_
      by_cases h8 : m ≤ 8
      · rw [if_pos ⟨h0, h8⟩]
        refine Ev.congr (fun k => (if_pos (decide_eq_true h8) : (if _ then _ else _) = _)) ?_
        obtain ⟨q, rfl⟩ : ∃ q : Nat, m = q := ⟨m.toNat, by omega⟩
        have e2 := spec_pow_ev hr.1 hr.2.1 hr.2.2 q (by omega)
        rw [Int.toNat_natCast]
        generalize pwZ (b, n, d) q = z at e2
        refine Ev.bind e2 ?_
        rw [l02Fit_f z]
        exact Ev.congr (fun k => rfl) (Ev.now _)
      · rw [if_neg fun g => h8 g.2]
        exact Ev.congr (fun k => (if_neg (by simp [h8]) : (if _ then _ else _) = _)) (Ev.now _)
    · have eI : spec_l01In.f m 0 8 = some false := by unfold spec_l01In.f; rw [if_neg h0]
      rw [eI, if_neg fun g => h0 g.1]
      exact Ev.congr (fun k => rfl) (Ev.now _)
  · rw [if_neg h]
    exact Ev.congr (fun k => (if_neg h : (if _ then _ else _) = _)) (Ev.now _)
end Go.Proofs.Ytacdaijalkkogaa.Pl
