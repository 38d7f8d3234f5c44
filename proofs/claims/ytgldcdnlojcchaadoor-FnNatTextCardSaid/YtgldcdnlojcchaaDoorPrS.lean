import Derived.Test.YtgldcdnlojcchaaDoorPrA
import Derived.Test.YtgldcdnlojcchaaDoorQxsrc
/-! What is drawn out of bytes: naturals of at most four limbs; the laws' own comparing. -/
namespace Go.Proofs.YtgldcdnlojcchaaDoor.Pl
open Go.RowKit Go.Proofs.YtgldcdnlojcchaaDoor.Q Go.Proofs.YtgldcdnlojcchaaDoor.Pn Go.Proofs.YtgldcdnlojcchaaDoorW.PrintWords Go.Proofs.YtgldcdnlojcchaaDoorW.PrintLast
set_option linter.unusedVariables false
set_option linter.unusedSimpArgs false

theorem take_trim (l : List Int) : ∀ (k : Nat), k ≤ l.length → l.take (tlen l k) = trim (l.take k)
  | 0, _ => by simp [tlen, trim]
  | k + 1, h => by
    have ih := take_trim l k (by omega)
    have hk : k < l.length := by omega
    have e : l.take (k + 1) = l.take k ++ [l[k]?.getD 0] := by rw [List.take_add_one]; simp [hk]
    unfold tlen
    by_cases h0 : l[k]?.getD 0 = 0
    · rw [if_pos h0, ih, e, h0, trim_snoc_zero]
    · rw [if_neg h0, trim_of_last]
      rw [e, List.getLast?_append]; simp; simpa [hk] using h0
theorem take_tlen {l : List Int} (h : Lm l) : l.take (tlen l l.length) = nat (vl l) := by
  rw [take_trim l l.length (Nat.le_refl _), List.take_length, trim_nat h]
theorem sameInts_ev (a b : List Int) (h : a.length ≤ 9223372036854775806) : Ev (fun k => laws_sameInts.f k a b) (decide (a = b)) := by
  by_cases hl : a.length = b.length
  · have loop : ∀ (d i : Nat), i + d = a.length → Ev (fun k => laws_sameInts.l0 k a b i) (decide (a.drop i = b.drop i)) := by
      intro d
      induction d with
      | zero =>
        intro i hi
        refine Ev.step (f := fun _ => some true) (fun k => by simp only [laws_sameInts.l0]; rw [if_neg (by omega)]) ?_
        rw [List.drop_eq_nil_of_le (by omega), List.drop_eq_nil_of_le (by omega)]
        exact Ev.now _
      | succ d ih =>
        intro i hi
        rw [drop_cons (l := a) (by omega), drop_cons (l := b) (by omega)]
        by_cases he : rd a i = rd b i
        · refine Ev.step (fun k => ?_) (show Ev (fun k => laws_sameInts.l0 k a b (i + 1 : Nat)) _ from ?_)
          · simp only [laws_sameInts.l0]; rw [if_pos (by omega), if_pos (by omega), if_pos (by omega), if_pos he, wsucc (by omega)]
          · have := ih (i + 1) (by omega)
            rw [he]
            simpa using this
        · refine Ev.step (f := fun _ => some false) (fun k => ?_) ?_
          · simp only [laws_sameInts.l0]; rw [if_pos (by omega), if_pos (by omega), if_pos (by omega), if_neg he]
          · have : decide (rd a i :: a.drop (i + 1) = rd b i :: b.drop (i + 1)) = false := by simp [he]
            rw [this]; exact Ev.now _
    have := loop a.length 0 (by omega)
    rw [List.drop_zero, List.drop_zero] at this
    refine Ev.congr (fun k => ?_) this
    unfold laws_sameInts.f
    rw [if_pos (by omega)]
    rfl
  · have e : decide (a = b) = false := decide_eq_false (fun e => hl (by rw [e]))
    rw [e]
    refine Ev.congr (fun k => ?_) (Ev.now false)
    unfold laws_sameInts.f
    rw [if_neg (by omega)]


/-- Bytes. -/
def By (l : List Int) : Prop := ∀ x ∈ l, 0 ≤ x ∧ x < 256
theorem by_wf {l : List Int} (h : ∀ x ∈ l, (Lit.int .u8 x).wf = true) : By l := fun x hx => by
  have := h x hx
  simp [Lit.wf] at this
  have e0 : IntKind.u8.min = 0 := rfl
  have e1 : IntKind.u8.max = 255 := rfl
  omega
theorem rd_by {l : List Int} (h : By l) {i : Int} (h0 : 0 ≤ i) (h1 : i < l.length) : 0 ≤ rd l i ∧ rd l i < 256 := by
  have : rd l i = l[i.toNat]'(by omega) := by unfold rd; rw [List.getD_eq_getElem?_getD, List.getElem?_eq_getElem (by omega)]; rfl
  rw [this]; exact h _ (List.getElem_mem _)
/-- A source: how many bytes were asked, the seed. -/
def So (a b : Int) : Prop := 0 ≤ a ∧ a < 4294967200 ∧ 0 ≤ b ∧ b < 2147483648
theorem byte_some {l : List Int} (h : By l) {a b : Int} (ha : 0 ≤ a ∧ a < 4294967296) (hb : 0 ≤ b ∧ b < 2147483648) :
    ∃ x s, spec_l00Src_byte.f l a b = some (x, a + 1, s) ∧ (0 ≤ x ∧ x < 256) ∧ (0 ≤ s ∧ s < 2147483648) := by
  unfold spec_l00Src_byte.f
  rw [if_pos ⟨ha.1, ha.2, hb.1, hb.2⟩]
  by_cases h1 : a < l.length
  · obtain ⟨x0, x1⟩ := rd_by h ha.1 h1
    rw [if_pos h1, if_pos ⟨x0, x1⟩]
    generalize rd l a = x at *
    exact ⟨_, _, rfl, ⟨x0, x1⟩, by omega⟩
  · rw [if_neg h1]
    by_cases h2 : 3000 < a + 1
    · rw [if_pos h2]; exact ⟨_, _, rfl, by omega, hb⟩
    · rw [if_neg h2]; exact ⟨_, _, rfl, by omega, by omega⟩
theorem next_some {l : List Int} (h : By l) {a b n : Int} (ha : 0 ≤ a ∧ a < 4294967290) (hb : 0 ≤ b ∧ b < 2147483648) (hn : 0 < n) :
    ∃ x a' s, spec_l00Src_next.f l a b n = some (x, a', s) ∧ (0 ≤ x ∧ x < n) ∧ (a ≤ a' ∧ a' ≤ a + 3) ∧ (0 ≤ s ∧ s < 2147483648) := by
  unfold spec_l00Src_next.f
  by_cases h1 : n ≤ 1
  · rw [if_pos h1]; exact ⟨_, _, _, rfl, by omega, by omega, hb⟩
  rw [if_neg h1]
  obtain ⟨x, s, e, hx, hs⟩ := byte_some h (a := a) (by omega) hb
  by_cases h2 : n ≤ 256
  · rw [if_pos h2]
    simp only [e, Option.bind_some]
    rw [if_neg (by omega)]
    refine ⟨_, _, _, rfl, ?_, by omega, hs⟩
    rw [Int.tmod_eq_emod_of_nonneg hx.1]
    exact ⟨Int.emod_nonneg _ (by omega), Int.emod_lt_of_pos _ hn⟩
  · rw [if_neg h2]
    obtain ⟨y, s2, e2, hy, hs2⟩ := byte_some h (a := a + 1) (by omega) hs
    obtain ⟨z, s3, e3, hz, hs3⟩ := byte_some h (a := a + 1 + 1) (by omega) hs2
    simp only [e, e2, e3, Option.bind_some]
    rw [if_neg (by omega)]
    refine ⟨_, _, _, rfl, ?_, by omega, hs3⟩
    rw [wrap_in (x := x * 65536) (by omega) (by omega), wrap_in (x := y * 256) (by omega) (by omega), wrap_in (x := x * 65536 + y * 256) (by omega) (by omega), wrap_in (by omega) (by omega), Int.tmod_eq_emod_of_nonneg (by omega)]
    exact ⟨Int.emod_nonneg _ (by omega), Int.emod_lt_of_pos _ hn⟩
theorem limb_in {x i : Int} (hx : 0 ≤ x ∧ x < 10000) (hi : 0 ≤ i ∧ i < 3) : 0 ≤ rd [x, 9999, 0] i ∧ rd [x, 9999, 0] i < 10000 := by
  have : i = 0 ∨ i = 1 ∨ i = 2 := by omega
  rcases this with rfl | rfl | rfl
  · show 0 ≤ x ∧ x < 10000; exact hx
  · show (0 : Int) ≤ 9999 ∧ (9999 : Int) < 10000; omega
  · show (0 : Int) ≤ 0 ∧ (0 : Int) < 10000; omega
theorem which_in {b c : Int} (hb : 0 ≤ b ∧ b < 9) (hc : 0 ≤ c ∧ c < 2) : 0 ≤ Int.tmod (wrap64 ((wrap64 (Int.tdiv b 7)) * (wrap64 (1 + c)))) 3 ∧ Int.tmod (wrap64 ((wrap64 (Int.tdiv b 7)) * (wrap64 (1 + c)))) 3 < 3 := by
  have e1 : Int.tdiv b 7 = b / 7 := Int.tdiv_eq_ediv_of_nonneg hb.1
  have e2 : wrap64 (b / 7) = b / 7 := wrap_in (by omega) (by omega)
  have e3 : wrap64 (1 + c) = 1 + c := wrap_in (by omega) (by omega)
  rw [e1, e2, e3]
  have hc' : c = 0 ∨ c = 1 := by omega
  rcases hc' with rfl | rfl
  · rw [wrap_in (by omega) (by omega), Int.tmod_eq_emod_of_nonneg (by omega)]; omega
  · rw [wrap_in (by omega) (by omega), Int.tmod_eq_emod_of_nonneg (by omega)]; omega
theorem drawn_loop {l : List Int} (h : By l) : ∀ (d : Nat) (out : List Int) (a b : Int), Lm out → out.length + d ≤ 4 → 0 ≤ a → a + 9 * d ≤ 4294967000 → 0 ≤ b ∧ b < 2147483648 →
    ∃ r a' s, Ev (fun k => spec_l00Src_nat.l0 k out d l a b) (r, a', s) ∧ Nm r ∧ r.length ≤ 4 ∧ (a ≤ a' ∧ a' ≤ a + 9 * d) ∧ (0 ≤ s ∧ s < 2147483648) := by
  intro d
  induction d with
  | zero =>
    intro out a b ho hl h0 h1 hb
    refine ⟨out.take (tlen out out.length), a, b, ?_, ?_, ?_, by omega, hb⟩
    · refine Ev.step (f := fun _ => some (out.take (tlen out out.length), a, b)) (fun k => ?_) (Ev.now _)
      simp only [spec_l00Src_nat.l0]
      rw [if_neg (by omega), specTrim out (by omega)]; rfl
    · rw [take_tlen ho]; exact nm_nat _
    · simp; omega
  | succ d ih =>
    intro out a b ho hl h0 h1 hb
    obtain ⟨x1, a1, s1, e1, hx1, ha1, hs1⟩ := next_some h (a := a) (b := b) (n := 10000) (by omega) hb (by omega)
    obtain ⟨x2, a2, s2, e2, hx2, ha2, hs2⟩ := next_some h (a := a1) (b := s1) (n := 9) (by omega) hs1 (by omega)
    obtain ⟨x3, a3, s3, e3, hx3, ha3, hs3⟩ := next_some h (a := a2) (b := s2) (n := 2) (by omega) hs2 (by omega)
    have hw := which_in hx2 hx3
    have hlimb := limb_in hx1 hw
    obtain ⟨r, a', s, ev, hr, hrl, ha', hs'⟩ := ih (out ++ [rd [x1, 9999, 0] (Int.tmod (wrap64 ((wrap64 (Int.tdiv x2 7)) * (wrap64 (1 + x3)))) 3)]) a3 s3 (ho.append (Lm.cons hlimb.1 hlimb.2 Lm.nil)) (by simp; omega) (by omega) (by omega) hs3
    refine ⟨r, a', s, Ev.step (fun k => ?_) ev, hr, hrl, by omega, hs'⟩
    simp only [spec_l00Src_nat.l0, e1, e2, e3, Option.bind_some]
    have ew : wrap64 (((d + 1 : Nat) : Int) - 1) = (d : Int) := by rw [wrap_in (by omega) (by omega)]; omega
    rw [if_pos (by omega), if_pos hw.1, if_pos (by simpa using hw.2), if_pos (by omega), ew]
/-- What is drawn: a natural of at most four limbs. -/
theorem natDrawn_ev {l : List Int} (h : By l) (hl : l.length ≤ 140737488351232) : ∃ r, Ev (fun k => spec_NatDrawn.f k l) r ∧ Nm r ∧ r.length ≤ 4 := by
  have hm : 0 ≤ (l.length : Int) % 1000 ∧ (l.length : Int) % 1000 < 2147483648 := by omega
  obtain ⟨s0, hs0⟩ : ∃ s, s = (l.length : Int) % 1000 := ⟨_, rfl⟩
  rw [← hs0] at hm
  obtain ⟨x, a1, s1, e1, hx, ha1, hs1⟩ := next_some h (a := 0) (b := s0) (n := 5) ⟨Int.le_refl _, by decide⟩ hm (by decide)
  obtain ⟨d, hd⟩ : ∃ d : Nat, x = d := ⟨x.toNat, by omega⟩
  subst hd
  obtain ⟨r, a', s, ev, hr, hrl, _, _⟩ := drawn_loop h d [] a1 s1 Lm.nil (by rw [List.length_nil]; omega) (by omega) (by omega) hs1
  obtain ⟨K, hK⟩ := ev
  refine ⟨r, ⟨K, fun k hk => ?_⟩, hr, hrl⟩
  have ht := hK k hk
  have e2 : spec_NatDrawn.f k l = (spec_l00Src_nat.f k l 0 s0).bind fun bt869 => some bt869.1 := by unfold spec_NatDrawn.f spec_l00Source.f; rw [← hs0]; rfl
  have e3 : spec_l00Src_nat.f k l 0 s0 = spec_l00Src_nat.l0 k [] d l a1 s1 := by unfold spec_l00Src_nat.f; rw [e1]; rfl
  show spec_NatDrawn.f k l = some r
  rw [e2, e3]
  exact congrArg (fun o => o.bind fun bt869 : List Int × Int × Int => some bt869.1) ht

end Go.Proofs.YtgldcdnlojcchaaDoor.Pl
