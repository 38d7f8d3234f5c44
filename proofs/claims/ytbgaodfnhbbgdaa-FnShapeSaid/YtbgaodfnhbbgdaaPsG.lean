/-
What the reference draws is one tree: where it begins, how deep it is, which axes it names; a node on top of it.
-/
import Derived.Test.YtbgaodfnhbbgdaaPsA
import Derived.Test.YtbgaodfnhbbgdaaSxExprDrawn
import Derived.Test.YtbgaodfnhbbgdaaSxDepthOf
import Derived.Test.YtbgaodfnhbbgdaaSxDimOf
namespace Go.Proofs.Ytbgaodfnhbbgdaa.Ps
open Go.RowKit Go.Proofs.Ytbgaodfnhbbgdaa.S Go.Proofs.YtbgaodfnhbbgdaaW.PrintWords Go.Proofs.YtbgaodfnhbbgdaaW.PrintLast Go.Proofs.YtbgaodfnhbbgdaaW.PrintMore
set_option linter.unusedVariables false
set_option linter.unusedSimpArgs false

/-! ### trees behind trees -/
theorem sh_app : ∀ (xs ys : List S46) (bs ds : List Int), sh (xs ++ ys) bs ds = (sh xs bs ds).bind fun p => sh ys p.1 p.2 := by
  intro xs
  induction xs with
  | nil => intro ys bs ds; rfl
  | cons x xs ih =>
    intro ys bs ds
    simp only [List.cons_append, sh]
    split
    · exact ih ys _ _
    · rfl
theorem sh_push {xs : List S46} {bs ds : List Int} (h : sh xs [] [] = some (bs, ds)) {n : S46} (v : V bs n) : sh (xs ++ [n]) [] [] = some (bs ++ [bgn bs n], ds ++ [dpn ds n]) := by
  rw [sh_app, h, Option.bind_some]
  simp only [sh]
  rw [if_pos v]
theorem sh_fine {xs : List S46} {bs ds : List Int} (h : sh xs [] [] = some (bs, ds)) : bs.length = xs.length ∧ ds.length = xs.length ∧ Fine bs ds := by
  obtain ⟨h1, h2, _⟩ := sh_len xs [] [] bs ds Fine.zero h
  have h3 := h2.len
  simp only [List.length_nil, Nat.zero_add] at h1
  exact ⟨h1, by omega, h2⟩
theorem rd_pre (l r : List Int) (i : Nat) (h : i < l.length) : rd (l ++ r) (i : Int) = rd l (i : Int) := rd_left l r i h
def B : Nat → Nat
  | 0 => 0
  | q + 1 => 2 * B q + 1
theorem B_mono {p q : Nat} (h : p ≤ q) : B p ≤ B q := by
  induction q with
  | zero => rw [show p = 0 by omega]; exact Nat.le_refl _
  | succ q ih =>
    by_cases e : p = q + 1
    · rw [e]; exact Nat.le_refl _
    · have := ih (by omega)
      simp only [B]; omega
/-- The axes that nodes name are three. -/
def Vb (xs : List S46) : Prop := ∀ n ∈ xs, n.f0 = 2 → 0 ≤ n.f3 ∧ n.f3 ≤ 2
/-- One tree more, at most so deep. -/
structure Grown (xs : List S46) (bs ds : List Int) (r : Nat) (zs : List S46) (bs' ds' : List Int) : Prop where
  sh : sh zs [] [] = some (bs ++ bs', ds ++ ds')
  pos : xs.length < zs.length
  len : zs.length ≤ xs.length + B r
  beg : rd (bs ++ bs') ((zs.length - 1 : Nat) : Int) = xs.length
  dep : 1 ≤ rd (ds ++ ds') ((zs.length - 1 : Nat) : Int) ∧ rd (ds ++ ds') ((zs.length - 1 : Nat) : Int) ≤ r
  all : ∀ y ∈ ds', y ≤ r
  vb : Vb zs
theorem last_rd (l : List Int) (y : Int) {n : Nat} (h : l.length = n) : rd (l ++ [y]) (n : Int) = y := by rw [← h]; exact rd_last l y
theorem Vb.push {xs : List S46} (h : Vb xs) {n : S46} (hn : n.f0 = 2 → 0 ≤ n.f3 ∧ n.f3 ≤ 2) : Vb (xs ++ [n]) := by
  intro m hm
  rcases List.mem_append.1 hm with e | e
  · exact h m e
  · rw [List.mem_singleton.1 e]; exact hn
theorem leaf_grown {xs : List S46} {bs ds : List Int} (h : Ps.sh xs [] [] = some (bs, ds)) (hv : Vb xs) {n : S46} (hk : kd n.f0 = 0) (hp : Plain n.f0 n.f1 n.f2 n.f3 xs.length) (hn : n.f0 = 2 → 0 ≤ n.f3 ∧ n.f3 ≤ 2) {r : Nat} (hr : 1 ≤ r) : Grown xs bs ds r (xs ++ [n]) [xs.length] [1] := by
  obtain ⟨hb, hd, hf⟩ := sh_fine h
  have v : V bs n := ⟨by rw [hb]; exact hp, fun e => by omega, fun e => by omega⟩
  have e1 : bgn bs n = xs.length := by unfold bgn; rw [if_pos hk, hb]
  have e2 : dpn ds n = 1 := by unfold dpn; rw [if_pos hk]
  have s := sh_push h v
  rw [e1, e2] at s
  have el : (xs ++ [n]).length - 1 = xs.length := by simp
  refine ⟨s, by simp, ?_, ?_, ?_, ?_, hv.push hn⟩
  · have := B_mono hr
    simp only [B] at this
    simp; omega
  · rw [el]; exact last_rd _ _ hb
  · rw [el, last_rd _ _ hd]; omega
  · intro y hy; rw [List.mem_singleton.1 hy]; omega
theorem one_grown {xs zs : List S46} {bs ds bs' ds' : List Int} {r : Nat} (g : Grown xs bs ds r zs bs' ds') {n : S46} (hk : kd n.f0 = 1) (hp : Plain n.f0 n.f1 n.f2 n.f3 zs.length) (ha : n.f1 = (zs.length : Int) - 1) {R : Nat} (hR : r + 1 ≤ R) : ∃ bs2 ds2, Grown xs bs ds R (zs ++ [n]) bs2 ds2 := by
  obtain ⟨hb, hd, hf⟩ := sh_fine g.sh
  have gp := g.pos
  have v : V (bs ++ bs') n := ⟨by rw [hb]; exact hp, fun e => by rw [hb]; exact ha, fun e => by omega⟩
  have ea : n.f1 = ((zs.length - 1 : Nat) : Int) := by omega
  have e1 : bgn (bs ++ bs') n = xs.length := by unfold bgn; rw [if_neg (by omega), ea]; exact g.beg
  have e2 : dpn (ds ++ ds') n = rd (ds ++ ds') ((zs.length - 1 : Nat) : Int) + 1 := by unfold dpn; rw [if_neg (by omega), if_pos hk, ea]
  have s := sh_push g.sh v
  rw [e1, e2, List.append_assoc, List.append_assoc] at s
  have el : (zs ++ [n]).length - 1 = zs.length := by simp
  have gd := g.dep
  have hno : n.f0 = 2 → 0 ≤ n.f3 ∧ n.f3 ≤ 2 := fun e => by rw [e] at hk; exact absurd hk (by decide)
  refine ⟨bs' ++ [(xs.length : Int)], ds' ++ [rd (ds ++ ds') ((zs.length - 1 : Nat) : Int) + 1], s, by simp; omega, ?_, ?_, ?_, ?_, g.vb.push hno⟩
  · have h1 := B_mono hR
    have h2 := g.len
    simp only [B] at h1
    simp; omega
  · rw [el, ← List.append_assoc]; exact last_rd _ _ hb
  · rw [el, ← List.append_assoc, last_rd _ _ hd]; omega
  · intro y hy
    rcases List.mem_append.1 hy with e | e
    · have := g.all y e; omega
    · rw [List.mem_singleton.1 e]; omega
theorem two_grown {xs ys zs : List S46} {bs ds bs1 ds1 bs2 ds2 : List Int} {r : Nat} (g1 : Grown xs bs ds r ys bs1 ds1) (g2 : Grown ys (bs ++ bs1) (ds ++ ds1) r zs bs2 ds2) {n : S46} (hop : 3 ≤ n.f0 ∧ n.f0 ≤ 6) (ha : n.f1 = (ys.length : Int) - 1) (hbn : n.f2 = (zs.length : Int) - 1) (hn : n.f3 = 0) {R : Nat} (hR : r + 1 ≤ R) : ∃ bs3 ds3, Grown xs bs ds R (zs ++ [n]) bs3 ds3 := by
  obtain ⟨hb1, hd1, hf1⟩ := sh_fine g1.sh
  obtain ⟨hb, hd, hf⟩ := sh_fine g2.sh
  have p1 := g1.pos
  have p2 := g2.pos
  have hk := kd_two hop
  have ea : n.f1 = ((ys.length - 1 : Nat) : Int) := by omega
  have eb : n.f2 = ((zs.length - 1 : Nat) : Int) := by omega
  have rb : rd ((bs ++ bs1) ++ bs2) ((ys.length - 1 : Nat) : Int) = xs.length := by rw [rd_left _ _ _ (by omega)]; exact g1.beg
  have rdp : rd ((ds ++ ds1) ++ ds2) ((ys.length - 1 : Nat) : Int) = rd (ds ++ ds1) ((ys.length - 1 : Nat) : Int) := rd_left _ _ _ (by omega)
  have v : V ((bs ++ bs1) ++ bs2) n := by
    refine ⟨?_, fun e => by omega, fun _ => ⟨by rw [hb]; exact hbn, by rw [eb, g2.beg]; exact ha⟩⟩
    rw [hb]
    exact .inl ⟨hop.1, hop.2, by omega, by omega, by omega, by omega, hn⟩
  have e1 : bgn ((bs ++ bs1) ++ bs2) n = xs.length := by unfold bgn; rw [if_neg (by omega), ea]; exact rb
  have gd1 := g1.dep
  have gd2 := g2.dep
  have e2 : 1 ≤ dpn ((ds ++ ds1) ++ ds2) n ∧ dpn ((ds ++ ds1) ++ ds2) n ≤ R := by
    unfold dpn
    rw [if_neg (by omega), if_neg (by omega), ea, eb, rdp]
    unfold mx
    split <;> omega
  have s := sh_push g2.sh v
  rw [e1] at s
  generalize dpn ((ds ++ ds1) ++ ds2) n = D at *
  have el : (zs ++ [n]).length - 1 = zs.length := by simp
  have hno : n.f0 = 2 → 0 ≤ n.f3 ∧ n.f3 ≤ 2 := fun e => by omega
  refine ⟨bs1 ++ (bs2 ++ [(xs.length : Int)]), ds1 ++ (ds2 ++ [D]), ?_, by simp; omega, ?_, ?_, ?_, ?_, g2.vb.push hno⟩
  · rw [s]; simp only [List.append_assoc]
  · have h1 := B_mono hR
    have h2 := g1.len
    have h3 := g2.len
    simp only [B] at h1
    simp; omega
  · rw [el]
    rw [show bs ++ (bs1 ++ (bs2 ++ [(xs.length : Int)])) = ((bs ++ bs1) ++ bs2) ++ [(xs.length : Int)] by simp only [List.append_assoc]]
    exact last_rd _ _ hb
  · rw [el]
    rw [show ds ++ (ds1 ++ (ds2 ++ [D])) = ((ds ++ ds1) ++ ds2) ++ [D] by simp only [List.append_assoc], last_rd _ _ hd]
    exact e2
  · intro y hy
    rcases List.mem_append.1 hy with e | e
    · have := g1.all y e; omega
    · rcases List.mem_append.1 e with e | e
      · have := g2.all y e; omega
      · rw [List.mem_singleton.1 e]; exact e2.2
/-! ### what is drawn -/
def By (l : List Int) : Prop := ∀ x ∈ l, 0 ≤ x ∧ x < 256
theorem by_wf {l : List Int} (h : ∀ x ∈ l, (Lit.int .u8 x).wf = true) : By l := fun x hx => by
  have := h x hx
  simp [Lit.wf] at this
  have e0 : IntKind.u8.min = 0 := rfl
  have e1 : IntKind.u8.max = 255 := rfl
  omega
theorem rd_by {l : List Int} (h : By l) {i : Int} (h0 : 0 ≤ i) (h1 : i < l.length) : 0 ≤ rd l i ∧ rd l i < 256 := by
  have : rd l i = l[i.toNat]'(by omega) := by unfold rd; rw [List.getD_eq_getElem?_getD, List.getElem?_eq_getElem (by omega)]; rfl
  rw [this]; exact h _ (List.getElem_mem _)
theorem byte_some {l : List Int} (h : By l) {a b : Int} (ha : 0 ≤ a ∧ a < 4294967296) (hb : 0 ≤ b ∧ b < 2147483648) :
    ∃ x s, spec_l00Src_byte.f l a b = some (x, a + 1, s) ∧ (0 ≤ x ∧ x < 256) ∧ (0 ≤ s ∧ s < 2147483648) := by
  unfold spec_l00Src_byte.f
  rw [if_pos ⟨ha.1, ha.2, hb.1, hb.2⟩]
  by_cases h1 : a < l.length
  · obtain ⟨x0, x1⟩ := rd_by h ha.1 h1
    rw [if_pos h1, if_pos ⟨x0, x1⟩]
    generalize rd l a = x at *
    exact ⟨_, _, rfl, ⟨x0, x1⟩, by omega⟩
  · rw [if_neg h1]
    by_cases h2 : 3000 < a + 1
    · rw [if_pos h2]; exact ⟨_, _, rfl, by omega, hb⟩
    · rw [if_neg h2]; exact ⟨_, _, rfl, by omega, by omega⟩
theorem next_some {l : List Int} (h : By l) {a b : Int} (n : Int) (ha : 0 ≤ a ∧ a < 4294967290) (hb : 0 ≤ b ∧ b < 2147483648) (hn : 1 < n ∧ n ≤ 256) :
    ∃ x a' s, spec_l00Src_next.f l a b n = some (x, a', s) ∧ (0 ≤ x ∧ x < n) ∧ (a ≤ a' ∧ a' ≤ a + 3) ∧ (0 ≤ s ∧ s < 2147483648) := by
  unfold spec_l00Src_next.f
  rw [if_neg (by omega)]
  obtain ⟨x, s, e, hx, hs⟩ := byte_some h (a := a) (by omega) hb
  rw [if_pos hn.2]
  simp only [e, Option.bind_some]
  rw [if_neg (by omega)]
  refine ⟨_, _, _, rfl, ?_, by omega, hs⟩
  rw [Int.tmod_eq_emod_of_nonneg hx.1]
  exact ⟨Int.emod_nonneg _ (by omega), Int.emod_lt_of_pos _ (by omega)⟩
theorem op_in {x : Int} (h : 0 ≤ x ∧ x < 6) : 3 ≤ rd [3, 3, 4, 5, 5, 6] x ∧ rd [3, 3, 4, 5, 5, 6] x ≤ 6 := by
  have : x = 0 ∨ x = 1 ∨ x = 2 ∨ x = 3 ∨ x = 4 ∨ x = 5 := by omega
  rcases this with rfl | rfl | rfl | rfl | rfl | rfl <;> decide
theorem grow_ev {l : List Int} (h : By l) : ∀ (q : Nat) (xs : List S46) (a b : Int) (bs ds : List Int), q ≤ 3 → sh xs [] [] = some (bs, ds) → Vb xs → xs.length + B (q + 1) ≤ 100 → 0 ≤ a → a + 9 * B (q + 1) ≤ 4294967000 → 0 ≤ b ∧ b < 2147483648 →
    ∃ zs a' s bs' ds', Ev (fun k => spec_l00Src_grow.f k l a b xs ((q + 1 : Nat) : Int) 3 true) (zs, a', s) ∧ Grown xs bs ds (q + 1) zs bs' ds' ∧ (a ≤ a' ∧ a' ≤ a + 9 * B (q + 1)) ∧ (0 ≤ s ∧ s < 2147483648) := by
  intro q
  induction q using Nat.strongRecOn with
  | _ q ih =>
  intro xs a b bs ds hq hs hv hl ha0 ha hb
  have hB1 : 1 ≤ B (q + 1) := by show 1 ≤ 2 * B q + 1; omega
  obtain ⟨x, a1, s1, e1, hx, ha1, hs1⟩ := next_some h 9 (a := a) (b := b) (by omega) hb (by omega)
  have run : ∀ r, (∃ K, ∀ k, K ≤ k → spec_l00Src_grow.f (k + 2) l a b xs ((q + 1 : Nat) : Int) 3 true = some r) → Ev (fun k => spec_l00Src_grow.f k l a b xs ((q + 1 : Nat) : Int) 3 true) r := by
    intro r ⟨K, g⟩
    refine ⟨K + 2, fun k hk => ?_⟩
    obtain ⟨m, rfl⟩ : ∃ m, k = m + 2 := ⟨k - 2, by omega⟩
    exact g m (by omega)
  have st : ∀ k, spec_l00Src_grow.f (k + 2) l a b xs ((q + 1 : Nat) : Int) 3 true = if ((q + 1 : Nat) : Int) ≤ 1 then spec_l00Src_grow.j0 (k + 1) xs ((q + 1 : Nat) : Int) 3 true x true l a1 s1 else if (xs.length : Int) > 30 then spec_l00Src_grow.j0 (k + 1) xs ((q + 1 : Nat) : Int) 3 true x true l a1 s1 else spec_l00Src_grow.j0 (k + 1) xs ((q + 1 : Nat) : Int) 3 true x (decide (x < 3)) l a1 s1 := by
    intro k
    rw [spec_l00Src_grow.f, e1, Option.bind_some]
  -- a leaf
  have leaf : ∃ zs a' s bs' ds', (∀ k, spec_l00Src_grow.j0 (k + 1) xs ((q + 1 : Nat) : Int) 3 true x true l a1 s1 = some (zs, a', s)) ∧ Grown xs bs ds (q + 1) zs bs' ds' ∧ (a ≤ a' ∧ a' ≤ a + 9 * B (q + 1)) ∧ (0 ≤ s ∧ s < 2147483648) := by
    obtain ⟨c, a2, s2, e2, hc, ha2, hs2⟩ := next_some h 3 (a := a1) (b := s1) (by omega) hs1 (by omega)
    have ec : spec_l00Src_chance.f l a1 s1 3 = some (c == 2, a2, s2) := by
      unfold spec_l00Src_chance.f
      rw [e2, Option.bind_some]
      show some (c == wrap64 (3 - 1), a2, s2) = _
      rw [show wrap64 (3 - 1) = 2 from by simp only [wrap64]; omega]
    by_cases hc2 : c = 2
    · obtain ⟨y, a3, s3, e3, hy, ha3, hs3⟩ := next_some h 6 (a := a2) (b := s2) (by omega) hs2 (by omega)
      refine ⟨_, a3, s3, _, _, fun k => ?_, leaf_grown (n := ⟨1, 0, 0, y⟩) hs hv (show kd 1 = 0 from by decide) (.inr (.inr (.inr (.inr ⟨rfl, rfl, rfl, hy.1, by simp only; omega⟩)))) (fun e => absurd (show (1 : Int) = 2 from e) (by decide)) (by omega), by omega, hs3⟩
      rw [spec_l00Src_grow.j0, if_pos rfl, ec, Option.bind_some, if_pos (by rw [hc2]; rfl)]
      simp only
      rw [e3, Option.bind_some, if_pos (by omega)]
    · obtain ⟨y, a3, s3, e3, hy, ha3, hs3⟩ := next_some h 3 (a := a2) (b := s2) (by omega) hs2 (by omega)
      refine ⟨_, a3, s3, _, _, fun k => ?_, leaf_grown (n := ⟨2, 0, 0, y⟩) hs hv (show kd 2 = 0 from by decide) (.inr (.inr (.inr (.inl ⟨rfl, rfl, rfl, hy.1, by simp only; omega⟩)))) (fun e => ⟨hy.1, by simp only; omega⟩) (by omega), by omega, hs3⟩
      rw [spec_l00Src_grow.j0, if_pos rfl, ec, Option.bind_some, if_neg (by simp [hc2])]
      simp only
      rw [e3, Option.bind_some, if_pos (by omega)]
  obtain ⟨zl, al, sl, bl, dl, el, gl, hal, hsl⟩ := leaf
  have lf : (∀ k, spec_l00Src_grow.f (k + 2) l a b xs ((q + 1 : Nat) : Int) 3 true = spec_l00Src_grow.j0 (k + 1) xs ((q + 1 : Nat) : Int) 3 true x true l a1 s1) → ∃ zs a' s bs' ds', Ev (fun k => spec_l00Src_grow.f k l a b xs ((q + 1 : Nat) : Int) 3 true) (zs, a', s) ∧ Grown xs bs ds (q + 1) zs bs' ds' ∧ (a ≤ a' ∧ a' ≤ a + 9 * B (q + 1)) ∧ (0 ≤ s ∧ s < 2147483648) := fun g =>
    ⟨zl, al, sl, bl, dl, run _ ⟨0, fun k _ => by rw [g, el]⟩, gl, hal, hsl⟩
  by_cases hq1 : ((q + 1 : Nat) : Int) ≤ 1
  · exact lf fun k => by rw [st, if_pos hq1]
  by_cases h30 : (xs.length : Int) > 30
  · exact lf fun k => by rw [st, if_neg hq1, if_pos h30]
  by_cases hx3 : x < 3
  · exact lf fun k => by rw [st, if_neg hq1, if_neg h30, decide_eq_true hx3]
  have st' : ∀ k, spec_l00Src_grow.f (k + 2) l a b xs ((q + 1 : Nat) : Int) 3 true = spec_l00Src_grow.j0 (k + 1) xs ((q + 1 : Nat) : Int) 3 true x false l a1 s1 := fun k => by
    rw [st, if_neg hq1, if_neg h30, decide_eq_false hx3]
  obtain ⟨p, rfl⟩ : ∃ p, q = p + 1 := ⟨q - 1, by omega⟩
  have ew : wrap64 (((p + 1 + 1 : Nat) : Int) - 1) = ((p + 1 : Nat) : Int) := by rw [wrap_in (by omega) (by omega)]; omega
  have eB : B (p + 1 + 1) = 2 * B (p + 1) + 1 := rfl
  by_cases hx4 : x = 3
  · obtain ⟨z1, a2, s2, b1, d1, ev1, g1, ha2, hs2⟩ := ih p (by omega) xs a1 s1 bs ds (by omega) hs hv (by omega) (by omega) (by omega) hs1
    have g1p := g1.pos
    have g1l := g1.len
    have w1 : wrap64 ((z1.length : Int) - 1) = (z1.length : Int) - 1 := wrap_in (by omega) (by omega)
    obtain ⟨b2, d2, g2⟩ := one_grown g1 (n := ⟨7, (z1.length : Int) - 1, 0, 0⟩) (show kd 7 = 1 from by decide) (.inr (.inl ⟨rfl, by simp only; omega, by simp only; omega, rfl, rfl⟩)) rfl (Nat.le_refl (p + 1 + 1))
    refine ⟨_, a2, s2, b2, d2, run _ ?_, g2, by omega, hs2⟩
    obtain ⟨K, ev1⟩ := ev1
    refine ⟨K, fun k hk => ?_⟩
    have ev1' := ev1 k hk
    simp only at ev1'
    rw [st', spec_l00Src_grow.j0, if_neg (by simp), if_pos hx4, ew, ev1', Option.bind_some]
    simp only
    rw [if_pos (by omega)]
    simp only [w1]
  by_cases hx5 : x = 4
  · obtain ⟨r', hr', hr1, hr2⟩ : ∃ r' : Nat, mn (((p + 1 : Nat) : Int)) 2 = ((r' + 1 : Nat) : Int) ∧ r' ≤ p ∧ r' ≤ 1 := by
      unfold mn
      split
      · exact ⟨1, rfl, by omega, by omega⟩
      · exact ⟨p, rfl, by omega, by omega⟩
    have hBr := B_mono (show r' + 1 ≤ p + 1 by omega)
    obtain ⟨z1, a2, s2, b1, d1, ev1, g1, ha2, hs2⟩ := ih r' (by omega) xs a1 s1 bs ds (by omega) hs hv (by omega) (by omega) (by omega) hs1
    obtain ⟨y, a3, s3, e3, hy, ha3, hs3⟩ := next_some h 4 (a := a2) (b := s2) (by omega) hs2 (by omega)
    have g1p := g1.pos
    have g1l := g1.len
    have w1 : wrap64 ((z1.length : Int) - 1) = (z1.length : Int) - 1 := wrap_in (by omega) (by omega)
    obtain ⟨b2, d2, g2⟩ := one_grown g1 (n := ⟨8, (z1.length : Int) - 1, 0, y⟩) (show kd 8 = 1 from by decide) (.inr (.inr (.inl ⟨rfl, by simp only; omega, by simp only; omega, rfl, hy.1, by simp only; omega⟩))) rfl (show r' + 1 + 1 ≤ p + 1 + 1 by omega)
    refine ⟨_, a3, s3, b2, d2, run _ ?_, g2, by omega, hs3⟩
    obtain ⟨K, ev1⟩ := ev1
    refine ⟨K, fun k hk => ?_⟩
    have ev1' := ev1 k hk
    simp only at ev1'
    rw [st', spec_l00Src_grow.j0, if_neg (by simp), if_neg hx4, if_pos hx5, ew, hr', ev1', Option.bind_some]
    simp only
    rw [e3, Option.bind_some]
    simp only
    rw [if_pos (by omega)]
    simp only [w1]
  · obtain ⟨y, a2, s2, e2, hy, ha2, hs2⟩ := next_some h 6 (a := a1) (b := s1) (by omega) hs1 (by omega)
    obtain ⟨z1, a3, s3, b1, d1, ev1, g1, ha3, hs3⟩ := ih p (by omega) xs a2 s2 bs ds (by omega) hs hv (by omega) (by omega) (by omega) hs2
    have g1p := g1.pos
    have g1l := g1.len
    obtain ⟨z2, a4, s4, b2, d2, ev2, g2, ha4, hs4⟩ := ih p (by omega) z1 a3 s3 (bs ++ b1) (ds ++ d1) (by omega) g1.sh g1.vb (by omega) (by omega) (by omega) hs3
    have g2p := g2.pos
    have g2l := g2.len
    have w1 : wrap64 ((z1.length : Int) - 1) = (z1.length : Int) - 1 := wrap_in (by omega) (by omega)
    have w2 : wrap64 ((z2.length : Int) - 1) = (z2.length : Int) - 1 := wrap_in (by omega) (by omega)
    obtain ⟨b3, d3, g3⟩ := two_grown g1 g2 (n := ⟨rd [3, 3, 4, 5, 5, 6] y, (z1.length : Int) - 1, (z2.length : Int) - 1, 0⟩) (op_in hy) rfl rfl rfl (Nat.le_refl (p + 1 + 1))
    refine ⟨_, a4, s4, b3, d3, run _ ?_, g3, by omega, hs4⟩
    obtain ⟨K1, ev1⟩ := ev1
    obtain ⟨K2, ev2⟩ := ev2
    refine ⟨K1 + K2, fun k hk => ?_⟩
    have ev1' := ev1 k (by omega)
    have ev2' := ev2 k (by omega)
    simp only at ev1' ev2'
    rw [st', spec_l00Src_grow.j0, if_neg (by simp), if_neg hx4, if_neg hx5, Option.bind_some, show spec_l01Bit.f true = some 1 from rfl, Option.bind_some, show wrap64 (5 + 1) = 6 from by simp only [wrap64]; omega, e2, Option.bind_some, if_pos hy.1, if_pos (by simp only [List.length_cons, List.length_nil]; omega), ew, ev1', Option.bind_some]
    simp only
    rw [ev2', Option.bind_some]
    simp only
    rw [if_pos (by omega)]
    simp only [w1, w2]
theorem drawn_ev {l : List Int} (h : By l) (hl : l.length ≤ 1048576) : ∃ zs bs ds, Ev (fun k => spec_ExprDrawn.f k l 3 true) zs ∧ sh zs [] [] = some (bs, ds) ∧ 0 < zs.length ∧ zs.length ≤ 15 ∧ rd bs ((zs.length - 1 : Nat) : Int) = 0 ∧ (1 ≤ rd ds ((zs.length - 1 : Nat) : Int) ∧ rd ds ((zs.length - 1 : Nat) : Int) ≤ 4) ∧ (∀ y ∈ ds, y ≤ 4) ∧ Vb zs := by
  obtain ⟨x, a1, s1, e1, hx, ha1, hs1⟩ := next_some h 3 (a := 0) (b := (l.length : Int) % 1000) (by omega) (by omega) (by omega)
  obtain ⟨q, hq, hq3⟩ : ∃ q : Nat, wrap64 (2 + x) = ((q + 1 : Nat) : Int) ∧ q ≤ 3 := ⟨(x + 1).toNat, by rw [wrap_in (by omega) (by omega)]; omega, by omega⟩
  have hB := B_mono (show q + 1 ≤ 4 by omega)
  have hB4 : B 4 = 15 := rfl
  obtain ⟨zs, a', s, bs, ds, ev, g, ha', hs'⟩ := grow_ev h q [] a1 s1 [] [] hq3 rfl (fun n hn => absurd hn (by simp)) (by simp; omega) (by omega) (by omega) hs1
  have gl := g.len
  have gp := g.pos
  simp only [List.length_nil, Nat.zero_add] at gl gp
  refine ⟨zs, bs, ds, ?_, g.sh, by omega, by omega, g.beg, ⟨g.dep.1, by have := g.dep.2; simp only [List.nil_append] at this; omega⟩, fun y hy => by have := g.all y hy; omega, g.vb⟩
  obtain ⟨K, ev⟩ := ev
  refine ⟨K, fun k hk => ?_⟩
  have ev' := ev k hk
  simp only at ev'
  have hz : ([] : List S46).length + zs.length < 4398046511104 := by rw [List.length_nil]; omega
  have e : spec_l00Src_expr.f k l 0 ((l.length : Int) % 1000) 3 true = some (zs, a', s) := by
    unfold spec_l00Src_expr.f
    rw [Option.bind_some, e1, Option.bind_some, hq, ev', Option.bind_some, if_pos hz]; rfl
  show spec_ExprDrawn.f k l 3 true = _
  unfold spec_ExprDrawn.f spec_l00Source.f
  rw [Option.bind_some, e, Option.bind_some]
/-! ### how deep, how many axes -/
theorem code_ev (x : List S46) : Ev (fun k => impl_exprCode.f k x) (if exAns x = true then 0 else 1) := by
  refine Ev.bind (f := fun _ t => (impl_unless.f t 1).bind fun u => some u) (impl_ex_ev x) ?_
  unfold impl_unless.f
  by_cases h : exAns x = true
  · rw [if_pos h]; exact Ev.congr (fun k => by rw [if_pos h]; rfl) (Ev.now _)
  · rw [if_neg h]; exact Ev.congr (fun k => by rw [if_neg h]; rfl) (Ev.now _)
theorem ex_yes {x : List S46} {bs ds : List Int} (h : sh x [] [] = some (bs, ds)) (h0 : 0 < x.length) (hl : x.length ≤ 60) (hb : rd bs ((x.length - 1 : Nat) : Int) = 0) (hd : ∀ y ∈ ds, y ≤ 12) : exAns x = true := by
  unfold exAns
  rw [if_pos (decide_eq_true (by omega)), h]
  exact decide_eq_true ⟨hb, hd⟩
theorem depth_ev {x : List S46} {bs ds : List Int} (h : sh x [] [] = some (bs, ds)) (h0 : 0 < x.length) (hl : x.length ≤ 60) (he : exAns x = true) : Ev (fun k => impl_DepthOf.f k x) (rd ds ((x.length - 1 : Nat) : Int), 0) := by
  obtain ⟨hb, hd, hf⟩ := sh_fine h
  unfold impl_DepthOf.f
  refine Ev.bind (code_ev x) ?_
  rw [if_pos he]
  refine Ev.congr (fun k => (if_pos rfl : (if _ then _ else _) = _)) (Ev.bind (shape_ev x (by omega)) ?_)
  rw [h]
  show Ev (fun k => if 0 ≤ (wrap64 ((ds.length : Int) - 1)) then (if (wrap64 ((ds.length : Int) - 1)) < (ds.length : Int) then (some (rd ds (wrap64 ((ds.length : Int) - 1)), 0)) else (none)) else (none)) _
  rw [wrap_in (x := (ds.length : Int) - 1) (by omega) (by omega), if_pos (by omega), if_pos (by omega), show (ds.length : Int) - 1 = ((x.length - 1 : Nat) : Int) by omega]
  exact Ev.now _
def dmS (c : Int) (n : S46) : Int := if n.f0 = 2 then mx c (wrap64 (n.f3 + 1)) else c
theorem dim_loop (x : List S46) (hb : x.length ≤ 1048576) : ∀ (d i : Nat) (c : Int), i + d = x.length → Ev (fun k => impl_dimOf.l0 k c x (x.length : Int) (i : Int)) ((x.drop i).foldl dmS c) := by
  intro d
  induction d with
  | zero =>
    intro i c hd
    rw [List.drop_of_length_le (by omega)]
    refine ev_const fun k => ?_
    rw [impl_dimOf.l0, if_neg (by omega)]; rfl
  | succ d ih =>
    intro i c hd
    rw [at_next (z := z46) (i := i) (by omega), List.foldl_cons]
    refine Ev.step (fun k => ?_) (ih (i + 1) _ (by omega))
    rw [impl_dimOf.l0, if_pos (by omega), if_pos (by omega), if_pos (by omega), rdT, wsucc (by omega)]
    unfold dmS
    split <;> rfl
theorem dim_ev {x : List S46} (hb : x.length ≤ 1048576) (he : exAns x = true) : Ev (fun k => impl_DimOf.f k x) (x.foldl dmS 0, 0) := by
  refine Ev.bind (f := fun k t => if t = 0 then (impl_dimOf.f k x).bind (fun t => some (t, 0)) else some (0, t)) (code_ev x) ?_
  rw [if_pos he]
  exact Ev.congr (fun k => if_pos rfl) (Ev.bind (f := fun _ t => some (t, 0)) (dim_loop x hb x.length 0 0 (by omega)) (Ev.now _))
theorem dim_in : ∀ {x : List S46} {c : Int}, Vb x → 0 ≤ c ∧ c ≤ 3 → 0 ≤ x.foldl dmS c ∧ x.foldl dmS c ≤ 3 := by
  intro x
  induction x with
  | nil => intro c _ h; exact h
  | cons n x ih =>
    intro c hv h
    rw [List.foldl_cons]
    refine ih (fun m hm => hv m (List.mem_cons_of_mem _ hm)) ?_
    unfold dmS
    by_cases e : n.f0 = 2
    · have g := hv n (List.mem_cons_self ..) e
      rw [if_pos e, wrap_in (by omega) (by omega)]
      unfold mx
      split <;> omega
    · rw [if_neg e]; exact h
end Go.Proofs.Ytbgaodfnhbbgdaa.Ps
