/-
What a walk holds while lists of its own are marked: facts, each with the blocks that it reads. Conditions: those of the theorems.
-/
import Derived.Test.YtegbmillbbcmfaaWords
import Derived.Test.YtegbmillbbcmfaaMkV
import Derived.Test.YtegbmillbbcmfaaMkR
import Derived.Test.YtegbmillbbcmfaaQxrv
import Derived.Test.YtegbmillbbcmfaaQxrlaw
import Derived.Test.YtegbmillbbcmfaaQxDot
namespace Go.Proofs.Ytegbmillbbcmfaa.Q
open Go.RowKit Go.Proofs.YtegbmillbbcmfaaW.PrintWords Go.Proofs.YtegbmillbbcmfaaW.PrintLast Go.Proofs.YtegbmillbbcmfaaW.PrintMore
set_option linter.unusedVariables false
set_option linter.unusedSimpArgs false

structure Fa where
  P : World → Prop
  lo : Nat
  hi : Nat
def ivl (lo hi : Nat) : Nat → Prop := fun k => lo ≤ k ∧ k < hi
def Sd (w W : World) (L : List Fa) : Prop :=
  Below w.heap.size w W ∧ (∀ (i : Nat) x, L[i]? = some x → Foot x.P W (ivl x.lo x.hi) ∧ w.heap.size ≤ x.lo ∧ x.hi ≤ W.heap.size) ∧ ∀ (i j : Nat) x y, i < j → L[i]? = some x → L[j]? = some y → y.hi ≤ x.lo
section
variable {w W W1 W2 : World} {T lo hi b h : Nat} {L : List Fa} {x : Fa} {P : World → Prop} {v u1 u2 : Value} {l l1 l2 : List Int}
theorem Sd.refl (w : World) : Aside0 (Sd w w []) := ⟨Below.refl _ _, fun i x hx => by simp at hx, fun i j x y _ hx => by simp at hx⟩
theorem Sd.call (S : Aside0 (Sd w W L)) (hb : Below W.heap.size W W1) : Aside0 (Sd w W1 L) :=
  ⟨below_step S.out.1 hb, fun i x hx => ⟨(S.out.2.1 i x hx).1.step (fun k _ hl => hb.block k hl), (S.out.2.1 i x hx).2.1, Nat.le_trans (S.out.2.1 i x hx).2.2 hb.size⟩, S.out.2.2⟩
theorem Sd.push (S : Aside0 (Sd w W L)) (hb : Below W.heap.size W W1) (h : Foot P W1 (ivl W.heap.size W1.heap.size)) : Aside0 (Sd w W1 (⟨P, W.heap.size, W1.heap.size⟩ :: L)) := by
  have S1 := Sd.call S hb
  refine ⟨S1.out.1, fun i x hx => ?_, fun i j x y hij hx hy => ?_⟩
  · cases i with
    | zero =>
      simp only [List.getElem?_cons_zero, Option.some.injEq] at hx
      subst hx
      exact ⟨h, below_size S.out.1, Nat.le_refl _⟩
    | succ i => exact S1.out.2.1 i x (by simpa using hx)
  · obtain ⟨j, rfl⟩ : ∃ j', j = j' + 1 := ⟨j - 1, by omega⟩
    have hy' : L[j]? = some y := by simpa using hy
    cases i with
    | zero =>
      simp only [List.getElem?_cons_zero, Option.some.injEq] at hx
      subst hx
      exact (S.out.2.1 j y hy').2.2
    | succ i => exact S.out.2.2 i j x y (by omega) (by simpa using hx) hy'
theorem Sd.get (S : Aside0 (Sd w W L)) (i : Nat) (hx : L[i]? = some x) : x.P W := (S.out.2.1 i x hx).1.now
theorem set_at {i j : Nat} {v x y : Fa} (hx : L[i]? = some x) (h : (L.set i v)[j]? = some y) : (j = i ∧ y = v) ∨ (j ≠ i ∧ L[j]? = some y) := by
  by_cases e : i = j
  · subst e
    obtain ⟨hl, _⟩ := List.getElem?_eq_some_iff.1 hx
    rw [List.getElem?_set_self hl] at h
    exact .inl ⟨rfl, (Option.some.inj h).symm⟩
  · rw [List.getElem?_set_ne e] at h
    exact .inr ⟨fun z => e z.symm, h⟩
/-- One fact's blocks have been written. -/
theorem Sd.turn (S : Aside0 (Sd w W L)) (i : Nat) (hx : L[i]? = some x) (hB : Below w.heap.size w W1) (hs : W.heap.size ≤ W1.heap.size) (hk : ∀ k, k < W.heap.size → ¬ ivl x.lo x.hi k → W1.heap[k]? = W.heap[k]?) (h : Foot P W1 (ivl x.lo x.hi)) : Aside0 (Sd w W1 (L.set i ⟨P, x.lo, x.hi⟩)) := by
  have dj : ∀ (j : Nat) y, j ≠ i → L[j]? = some y → ∀ k, ivl y.lo y.hi k → ¬ ivl x.lo x.hi k := fun j y hj hy k hk1 hk2 => by
    rcases Nat.lt_or_gt_of_ne hj with g | g
    · have := S.out.2.2 j i y x g hy hx
      unfold ivl at hk1 hk2; omega
    · have := S.out.2.2 i j x y g hx hy
      unfold ivl at hk1 hk2; omega
  refine ⟨hB, fun j y hy => ?_, fun j j' y z hj hy hz => ?_⟩
  · rcases set_at hx hy with ⟨rfl, rfl⟩ | ⟨e, hy⟩
    · exact ⟨h, (S.out.2.1 j x hx).2.1, Nat.le_trans (S.out.2.1 j x hx).2.2 hs⟩
    · exact ⟨(S.out.2.1 j y hy).1.step (fun k hk1 hl => hk k hl (dj j y e hy k hk1)), (S.out.2.1 j y hy).2.1, Nat.le_trans (S.out.2.1 j y hy).2.2 hs⟩
  · have a1 := set_at hx hy
    have a2 := set_at hx hz
    clear hy hz
    rcases a1 with ⟨rfl, rfl⟩ | ⟨e, hy⟩ <;> rcases a2 with ⟨rfl, rfl⟩ | ⟨e', hz⟩
    · omega
    · exact S.out.2.2 _ _ x _ hj hx hz
    · exact S.out.2.2 _ _ _ x hj hy hx
    · exact S.out.2.2 _ _ _ _ hj hy hz
theorem Sd.mark (S : Aside0 (Sd w W L)) (i : Nat) (hx : L[i]? = some x) (hk : IK (ivl x.lo x.hi) W W1) : Aside0 (Sd w W1 (L.set i ⟨fun _ => True, x.lo, x.hi⟩)) :=
  Sd.turn S i hx (S.out.1.trans (hk.bl _ (fun k hg => Nat.le_trans (S.out.2.1 i x hx).2.1 hg.1))) (hk.bl 0 (fun _ _ => Nat.zero_le _)).size (fun k _ hg => hk.keep k hg) (fun _ _ => trivial)
theorem foot_R {α : Type} {d : Kd α} {e base : Nat} {ok : Nat → Prop} {xs : List α} (h : Kd.R d e W base ok v xs) : Foot (fun W => Kd.R d e W base ok v xs) W (ivl base W.heap.size) :=
  fun W' hW => Kd.R_mono (Kd.R_move (Kd.R_bound h) (fun k hk => hW k ⟨hk.2.1, hk.2.2.1⟩ hk.2.2.1)) (fun _ hk => hk.1)
theorem foot_and {P Q : World → Prop} {ok : Nat → Prop} (h : Foot P W ok) (k : Foot Q W ok) : Foot (fun W => P W ∧ Q W) W ok := fun W' hW => ⟨h W' hW, k W' hW⟩
/-- A rational's rows, of a call's own. -/
def PR (u1 u2 : Value) (l1 l2 : List Int) (b h : Nat) (W : World) : Prop := Kd.R (Kd.int .i64) 3 W b (fun k => k < h ∧ some k ≠ u2.ownBlock) u1 l1 ∧ Kd.R (Kd.int .i64) 3 W b (fun k => k < h ∧ some k ≠ u1.ownBlock) u2 l2
/-- The same, read alone. -/
def PM (u1 u2 : Value) (l1 l2 : List Int) (W : World) : Prop := RV W u1 l1 ∧ RV W u2 l2
def PB (T g : Nat) (n : Bool) (u1 u2 : Value) (W : World) : Prop := W.heap[g]? = some (.cells #[.bool n, u1, u2] T (0, 0))
/-- A list of rationals, of a call's own. -/
def PX (v : Value) (xs : List S32) (b h : Nat) (W : World) : Prop := Kd.R k32 32 W b (fun k => k < h) v xs
theorem Sd.rows (S : Aside0 (Sd w W L)) (hb : Below W.heap.size W W1) (h1 : Kd.R (Kd.int .i64) 3 W1 W.heap.size (fun k => some k ≠ u2.ownBlock) u1 l1) (h2 : Kd.R (Kd.int .i64) 3 W1 W.heap.size (fun k => some k ≠ u1.ownBlock) u2 l2) :
    Aside0 (Sd w W1 (⟨PR u1 u2 l1 l2 W.heap.size W1.heap.size, W.heap.size, W1.heap.size⟩ :: L)) :=
  Sd.push S hb (foot_and (foot_R (Kd.R_mono (Kd.R_bound h1) (fun _ hk => ⟨hk.2.2.1, hk.1⟩))) (foot_R (Kd.R_mono (Kd.R_bound h2) (fun _ hk => ⟨hk.2.2.1, hk.1⟩))))
theorem Sd.rats {xs : List S32} (S : Aside0 (Sd w W L)) (hb : Below W.heap.size W W1) (h1 : Kd.R k32 32 W1 W.heap.size (fun _ => True) v xs) : Aside0 (Sd w W1 (⟨PX v xs W.heap.size W1.heap.size, W.heap.size, W1.heap.size⟩ :: L)) :=
  Sd.push S hb (foot_R (Kd.R_mono (Kd.R_bound h1) (fun _ hk => hk.2.2.1)))
theorem Sd.box {g : Nat} {n : Bool} {c0 c1 c2 : Value} (S : Aside0 (Sd w W L)) (hg : g = W.heap.size) (hbox : W1.heap[g]? = some (.cells #[c0, c1, c2] T (0, 0))) (hb : Below W.heap.size W W1)
    (e : W2 = ((W1.setCell ⟨g, 0, none⟩ (.bool n)).setCell ⟨g, 1, none⟩ u1).setCell ⟨g, 2, none⟩ u2) : Aside0 (Sd w W2 (⟨PB T g n u1 u2, W.heap.size, W2.heap.size⟩ :: L)) := by
  have hB : Below W.heap.size W W2 := by
    rw [e]
    exact below_set (below_set (below_set hb (by omega)) (by omega)) (by omega)
  have hW : W2.heap[g]? = some (.cells #[.bool n, u1, u2] T (0, 0)) := by
    rw [e]
    exact blk_put (cs := #[.bool n, u1, c2]) (blk_put (cs := #[.bool n, c1, c2]) (blk_put (cs := #[c0, c1, c2]) hbox 0 _ rfl) 1 _ rfl) 2 _ rfl
  exact Sd.push S hB (fun W' hW' => (hW' g ⟨by omega, blk_lt hW⟩ (blk_lt hW)).trans hW)
theorem Sd.cl {g lo hi : Nat} {n : Bool} (S : Aside0 (Sd w W L)) (i : Nat) (hx : L[i]? = some ⟨PB T g n u1 u2, lo, hi⟩) : W.cell? ⟨g, 0, none⟩ = some (.bool n) ∧ W.cell? ⟨g, 1, none⟩ = some u1 ∧ W.cell? ⟨g, 2, none⟩ = some u2 := by
  have h : W.heap[g]? = some (.cells #[.bool n, u1, u2] T (0, 0)) := Sd.get S i hx
  exact ⟨(blk_cell h 0).trans rfl, (blk_cell h 1).trans rfl, (blk_cell h 2).trans rfl⟩
theorem Sd.rv {lo hi b h : Nat} (S : Aside0 (Sd w W L)) (i : Nat) (hx : L[i]? = some ⟨PR u1 u2 l1 l2 b h, lo, hi⟩) : RV W u1 l1 ∧ RV W u2 l2 := by
  have h : PR u1 u2 l1 l2 b h W := Sd.get S i hx
  exact ⟨RV.of h.1, RV.of h.2⟩
theorem Sd.rm {lo hi : Nat} (S : Aside0 (Sd w W L)) (i : Nat) (hx : L[i]? = some ⟨PM u1 u2 l1 l2, lo, hi⟩) : RV W u1 l1 ∧ RV W u2 l2 := Sd.get S i hx
theorem Sd.rc {A : Option Addr} {n c lo hi b h : Nat} {xs : List S32} (S : Aside0 (Sd w W L)) (i : Nat) (hx : L[i]? = some ⟨PX (.slice A n c) xs b h, lo, hi⟩) : n = xs.length ∧ n ≤ c ∧ Kd.C k32 W A xs.length xs := Kd.R_reads' (Sd.get S i hx)
theorem rowI_of {A : Option Addr} {n c b h : Nat} {ok : Nat → Prop} (hR : Kd.R (Kd.int .i64) 3 W b ok (.slice A n c) l) (hok : ∀ k, ok k → k < h) : RowI (ivl b h) W A n := fun hn => by
  obtain ⟨hl, _, _⟩ := Kd.R_reads' hR
  obtain ⟨inner, ho⟩ := Kd.R_own hR
  rcases ho.2 with ⟨e, _⟩ | ⟨g, cap, cur, e, hg, _, _⟩
  · injection e with _ e2 _
    omega
  · injection e with e1 e2 e3
    subst e1
    refine ⟨g, rfl, ⟨hg, hok _ (hR.1 g rfl)⟩, fun i hi => ?_⟩
    obtain ⟨cs, _, hM, hc, hf⟩ := Kd.R_elem hR (0 : Int) (i : Int) (by omega) (by omega)
    have hM' : cs = [.int .i64 (l.getD ((i : Int).toNat) 0)] := hM
    rw [hM'] at hc
    have h0 := hc 0 _ rfl
    have f0 := hf 0
    simp only [Int.toNat_natCast, Nat.add_zero] at h0 f0
    rw [show i * (Kd.int .i64).sz = i from Nat.mul_one i] at h0 f0
    exact ⟨⟨_, h0⟩, f0⟩
theorem rowR_of {A : Option Addr} {n c b h M : Nat} {xs : List S32} (hR : Kd.R k32 32 W b (fun k => k < h) (.slice A n c) xs) (hM : ∀ x ∈ xs, x.f1.length ≤ M ∧ x.f2.length ≤ M) : RowR (ivl b h) M W A n := fun hn => by
  obtain ⟨hl, _, _⟩ := Kd.R_reads' hR
  obtain ⟨inner, ho⟩ := Kd.R_own hR
  rcases ho.2 with ⟨e, _⟩ | ⟨g, cap, cur, e, hg, _, _⟩
  · injection e with _ e2 _
    omega
  · injection e with e1 e2 e3
    subst e1
    refine ⟨g, rfl, ⟨hg, hR.1 g rfl⟩, fun i hi => ?_⟩
    obtain ⟨cs, _, hE, hc, hf⟩ := Kd.R_elem hR z32 (i : Int) (by omega) (by omega)
    have hx : xs.getD ((i : Int).toNat) z32 ∈ xs := by
      rw [Int.toNat_natCast, List.getD_eq_getElem?_getD, List.getElem?_eq_getElem (by omega)]
      exact List.getElem_mem _
    obtain ⟨b1, b2⟩ := hM _ hx
    generalize xs.getD ((i : Int).toNat) z32 = x at *
    obtain ⟨v1, v2, rfl, g1, g2⟩ := k32_openM hE
    obtain ⟨A1, c1, rfl⟩ := Kd.R_slice g1
    obtain ⟨A2, c2, rfl⟩ := Kd.R_slice g2
    have h0 := hc 0 _ rfl
    have f0 := hf 0
    have h1 := hc 1 _ rfl
    have h2 := hc 2 _ rfl
    simp only [Int.toNat_natCast, Nat.add_zero] at h0 f0 h1 h2
    exact ⟨⟨_, h0⟩, f0, ⟨A1, _, c1, h1, b1, rowI_of g1 (fun k hk => hk.1)⟩, ⟨A2, _, c2, h2, b2, rowI_of g2 (fun k hk => hk.1)⟩⟩
theorem Sd.row {A : Option Addr} {n c b h M : Nat} {xs : List S32} (S : Aside0 (Sd w W L)) (i : Nat) (hx : L[i]? = some ⟨PX (.slice A n c) xs b h, b, h⟩) (hM : ∀ x ∈ xs, x.f1.length ≤ M ∧ x.f2.length ≤ M) : RowR (ivl b h) M W A n := rowR_of (Sd.get S i hx) hM
theorem own_R {base : Nat} {ok : Nat → Prop} (h : Kd.R (Kd.int .i64) 3 W base ok v l) : Kd.R (Kd.int .i64) 3 W base (fun k => some k = v.ownBlock) v l := ⟨fun k hk => hk.symm, h.2.imp_ (fun _ _ hp => hp)⟩
theorem foot_own {base lo hi : Nat} {ok : Nat → Prop} (h : Kd.R (Kd.int .i64) 3 W base ok v l) (hr : ∀ k, v.ownBlock = some k → lo ≤ k ∧ k < hi) : Foot (fun W => RV W v l) W (ivl lo hi) := fun W' hW => by
  obtain ⟨inner, ho⟩ := Kd.R_own h
  exact RV.of (Kd.R_move (own_R h) (fun k hk => hW k (hr k hk.symm) (own_lt ho k hk.symm)))
end
end Go.Proofs.Ytegbmillbbcmfaa.Q
