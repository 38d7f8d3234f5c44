/-
The marks that a law writes into lists of its own, told by what they leave alone. Conditions: those of the theorems.
-/
import Derived.Test.YtegbmillbbcmfaaWords
import Derived.Test.YtegbmillbbcmfaaQx0
namespace Go.Proofs.Ytegbmillbbcmfaa.Q
open Go.RowKit Go.Proofs.YtegbmillbbcmfaaW.PrintWords Go.Proofs.YtegbmillbbcmfaaW.PrintLast Go.Proofs.YtegbmillbbcmfaaW.PrintMore
set_option linter.unusedVariables false
set_option linter.unusedSimpArgs false

/-- What is not in G keeps all; every cell keeps its kind. -/
structure IK (G : Nat → Prop) (W W' : World) : Prop where
  bl : ∀ B, (∀ k, G k → B ≤ k) → Below B W W'
  keep : ∀ k, ¬ G k → W'.heap[k]? = W.heap[k]?
  ints : ∀ p z, W.cell? p = some (.int .i64 z) → ∃ z', W'.cell? p = some (.int .i64 z')
  bools : ∀ p b, W.cell? p = some (.bool b) → ∃ b', W'.cell? p = some (.bool b')
  rows : ∀ p A n c, W.cell? p = some (.slice A n c) → W'.cell? p = some (.slice A n c)
  froz : ∀ p v, W.cell? p = some v → W'.frozen? p = W.frozen? p
  smth : ∀ p v, W.cell? p = some v → ∃ v', W'.cell? p = some v'
theorem IK.refl (G : Nat → Prop) (W : World) : IK G W W := ⟨fun B _ => Below.refl _ _, fun _ _ => rfl, fun _ z h => ⟨z, h⟩, fun _ b h => ⟨b, h⟩, fun _ _ _ _ h => h, fun _ _ _ => rfl, fun _ v h => ⟨v, h⟩⟩
theorem IK.trans {G : Nat → Prop} {A B C : World} (h : IK G A B) (k : IK G B C) : IK G A C := by
  refine ⟨fun X hX => (h.bl X hX).trans (k.bl X hX), fun i hg => (k.keep i hg).trans (h.keep i hg), fun p z hz => ?_, fun p b hb => ?_, fun p A n c hr => k.rows p A n c (h.rows p A n c hr), fun p v hv => ?_, fun p v hv => ?_⟩
  · obtain ⟨z1, h1⟩ := h.ints p z hz
    exact k.ints p z1 h1
  · obtain ⟨b1, h1⟩ := h.bools p b hb
    exact k.bools p b1 h1
  · obtain ⟨v1, h1⟩ := h.smth p v hv
    exact (k.froz p v1 h1).trans (h.froz p v hv)
  · obtain ⟨v1, h1⟩ := h.smth p v hv
    exact k.smth p v1 h1
theorem IK.set {G : Nat → Prop} {W : World} {q : Addr} {u x : Value} (hG : G q.block) (hq : W.cell? q = some u) (hk : (∃ y z, u = .int .i64 y ∧ x = .int .i64 z) ∨ (∃ a b, u = .bool a ∧ x = .bool b)) : IK G W (W.setCell q x) := by
  have at_ : (W.setCell q x).cell? q = some x := World.cell?_setCell_same _ _ _ hq
  have no_ : ∀ p, p ≠ q → (W.setCell q x).cell? p = W.cell? p := fun p hp => World.cell?_setCell_other _ _ _ _ (fun e => hp e.symm)
  refine ⟨fun B hB => Below.setCell (Below.refl _ _) (hB _ hG) _, fun k hg => Below.heap_setCell W q x k (fun e => hg (e ▸ hG)), fun p z hz => ?_, fun p b hb => ?_, fun p A n c hr => ?_, fun p v hv => World.frozen?_setCell _ _ _ _, fun p v hv => ?_⟩
  · by_cases e : p = q
    · rw [e] at hz ⊢
      rw [hq] at hz
      rcases hk with ⟨y, z', h1, h2⟩ | ⟨a, b, h1, h2⟩
      · exact ⟨z', by rw [at_, h2]⟩
      · rw [h1] at hz; cases hz
    · rw [no_ p e]; exact ⟨_, hz⟩
  · by_cases e : p = q
    · rw [e] at hb ⊢
      rw [hq] at hb
      rcases hk with ⟨y, z', h1, h2⟩ | ⟨a, b', h1, h2⟩
      · rw [h1] at hb; cases hb
      · exact ⟨b', by rw [at_, h2]⟩
    · rw [no_ p e]; exact ⟨_, hb⟩
  · by_cases e : p = q
    · rw [e] at hr ⊢
      rw [hq] at hr
      rcases hk with ⟨y, z', h1, h2⟩ | ⟨a, b', h1, h2⟩
      · rw [h1] at hr; cases hr
      · rw [h1] at hr; cases hr
    · rw [no_ p e]; exact hr
  · by_cases e : p = q
    · rw [e]; exact ⟨_, at_⟩
    · rw [no_ p e]; exact ⟨_, hv⟩
/-- A row of whole numbers that may be written. -/
def RowI (G : Nat → Prop) (W : World) (A : Option Addr) (n : Nat) : Prop := 0 < n → ∃ g, A = some ⟨g, 0, none⟩ ∧ G g ∧ ∀ i, i < n → (∃ z, W.cell? ⟨g, i, none⟩ = some (.int .i64 z)) ∧ W.frozen? ⟨g, i, none⟩ = false
theorem RowI.to {G : Nat → Prop} {W W' : World} {A : Option Addr} {n : Nat} (h : RowI G W A n) (k : IK G W W') : RowI G W' A n := fun hn => by
  obtain ⟨g, e, hg, hc⟩ := h hn
  refine ⟨g, e, hg, fun i hi => ?_⟩
  obtain ⟨⟨z, hz⟩, hf⟩ := hc i hi
  exact ⟨k.ints _ z hz, (k.froz _ _ hz).trans hf⟩
/-- A row of rationals that may be written: bound M on the lists in it. -/
def RowR (G : Nat → Prop) (M : Nat) (W : World) (A : Option Addr) (n : Nat) : Prop := 0 < n → ∃ g, A = some ⟨g, 0, none⟩ ∧ G g ∧ ∀ i, i < n → (∃ b, W.cell? ⟨g, i * 3, none⟩ = some (.bool b)) ∧ W.frozen? ⟨g, i * 3, none⟩ = false ∧
  (∃ A1 n1 c1, W.cell? ⟨g, i * 3 + 1, none⟩ = some (.slice A1 n1 c1) ∧ n1 ≤ M ∧ RowI G W A1 n1) ∧ (∃ A1 n1 c1, W.cell? ⟨g, i * 3 + 2, none⟩ = some (.slice A1 n1 c1) ∧ n1 ≤ M ∧ RowI G W A1 n1)
theorem RowR.to {G : Nat → Prop} {M : Nat} {W W' : World} {A : Option Addr} {n : Nat} (h : RowR G M W A n) (k : IK G W W') : RowR G M W' A n := fun hn => by
  obtain ⟨g, e, hg, hc⟩ := h hn
  refine ⟨g, e, hg, fun i hi => ?_⟩
  obtain ⟨⟨b, hb⟩, hf, ⟨A1, n1, c1, h1, m1, r1⟩, ⟨A2, n2, c2, h2, m2, r2⟩⟩ := hc i hi
  exact ⟨k.bools _ b hb, (k.froz _ _ hb).trans hf, ⟨A1, n1, c1, k.rows _ _ _ _ h1, m1, r1.to k⟩, ⟨A2, n2, c2, k.rows _ _ _ _ h2, m2, r2.to k⟩⟩
set_option maxHeartbeats 4000000 in
set_option maxRecDepth 100000 in
theorem mark_ints (G : Nat → Prop) (A : Option Addr) (n c : Nat) (k : Int) (W : World) (hr : RowI G W A n) (h0 : 0 ≤ k) (h1 : k + n ≤ 4000000000000000000) (hn : n ≤ 4000000000000000000) :
    Calls Try.prog 36 #[.slice A n c, .int .i64 k] W fun e W' => e = .returned (.int .i64 (k + n)) ∧ IK G W W' := by
  go_enter Try.func36, Try.ntmps36
  go_wp2
  go_loopw [1, 5] (fun vk vi wr => ∃ i : Nat, i ≤ n ∧ vi = .int .i64 i ∧ vk = .int .i64 (k + i) ∧ Aside0 (IK G W wr)) (fun _ vi _ => n - (intOf vi).toNat)
  case atStart => exact ⟨0, Nat.zero_le _, rfl, by simp, ⟨IK.refl _ _⟩⟩
  case round =>
    obtain ⟨i, hi, rfl, rfl, hIK⟩ := hrel
    by_cases hlt : i < n
    · obtain ⟨g, rfl, hG, hc⟩ := hr (by omega)
      obtain ⟨⟨z, hz⟩, hf⟩ := hc i hlt
      obtain ⟨z', hz'⟩ := hIK.out.ints _ z hz
      have hf' : wr.frozen? ⟨g, i, none⟩ = false := (hIK.out.froz _ _ hz).trans hf
      have HS := Aside0.mk (hIK.out.trans (IK.set (x := .int .i64 (k + i)) hG hz' (.inl ⟨_, _, rfl, rfl⟩)))
      clear hz hf hc
      have HR := Lib.hid hr
      clear hr
      go_wp2
      go_roundw
      case rel => exact ⟨i + 1, by omega, by go_num, by go_num, HS⟩
      case measure => simp [intOf]; omega
    · have hin : i = n := by omega
      subst hin
      clear hr
      go_wp2
      go_ret
      exact ⟨rfl, hIK.out⟩
set_option maxHeartbeats 4000000 in
set_option maxRecDepth 100000 in
theorem mark_rats (G : Nat → Prop) (A : Option Addr) (n c : Nat) (k : Int) (W : World) (hr : RowR G 1048576 W A n) (h0 : 0 ≤ k) (h1 : k ≤ 1000000000000000) (hn : n ≤ 1048576) :
    Calls Try.prog 17 #[.slice A n c, .int .i64 k] W fun e W' => ∃ k' : Int, e = .returned (.int .i64 k') ∧ k ≤ k' ∧ k' ≤ k + n * 3000000 ∧ IK G W W' := by
  go_enter Try.func17, Try.ntmps17
  go_wp2
  go_loopw [1, 5] (fun vk vi wr => ∃ (i : Nat) (K : Int), i ≤ n ∧ vi = .int .i64 i ∧ vk = .int .i64 K ∧ k ≤ K ∧ K ≤ k + i * 3000000 ∧ Aside0 (IK G W wr)) (fun _ vi _ => n - (intOf vi).toNat)
  case atStart => exact ⟨0, k, Nat.zero_le _, rfl, rfl, Int.le_refl _, by simp, ⟨IK.refl _ _⟩⟩
  case round =>
    obtain ⟨i, K, hi, rfl, rfl, hk0, hk1, hIK⟩ := hrel
    by_cases hlt : i < n
    · obtain ⟨g, rfl, hG, hc⟩ := hr (by omega)
      have hR := RowR.to (fun _ => ⟨g, rfl, hG, hc⟩) hIK.out (n := n) (M := 1048576)
      clear hc
      obtain ⟨g', e, _, hc⟩ := hR (by omega)
      cases e
      obtain ⟨⟨b, hb⟩, hf, ⟨A1, n1, c1, q1, m1, r1⟩, ⟨A2, n2, c2, q2, m2, r2⟩⟩ := hc i hlt
      clear hc
      have HR1 := Aside0.mk r1
      have HR2 := Aside0.mk r2
      clear r1 r2
      have HR := Lib.hid hr
      clear hr
      go_wp2_with (first | ((with_reducible refine gate_dst (N := 27) rfl ?_); refine gL_ (some 27) Try.func36 _ ?_; refine (mark_ints G A1 n1 c1 (K + 1) _ (HR1.out.to (IK.set hG hb (.inr ⟨_, _, rfl, rfl⟩))) (by omega) (by omega) (by omega)).mono ?_; rintro e w1 ⟨rfl, hik⟩; refine ⟨_, rfl, ?_⟩; have S1 := Aside0.mk (IK.trans (IK.set hG hb (.inr ⟨_, _, rfl, rfl⟩)) hik); have q3 := S1.out.rows _ _ _ _ q2; clear hik hb q1 q2 hf HR1) | ((with_reducible refine gate_dst (N := 34) rfl ?_); refine gL_ (some 34) Try.func36 _ ?_; refine (mark_ints G A2 n2 c2 (K + 1 + n1) _ (HR2.out.to S1.out) (by omega) (by omega) (by omega)).mono ?_; rintro e w2 ⟨rfl, hik⟩; refine ⟨_, rfl, ?_⟩; have S2 := Aside0.mk (hIK.out.trans (S1.out.trans hik)); clear hik q3 S1 HR2))
      go_roundw
      case rel => exact ⟨i + 1, K + 1 + n1 + n2, by omega, by go_num, rfl, by omega, by omega, S2⟩
      case measure => simp [intOf]; omega
    · have hin : i = n := by omega
      subst hin
      clear hr
      go_wp2
      go_ret
      exact ⟨K, rfl, hk0, hk1, hIK.out⟩
end Go.Proofs.Ytegbmillbbcmfaa.Q
