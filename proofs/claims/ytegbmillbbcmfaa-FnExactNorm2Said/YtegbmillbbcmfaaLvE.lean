/-
The functions that the laws of vectors call, in short words. Conditions: those of the theorems.
-/
import Derived.Test.YtegbmillbbcmfaaLvD
import Derived.Test.YtegbmillbbcmfaaQxNorm2
namespace Go.Proofs.Ytegbmillbbcmfaa.Q
open Go.RowKit Go.Proofs.YtegbmillbbcmfaaW.PrintWords Go.Proofs.YtegbmillbbcmfaaW.PrintLast Go.Proofs.YtegbmillbbcmfaaW.PrintMore
set_option linter.unusedVariables false
set_option linter.unusedSimpArgs false
section
variable {w W : World} {L : List Fa} {n n' : Bool} {u1 u2 u3 u4 : Value} {l1 l2 l3 l4 m1 m2 : List Int} {A B : Option Addr} {a b c d : Nat} {xs ys : List S32} {lo hi lo' hi' b1 h1 b2 h2 : Nat}
theorem v_sz (k : Nat) {l0 : List S40} {i r : Int} (h0 : Kd.C k40 W A l0.length l0) (hc : l0.length ≤ c) (H : laws_szRatS.f k l0 i = some r) : Calls Try.prog 7 #[.slice A l0.length c, .int .i64 i] W fun e w' => e = .returned (.int .i64 r) ∧ Below W.heap.size W w' :=
  laws_szRatS.calls k A c l0 i r W h0 hc H
theorem v_tr (k : Nat) {l0 : List S40} (h0 : Kd.C k40 W A l0.length l0) (hc : l0.length ≤ c) (H : laws_toRatS.f k l0 = some xs) : Calls Try.prog 9 #[.slice A l0.length c] W fun e w' => ∃ B d, e = .returned (.slice B xs.length d) ∧ Kd.R k32 32 w' W.heap.size (fun _ => True) (.slice B xs.length d) xs ∧ Below W.heap.size W w' := by
  refine (laws_toRatS.calls k A c l0 xs W h0 hc H).mono fun e w' => ?_
  rintro ⟨v, rfl, h, hb⟩
  have h' := Kd.S_R h
  obtain ⟨B, d, rfl⟩ := Kd.R_slice h'
  exact ⟨B, d, rfl, h', hb⟩
theorem v_es (k : Nat) {r : Bool} (S : Aside0 (Sd w W L)) (i j : Nat) (hx : L[i]? = some ⟨PX (.slice A a c) xs b1 h1, lo, hi⟩) (hy : L[j]? = some ⟨PX (.slice B b d) ys b2 h2, lo', hi'⟩) (H : laws_eqRatS.f k xs ys = some r) :
    Calls Try.prog 11 #[.slice A a c, .slice B b d] W fun e w' => e = .returned (.bool r) ∧ Below W.heap.size W w' := by
  obtain ⟨rfl, x1, x2⟩ := Sd.rc S i hx
  obtain ⟨rfl, y1, y2⟩ := Sd.rc S j hy
  exact laws_eqRatS.calls k A c xs B d ys r W x2 x1 y2 y1 H
theorem v_eq (k : Nat) {r : Bool} (h1 : RV W u1 l1) (h2 : RV W u2 l2) (h3 : RV W u3 l3) (h4 : RV W u4 l4) (H : laws_eqRat.f k n l1 l2 n' l3 l4 = some r) : Calls Try.prog 16 #[.agg #[.bool n, u1, u2], .agg #[.bool n', u3, u4]] W fun e w' => e = .returned (.bool r) ∧ Below W.heap.size W w' := by
  obtain ⟨A1, c1, rfl, x1, y1⟩ := h1.slice
  obtain ⟨A2, c2, rfl, x2, y2⟩ := h2.slice
  obtain ⟨A3, c3, rfl, x3, y3⟩ := h3.slice
  obtain ⟨A4, c4, rfl, x4, y4⟩ := h4.slice
  exact laws_eqRat.calls k n A1 c1 l1 A2 c2 l2 n' A3 c3 l3 A4 c4 l4 r W y1 x1 y2 x2 y3 x3 y4 x4 H
theorem v_hd (k : Nat) {i r : Int} (h1 : RV W u1 l1) (h2 : RV W u2 l2) (H : laws_heldRat.f k n l1 l2 i = some r) : Calls Try.prog 19 #[.agg #[.bool n, u1, u2], .int .i64 i] W fun e w' => e = .returned (.int .i64 r) ∧ Below W.heap.size W w' := by
  obtain ⟨A1, c1, rfl, x1, y1⟩ := h1.slice
  obtain ⟨A2, c2, rfl, x2, y2⟩ := h2.slice
  exact laws_heldRat.calls k n A1 c1 l1 A2 c2 l2 i r W y1 x1 y2 x2 H
theorem v_mr (k : Nat) {i r : Int} (S : Aside0 (Sd w W L)) (j : Nat) (hx : L[j]? = some ⟨PR u1 u2 l1 l2 lo hi, lo, hi⟩) (H : laws_markRat.f k n l1 l2 i = some (r, m1, m2)) :
    Calls Try.prog 18 #[.agg #[.bool n, u1, u2], .int .i64 i] W fun e w' => e = .returned (.int .i64 r) ∧ Aside0 (Sd w w' (L.set j ⟨PM u1 u2 m1 m2, lo, hi⟩)) := by
  obtain ⟨R1, R2⟩ : PR u1 u2 l1 l2 lo hi W := Sd.get S j hx
  have hlo : w.heap.size ≤ lo := (S.out.2.1 j _ hx).2.1
  have q1 : ∀ k, u1.ownBlock = some k → lo ≤ k ∧ k < hi := fun k hk => ⟨Kd.R_base R1 k hk, (R1.1 k hk).1⟩
  have q2 : ∀ k, u2.ownBlock = some k → lo ≤ k ∧ k < hi := fun k hk => ⟨Kd.R_base R2 k hk, (R2.1 k hk).1⟩
  refine (laws_markRat.calls k n (fun k => some k = u1.ownBlock) u1 l1 (fun k => some k = u2.ownBlock) u2 l2 i r m1 m2 w W S.out.1 (Kd.R_lower (own_R R1) hlo) (fun k h1 h2 => (R1.1 k h1.symm).2 h2) (Kd.R_lower (own_R R2) hlo) (fun k h1 h2 => (R2.1 k h1.symm).2 h2) H).mono fun e w' => ?_
  rintro ⟨rfl, r1, r2, hb, hk⟩
  exact ⟨rfl, Sd.turn S j hx hb hk.1 (fun k hl hn => hk.2 k hl (fun hs => hs.elim (fun z => hn (q1 k z.symm)) (fun z => hn (q2 k z.symm)))) (foot_and (foot_own r1 q1) (foot_own r2 q2))⟩
theorem v_sn (k : Nat) {r : Int} (S : Aside0 (Sd w W L)) (i : Nat) (hx : L[i]? = some ⟨PX (.slice A a c) xs b1 h1, lo, hi⟩) (H : spec_Norm2.f k xs = some (n, l1, l2, r)) :
    Calls Try.prog 20 #[.slice A a c] W fun e w' => ∃ A1 c1 A2 c2, e = .returned (.tuple #[.agg #[.bool n, .slice A1 l1.length c1, .slice A2 l2.length c2], .int .i64 r]) ∧ Kd.R (Kd.int .i64) 3 w' W.heap.size (fun k => some k ≠ (Value.slice A2 l2.length c2).ownBlock) (.slice A1 l1.length c1) l1 ∧ Kd.R (Kd.int .i64) 3 w' W.heap.size (fun k => some k ≠ (Value.slice A1 l1.length c1).ownBlock) (.slice A2 l2.length c2) l2 ∧ Below W.heap.size W w' := by
  obtain ⟨rfl, x1, x2⟩ := Sd.rc S i hx
  refine (spec_Norm2.calls k A c xs n l1 l2 r W x2 x1 H).mono fun e w' => ?_
  rintro ⟨v1, v2, rfl, r1, r2, hb⟩
  obtain ⟨A1, c1, rfl⟩ := Kd.R_slice r1
  obtain ⟨A2, c2, rfl⟩ := Kd.R_slice r2
  exact ⟨A1, c1, A2, c2, rfl, r1, r2, hb⟩
theorem v_in (k : Nat) {r : Int} (S : Aside0 (Sd w W L)) (i : Nat) (hx : L[i]? = some ⟨PX (.slice A a c) xs b1 h1, lo, hi⟩) (H : impl_Norm2.f k xs = some (n, l1, l2, r)) :
    Calls Try.prog 21 #[.slice A a c] W fun e w' => ∃ A1 c1 A2 c2, e = .returned (.tuple #[.agg #[.bool n, .slice A1 l1.length c1, .slice A2 l2.length c2], .int .i64 r]) ∧ Kd.R (Kd.int .i64) 3 w' W.heap.size (fun k => some k ≠ (Value.slice A2 l2.length c2).ownBlock) (.slice A1 l1.length c1) l1 ∧ Kd.R (Kd.int .i64) 3 w' W.heap.size (fun k => some k ≠ (Value.slice A1 l1.length c1).ownBlock) (.slice A2 l2.length c2) l2 ∧ Below W.heap.size W w' := by
  obtain ⟨rfl, x1, x2⟩ := Sd.rc S i hx
  refine (impl_Norm2.calls k A c xs n l1 l2 r W x2 x1 H).mono fun e w' => ?_
  rintro ⟨v1, v2, rfl, r1, r2, hb⟩
  obtain ⟨A1, c1, rfl⟩ := Kd.R_slice r1
  obtain ⟨A2, c2, rfl⟩ := Kd.R_slice r2
  exact ⟨A1, c1, A2, c2, rfl, r1, r2, hb⟩
end
end Go.Proofs.Ytegbmillbbcmfaa.Q
