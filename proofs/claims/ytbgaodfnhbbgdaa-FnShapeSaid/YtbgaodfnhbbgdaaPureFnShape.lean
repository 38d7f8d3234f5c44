/-
An expression that the reference draws is right; a sign ahead of it makes it one deeper and names no axis more; a sum with the fourth axis has four: the law FnShape holds for all codes. Conditions: those of the given row alone.
-/
import Derived.Test.YtbgaodfnhbbgdaaPsG
import Derived.Test.YtbgaodfnhbbgdaaSxlawsFnShape
namespace Go.Proofs.Ytbgaodfnhbbgdaa.Pure
open Go.RowKit Go.Proofs.Ytbgaodfnhbbgdaa.S Go.Proofs.Ytbgaodfnhbbgdaa.Ps Go.Proofs.YtbgaodfnhbbgdaaW.PrintWords Go.Proofs.YtbgaodfnhbbgdaaW.PrintLast Go.Proofs.YtbgaodfnhbbgdaaW.PrintMore
set_option linter.unusedVariables false
set_option linter.unusedSimpArgs false

theorem neg_up {x : List S46} {bs ds : List Int} (h : sh x [] [] = some (bs, ds)) (h0 : 0 < x.length) (hl : x.length ≤ 15) (hb : rd bs ((x.length - 1 : Nat) : Int) = 0) (hd : 1 ≤ rd ds ((x.length - 1 : Nat) : Int) ∧ rd ds ((x.length - 1 : Nat) : Int) ≤ 4) (ha : ∀ y ∈ ds, y ≤ 4) :
    exAns (x ++ [(⟨7, (x.length : Int) - 1, 0, 0⟩ : S46)]) = true ∧ Ev (fun k => impl_DepthOf.f k (x ++ [(⟨7, (x.length : Int) - 1, 0, 0⟩ : S46)])) (rd ds ((x.length - 1 : Nat) : Int) + 1, 0) := by
  obtain ⟨fb, fd, hf⟩ := sh_fine h
  have v : V bs (⟨7, (x.length : Int) - 1, 0, 0⟩ : S46) := ⟨.inr (.inl ⟨rfl, by simp only; omega, by simp only; omega, rfl, rfl⟩), fun _ => by simp only; omega, fun e => absurd (show kd 7 = 2 from e) (by decide)⟩
  have s := sh_push h v
  have k1 : kd 7 = 1 := by decide
  have ea : (x.length : Int) - 1 = ((x.length - 1 : Nat) : Int) := by omega
  have e1 : bgn bs (⟨7, (x.length : Int) - 1, 0, 0⟩ : S46) = 0 := by unfold bgn; simp only; rw [if_neg (by omega), ea]; exact hb
  have e2 : dpn ds (⟨7, (x.length : Int) - 1, 0, 0⟩ : S46) = rd ds ((x.length - 1 : Nat) : Int) + 1 := by unfold dpn; simp only; rw [if_neg (by omega), if_pos k1, ea]
  rw [e1, e2] at s
  have el : (x ++ [(⟨7, (x.length : Int) - 1, 0, 0⟩ : S46)]).length - 1 = x.length := by simp
  have ex := ex_yes s (by simp) (by simp; omega) (by rw [el]; exact last_rd _ _ fb) (fun y hy => by
    rcases List.mem_append.1 hy with e | e
    · have := ha y e; omega
    · rw [List.mem_singleton.1 e]; omega)
  have dp := depth_ev s (by simp) (by simp; omega) ex
  rw [el, last_rd _ _ fd] at dp
  exact ⟨ex, dp⟩
theorem sum_up {x : List S46} {bs ds : List Int} (h : sh x [] [] = some (bs, ds)) (h0 : 0 < x.length) (hl : x.length ≤ 15) (hb : rd bs ((x.length - 1 : Nat) : Int) = 0) (hd : 1 ≤ rd ds ((x.length - 1 : Nat) : Int) ∧ rd ds ((x.length - 1 : Nat) : Int) ≤ 4) (ha : ∀ y ∈ ds, y ≤ 4) :
    exAns (x ++ [(⟨2, 0, 0, 3⟩ : S46), (⟨3, (x.length : Int) - 1, (x.length : Int), 0⟩ : S46)]) = true := by
  obtain ⟨fb, fd, hf⟩ := sh_fine h
  have v : V bs (⟨2, 0, 0, 3⟩ : S46) := ⟨.inr (.inr (.inr (.inl ⟨rfl, rfl, rfl, by decide, by decide⟩))), fun e => absurd (show kd 2 = 1 from e) (by decide), fun e => absurd (show kd 2 = 2 from e) (by decide)⟩
  have s := sh_push h v
  have e1 : bgn bs (⟨2, 0, 0, 3⟩ : S46) = x.length := by unfold bgn; rw [if_pos (show kd 2 = 0 from by decide), fb]
  have e2 : dpn ds (⟨2, 0, 0, 3⟩ : S46) = 1 := by unfold dpn; rw [if_pos (show kd 2 = 0 from by decide)]
  rw [e1, e2] at s
  have lb : (bs ++ [(x.length : Int)]).length = x.length + 1 := by simp [fb]
  have r1 : rd (bs ++ [(x.length : Int)]) (x.length : Int) = x.length := last_rd _ _ fb
  have r2 : rd (bs ++ [(x.length : Int)]) ((x.length - 1 : Nat) : Int) = 0 := by rw [rd_left _ _ _ (by omega)]; exact hb
  have r3 : rd (ds ++ [1]) (x.length : Int) = 1 := last_rd _ _ fd
  have r4 : rd (ds ++ [1]) ((x.length - 1 : Nat) : Int) = rd ds ((x.length - 1 : Nat) : Int) := rd_left _ _ _ (by omega)
  have ea : (x.length : Int) - 1 = ((x.length - 1 : Nat) : Int) := by omega
  have v2 : V (bs ++ [(x.length : Int)]) (⟨3, (x.length : Int) - 1, (x.length : Int), 0⟩ : S46) := by
    refine ⟨.inl ⟨show (3 : Int) ≤ 3 by decide, show (3 : Int) ≤ 6 by decide, ?_, ?_, ?_, ?_, rfl⟩, fun e => absurd (show kd 3 = 1 from e) (by decide), fun _ => ⟨?_, ?_⟩⟩
    all_goals simp only
    · omega
    · omega
    · omega
    · omega
    · omega
    · rw [r1]
  have s2 := sh_push s v2
  have k3 : kd 3 = 2 := by decide
  have e3 : bgn (bs ++ [(x.length : Int)]) (⟨3, (x.length : Int) - 1, (x.length : Int), 0⟩ : S46) = 0 := by unfold bgn; simp only; rw [if_neg (by omega), ea]; exact r2
  have e4 : dpn (ds ++ [1]) (⟨3, (x.length : Int) - 1, (x.length : Int), 0⟩ : S46) ≤ 12 := by
    unfold dpn; simp only; rw [if_neg (by omega), if_neg (by omega), ea, r3, r4]; unfold mx; split <;> omega
  rw [e3] at s2
  have ex : x ++ [(⟨2, 0, 0, 3⟩ : S46), (⟨3, (x.length : Int) - 1, (x.length : Int), 0⟩ : S46)] = (x ++ [(⟨2, 0, 0, 3⟩ : S46)]) ++ [(⟨3, (x.length : Int) - 1, (x.length : Int), 0⟩ : S46)] := by simp
  rw [ex]
  refine ex_yes s2 (by simp) (by simp; omega) ?_ (fun y hy => ?_)
  · rw [show ((x ++ [(⟨2, 0, 0, 3⟩ : S46)]) ++ [(⟨3, (x.length : Int) - 1, (x.length : Int), 0⟩ : S46)]).length - 1 = x.length + 1 by simp]
    exact last_rd _ _ lb
  · rcases List.mem_append.1 hy with e | e
    · rcases List.mem_append.1 e with e | e
      · have := ha y e; omega
      · rw [List.mem_singleton.1 e]; decide
    · rw [List.mem_singleton.1 e]; exact e4
theorem FnShape : laws_FnShape.Pure := by
  intro l hl1 hl2 hby
  by_cases hbig : (l.length : Int) > 1048576
  · exact ⟨0, by unfold laws_FnShape.f; rw [if_pos hbig]⟩
  obtain ⟨x, bs, ds, ⟨K0, e0⟩, hs, h0, hl, hb, hd, ha, hv⟩ := drawn_ev (by_wf hby) (by omega)
  have hex := ex_yes hs h0 (by omega) hb (fun y hy => by have := ha y hy; omega)
  obtain ⟨K1, e1⟩ := depth_ev hs h0 (by omega) hex
  obtain ⟨K2, e2⟩ := dim_ev (x := x) (by omega) hex
  obtain ⟨hn, K3, e3⟩ := neg_up hs h0 hl hb hd ha
  have hm := sum_up hs h0 hl hb hd ha
  have w1 : wrap64 ((x.length : Int) - 1) = (x.length : Int) - 1 := wrap_in (by omega) (by omega)
  obtain ⟨K4, e4⟩ := dim_ev (x := x ++ [(⟨7, (x.length : Int) - 1, 0, 0⟩ : S46)]) (by simp; omega) hn
  obtain ⟨K5, e5⟩ := dim_ev (x := x ++ [(⟨2, 0, 0, 3⟩ : S46), (⟨3, (x.length : Int) - 1, (x.length : Int), 0⟩ : S46)]) (by simp; omega) hm
  have hdim := dim_in (x := x) (c := 0) hv (by omega)
  have f4 : (x ++ [(⟨7, (x.length : Int) - 1, 0, 0⟩ : S46)]).foldl dmS 0 = x.foldl dmS 0 := by
    rw [List.foldl_append]; rfl
  have f5 : (x ++ [(⟨2, 0, 0, 3⟩ : S46), (⟨3, (x.length : Int) - 1, (x.length : Int), 0⟩ : S46)]).foldl dmS 0 = 4 := by
    rw [List.foldl_append]
    generalize x.foldl dmS 0 = c at *
    show dmS (dmS c ⟨2, 0, 0, 3⟩) ⟨3, (x.length : Int) - 1, (x.length : Int), 0⟩ = 4
    unfold dmS
    simp only
    rw [if_neg (show ¬ (3 : Int) = 2 by decide), if_pos trivial, show wrap64 (3 + 1) = 4 from by simp only [wrap64]; omega]
    unfold mx
    split <;> omega
  rw [f4] at e4
  rw [f5] at e5
  generalize x.foldl dmS 0 = n at *
  generalize rd ds ((x.length - 1 : Nat) : Int) = D at *
  obtain ⟨K, hK⟩ : ∃ K, K = K0 + K1 + K2 + K3 + K4 + K5 := ⟨_, rfl⟩
  refine ⟨K + 1, ?_⟩
  have e0' := e0 (K + 1) (by omega)
  have e1' := e1 (K + 1) (by omega)
  have e2' := e2 (K + 1) (by omega)
  have e3' := e3 K (by omega)
  have e4' := e4 K (by omega)
  have e5' := e5 K (by omega)
  simp only at e0' e1' e2' e3' e4' e5'
  have hD : wrap64 (D + 1) = D + 1 := wrap_in (by omega) (by omega)
  unfold laws_FnShape.f
  rw [if_neg hbig, e0', Option.bind_some, e1', Option.bind_some, e2', Option.bind_some]
  simp only [if_true]
  rw [if_neg (show ¬ D < 1 by omega), decide_eq_false (show ¬ D > 12 by omega), laws_FnShape.j0]
  rw [if_neg (by simp)]
  simp only [Option.bind_some, List.length_nil, List.length_cons, List.nil_append, List.length_append, Nat.zero_add, w1]
  rw [if_pos (by omega), if_pos (by omega), if_pos (by omega), if_pos (by omega), e3', Option.bind_some, e4', Option.bind_some, e5', Option.bind_some]
  simp only [hD, if_true]
  rfl
end Go.Proofs.Ytbgaodfnhbbgdaa.Pure
