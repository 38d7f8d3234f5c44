/-
Which nodes are an expression: where each node's tree begins, how deep it is; the program and the reference both answer by it.
-/
import Derived.Test.YtbphhccpkngfoaaGreatDoorPwF
import Derived.Test.YtbphhccpkngfoaaGreatDoorQla
import Derived.Test.YtbphhccpkngfoaaGreatDoorQxl05First
import Derived.Test.YtbphhccpkngfoaaGreatDoorQxshape
import Derived.Test.YtbphhccpkngfoaaGreatDoorQsm
import Derived.Test.YtbphhccpkngfoaaGreatDoorQxExprOK
namespace Go.Proofs.YtbphhccpkngfoaaGreatDoor.Pt
open Go.RowKit Go.Proofs.YtbphhccpkngfoaaGreatDoor.Q Go.Proofs.YtbphhccpkngfoaaGreatDoorW.PrintWords Go.Proofs.YtbphhccpkngfoaaGreatDoorW.PrintLast Go.Proofs.YtbphhccpkngfoaaGreatDoorW.PrintMore
set_option linter.unusedVariables false
set_option linter.unusedSimpArgs false

theorem eqExpr_ev (x : List S49) (hb : x.length ≤ 1048576) : Ev (fun k => laws_eqExpr.f k x x) true := Ev.bind (f := fun _ t => if t = true then some true else some false) (eqNodes_ev x hb) (Ev.now _)
theorem kd_of (op : Int) : (kd op = 0 ∧ ¬ (3 ≤ op ∧ op ≤ 6) ∧ ¬ (op = 7 ∨ op = 8)) ∨ (kd op = 1 ∧ ¬ (3 ≤ op ∧ op ≤ 6) ∧ (op = 7 ∨ op = 8)) ∨ (kd op = 2 ∧ (3 ≤ op ∧ op ≤ 6) ∧ ¬ (op = 7 ∨ op = 8)) := by
  by_cases g : 3 ≤ op ∧ op ≤ 6
  · exact .inr (.inr ⟨kd_two g, g, by omega⟩)
  · by_cases g' : op = 7 ∨ op = 8
    · exact .inr (.inl ⟨kd_one g', g, g'⟩)
    · exact .inl ⟨kd_zero g g', g, g'⟩
/-- A node is right behind trees that begin at 'bs'. -/
def V (bs : List Int) (x : S49) : Prop := Plain x.f0 x.f1 x.f2 x.f3 (bs.length : Int) ∧ (kd x.f0 = 1 → x.f1 = (bs.length : Int) - 1) ∧ (kd x.f0 = 2 → x.f2 = (bs.length : Int) - 1 ∧ x.f1 = rd bs x.f2 - 1)
instance (bs : List Int) (x : S49) : Decidable (V bs x) := by unfold V; infer_instance
def bgn (bs : List Int) (x : S49) : Int := if kd x.f0 = 0 then (bs.length : Int) else rd bs x.f1
def dpn (ds : List Int) (x : S49) : Int := if kd x.f0 = 0 then 1 else if kd x.f0 = 1 then rd ds x.f1 + 1 else mx (rd ds x.f1) (rd ds x.f2) + 1
def sh : List S49 → List Int → List Int → Option (List Int × List Int)
  | [], bs, ds => some (bs, ds)
  | x :: xs, bs, ds => if V bs x then sh xs (bs ++ [bgn bs x]) (ds ++ [dpn ds x]) else none
structure Fine (bs ds : List Int) : Prop where
  len : bs.length = ds.length
  b : ∀ j : Nat, j < bs.length → 0 ≤ rd bs j ∧ rd bs j ≤ j
  d : ∀ j : Nat, j < ds.length → 1 ≤ rd ds j ∧ rd ds j ≤ (j : Int) + 1
theorem plain_a {op a b n i : Int} (h : Plain op a b n i) (k : kd op = 1 ∨ kd op = 2) : 0 ≤ a ∧ a ≤ i - 1 := by
  rcases h with h | h | h | h | h
  · omega
  · omega
  · omega
  · rw [kd_zero (by omega) (by omega)] at k; omega
  · rw [kd_zero (by omega) (by omega)] at k; omega
theorem plain_b {op a b n i : Int} (h : Plain op a b n i) (k : kd op = 2) : 0 ≤ b ∧ b ≤ i - 1 := by
  rcases h with h | h | h | h | h
  · omega
  · rw [kd_one (by omega)] at k; omega
  · rw [kd_one (by omega)] at k; omega
  · rw [kd_zero (by omega) (by omega)] at k; omega
  · rw [kd_zero (by omega) (by omega)] at k; omega
theorem rd_in {P : Int → Int → Prop} {l : List Int} (h : ∀ j : Nat, j < l.length → P (rd l j) j) {a : Int} (h0 : 0 ≤ a) (h1 : a < l.length) : P (rd l a) a := by
  obtain ⟨j, rfl⟩ : ∃ j : Nat, a = j := ⟨a.toNat, by omega⟩
  exact h j (by omega)
theorem Fine.ba {bs ds : List Int} (h : Fine bs ds) {a : Int} (h0 : 0 ≤ a) (h1 : a < bs.length) : 0 ≤ rd bs a ∧ rd bs a ≤ a := rd_in (P := fun y j => 0 ≤ y ∧ y ≤ j) h.b h0 h1
theorem Fine.da {bs ds : List Int} (h : Fine bs ds) {a : Int} (h0 : 0 ≤ a) (h1 : a < ds.length) : 1 ≤ rd ds a ∧ rd ds a ≤ a + 1 := rd_in (P := fun y j => 1 ≤ y ∧ y ≤ j + 1) h.d h0 h1
theorem rd_next {P : Int → Nat → Prop} {l : List Int} {y : Int} (h : ∀ j : Nat, j < l.length → P (rd l j) j) (hy : P y l.length) : ∀ j : Nat, j < (l ++ [y]).length → P (rd (l ++ [y]) j) j := by
  intro j hj
  simp only [List.length_append, List.length_cons, List.length_nil] at hj
  by_cases e : j < l.length
  · rw [rd_left _ _ _ e]; exact h j e
  · obtain rfl : j = l.length := by omega
    rw [rd_last]; exact hy
theorem V.bgn_in {bs ds : List Int} (h : Fine bs ds) {x : S49} (v : V bs x) : 0 ≤ bgn bs x ∧ bgn bs x ≤ (bs.length : Int) := by
  unfold bgn
  rcases kd_of x.f0 with k | k | k
  · rw [if_pos k.1]; omega
  · rw [if_neg (by omega)]
    have a := plain_a v.1 (.inl k.1)
    have := h.ba (a := x.f1) (by omega) (by omega)
    omega
  · rw [if_neg (by omega)]
    have a := plain_a v.1 (.inr k.1)
    have := h.ba (a := x.f1) (by omega) (by omega)
    omega
theorem V.dpn_in {bs ds : List Int} (h : Fine bs ds) {x : S49} (v : V bs x) : 1 ≤ dpn ds x ∧ dpn ds x ≤ (ds.length : Int) + 1 := by
  have hl := h.len
  unfold dpn
  rcases kd_of x.f0 with k | k | k
  · rw [if_pos k.1]; omega
  · rw [if_neg (by omega), if_pos k.1]
    have a := plain_a v.1 (.inl k.1)
    have := h.da (a := x.f1) (by omega) (by omega)
    omega
  · rw [if_neg (by omega), if_neg (by omega)]
    have a := plain_a v.1 (.inr k.1)
    have b := plain_b v.1 k.1
    have := h.da (a := x.f1) (by omega) (by omega)
    have := h.da (a := x.f2) (by omega) (by omega)
    unfold mx
    split <;> omega
theorem Fine.next {bs ds : List Int} (h : Fine bs ds) {x : S49} (v : V bs x) : Fine (bs ++ [bgn bs x]) (ds ++ [dpn ds x]) :=
  ⟨by simp [h.len], rd_next (P := fun y j => 0 ≤ y ∧ y ≤ (j : Int)) h.b (v.bgn_in h), rd_next (P := fun y j => 1 ≤ y ∧ y ≤ (j : Int) + 1) h.d (v.dpn_in h)⟩
theorem Fine.zero : Fine [] [] := ⟨rfl, fun j hj => absurd hj (by simp), fun j hj => absurd hj (by simp)⟩
theorem sh_len : ∀ (xs : List S49) (bs ds b d : List Int), Fine bs ds → sh xs bs ds = some (b, d) → b.length = bs.length + xs.length ∧ Fine b d ∧ ∃ e, d = ds ++ e := by
  intro xs
  induction xs with
  | nil =>
    intro bs ds b d hf h
    simp only [sh, Option.some.injEq, Prod.mk.injEq] at h
    obtain ⟨rfl, rfl⟩ := h
    exact ⟨rfl, hf, [], by simp⟩
  | cons x xs ih =>
    intro bs ds b d hf h
    simp only [sh] at h
    split at h
    · rename_i v
      obtain ⟨h1, h2, e, h3⟩ := ih _ _ b d (hf.next v) h
      refine ⟨by rw [h1]; simp; omega, h2, dpn ds x :: e, by rw [h3]; simp⟩
    · cases h
def shAns : Option (List Int × List Int) → List Int × List Int × Bool
  | some (b, d) => (b, d, true)
  | none => ([], [], false)
theorem impl_sh (x : List S49) (hb : x.length ≤ 1048576) : ∀ (d i : Nat), i + d = x.length → ∀ bs ds : List Int, bs.length = i → Fine bs ds → Ev (fun k => impl_shape.l0 k bs ds x (x.length : Int) (i : Int)) (shAns (sh (x.drop i) bs ds)) := by
  intro d
  induction d with
  | zero =>
    intro i hd bs ds hi hf
    rw [List.drop_of_length_le (by omega)]
    refine ev_const fun k => ?_
    rw [impl_shape.l0, if_neg (by omega)]; rfl
  | succ d ih =>
    intro i hd bs ds hi hf
    rw [at_next (z := z49) (by omega)]
    generalize hx : x[i]?.getD z49 = n
    have hl := hf.len
    have go : V bs n → Ev (fun k => impl_shape.l0 k (bs ++ [bgn bs n]) (ds ++ [dpn ds n]) x (x.length : Int) ((i + 1 : Nat) : Int)) (shAns (sh (x.drop (i + 1)) (bs ++ [bgn bs n]) (ds ++ [dpn ds n]))) := fun v => ih (i + 1) (by omega) _ _ (by simp; omega) (hf.next v)
    unfold sh
    have run : ∀ r, (∃ K, ∀ k, K ≤ k → impl_shape.l0 (k + 2) bs ds x (x.length : Int) (i : Int) = some r) → Ev (fun k => impl_shape.l0 k bs ds x (x.length : Int) (i : Int)) r := by
      intro r ⟨K, h⟩
      refine ⟨K + 2, fun k hk => ?_⟩
      obtain ⟨m, rfl⟩ : ∃ m, k = m + 2 := ⟨k - 2, by omega⟩
      exact h m (by omega)
    apply run
    have st : ∀ k, impl_shape.l0 (k + 2) bs ds x (x.length : Int) (i : Int) = if decide (Plain n.f0 n.f1 n.f2 n.f3 i) = true then (if kd n.f0 = 1 then (if n.f1 = (wrap64 ((i : Int) - 1)) then (if 0 ≤ n.f1 then (if n.f1 < (bs.length : Int) then (if n.f1 < (ds.length : Int) then (if bs.length < 17592186044416 then (if ds.length < 17592186044416 then (impl_shape.l0 (k + 1) (bs ++ [rd bs n.f1]) (ds ++ [wrap64 ((rd ds n.f1) + 1)]) x (x.length : Int) (wrap64 ((i : Int) + 1))) else none) else none) else none) else none) else none) else (some (([] : List Int), ([] : List Int), false))) else (if kd n.f0 = 2 then (if n.f2 = (wrap64 ((i : Int) - 1)) then (if 0 ≤ n.f2 then (if n.f2 < (bs.length : Int) then (if n.f1 = (wrap64 ((rd bs n.f2) - 1)) then (if 0 ≤ n.f1 then (if n.f1 < (bs.length : Int) then (if n.f1 < (ds.length : Int) then (if n.f2 < (ds.length : Int) then (if bs.length < 17592186044416 then (if ds.length < 17592186044416 then (impl_shape.l0 (k + 1) (bs ++ [rd bs n.f1]) (ds ++ [wrap64 ((mx (rd ds n.f1) (rd ds n.f2)) + 1)]) x (x.length : Int) (wrap64 ((i : Int) + 1))) else none) else none) else none) else none) else none) else none) else (some (([] : List Int), ([] : List Int), false))) else none) else none) else (some (([] : List Int), ([] : List Int), false))) else (if bs.length < 17592186044416 then (if ds.length < 17592186044416 then (impl_shape.l0 (k + 1) (bs ++ [(i : Int)]) (ds ++ [1]) x (x.length : Int) (wrap64 ((i : Int) + 1))) else none) else none))) else (some (([] : List Int), ([] : List Int), false)) := by
      intro k
      rw [impl_shape.l0, if_pos (by omega), if_pos (by omega), if_pos (by omega), rdT, hx, plain_f k _ _ _ _ _ (by omega), Option.bind_some, kids_f, Option.bind_some]
    by_cases hp : Plain n.f0 n.f1 n.f2 n.f3 i
    · have hp' : Plain n.f0 n.f1 n.f2 n.f3 (bs.length : Int) := by rw [hi]; exact hp
      rcases kd_of n.f0 with k | k | k
      · have v : V bs n := ⟨hp', fun h => by omega, fun h => by omega⟩
        rw [if_pos v]
        obtain ⟨K, e⟩ := go v
        refine ⟨K, fun m hm => ?_⟩
        rw [st, if_pos (decide_eq_true hp), if_neg (by omega), if_neg (by omega), if_pos (by omega), if_pos (by omega), wsucc (by omega)]
        have e' := e (m + 1) (by omega)
        simp only at e'
        rw [← e']
        unfold bgn dpn
        rw [if_pos k.1, if_pos k.1, hi]
      · have a := plain_a hp (.inl k.1)
        by_cases ha : n.f1 = (i : Int) - 1
        · have v : V bs n := ⟨hp', fun h => by omega, fun h => by omega⟩
          rw [if_pos v]
          obtain ⟨K, e⟩ := go v
          refine ⟨K, fun m hm => ?_⟩
          have q := hf.da (a := n.f1) (by omega) (by omega)
          rw [st, if_pos (decide_eq_true hp), if_pos k.1, if_pos (by rw [wrap_in (by omega) (by omega)]; exact ha), if_pos (by omega), if_pos (by omega), if_pos (by omega), if_pos (by omega), if_pos (by omega), wsucc (by omega), wrap_in (x := rd ds n.f1 + 1) (by omega) (by omega)]
          have e' := e (m + 1) (by omega)
          simp only at e'
          rw [← e']
          unfold bgn dpn
          rw [if_neg (by omega), if_neg (by omega), if_pos k.1]
        · have v : ¬ V bs n := fun v => ha (by rw [← hi]; exact v.2.1 k.1)
          rw [if_neg v]
          refine ⟨0, fun m hm => ?_⟩
          rw [st, if_pos (decide_eq_true hp), if_pos k.1, if_neg (by rw [wrap_in (by omega) (by omega)]; exact ha)]; rfl
      · have a := plain_a hp (.inr k.1)
        have b := plain_b hp k.1
        have qb := hf.ba (a := n.f2) (by omega) (by omega)
        by_cases hb2 : n.f2 = (i : Int) - 1
        · by_cases ha : n.f1 = rd bs n.f2 - 1
          · have v : V bs n := ⟨hp', fun h => by omega, fun h => ⟨by omega, ha⟩⟩
            rw [if_pos v]
            obtain ⟨K, e⟩ := go v
            refine ⟨K, fun m hm => ?_⟩
            have q := hf.da (a := n.f1) (by omega) (by omega)
            have q2 := hf.da (a := n.f2) (by omega) (by omega)
            have qm : 1 ≤ mx (rd ds n.f1) (rd ds n.f2) ∧ mx (rd ds n.f1) (rd ds n.f2) ≤ i := by unfold mx; split <;> omega
            rw [st, if_pos (decide_eq_true hp), if_neg (by omega), if_pos k.1, if_pos (by rw [wrap_in (by omega) (by omega)]; exact hb2), if_pos (by omega), if_pos (by omega), if_pos (by rw [wrap_in (by omega) (by omega)]; exact ha), if_pos (by omega), if_pos (by omega), if_pos (by omega), if_pos (by omega), if_pos (by omega), if_pos (by omega), wsucc (by omega), wrap_in (x := mx (rd ds n.f1) (rd ds n.f2) + 1) (by omega) (by omega)]
            have e' := e (m + 1) (by omega)
            simp only at e'
            rw [← e']
            unfold bgn dpn
            rw [if_neg (by omega), if_neg (by omega), if_neg (by omega)]
          · have v : ¬ V bs n := fun v => ha (v.2.2 k.1).2
            rw [if_neg v]
            refine ⟨0, fun m hm => ?_⟩
            rw [st, if_pos (decide_eq_true hp), if_neg (by omega), if_pos k.1, if_pos (by rw [wrap_in (by omega) (by omega)]; exact hb2), if_pos (by omega), if_pos (by omega), if_neg (by rw [wrap_in (by omega) (by omega)]; exact ha)]; rfl
        · have v : ¬ V bs n := fun v => hb2 (by rw [← hi]; exact (v.2.2 k.1).1)
          rw [if_neg v]
          refine ⟨0, fun m hm => ?_⟩
          rw [st, if_pos (decide_eq_true hp), if_neg (by omega), if_pos k.1, if_neg (by rw [wrap_in (by omega) (by omega)]; exact hb2)]; rfl
    · have v : ¬ V bs n := fun v => hp (by rw [← hi]; exact v.1)
      rw [if_neg v]
      refine ⟨0, fun m hm => ?_⟩
      rw [st, if_neg (by simp only [decide_eq_true_eq]; exact hp)]; rfl
theorem shape_ev (x : List S49) (hb : x.length ≤ 1048576) : Ev (fun k => impl_shape.f k x) (shAns (sh x [] [])) := impl_sh x hb x.length 0 (by omega) [] [] rfl Fine.zero
theorem mx_le (p q : Int) : mx p q ≤ 12 ↔ p ≤ 12 ∧ q ≤ 12 := by unfold mx; split <;> omega
theorem max_loop (x : List Int) (hb : x.length ≤ 1048576) : ∀ (d i : Nat) (c : Int), i + d = x.length → ∃ m, Ev (fun k => slices_Max_int_int.l0 k x c (i : Int)) m ∧ (m ≤ 12 ↔ c ≤ 12 ∧ ∀ y ∈ x.drop i, y ≤ 12) := by
  intro d
  induction d with
  | zero =>
    intro i c hd
    refine ⟨c, ev_const fun k => ?_, ?_⟩
    · simp only [slices_Max_int_int.l0]; rw [if_neg (by omega)]
    · rw [List.drop_of_length_le (by omega)]; simp
  | succ d ih =>
    intro i c hd
    obtain ⟨m, s, h⟩ := ih (i + 1) (mx c (x[i]?.getD 0)) (by omega)
    refine ⟨m, Ev.step (fun k => ?_) s, ?_⟩
    · simp only [slices_Max_int_int.l0, rd_nat]
      rw [if_pos (by omega), if_pos (by omega), wsucc (by omega)]
    · rw [h, at_next (z := 0) (i := i) (by omega), mx_le]
      simp only [List.mem_cons, forall_eq_or_imp, and_assoc]
theorem max_ev (x : List Int) (h0 : 0 < x.length) (hb : x.length ≤ 1048576) : ∃ m, Ev (fun k => slices_Max_int_int.f k x) m ∧ (m ≤ 12 ↔ ∀ y ∈ x, y ≤ 12) := by
  obtain ⟨m, s, h⟩ := max_loop x hb (x.length - 1) 1 (x[0]?.getD 0) (by omega)
  refine ⟨m, Ev.congr (fun k => ?_) s, ?_⟩
  · unfold slices_Max_int_int.f
    rw [if_neg (by omega), if_pos (by omega)]; rfl
  · rw [h]
    have e := at_next (x := x) (i := 0) (z := 0) h0
    rw [List.drop_zero] at e
    generalize x[0]?.getD 0 = y at e
    rw [e]; simp
def okA (n : Nat) : Option (List Int × List Int) → Bool
  | none => false
  | some (b, d) => decide (rd b ((n - 1 : Nat) : Int) = 0 ∧ ∀ y ∈ d, y ≤ 12)
def exAns (x : List S49) : Bool := if decide (1 ≤ (x.length : Int) ∧ (x.length : Int) ≤ 60) = true then okA x.length (sh x [] []) else false
theorem impl_ex_ev (x : List S49) : Ev (fun k => impl_ExprOK.f k x) (exAns x) := by
  unfold impl_ExprOK.f exAns
  rw [bw_f]
  by_cases h : decide (1 ≤ (x.length : Int) ∧ (x.length : Int) ≤ 60) = true
  · rw [if_pos h]
    have h' := of_decide_eq_true h
    refine Ev.congr (fun k => (if_pos h : (if _ then _ else _) = _)) (Ev.bind (shape_ev x (by omega)) ?_)
    cases hs : sh x [] [] with
    | none => exact Ev.congr (fun k => if_neg (by simp [shAns])) (Ev.now _)
    | some o =>
      obtain ⟨b, d⟩ := o
      obtain ⟨hl, hf, _⟩ := sh_len x [] [] b d Fine.zero hs
      have hl' : b.length = x.length := by rw [hl]; simp
      have hd := hf.len
      refine Ev.congr (fun k => (if_pos rfl : (if _ then _ else _) = _)) ?_
      rw [wrap_in (x := (x.length : Int) - 1) (by omega) (by omega)]
      refine Ev.congr (fun k => (if_pos (by omega) : (if _ then _ else _) = _)) ?_
      refine Ev.congr (fun k => (if_pos (show (x.length : Int) - 1 < (b.length : Int) by omega) : (if _ then _ else _) = _)) ?_
      have en : (x.length : Int) - 1 = ((x.length - 1 : Nat) : Int) := by omega
      rw [en]
      show Ev _ (decide (rd b ((x.length - 1 : Nat) : Int) = 0 ∧ ∀ y ∈ d, y ≤ 12))
      by_cases hz : rd b ((x.length - 1 : Nat) : Int) = 0
      · refine Ev.congr (fun k => (if_pos hz : (if _ then _ else _) = _)) ?_
        obtain ⟨m, s, hm⟩ := max_ev d (by omega) (by omega)
        rw [show decide (rd b ((x.length - 1 : Nat) : Int) = 0 ∧ ∀ y ∈ d, y ≤ 12) = decide (m ≤ 12) from decide_eq_decide.2 (by rw [hm]; exact ⟨fun g => g.2, fun g => ⟨hz, g⟩⟩)]
        exact Ev.bind (f := fun _ t => some (decide (t ≤ 12))) s (Ev.now _)
      · refine Ev.congr (fun k => (if_neg hz : (if _ then _ else _) = _)) ?_
        rw [decide_eq_false fun g => hz g.1]
        exact Ev.now _
  · rw [if_neg h]
    exact Ev.congr (fun k => (if_neg h : (if _ then _ else _) = _)) (Ev.now _)
/-- The reference finds where each tree begins. -/
def First (x : List S49) (bs : List Int) : Prop := ∀ (j : Nat), j < bs.length → ∀ k, j + 1 ≤ k → spec_l05First.f k x (j : Int) = some (rd bs j)
theorem first_f (k : Nat) (x : List S49) (i : Nat) (hi : i < x.length) (n : S49) (hx : x[i]?.getD z49 = n) (ha : kd n.f0 ≠ 0 → 0 ≤ n.f1 ∧ n.f1 < x.length) : spec_l05First.f (k + 1) x (i : Int) = if kd n.f0 = 0 then some (i : Int) else spec_l05First.f k x n.f1 := by
  unfold spec_l05First.f
  rw [if_pos (by omega), if_pos (by omega), rdT, hx, spec_l05First.l0, two_f, Option.bind_some]
  rcases kd_of n.f0 with q | q | q
  · rw [if_neg (by simp only [decide_eq_true_eq]; exact q.2.1), one_f, Option.bind_some, if_neg (by simp only [decide_eq_true_eq]; exact q.2.2), if_pos q.1]
  · have h := ha (by omega)
    rw [if_neg (by simp only [decide_eq_true_eq]; exact q.2.1), one_f, Option.bind_some, if_pos (decide_eq_true q.2.2), if_neg (show ¬ kd n.f0 = 0 by omega)]
  · have h := ha (by omega)
    rw [if_pos (decide_eq_true q.2.1), if_neg (show ¬ kd n.f0 = 0 by omega)]
theorem V.a_in {bs : List Int} {n : S49} (v : V bs n) (h : kd n.f0 ≠ 0) : 0 ≤ n.f1 ∧ n.f1 < (bs.length : Int) := by
  have := plain_a v.1 (by have := kd_of n.f0; omega)
  omega
theorem First.next {x : List S49} {bs : List Int} (h : First x bs) (hi : bs.length < x.length) {n : S49} (hx : x[bs.length]?.getD z49 = n) (v : V bs n) : First x (bs ++ [bgn bs n]) := by
  refine rd_next (P := fun y j => ∀ k, j + 1 ≤ k → spec_l05First.f k x (j : Int) = some y) h ?_
  intro k hk
  obtain ⟨m, rfl⟩ : ∃ m, k = m + 1 := ⟨k - 1, by omega⟩
  rw [first_f m x bs.length hi n hx (fun e => by have := v.a_in e; omega)]
  unfold bgn
  by_cases e : kd n.f0 = 0
  · rw [if_pos e, if_pos e]
  · have a := v.a_in e
    rw [if_neg e, if_neg e]
    obtain ⟨j, hj⟩ : ∃ j : Nat, n.f1 = j := ⟨n.f1.toNat, by omega⟩
    rw [hj]
    exact h j (by omega) m (by omega)
theorem First.zero (x : List S49) : First x [] := fun j hj => absurd hj (by simp)
theorem V.sn {bs ds : List Int} (h : Fine bs ds) {n : S49} (v : V bs n) : Sn n.f0 n.f1 n.f2 n.f3 (bs.length : Int) := by
  have hp := v.1
  rcases kd_of n.f0 with q | q | q
  · rcases hp with hp | hp | hp | hp | hp
    · exact absurd ⟨hp.1, hp.2.1⟩ q.2.1
    · exact absurd (.inl hp.1) q.2.2
    · exact absurd (.inr hp.1) q.2.2
    · exact .inr (.inr (.inr (.inl hp)))
    · exact .inr (.inr (.inr (.inr hp)))
  · have e := v.2.1 q.1
    have a := plain_a hp (.inl q.1)
    rcases hp with hp | hp | hp | hp | hp
    · exact absurd ⟨hp.1, hp.2.1⟩ q.2.1
    · exact .inr (.inl ⟨hp.1, e, by omega, hp.2.2.2⟩)
    · exact .inr (.inr (.inl ⟨hp.1, e, by omega, hp.2.2.2⟩))
    · exact absurd q.2.2 (by omega)
    · exact absurd q.2.2 (by omega)
  · have e := v.2.2 q.1
    have a := plain_a hp (.inr q.1)
    have b := plain_b hp q.1
    have g := h.ba (a := n.f2) (by omega) (by omega)
    rcases hp with hp | hp | hp | hp | hp
    · exact .inl ⟨hp.1, hp.2.1, by omega, by omega, by omega, by omega, hp.2.2.2.2.2.2⟩
    · exact absurd (.inl hp.1) q.2.2
    · exact absurd (.inr hp.1) q.2.2
    · exact absurd q.2.1 (by omega)
    · exact absurd q.2.1 (by omega)
theorem sn_plain {op a b n i : Int} (h : Sn op a b n i) : Plain op a b n i := by
  rcases h with h | h | h | h | h
  · exact .inl ⟨h.1, h.2.1, h.2.2.1, h.2.2.2.1, by omega, h.2.2.2.2.2.1, h.2.2.2.2.2.2⟩
  · exact .inr (.inl ⟨h.1, by omega, by omega, h.2.2.2⟩)
  · exact .inr (.inr (.inl ⟨h.1, by omega, by omega, h.2.2.2⟩))
  · exact .inr (.inr (.inr (.inl h)))
  · exact .inr (.inr (.inr (.inr h)))
theorem sn_one {op a b n i : Int} (h : Sn op a b n i) (q : op = 7 ∨ op = 8) : a = i - 1 := by
  rcases h with h | h | h | h | h
  · omega
  · exact h.2.1
  · exact h.2.1
  · omega
  · omega
theorem okA_big {n : Nat} {xs : List S49} {bs ds : List Int} (hf : Fine bs ds) (h : ∃ y ∈ ds, ¬ y ≤ 12) : okA n (sh xs bs ds) = false := by
  obtain ⟨y, hy, h⟩ := h
  cases hs : sh xs bs ds with
  | none => rfl
  | some o =>
    obtain ⟨b, d⟩ := o
    obtain ⟨_, _, e, rfl⟩ := sh_len xs bs ds b d hf hs
    exact decide_eq_false fun g => h (g.2 y (by simp [hy]))
theorem spec_ex (x : List S49) (hb : x.length ≤ 1048576) (h0 : 0 < x.length) : ∀ (d i : Nat), i + d = x.length → ∀ bs ds : List Int, bs.length = i → Fine bs ds → (∀ y ∈ ds, y ≤ 12) → First x bs → Ev (fun k => spec_ExprOK.l0 k ds (i : Int) x) (okA x.length (sh (x.drop i) bs ds)) := by
  intro d
  induction d with
  | zero =>
    intro i hd bs ds hi hf hy hF
    rw [List.drop_of_length_le (by omega)]
    show Ev _ (decide (rd bs ((x.length - 1 : Nat) : Int) = 0 ∧ ∀ y ∈ ds, y ≤ 12))
    rw [show decide (rd bs ((x.length - 1 : Nat) : Int) = 0 ∧ ∀ y ∈ ds, y ≤ 12) = (rd bs ((x.length - 1 : Nat) : Int) == 0) from by
      by_cases e : rd bs ((x.length - 1 : Nat) : Int) = 0
      · rw [e, decide_eq_true ⟨rfl, hy⟩]; rfl
      · rw [decide_eq_false fun g => e g.1, beq_eq_false_iff_ne.2 e]]
    refine Ev.step (f := fun k => (spec_l05First.f k x ((x.length - 1 : Nat) : Int)).bind fun t => some (t == 0)) (fun k => ?_) (Ev.bind ⟨x.length, fun k hk => hF (x.length - 1) (by omega) k (by omega)⟩ (Ev.now _))
    rw [spec_ExprOK.l0, if_neg (by omega), wrap_in (x := (x.length : Int) - 1) (by omega) (by omega), show (x.length : Int) - 1 = ((x.length - 1 : Nat) : Int) by omega]
  | succ d ih =>
    intro i hd bs ds hi hf hy hF
    rw [at_next (z := z49) (i := i) (by omega)]
    generalize hx : x[i]?.getD z49 = n
    have hl := hf.len
    have run : ∀ r, (∃ K, ∀ k, K ≤ k → spec_ExprOK.l0 (k + 2) ds (i : Int) x = some r) → Ev (fun k => spec_ExprOK.l0 k ds (i : Int) x) r := by
      intro r ⟨K, h⟩
      refine ⟨K + 2, fun k hk => ?_⟩
      obtain ⟨m, rfl⟩ : ∃ m, k = m + 2 := ⟨k - 2, by omega⟩
      exact h m (by omega)
    apply run
    have st : ∀ k, spec_ExprOK.l0 (k + 2) ds (i : Int) x = if decide (Sn n.f0 n.f1 n.f2 n.f3 i) = true then (if decide (3 ≤ n.f0 ∧ n.f0 ≤ 6) = true then (if n.f2 = (wrap64 ((i : Int) - 1)) then ((spec_l05First.f (k + 1) x n.f2).bind fun t287 => (if t287 = (wrap64 (n.f1 + 1)) then (if 0 ≤ n.f1 then (if n.f1 < (ds.length : Int) then (if 0 ≤ n.f2 then (if n.f2 < (ds.length : Int) then (spec_ExprOK.j1 (k + 1) ds (i : Int) (wrap64 (1 + (mx (rd ds n.f1) (rd ds n.f2)))) x n.f0 n.f1 n.f2 n.f3) else none) else none) else none) else none) else (some false))) else (some false)) else (spec_ExprOK.j1 (k + 1) ds (i : Int) 1 x n.f0 n.f1 n.f2 n.f3)) else (some false) := by
      intro k
      rw [spec_ExprOK.l0, if_pos (by omega), if_pos (by omega), rdT, hx, node_f _ _ _ _ _ (by omega), Option.bind_some, two_f, Option.bind_some]
    have sj : ∀ k y, ds.length < 17592186044416 → spec_ExprOK.j1 (k + 1) ds (i : Int) y x n.f0 n.f1 n.f2 n.f3 = if decide (n.f0 = 7 ∨ n.f0 = 8) = true then (if 0 ≤ n.f1 then (if n.f1 < (ds.length : Int) then (if (wrap64 (1 + (rd ds n.f1))) > 12 then (some false) else (spec_ExprOK.l0 k (ds ++ [wrap64 (1 + (rd ds n.f1))]) ((i + 1 : Nat) : Int) x)) else none) else none) else (if y > 12 then (some false) else (spec_ExprOK.l0 k (ds ++ [y]) ((i + 1 : Nat) : Int) x)) := by
      intro k y hlen
      rw [spec_ExprOK.j1, one_f, Option.bind_some, if_pos hlen, if_pos hlen, wsucc (by omega)]
    have no : ¬ V bs n → okA x.length (sh (n :: x.drop (i + 1)) bs ds) = false := fun v => by unfold sh; rw [if_neg v]; rfl
    have big : V bs n → ¬ dpn ds n ≤ 12 → okA x.length (sh (n :: x.drop (i + 1)) bs ds) = false := fun v h => by
      unfold sh; rw [if_pos v]; exact okA_big (hf.next v) ⟨_, by simp, h⟩
    have go : V bs n → dpn ds n ≤ 12 → Ev (fun k => spec_ExprOK.l0 k (ds ++ [dpn ds n]) ((i + 1 : Nat) : Int) x) (okA x.length (sh (n :: x.drop (i + 1)) bs ds)) := fun v h => by
      unfold sh; rw [if_pos v]
      refine ih (i + 1) (by omega) _ _ (by simp; omega) (hf.next v) ?_ (hF.next (by omega) (by rw [hi]; exact hx) v)
      intro y hy'
      rcases List.mem_append.1 hy' with e | e
      · exact hy y e
      · rw [List.mem_singleton.1 e]; exact h
    by_cases hs : Sn n.f0 n.f1 n.f2 n.f3 i
    · have hp := sn_plain hs
      have hp' : Plain n.f0 n.f1 n.f2 n.f3 (bs.length : Int) := by rw [hi]; exact hp
      rcases kd_of n.f0 with q | q | q
      · have v : V bs n := ⟨hp', fun h => by omega, fun h => by omega⟩
        have e1 : dpn ds n = 1 := by unfold dpn; rw [if_pos q.1]
        obtain ⟨K, e⟩ := go v (by rw [e1]; omega)
        refine ⟨K, fun m hm => ?_⟩
        rw [st, if_pos (decide_eq_true hs), if_neg (by simp only [decide_eq_true_eq]; exact q.2.1), sj _ _ (by omega), if_neg (by simp only [decide_eq_true_eq]; exact q.2.2), if_neg (by omega)]
        have e' := e m (by omega)
        simp only at e'
        rw [← e', e1]
      · have a := plain_a hp (.inl q.1)
        have e2 := sn_one hs q.2.2
        have v : V bs n := ⟨hp', fun h => by omega, fun h => by omega⟩
        have g := hf.da (a := n.f1) (by omega) (by omega)
        have e1 : dpn ds n = 1 + rd ds n.f1 := by unfold dpn; rw [if_neg (by omega), if_pos q.1]; omega
        have ew : wrap64 (1 + rd ds n.f1) = dpn ds n := by rw [wrap_in (by omega) (by omega), e1]
        by_cases hbig : dpn ds n ≤ 12
        · obtain ⟨K, e⟩ := go v hbig
          refine ⟨K, fun m hm => ?_⟩
          rw [st, if_pos (decide_eq_true hs), if_neg (by simp only [decide_eq_true_eq]; exact q.2.1), sj _ _ (by omega), if_pos (decide_eq_true q.2.2), if_pos (by omega), if_pos (by omega), ew, if_neg (by omega)]
          exact e m (by omega)
        · rw [big v hbig]
          refine ⟨0, fun m hm => ?_⟩
          rw [st, if_pos (decide_eq_true hs), if_neg (by simp only [decide_eq_true_eq]; exact q.2.1), sj _ _ (by omega), if_pos (decide_eq_true q.2.2), if_pos (by omega), if_pos (by omega), ew, if_pos (by omega)]
      · have a := plain_a hp (.inr q.1)
        have b := plain_b hp q.1
        have g := hf.da (a := n.f1) (by omega) (by omega)
        have g2 := hf.da (a := n.f2) (by omega) (by omega)
        have gb := hf.ba (a := n.f2) (by omega) (by omega)
        by_cases hb2 : n.f2 = (i : Int) - 1
        · have ef : ∀ m, i ≤ m → spec_l05First.f (m + 1) x n.f2 = some (rd bs n.f2) := by
            intro m hm
            obtain ⟨j, hj⟩ : ∃ j : Nat, n.f2 = j := ⟨n.f2.toNat, by omega⟩
            rw [hj]
            exact hF j (by omega) (m + 1) (by omega)
          by_cases ha : n.f1 = rd bs n.f2 - 1
          · have v : V bs n := ⟨hp', fun h => by omega, fun h => ⟨by omega, ha⟩⟩
            have qm : 1 ≤ mx (rd ds n.f1) (rd ds n.f2) ∧ mx (rd ds n.f1) (rd ds n.f2) ≤ i := by unfold mx; split <;> omega
            have e1 : dpn ds n = 1 + mx (rd ds n.f1) (rd ds n.f2) := by unfold dpn; rw [if_neg (by omega), if_neg (by omega)]; omega
            have ew : wrap64 (1 + mx (rd ds n.f1) (rd ds n.f2)) = dpn ds n := by rw [wrap_in (by omega) (by omega), e1]
            by_cases hbig : dpn ds n ≤ 12
            · obtain ⟨K, e⟩ := go v hbig
              refine ⟨K + i, fun m hm => ?_⟩
              rw [st, if_pos (decide_eq_true hs), if_pos (decide_eq_true q.2.1), if_pos (by rw [wrap_in (by omega) (by omega)]; exact hb2), ef m (by omega), Option.bind_some, if_pos (by rw [wrap_in (by omega) (by omega)]; omega), if_pos (by omega), if_pos (by omega), if_pos (by omega), if_pos (by omega), ew, sj _ _ (by omega), if_neg (by simp only [decide_eq_true_eq]; exact q.2.2), if_neg (by omega)]
              exact e m (by omega)
            · rw [big v hbig]
              refine ⟨i, fun m hm => ?_⟩
              rw [st, if_pos (decide_eq_true hs), if_pos (decide_eq_true q.2.1), if_pos (by rw [wrap_in (by omega) (by omega)]; exact hb2), ef m (by omega), Option.bind_some, if_pos (by rw [wrap_in (by omega) (by omega)]; omega), if_pos (by omega), if_pos (by omega), if_pos (by omega), if_pos (by omega), ew, sj _ _ (by omega), if_neg (by simp only [decide_eq_true_eq]; exact q.2.2), if_pos (by omega)]
          · rw [no fun v => ha (v.2.2 q.1).2]
            refine ⟨i, fun m hm => ?_⟩
            rw [st, if_pos (decide_eq_true hs), if_pos (decide_eq_true q.2.1), if_pos (by rw [wrap_in (by omega) (by omega)]; exact hb2), ef m (by omega), Option.bind_some, if_neg (by rw [wrap_in (by omega) (by omega)]; omega)]
        · rw [no fun v => hb2 (by rw [← hi]; exact (v.2.2 q.1).1)]
          refine ⟨i, fun m hm => ?_⟩
          rw [st, if_pos (decide_eq_true hs), if_pos (decide_eq_true q.2.1), if_neg (by rw [wrap_in (by omega) (by omega)]; exact hb2)]
    · rw [no fun v => hs (by rw [← hi]; exact v.sn hf)]
      refine ⟨0, fun m hm => ?_⟩
      rw [st, if_neg (by simp only [decide_eq_true_eq]; exact hs)]
theorem spec_ex_ev (x : List S49) : Ev (fun k => spec_ExprOK.f k x) (exAns x) := by
  unfold spec_ExprOK.f exAns
  rw [in_f]
  by_cases h : decide (1 ≤ (x.length : Int) ∧ (x.length : Int) ≤ 60) = true
  · rw [if_pos h]
    have h' := of_decide_eq_true h
    refine Ev.congr (fun k => (if_pos h : (if _ then _ else _) = _)) ?_
    exact spec_ex x (by omega) (by omega) x.length 0 (by omega) [] [] rfl Fine.zero (by simp) (First.zero x)
  · rw [if_neg h]
    exact Ev.congr (fun k => (if_neg h : (if _ then _ else _) = _)) (Ev.now _)
end Go.Proofs.YtbphhccpkngfoaaGreatDoor.Pt
