/-
A natural read from its digits: what the program and the reference make of a text.
-/
import Derived.Test.YtgldcdnlojcchaaDoorPrA
import Derived.Test.YtgldcdnlojcchaaDoorQxReadNat
namespace Go.Proofs.YtgldcdnlojcchaaDoor.Pl
open Go.RowKit Go.Proofs.YtgldcdnlojcchaaDoor.Q Go.Proofs.YtgldcdnlojcchaaDoor.Pn Go.Proofs.YtgldcdnlojcchaaDoorW.PrintWords Go.Proofs.YtgldcdnlojcchaaDoorW.PrintLast Go.Proofs.YtgldcdnlojcchaaDoorW.PrintMore
set_option linter.unusedVariables false
set_option linter.unusedSimpArgs false

theorem ev_const {α : Type} {g : Nat → Option α} {r : α} (h : ∀ k, g (k + 1) = some r) : Ev g r := Ev.step (f := fun _ => some r) h (Ev.now _)
/-- A byte that is a digit. -/
def dg (x : Int) : Prop := 48 ≤ x ∧ x ≤ 57
instance (x : Int) : Decidable (dg x) := by unfold dg; exact inferInstance
theorem l00_f (x : Int) : spec_l00Digit.f x = some (decide (dg x)) := by
  unfold spec_l00Digit.f dg
  by_cases h : x ≥ 48
  · rw [if_pos h]; exact congrArg some (decide_eq_decide.2 (by omega))
  · rw [if_neg h]; exact congrArg some (decide_eq_false (by omega)).symm
theorem isDigit_f (x : Int) : impl_isDigit.f x = some (decide (dg x)) := by
  unfold impl_isDigit.f dg
  by_cases h : 48 ≤ x
  · rw [if_pos h]; exact congrArg some (decide_eq_decide.2 (by omega))
  · rw [if_neg h]; exact congrArg some (decide_eq_false (by omega)).symm
/-- The number that d bytes from i on spell, behind the number a. -/
def dv (s : ByteArray) : Nat → Nat → Int → Int
  | 0, _, a => a
  | d + 1, i, a => dv s d (i + 1) (10 * a + (bt s (i : Int) - 48))
/-- Four digits at a time, from the end. -/
def ch (s : ByteArray) : Nat → Nat → List Int → List Int
  | 0, _, out => out
  | f + 1, e, out => if e = 0 then out else ch s f (e - 4) (out ++ [dv s (e - (e - 4)) (e - 4) 0])
def lim : Nat → Int
  | 0 => 10000
  | 1 => 1000
  | 2 => 100
  | 3 => 10
  | _ => 1
theorem lim_step {d : Nat} {a x : Int} (hd : d ≤ 3) (h0 : 0 ≤ a) (h : a < lim (d + 1)) (hx : dg x) : 0 ≤ 10 * a + (x - 48) ∧ 10 * a + (x - 48) < lim d := by
  unfold dg at hx
  rcases d with _ | _ | _ | _ | d <;> simp only [lim] at h ⊢ <;> omega
theorem lim_le (d : Nat) : lim d ≤ 10000 := by
  rcases d with _ | _ | _ | _ | d <;> simp only [lim] <;> omega
theorem spec_l2 (s : ByteArray) (hs : s.size ≤ 160) (hg : ∀ i : Nat, i < s.size → dg (bt s (i : Int))) (e : Nat) (he : e ≤ s.size) (out : List Int) (r : List Int × Bool) (hout : out.length ≤ 1000) :
    ∀ (d i : Nat) (a : Int), i + d = e → d ≤ 4 → 0 ≤ a → a < lim d → Ev (fun k => spec_l01Read.l1 k s (out ++ [dv s d i a]) ((e : Int) - 4)) r → Ev (fun k => spec_l01Read.l2 k s out (e : Int) a (i : Int)) r := by
  intro d
  induction d with
  | zero =>
    intro i a hd _ h0 h1 h
    refine Ev.step (fun k => ?_) h
    rw [spec_l01Read.l2, if_neg (by omega), if_pos (by omega), wrap_in (by omega) (by omega)]
    rfl
  | succ d ih =>
    intro i a hd h4 h0 h1 h
    have hx := hg i (by omega)
    have st := lim_step (by omega) h0 h1 hx
    have hl := lim_le (d + 1)
    have hl2 := lim_le d
    refine Ev.step (fun k => ?_) (ih (i + 1) (10 * a + (bt s (i : Int) - 48)) (by omega) (by omega) st.1 st.2 h)
    unfold dg at hx
    rw [spec_l01Read.l2, if_pos (by omega), if_pos (by omega), if_pos (by omega), show (bt s (i : Int) - 48) % 256 = bt s (i : Int) - 48 by omega]
    rw [wrap_in (x := 10 * a) (by omega) (by omega), wrap_in (x := 10 * a + (bt s (i : Int) - 48)) (by omega) (by omega), wsucc (by omega)]
theorem mx0 {e : Nat} (h : e ≤ 160) : mx 0 (wrap64 ((e : Int) - 4)) = ((e - 4 : Nat) : Int) ∧ mx (wrap64 ((e : Int) - 4)) 0 = ((e - 4 : Nat) : Int) := by
  rw [wrap_in (by omega) (by omega)]
  unfold mx
  constructor <;> split <;> omega
theorem spec_l1 (s : ByteArray) (hs : s.size ≤ 160) (hg : ∀ i : Nat, i < s.size → dg (bt s (i : Int))) :
    ∀ (f e : Nat), e ≤ f → e ≤ s.size → ∀ (E : Int), (E = (e : Int) ∨ (E ≤ 0 ∧ e = 0)) → ∀ out : List Int, out.length + e ≤ 1000 →
      Ev (fun k => spec_l01Read.l1 k s out E) ((ch s f e out).take (tlen (ch s f e out) (ch s f e out).length), true) := by
  intro f
  induction f with
  | zero =>
    intro e h1 h2 E hE out ho
    have : E ≤ 0 := by omega
    refine ev_const fun k => ?_
    rw [spec_l01Read.l1, if_neg (by omega), specTrim out (by omega), Option.bind_some, ch]
  | succ f ih =>
    intro e h1 h2 E hE out ho
    by_cases h0 : e = 0
    · have : E ≤ 0 := by omega
      refine ev_const fun k => ?_
      rw [spec_l01Read.l1, if_neg (by omega), specTrim out (by omega), Option.bind_some, ch, if_pos h0]
    · have hE' : E = (e : Int) := by omega
      subst hE'
      rw [ch, if_neg h0]
      have nx := ih (e - 4) (by omega) (by omega) ((e : Int) - 4) (by omega) (out ++ [dv s (e - (e - 4)) (e - 4) 0]) (by rw [List.length_append]; simp; omega)
      refine Ev.step (f := fun k => spec_l01Read.l2 k s out (e : Int) 0 ((e - 4 : Nat) : Int)) (fun k => ?_) (spec_l2 s hs hg e h2 out _ (by omega) (e - (e - 4)) (e - 4) 0 (by omega) (by omega) (by omega) ?_ nx)
      · rw [spec_l01Read.l1, if_pos (by omega), (mx0 (by omega)).1]
      · generalize e - (e - 4) = d
        rcases d with _ | _ | _ | _ | d <;> simp only [lim] <;> omega
/-! ### the program's reading -/
theorem bt_at (s : ByteArray) (i : Nat) (h : i < s.size) : bt s (i : Int) = ((s.data[i]'h).toNat : Int) := by
  unfold bt
  rw [dif_pos (show (i : Int).toNat < s.size by simpa using h)]
  rfl
theorem dec_dv (s : ByteArray) (hg : ∀ i : Nat, i < s.size → dg (bt s (i : Int))) : ∀ (d i a : Nat), i + d = s.size → ∃ n : Nat, Lib.decFrom a (s.data.toList.drop i) = some n ∧ (n : Int) = dv s d i (a : Int) := by
  intro d
  induction d with
  | zero =>
    intro i a hd
    refine ⟨a, ?_, rfl⟩
    rw [List.drop_of_length_le (by rw [Array.length_toList]; exact Nat.le_of_eq hd.symm)]; rfl
  | succ d ih =>
    intro i a hd
    have hi : i < s.size := by omega
    have hx := hg i hi
    obtain ⟨n, h1, h2⟩ := ih (i + 1) (a * 10 + ((s.data[i]'hi).toNat - 48)) (by omega)
    refine ⟨n, ?_, ?_⟩
    · rw [List.drop_eq_getElem_cons (by rw [Array.length_toList]; exact hi), Array.getElem_toList, Lib.decFrom]
      rw [bt_at s i hi] at hx
      unfold dg at hx
      have hv : Lib.digitVal (s.data[i]'hi) = some ((s.data[i]'hi).toNat - 48) := by
        unfold Lib.digitVal
        rw [if_pos (by omega)]
      rw [hv]
      exact h1
    · rw [h2, dv, bt_at s i hi]
      rw [bt_at s i hi] at hx
      unfold dg at hx
      congr 1
      omega
theorem atoi_dv (s : ByteArray) (hg : ∀ i : Nat, i < s.size → dg (bt s (i : Int))) (h0 : 0 < s.size) : Lib.atoi s.data.toList = some (dv s s.size 0 0) := by
  obtain ⟨n, h1, h2⟩ := dec_dv s hg s.size 0 0 (by omega)
  rw [List.drop_zero] at h1
  have hx := hg 0 h0
  rw [bt_at s 0 h0] at hx
  unfold dg at hx
  have hl : s.data.toList = (s.data[0]'h0) :: s.data.toList.drop 1 := by
    have := List.drop_eq_getElem_cons (l := s.data.toList) (i := 0) (by rw [Array.length_toList]; exact h0)
    rw [List.drop_zero, Array.getElem_toList] at this
    exact this
  have n1 : ((s.data[0]'h0) == 45) = false := by
    rw [beq_eq_false_iff_ne]
    intro e
    rw [e] at hx
    have : (45 : UInt8).toNat = 45 := rfl
    omega
  have n2 : ((s.data[0]'h0) == 43) = false := by
    rw [beq_eq_false_iff_ne]
    intro e
    rw [e] at hx
    have : (43 : UInt8).toNat = 43 := rfl
    omega
  rw [hl] at h1 ⊢
  unfold Lib.atoi
  simp only [n1, n2, Bool.false_eq_true, if_false]
  unfold Lib.decNat
  rw [if_neg (by simp), h1]
  show some (n : Int) = _
  rw [h2]
  rfl
theorem dv_shift (s u : ByteArray) (j : Nat) : ∀ (d i : Nat) (a : Int), (∀ x : Nat, x < i + d → bt u (x : Int) = bt s ((j + x : Nat) : Int)) → dv u d i a = dv s d (j + i) a := by
  intro d
  induction d with
  | zero => intro i a _; rfl
  | succ d ih =>
    intro i a h
    rw [dv, dv, h i (by omega), ih (i + 1) _ (fun x hx => h x (by omega))]
    rfl
theorem ext_size (s : ByteArray) (i j : Nat) (h : j ≤ s.size) : (s.extract i j).size = j - i := by
  rw [ByteArray.size_extract]; omega
theorem ext_bt (s : ByteArray) (i j x : Nat) (h : j ≤ s.size) (hx : x < j - i) : bt (s.extract i j) (x : Int) = bt s ((i + x : Nat) : Int) := by
  have h1 : x < (s.extract i j).size := by rw [ext_size s i j h]; exact hx
  have h2 : i + x < s.size := by omega
  unfold bt
  rw [dif_pos (show (x : Int).toNat < (s.extract i j).size by simpa using h1), dif_pos (show ((i + x : Nat) : Int).toNat < s.size by rw [Int.toNat_natCast]; exact h2)]
  have e1 : (x : Int).toNat = x := Int.toNat_natCast x
  have e2 : ((i + x : Nat) : Int).toNat = i + x := Int.toNat_natCast _
  simp only [e1, e2]
  rw [ByteArray.getElem_extract]
theorem impl_l1 (s : ByteArray) (hs : s.size ≤ 160) (hg : ∀ i : Nat, i < s.size → dg (bt s (i : Int))) :
    ∀ (f e : Nat), e ≤ f → e ≤ s.size → ∀ t : ByteArray, t.size = e → (∀ x : Nat, x < e → bt t (x : Int) = bt s (x : Int)) → ∀ out : List Int, out.length + e ≤ 1000 →
      Ev (fun k => impl_readNat.l1 k t out) ((ch s f e out).take (tlen (ch s f e out) (ch s f e out).length), true) := by
  intro f
  induction f with
  | zero =>
    intro e h1 h2 t ht hb out ho
    obtain ⟨K, e1⟩ := trimmed_ev out (by omega)
    refine Ev.step (f := fun k => (impl_trimmed.f k out).bind fun t => some (t, true)) (fun k => ?_) (Ev.bind ⟨K, e1⟩ (Ev.now _))
    rw [impl_readNat.l1, if_neg (by omega)]
  | succ f ih =>
    intro e h1 h2 t ht hb out ho
    by_cases h0 : e = 0
    · rw [ch, if_pos h0]
      obtain ⟨K, e1⟩ := trimmed_ev out (by omega)
      refine Ev.step (f := fun k => (impl_trimmed.f k out).bind fun t => some (t, true)) (fun k => ?_) (Ev.bind ⟨K, e1⟩ (Ev.now _))
      rw [impl_readNat.l1, if_neg (by omega)]
    · rw [ch, if_neg h0]
      have hk : e - 4 ≤ t.size := by omega
      have us := ext_size t (e - 4) e (by omega)
      have ub : ∀ x : Nat, x < e - (e - 4) → bt (t.extract (e - 4) e) (x : Int) = bt s ((e - 4 + x : Nat) : Int) := by
        intro x hx
        rw [ext_bt t (e - 4) e x (by omega) hx, hb _ (by omega)]
      have ug : ∀ i : Nat, i < (t.extract (e - 4) e).size → dg (bt (t.extract (e - 4) e) (i : Int)) := by
        intro i hi
        rw [us] at hi
        rw [ub i hi]
        exact hg _ (by omega)
      have hat := atoi_dv (t.extract (e - 4) e) ug (by omega)
      rw [us, dv_shift s _ (e - 4) (e - (e - 4)) 0 0 (fun x hx => ub x (by omega)), Nat.add_zero] at hat
      have nx := ih (e - 4) (by omega) (by omega) (t.extract 0 (e - 4)) (by rw [ext_size t 0 (e - 4) hk]; omega) (fun x hx => by
        rw [ext_bt t 0 (e - 4) x hk (by omega), Nat.zero_add]; exact hb x (by omega)) (out ++ [dv s (e - (e - 4)) (e - 4) 0]) (by rw [List.length_append]; simp; omega)
      refine Ev.step (fun k => ?_) nx
      have hm := (mx0 (e := e) (by omega)).2
      rw [impl_readNat.l1, if_pos (by omega), ht, hm, if_pos (by omega), if_pos (by omega), Int.toNat_natCast]
      have ha : strconv_Atoi_29.f (t.extract (e - 4) e) = some (dv s (e - (e - 4)) (e - 4) 0, none) := by
        unfold strconv_Atoi_29.f
        rw [if_pos (by omega), hat, Option.bind_some]
      rw [ha, Option.bind_some, if_pos (by omega)]
/-! ### whether all are digits -/
theorem spec_all (s : ByteArray) (hs : s.size ≤ 160) (r : List Int × Bool) (hg : ∀ i : Nat, i < s.size → dg (bt s (i : Int))) (h : Ev (fun k => spec_l01Read.l1 k s [] (s.size : Int)) r) : ∀ (d i : Nat), i + d = s.size → Ev (fun k => spec_l01Read.l0 k s (i : Int)) r := by
  intro d
  induction d with
  | zero =>
    intro i hd
    refine Ev.step (fun k => ?_) h
    rw [spec_l01Read.l0, if_neg (by omega)]
  | succ d ih =>
    intro i hd
    refine Ev.step (fun k => ?_) (ih (i + 1) (by omega))
    rw [spec_l01Read.l0, if_pos (by omega), if_pos (by omega), l00_f, Option.bind_some, if_pos (decide_eq_true (hg i (by omega))), wsucc (by omega)]
theorem spec_bad (s : ByteArray) (hs : s.size ≤ 160) (j : Nat) (hj : j < s.size) (hb : ¬ dg (bt s (j : Int))) : ∀ (d i : Nat), i + d = j → Ev (fun k => spec_l01Read.l0 k s (i : Int)) (([] : List Int), false) := by
  intro d
  induction d with
  | zero =>
    intro i hd
    have : i = j := by omega
    subst this
    refine ev_const fun k => ?_
    rw [spec_l01Read.l0, if_pos (by omega), if_pos (by omega), l00_f, Option.bind_some, if_neg (by simpa using hb)]
  | succ d ih =>
    intro i hd
    by_cases hg : dg (bt s (i : Int))
    · refine Ev.step (fun k => ?_) (ih (i + 1) (by omega))
      rw [spec_l01Read.l0, if_pos (by omega), if_pos (by omega), l00_f, Option.bind_some, if_pos (decide_eq_true hg), wsucc (by omega)]
    · refine ev_const fun k => ?_
      rw [spec_l01Read.l0, if_pos (by omega), if_pos (by omega), l00_f, Option.bind_some, if_neg (by simpa using hg)]
theorem impl_all (s : ByteArray) (hs : s.size ≤ 160) (r : List Int × Bool) (hg : ∀ i : Nat, i < s.size → dg (bt s (i : Int))) (h : Ev (fun k => impl_readNat.l1 k s []) r) : ∀ (d i : Nat), i + d = s.size → Ev (fun k => impl_readNat.l0 k s (s.size : Int) (i : Int)) r := by
  intro d
  induction d with
  | zero =>
    intro i hd
    refine Ev.step (fun k => ?_) h
    rw [impl_readNat.l0, if_neg (by omega)]
  | succ d ih =>
    intro i hd
    refine Ev.step (fun k => ?_) (ih (i + 1) (by omega))
    rw [impl_readNat.l0, if_pos (by omega), if_pos (by omega), if_pos (by omega), isDigit_f, Option.bind_some, if_pos (decide_eq_true (hg i (by omega))), wsucc (by omega)]
theorem impl_bad (s : ByteArray) (hs : s.size ≤ 160) (j : Nat) (hj : j < s.size) (hb : ¬ dg (bt s (j : Int))) : ∀ (d i : Nat), i + d = j → Ev (fun k => impl_readNat.l0 k s (s.size : Int) (i : Int)) (([] : List Int), false) := by
  intro d
  induction d with
  | zero =>
    intro i hd
    have : i = j := by omega
    subst this
    refine ev_const fun k => ?_
    rw [impl_readNat.l0, if_pos (by omega), if_pos (by omega), if_pos (by omega), isDigit_f, Option.bind_some, if_neg (by simpa using hb)]
  | succ d ih =>
    intro i hd
    by_cases hg : dg (bt s (i : Int))
    · refine Ev.step (fun k => ?_) (ih (i + 1) (by omega))
      rw [impl_readNat.l0, if_pos (by omega), if_pos (by omega), if_pos (by omega), isDigit_f, Option.bind_some, if_pos (decide_eq_true hg), wsucc (by omega)]
    · refine ev_const fun k => ?_
      rw [impl_readNat.l0, if_pos (by omega), if_pos (by omega), if_pos (by omega), isDigit_f, Option.bind_some, if_neg (by simpa using hg)]
/-- What reading answers. -/
def readAns (s : ByteArray) : List Int × Bool :=
  if s.size < 1 ∨ s.size > 160 ∨ (bt s 0 = 48 ∧ s.size > 1) ∨ ¬ (∀ i, i < s.size → dg (bt s (i : Int))) then ([], false)
  else ((ch s s.size s.size []).take (tlen (ch s s.size s.size []) (ch s s.size s.size []).length), true)
theorem tl_nil (s : ByteArray) : s.toList = ([] : List UInt8) ↔ s.size < 1 := by
  rw [Lib.toList_data]
  rw [List.eq_nil_iff_length_eq_zero, Array.length_toList]
  show s.size = 0 ↔ _
  omega
theorem read_both (s : ByteArray) : Ev (fun k => spec_l01Read.f k s) (readAns s) ∧ Ev (fun k => impl_readNat.f k s) (readAns s) := by
  have j0 : Ev (fun k => spec_l01Read.j0 k s true) (([] : List Int), false) ∧ Ev (fun k => impl_readNat.j0 k s true) (([] : List Int), false) :=
    ⟨ev_const fun k => by rw [spec_l01Read.j0, if_pos rfl], ev_const fun k => by rw [impl_readNat.j0, if_pos rfl]⟩
  unfold spec_l01Read.f impl_readNat.f
  by_cases h1 : s.size < 1
  · have e : readAns s = ([], false) := by unfold readAns; rw [if_pos (Or.inl h1)]
    rw [e]
    exact ⟨Ev.congr (fun k => if_pos ((tl_nil s).2 h1)) j0.1, Ev.congr (fun k => if_pos (by omega)) j0.2⟩
  by_cases h2 : s.size > 160
  · have e : readAns s = ([], false) := by unfold readAns; rw [if_pos (Or.inr (Or.inl h2))]
    rw [e]
    exact ⟨Ev.congr (fun k => (if_neg (fun z => h1 ((tl_nil s).1 z))).trans (if_pos (by omega))) j0.1, Ev.congr (fun k => (if_neg (by omega)).trans (if_pos (by omega))) j0.2⟩
  by_cases h3 : bt s 0 = 48 ∧ s.size > 1
  · have e : readAns s = ([], false) := by unfold readAns; rw [if_pos (Or.inr (Or.inr (Or.inl h3)))]
    rw [e]
    have d : decide ((s.size : Int) > 1) = true := decide_eq_true (by omega)
    rw [d]
    exact ⟨Ev.congr (fun k => (if_neg (fun z => h1 ((tl_nil s).1 z))).trans ((if_neg (by omega)).trans ((if_pos (by omega)).trans (if_pos h3.1)))) j0.1, Ev.congr (fun k => (if_neg (by omega)).trans ((if_neg (by omega)).trans ((if_pos (by omega)).trans (if_pos h3.1)))) j0.2⟩
  have fin : Ev (fun k => spec_l01Read.j0 k s false) (readAns s) ∧ Ev (fun k => impl_readNat.j0 k s false) (readAns s) := by
    have s1 : ∀ r, Ev (fun k => spec_l01Read.l0 k s ((0 : Nat) : Int)) r → Ev (fun k => spec_l01Read.j0 k s false) r := fun r h => Ev.step (fun k => by rw [spec_l01Read.j0, if_neg (by simp)]; rfl) h
    have s2 : ∀ r, Ev (fun k => impl_readNat.l0 k s (s.size : Int) ((0 : Nat) : Int)) r → Ev (fun k => impl_readNat.j0 k s false) r := fun r h => Ev.step (fun k => by rw [impl_readNat.j0, if_neg (by simp)]; rfl) h
    by_cases hg : ∀ i : Nat, i < s.size → dg (bt s (i : Int))
    · have e : readAns s = ((ch s s.size s.size []).take (tlen (ch s s.size s.size []) (ch s s.size s.size []).length), true) := by
        unfold readAns
        rw [if_neg]
        rintro (z | z | z | z)
        · exact h1 z
        · exact h2 z
        · exact h3 z
        · exact z hg
      rw [e]
      exact ⟨s1 _ (spec_all s (by omega) _ hg (spec_l1 s (by omega) hg s.size s.size (Nat.le_refl _) (Nat.le_refl _) _ (Or.inl rfl) [] (by simp; omega)) s.size 0 (by omega)),
        s2 _ (impl_all s (by omega) _ hg (impl_l1 s (by omega) hg s.size s.size (Nat.le_refl _) (Nat.le_refl _) s rfl (fun _ _ => rfl) [] (by simp; omega)) s.size 0 (by omega))⟩
    · have e : readAns s = ([], false) := by unfold readAns; rw [if_pos (Or.inr (Or.inr (Or.inr hg)))]
      rw [e]
      obtain ⟨j, hj⟩ := Classical.not_forall.1 hg
      obtain ⟨hj1, hj2⟩ := Classical.not_imp.1 hj
      exact ⟨s1 _ (spec_bad s (by omega) j hj1 hj2 j 0 (by omega)), s2 _ (impl_bad s (by omega) j hj1 hj2 j 0 (by omega))⟩
  by_cases h4 : bt s 0 = 48
  · have d : decide ((s.size : Int) > 1) = false := decide_eq_false (by omega)
    rw [d]
    exact ⟨Ev.congr (fun k => (if_neg (fun z => h1 ((tl_nil s).1 z))).trans ((if_neg (by omega)).trans ((if_pos (by omega)).trans (if_pos h4)))) fin.1, Ev.congr (fun k => (if_neg (by omega)).trans ((if_neg (by omega)).trans ((if_pos (by omega)).trans (if_pos h4)))) fin.2⟩
  · exact ⟨Ev.congr (fun k => (if_neg (fun z => h1 ((tl_nil s).1 z))).trans ((if_neg (by omega)).trans ((if_pos (by omega)).trans (if_neg h4)))) fin.1, Ev.congr (fun k => (if_neg (by omega)).trans ((if_neg (by omega)).trans ((if_pos (by omega)).trans (if_neg h4)))) fin.2⟩
/-! ### ReadNat -/
theorem readAns_len (s : ByteArray) : (readAns s).1.length ≤ 1000 := by
  have hch : ∀ (f e : Nat) (out : List Int), (ch s f e out).length ≤ out.length + f := by
    intro f
    induction f with
    | zero => intro e out; exact Nat.le_refl _
    | succ f ih =>
      intro e out
      rw [ch]
      split
      · omega
      · have := ih (e - 4) (out ++ [dv s (e - (e - 4)) (e - 4) 0])
        rw [List.length_append] at this
        simp at this
        omega
  unfold readAns
  split
  · simp
  · rename_i h
    have : s.size ≤ 160 := by
      rcases Nat.lt_or_ge 160 s.size with z | z
      · exact absurd (Or.inr (Or.inl z)) h
      · exact z
    have h2 := hch s.size s.size []
    simp only [List.length_take]
    simp at h2
    omega
theorem readAns_no (s : ByteArray) (h : (readAns s).2 = false) : (readAns s).1 = [] := by
  unfold readAns at h ⊢
  split
  · rfl
  · rename_i z
    rw [if_neg z] at h
    cases h
/-- What ReadNat answers. -/
def rnAns (s : ByteArray) : List Int × Int := if s.size > 65536 then ([], 2) else if (readAns s).2 = true then ((readAns s).1, 0) else ([], 3)
theorem specRN_ev (s : ByteArray) : Ev (fun k => spec_ReadNat.f k s) (rnAns s) := by
  unfold spec_ReadNat.f rnAns
  by_cases h : s.size > 65536
  · rw [if_pos h]
    exact Ev.congr (fun k => if_pos (by omega)) (Ev.now _)
  · rw [if_neg h]
    refine Ev.congr (fun k => if_neg (by omega)) (Ev.bind (read_both s).1 ?_)
    by_cases q : (readAns s).2 = true
    · rw [if_pos q, if_pos q]
      exact Ev.now _
    · rw [if_neg q, if_neg q]
      exact Ev.now _
theorem long_ev (n : Nat) (hn : n ≤ 4000000000000000000) : Ev (fun k => impl_longCode.f k 65536 [(n : Int)]) (if n > 65536 then 2 else 0) := by
  have e : ∀ k, impl_longCode.f (k + 2) 65536 [(n : Int)] = some (if n > 65536 then 2 else 0) := by
    intro k
    unfold impl_longCode.f
    rw [impl_longCode.l0, if_pos (by simp), if_pos (by omega), if_pos (by simp)]
    have r : rd [(n : Int)] 0 = n := rfl
    rw [r]
    by_cases h : n > 65536
    · rw [if_pos (by omega), if_pos h]
    · rw [if_neg (by omega), if_neg h, show wrap64 (0 + 1) = 1 by rw [wrap_in (by omega) (by omega)]; rfl, impl_longCode.l0, if_neg (by simp)]
  exact ⟨2, fun k hk => by obtain ⟨j, rfl⟩ : ∃ j, k = j + 2 := ⟨k - 2, by omega⟩; exact e j⟩
theorem implRN_ev (s : ByteArray) (hs : s.size ≤ 4000000000000000000) : Ev (fun k => impl_ReadNat.f k s) (rnAns s) := by
  unfold impl_ReadNat.f rnAns
  refine Ev.bind (long_ev s.size hs) ?_
  by_cases h : s.size > 65536
  · rw [if_pos h, if_pos h]
    exact Ev.congr (fun k => if_neg (by omega)) (Ev.now _)
  · rw [if_neg h, if_neg h]
    refine Ev.congr (fun k => if_pos rfl) (Ev.bind (read_both s).2 ?_)
    unfold impl_unless.f
    by_cases q : (readAns s).2 = true
    · rw [if_pos q, if_pos q]
      exact Ev.now _
    · rw [if_neg q, if_neg q, readAns_no s (by simpa using q)]
      exact Ev.now _
theorem rnAns_len (s : ByteArray) : (rnAns s).1.length ≤ 1000 := by
  have := readAns_len s
  unfold rnAns
  split
  · simp
  · split
    · exact this
    · simp
end Go.Proofs.YtgldcdnlojcchaaDoor.Pl
