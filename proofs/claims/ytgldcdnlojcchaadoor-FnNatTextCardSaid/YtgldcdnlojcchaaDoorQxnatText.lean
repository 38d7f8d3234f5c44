-- written by a program of this claim's session (myprint.py) out of the translation; Lean checks it.
import Derived.Test.YtgldcdnlojcchaaDoorQx0
namespace Go.Proofs.YtgldcdnlojcchaaDoor.Q
open Go.RowKit Go.Proofs.YtgldcdnlojcchaaDoorW.PrintWords Go.Proofs.YtgldcdnlojcchaaDoorW.PrintLast Go.Proofs.YtgldcdnlojcchaaDoorW.PrintMore
attribute [local go_sem] max2_int min2_int max_two min_two max_three min_three max_four min_four   -- for this text's walks alone
set_option linter.unusedVariables false
set_option linter.unusedSimpArgs false

/-! ### impl_natText: function 23 -/
attribute [local go_sem] Oper.semAt_some
/-! ### slices.Backward at []int -/
def dn (n k : Nat) : List Nat := (List.range k).map fun j => n - 1 - j
theorem dn_succ (n k : Nat) : dn n (k + 1) = dn n k ++ [n - 1 - k] := by simp [dn, List.range_succ]
theorem dn_length (n k : Nat) : (dn n k).length = k := by simp [dn]
theorem dn_mem {n k j : Nat} (hj : j < n) (h : n - k ≤ j) : j ∈ dn n k := by
  simp only [dn, List.mem_map, List.mem_range]
  exact ⟨n - 1 - j, by omega, by omega⟩

/-- The cells of S read as they read. -/
def CK (S : Addr → Prop) (A B : World) : Prop := ∀ p v, S p → A.cell? p = some v → B.cell? p = some v
theorem CK.refl (S : Addr → Prop) (A : World) : CK S A A := fun _ _ _ h => h
theorem CK.trans {S : Addr → Prop} {A B C : World} (h : CK S A B) (k : CK S B C) : CK S A C := fun p v hp hv => k p v hp (h p v hp hv)
theorem CK.putObj {S : Addr → Prop} (W : World) (l : Nat) (o o' : Obj) (h : W.heap[l]? = some o) (hc : o.isCells = false) : CK S W (W.putObj l o') :=
  fun p v _ hv => cell_kept hv (grownBy_putObj' W l o') (fun r e => by cases e; exact ⟨_, h, hc⟩)
theorem CK.below {S : Addr → Prop} {n₀ : Nat} {A B : World} (hS : ∀ p, S p → p.block < n₀) (h : Below n₀ A B) : CK S A B := fun p v hp hv => (h.cell (p := p) (hS p hp)).trans hv
/-- The cells that slices.Backward reads: its box, the slice's cells. -/
def BwS (Bs : Nat) (A : Option Addr) (n : Nat) (p : Addr) : Prop := p = ⟨Bs, 0, none⟩ ∨ ∃ ad j, A = some ad ∧ j < n ∧ p = ad.add j

set_option maxRecDepth 100000 in
set_option maxHeartbeats 2000000 in
theorem bw1_in (F : Fence) (m : Nat) (h75 : F.fn 45) (hro : F.round = none) (hm : 1 ≤ m) (l Bs : Nat) (ad : Addr) (n cap : Nat) (zs : List Int) (hreach : n ≤ 9223372036854775807) (J Jx : List {j : Nat // j < n} → World → Prop)
    (hY : ∀ pre x W, J pre W → pre.length < n → YieldAt F (m - 1) Tryd.prog l #[.int .i64 (x.1 : Int), .int .i64 (zs[x.1]?.getD 0)] W fun e W' =>
      (e = .returned (.bool true) ∧ J (pre ++ [x]) W' ∧ CK (BwS Bs (some ad) n) W W') ∨ (e = .returned (.bool false) ∧ Jx (pre ++ [x]) W'))
    (W : World) (hBs : W.cell? ⟨Bs, 0, none⟩ = some (.slice (some ad) n cap)) (hn : 0 < n) (hc : ∀ j, j < n → W.cell? (ad.add j) = some (.int .i64 (zs[j]?.getD 0))) (h0 : J [] W) :
    CallsIn F m Tryd.prog 45 #[.func (.yield l) #[] #[], .pointer (some ⟨Bs, 0, none⟩)] W fun e W' => (∃ v, e = .returned v) ∧
      ((∃ ys : List {j : Nat // j < n}, ys.map (·.1) = dn n n ∧ J ys W') ∨ (∃ pre : List {j : Nat // j < n}, (∃ k, k ≤ n ∧ pre.map (·.1) = dn n k) ∧ Jx pre W')) := by
  refine callsIn_of_wp Tryd.func45 rfl h75 ?_ hro
  simp only [Tryd.ntmps45, List.size_toArray, List.length_cons, List.length_nil, Nat.reduceAdd, Nat.reduceSub, Array.replicate_succ, Array.replicate_zero, List.push_toArray, List.append_toArray, List.nil_append, List.cons_append]
  gi_wp2
  gi_loopw [3] (fun i wr => ∃ (k : Nat) (pre : List {j : Nat // j < n}), k ≤ n ∧ i = .int .i64 ((n : Int) - 1 - k) ∧ pre.map (·.1) = dn n k ∧ J pre wr ∧ CK (BwS Bs (some ad) n) W wr)
    (fun i _ => (intOf i + 1).toNat)
  case atStart => exact ⟨0, [], Nat.zero_le _, by simp, rfl, h0, CK.refl _ _⟩
  case round =>
    obtain ⟨k, pre, hk, rfl, hpre, hJs, hnx⟩ := hrel
    have hlen : pre.length = k := by have := congrArg List.length hpre; simpa [dn_length] using this
    have hbs' : wr.cell? ⟨Bs, 0, none⟩ = some (.slice (some ad) n cap) := hnx _ _ (.inl rfl) hBs
    by_cases hlt : k < n
    · obtain ⟨j, hj, hjn⟩ : ∃ j : Nat, (n : Int) - 1 - k = (j : Int) ∧ j < n := ⟨n - 1 - k, by omega, by omega⟩
      have hcx : wr.cell? (ad.add j) = some (.int .i64 (zs[j]?.getD 0)) := hnx _ _ (.inr ⟨ad, j, rfl, hjn, rfl⟩) (hc j hjn)
      have hdj : dn n (k + 1) = dn n k ++ [j] := by rw [dn_succ]; congr 2; omega
      obtain ⟨fn, tmps, assign, body, hy, hR⟩ := hY pre ⟨j, hjn⟩ wr hJs (by omega)
      dsimp only at hy
      have HL := Lib.hid hlen
      have HD := Lib.hid hdj
      have HJ := Lib.hid hj
      clear hlen hdj
      rw [hj]
      clear hj
      have hj0 : (0 : Int) ≤ (j : Int) := by omega
      gi_wp2
      refine hR.mono ?_
      rintro e W3 (⟨rfl, hJ3, hk3⟩ | ⟨rfl, hJx3⟩)
      · gi_wp2
        go_roundw
        case rel => exact ⟨k + 1, pre ++ [⟨j, hjn⟩], by omega, by have := HJ.out; go_num, by rw [HD.out, List.map_append, hpre]; rfl, hJ3, hnx.trans hk3⟩
        case measure => first | (simp [intOf]; done) | (simp [intOf]; omega)
      · gi_wp2
        refine bodyPost_ret (results_none rfl _ _ _) rfl ?_
        exact ⟨⟨_, rfl⟩, .inr ⟨pre ++ [⟨j, hjn⟩], ⟨k + 1, by omega, by rw [HD.out, List.map_append, hpre]; rfl⟩, hJx3⟩⟩
    · obtain rfl : k = n := by omega
      have hneg : (k : Int) - 1 - k = -1 := by omega
      rw [hneg]
      clear hneg
      gi_wp2
      go_end0
      exact ⟨⟨_, rfl⟩, .inl ⟨pre, hpre, hJs⟩⟩

set_option maxRecDepth 100000 in
set_option maxHeartbeats 1000000 in
theorem bw1_nil_in (F : Fence) (m : Nat) (h75 : F.fn 45) (hro : F.round = none) (l Bs : Nat) (A : Option Addr) (cap : Nat) (α : Type) (J : List α → World → Prop) (W : World) (hBs : W.cell? ⟨Bs, 0, none⟩ = some (.slice A 0 cap)) (h0 : J [] W) :
    CallsIn F m Tryd.prog 45 #[.func (.yield l) #[] #[], .pointer (some ⟨Bs, 0, none⟩)] W fun e W' => (∃ v, e = .returned v) ∧ J [] W' := by
  refine callsIn_of_wp Tryd.func45 rfl h75 ?_ hro
  simp only [Tryd.ntmps45, List.size_toArray, List.length_cons, List.length_nil, Nat.reduceAdd, Nat.reduceSub, Array.replicate_succ, Array.replicate_zero, List.push_toArray, List.append_toArray, List.nil_append, List.cons_append]
  gi_wp2
  gi_loopw [3] (fun i wr => i = .int .i64 (-1) ∧ J [] wr) (fun _ _ => 0)
  case atStart => exact ⟨rfl, h0⟩
  case round =>
    obtain ⟨rfl, hJs⟩ := hrel
    gi_wp2
    go_end0
    exact ⟨⟨_, rfl⟩, hJs⟩

set_option maxHeartbeats 1000000 in
theorem bw_in (F : Fence) (m : Nat) (h67 : F.fn 34) (hro : F.round = none) (a : Option Addr) (len cap : Nat) (w : World) :
    CallsIn F m Tryd.prog 34 #[.slice a len cap] w fun e w' => e = .returned (.func (.func 45) #[] #[.pointer (some ⟨w.heap.size, 0, none⟩)]) ∧ w' = w.alloc (.cells #[.slice a len cap] 22) := by
  refine callsIn_of_wp Tryd.func34 rfl h67 ?_ hro
  simp only [Tryd.ntmps34, List.size_toArray, List.length_cons, List.length_nil, Nat.reduceAdd, Nat.reduceSub, Array.replicate_succ, Array.replicate_zero, List.push_toArray, List.append_toArray, List.nil_append, List.cons_append]
  gi_wp2
  go_ret
  exact ⟨rfl, rfl⟩

/-- What a slice that is read holds. -/
def BwRow (W : World) (A : Option Addr) (n : Nat) (zs : List Int) : Prop :=
  n ≤ 9223372036854775807 ∧ (0 < n → ∃ ad, A = some ad ∧ ∀ j, j < n → W.cell? (ad.add j) = some (.int .i64 (zs[j]?.getD 0)))
theorem BwRow.below {n : Nat} {W W' : World} {A : Option Addr} {zs : List Int} (h : BwRow W A n zs) (hb : Below W.heap.size W W') : BwRow W' A n zs :=
  ⟨h.1, fun hn => by
    obtain ⟨ad, e, hc⟩ := h.2 hn
    exact ⟨ad, e, fun j hj => (hb.cell (World.block_lt_of_cell? W _ (hc j hj))).trans (hc j hj)⟩⟩
theorem BwRow.of {w : World} {A : Option Addr} {zs : List Int} (h : Kd.C (Kd.int .i64) w A zs.length zs) : BwRow w A zs.length zs := by
  refine ⟨h.2.1, fun hn => ?_⟩
  obtain ⟨ad, e, hc⟩ := h.2.2 hn
  refine ⟨ad, e, fun j hj => ?_⟩
  obtain ⟨c, hs, hr, hcell⟩ := hc j zs[j] (List.getElem?_eq_getElem hj)
  have hr' : c = [.int .i64 zs[j]] := hr
  subst hr'
  have := hcell 0 _ rfl
  rw [show j * (Kd.int IntKind.i64).sz + 0 = j from Nat.mul_one j] at this
  simpa [hj] using this

theorem bw_stops (F : Fence) (m : Nat) (h75 : F.fn 45) (hro : F.round = none) (hm : 1 ≤ m) (Bs : Nat) (A : Option Addr) (n cap : Nat) (zs : List Int) (w : World) (hBs : Bs < w.heap.size)
    (hc : w.cell? ⟨Bs, 0, none⟩ = some (.slice A n cap)) (hI : BwRow w A n zs) :
    SeqStopsK F m Tryd.prog 45 #[.pointer (some ⟨Bs, 0, none⟩)] (fun x : {j : Nat // j < n} => #[Value.int .i64 (x.1 : Int), Value.int .i64 (zs[x.1]?.getD 0)]) (CK (BwS Bs A n)) (fun ys => ys.map (·.1) = dn n n)
      (fun pre => ∃ k, k ≤ n ∧ pre.map (·.1) = dn n k) n w := fun l J Jx W hW _ _ hY h0 => by
  have hc' := (hW.cell (p := ⟨Bs, 0, none⟩) hBs).trans hc
  have hI' := hI.below hW
  rcases Nat.eq_zero_or_pos n with rfl | hn
  · exact (bw1_nil_in F m h75 hro l Bs A cap _ J W hc' h0).mono fun e W' ⟨he, hj⟩ => ⟨he, .inl ⟨[], rfl, hj⟩⟩
  · obtain ⟨ad, rfl, hcs⟩ := hI'.2 hn
    exact bw1_in F m h75 hro hm l Bs ad n cap zs hI'.1 J Jx hY W hc' hn hcs h0

/-! ### natText -/
/-- The digits of the limb at a place: four of them, but for the first limb. -/
def ntPiece (l : List Int) (j : Nat) : List UInt8 :=
  if j + 1 < l.length then Lib.repeatL [48] (4 - (Lib.itoa (l[j]?.getD 0)).length) ++ Lib.itoa (l[j]?.getD 0) else Lib.itoa (l[j]?.getD 0)
def ntText (l : List Int) : List Nat → List UInt8
  | [] => []
  | j :: r => ntPiece l j ++ ntText l r
theorem ntText_snoc (l : List Int) (j : Nat) : ∀ js, ntText l (js ++ [j]) = ntText l js ++ ntPiece l j
  | [] => by simp [ntText]
  | k :: js => by rw [List.cons_append, ntText, ntText, ntText_snoc l j js, List.append_assoc]
theorem ntDec_len : ∀ (d u : Nat), u < 10 ^ (d + 1) → (Lib.decDigits u).length ≤ d + 1
  | 0, u, h => by rw [Lib.decDigits, dif_pos (by simpa using h)]; simp
  | d + 1, u, h => by
    rw [Lib.decDigits]
    split
    · simp
    · have := ntDec_len d (u / 10) (by rw [Nat.pow_succ] at h; omega)
      simp; omega
theorem ntItoa_len {x : Int} (h0 : 0 ≤ x) (h1 : x < 10000) : (Lib.itoa x).length ≤ 4 := by
  unfold Lib.itoa
  rw [if_neg (by omega)]
  exact ntDec_len 3 x.toNat (by omega)
theorem ntPiece_len (l : List Int) (hl : ∀ x ∈ l, 0 ≤ x ∧ x < 10000) (j : Nat) (hj : j < l.length) : (ntPiece l j).length ≤ 4 := by
  have hx := hl (l[j]?.getD 0) (by rw [List.getElem?_eq_getElem hj, Option.getD_some]; exact List.getElem_mem _)
  have := ntItoa_len hx.1 hx.2
  unfold ntPiece
  split
  · rw [List.length_append, Lib.repeatL_length]; simp; omega
  · exact this
theorem ntText_len (l : List Int) (hl : ∀ x ∈ l, 0 ≤ x ∧ x < 10000) : ∀ js : List {j : Nat // j < l.length}, (ntText l (js.map (·.1))).length ≤ 4 * js.length
  | [] => by simp [ntText]
  | ⟨j, hj⟩ :: r => by
    have h1 := ntPiece_len l hl j hj
    have h2 := ntText_len l hl r
    simp only [List.map_cons, ntText, List.length_append, List.length_cons]
    omega
abbrev NtTab (w : World) : Prop := Lib.TabIs Tryd.prog w "internal/strconv.uint64pow10" .u64 Lib.pow10Tab
theorem ntTab_below {w w' : World} {B : Nat} (h : NtTab w) (hb : Below B w w') (hB : w.heap.size ≤ B) : NtTab w' := by
  obtain ⟨g, hg⟩ : ∃ g, Tryd.prog.globalNamed "internal/strconv.uint64pow10" = some g := Option.isSome_iff_exists.1 (by kernel_rfl)
  exact Joins.tab_stays hg h hb hB
theorem nt_itoa (x : Int) (h0 : 0 ≤ x) (h1 : x < 10000) (W : World) (ht : NtTab W) :
    Calls Tryd.prog 35 #[.int .i64 x] W fun e W' => e = .returned (.string ⟨(Lib.itoa x).toArray⟩) ∧ Below W.heap.size W W' := by
  refine (Tryd.strconv_Itoa x (by omega) (by omega) W ht).mono ?_
  rintro e W' ⟨rfl, k, os, rfl⟩
  exact ⟨rfl, Lib.below_grow _ _ (Nat.le_refl _) _ _⟩
theorem nt_rep (z : Int) (c : Nat) (hz : z = (c : Int)) (hc : c ≤ 4) (W : World) :
    Calls Tryd.prog 36 #[.string ⟨#[48]⟩, .int .i64 z] W fun e W' => e = .returned (.string ⟨(Lib.repeatL [48] c).toArray⟩) ∧ Below W.heap.size W W' := by
  subst hz
  exact Tryd.strings_Repeat ⟨#[48]⟩ c W (by omega) (by show 1 * c ≤ _; omega)
theorem nt_write (b : Nat) (l : List UInt8) (s : ByteArray) (m : List UInt8) (hs : s.data.toList = m) (W : World) (h : Lib.IsBuilderF 54 5 b b (Lib.byteCells l) W) (hlen : l.length + m.length ≤ 140737488355328) :
    Calls Tryd.prog 37 #[.pointer (some ⟨b, 0, none⟩), .string s] W fun e W' => (∃ v, e = .returned v) ∧ Lib.IsBuilderF 54 5 b b (Lib.byteCells (l ++ m)) W' ∧ Below b W W' ∧ Lib.OthersKept 5 (some b) W W' := by
  have hbw : b ≤ W.heap.size := Nat.le_of_lt (h.elim (fun x => x.lt) (fun x => x.lt))
  have hsz : s.size = m.length := by rw [← hs, Array.length_toList]; rfl
  refine (Tryd.Builder_WriteString_k b b _ s W h (by rw [Lib.byteCells_length, hsz]; exact hlen) hbw).mono ?_
  rintro e W' ⟨rfl, h1, h2, h3⟩
  refine ⟨⟨_, rfl⟩, .inr ?_, h2, h3⟩
  rw [Lib.byteCells_append, ← hs]
  exact h1
/-- A builder's bytes behind a step that turns no cells of memory. -/
theorem BuilderAtF_grown {T e : TypeId} {B b : Nat} {p : Value} {bs : List Value} {W W' : World} {row : Option Nat} (h : Lib.BuilderAtF T e B b p bs W) (hg : W.grownBy W' row) (hr : ∀ r, row = some r → ∃ o : Obj, W.heap[r]? = some o ∧ o.isCells = false) : Lib.BuilderAtF T e B b p bs W' := by
  obtain ⟨hB, v, hb, hown, hne⟩ := h
  have hlt : b < W.heap.size := (Array.getElem?_eq_some_iff.1 hb).1
  refine ⟨hB, v, (hg.block b hlt ?_).trans hb, hown.kept hg ?_, hne⟩
  · intro e1
    obtain ⟨o, ho, hc⟩ := hr b e1.symm
    rw [hb] at ho
    cases ho
    cases hc
  · by_cases hv : v.ownBlock = none
    · exact .inl hv
    · refine .inr fun e1 => ?_
      obtain ⟨g, hg1⟩ : ∃ g, v.ownBlock = some g := Option.ne_none_iff_exists'.1 hv
      rw [hg1] at e1
      obtain ⟨o, ho, hc⟩ := hr g e1.symm
      obtain ⟨c, fz, hk⟩ := Lib.ownsRowF_kind hown g hg1
      rw [hk] at ho
      cases ho
      cases hc
theorem IsBuilderF_grown {T e : TypeId} {B b : Nat} {bs : List Value} {W W' : World} {row : Option Nat} (h : Lib.IsBuilderF T e B b bs W) (hg : W.grownBy W' row) (hr : ∀ r, row = some r → ∃ o : Obj, W.heap[r]? = some o ∧ o.isCells = false) : Lib.IsBuilderF T e B b bs W' :=
  h.elim (fun x => .inl (BuilderAtF_grown x hg hr)) (fun x => .inr (BuilderAtF_grown x hg hr))
theorem IsBuilderF_below {T e : TypeId} {B b : Nat} {bs : List Value} {W W' : World} (h : Lib.IsBuilderF T e B b bs W) (hb : Below W.heap.size W W') : Lib.IsBuilderF T e B b bs W' :=
  IsBuilderF_grown (row := none) h ⟨hb.os, hb.tape, hb.output, hb.size, fun k hk _ => hb.block k hk⟩ (fun r e => by cases e)
/-- What a round keeps: every block but the builder and its row. -/
def NtKeep (b : Nat) (W W' : World) : Prop := W.heap.size ≤ W'.heap.size ∧ ∀ k o, W.heap[k]? = some o → k ≠ b → (∀ c fz, o ≠ .cells c 5 fz) → W'.heap[k]? = some o
theorem NtKeep.of {b : Nat} {W W1 W2 : World} (h : Below W.heap.size W W1) (hb : Below b W1 W2) (hk : Lib.OthersKept 5 (some b) W1 W2) : NtKeep b W W2 :=
  ⟨Nat.le_trans h.size hb.size, fun k o ho hne hc => hk k o ((h.block k (Array.getElem?_eq_some_iff.1 ho).1).trans ho) (fun e => hne (Option.some.inj e)) hc⟩
def NtInv (w : World) (A : Option Addr) (c : Nat) (l : List Int) (js : List Nat) (W : World) : Prop :=
  (Lib.IsBuilderF 54 5 (w.heap.size + 1) (w.heap.size + 1) (Lib.byteCells (ntText l js)) W ∧ W.heap[w.heap.size]? = some (.cells #[.slice A l.length c] 22 (0, 0)) ∧ W.heap[w.heap.size + 1 + 1]? = some (.cells #[.slice A l.length c] 22 (0, 0))) ∧ Below w.heap.size w W
theorem NtInv.own (w : World) (A : Option Addr) (c : Nat) (l : List Int) : OwnFrom (w.heap.size + 1 + 1 + 1) (fun (pre : List {j : Nat // j < l.length}) W => NtInv w A c l (pre.map (·.1)) W) :=
  OwnFrom.and (fun s X Y row hs hg hr => ⟨IsBuilderF_grown hs.1 hg (fun r e => (hr r e).2), (grownBy_keeps_cells hg (fun r e => (hr r e).2) hs.2.1 rfl).trans hs.2.1, (grownBy_keeps_cells hg (fun r e => (hr r e).2) hs.2.2 rfl).trans hs.2.2⟩) (ownFrom_below (Nat.le_refl _) (by omega))
theorem cW_ {F : Fence} (hF : F = Fence.wide) {n : Nat} {f : FuncId} {args : Array Value} {w : World} {R : Ending → World → Prop} (h : Calls Tryd.prog f args w R) : CallsIn F n Tryd.prog f args w R := by subst hF; exact callsIn_wide.2 h
theorem NtKeep.from {b B : Nat} {W W' : World} (h : NtKeep b W W') {o : Obj} (hb : W.heap[b]? = some o) (hc : o.isCells = true) : KeepsFrom B W W' :=
  ⟨h.1, fun k o' _ hk ho => h.2 k o' hk (fun e => by subst e; rw [hb] at hk; cases hk; rw [hc] at ho; cases ho) (fun c fz e => by subst e; cases ho)⟩
theorem builder_cells {T e : TypeId} {B b : Nat} {bs : List Value} {W : World} (h : Lib.IsBuilderF T e B b bs W) : ∃ o : Obj, W.heap[b]? = some o ∧ o.isCells = true := by
  rcases h with ⟨_, v, hb, _⟩ | ⟨_, v, hb, _⟩ <;> exact ⟨_, hb, rfl⟩
/-- One round's end: what is told of the world behind it. -/
theorem nt_round {w : World} {A0 : Option Addr} {c0 : Nat} {l0 : List Int} {js : List Nat} {j : Nat} {W W2 W3 : World} (hI0 : BwRow w A0 l0.length l0) (hi : NtInv w A0 c0 l0 js W) (hb : Below W.heap.size W W2) (hbd : Lib.IsBuilderF 54 5 (w.heap.size + 1) (w.heap.size + 1) (Lib.byteCells (ntText l0 js ++ ntPiece l0 j)) W3) (hb3 : Below (w.heap.size + 1) W2 W3) (hk : Lib.OthersKept 5 (some (w.heap.size + 1)) W2 W3) :
    KeepsFrom (w.heap.size + 1 + 1 + 1) W W3 ∧ CK (BwS (w.heap.size + 1 + 1) A0 l0.length) W W3 ∧ NtInv w A0 c0 l0 (js ++ [j]) W3 := by
  obtain ⟨⟨i1, i2, i3⟩, i4⟩ := hi
  have nk := NtKeep.of (b := w.heap.size + 1) (hb) hb3 hk
  obtain ⟨o, ho, hoc⟩ := builder_cells i1
  have ne5 : (22 : Nat) ≠ 5 := by decide
  have k2 := nk.2 _ _ i2 (by omega) (fun c fz e => by injection e with _ e2; exact ne5 e2)
  have k3 := nk.2 _ _ i3 (by omega) (fun c fz e => by injection e with _ e2; exact ne5 e2)
  have hbw : Below w.heap.size w W3 := (i4.trans (hb.mono i4.size)).trans (hb3.mono (by omega))
  have hww : Below w.heap.size W W3 := (hb.mono i4.size).trans (hb3.mono (by omega))
  refine ⟨nk.from ho hoc, ?_, ⟨⟨by rw [ntText_snoc]; exact hbd, k2, k3⟩, hbw⟩⟩
  rintro p v (rfl | ⟨ad, q, rfl, hq, rfl⟩) hv
  · rw [← hv]
    unfold World.cell?
    rw [i3, k3]
  · obtain ⟨ad', e, hc⟩ := hI0.2 (by omega)
    cases e
    exact (hww.cell (World.block_lt_of_cell? w _ (hc q hq))).trans hv
set_option maxRecDepth 100000 in
set_option maxHeartbeats 4000000 in
theorem natText_in (F : Fence) (m : Nat) (hF : F = Fence.wide) (hm : 4 ≤ m) (A0 : Option Addr) (c0 : Nat) (l0 : List Int) (hne : 0 < l0.length) (hl : ∀ x ∈ l0, 0 ≤ x ∧ x < 10000) (hlen : l0.length ≤ 1000) (w : World) (hI0 : BwRow w A0 l0.length l0) (ht : NtTab w) :
    CallsIn F m Tryd.prog 23 #[.slice A0 l0.length c0] w fun e W' => e = .returned (.string ⟨(ntText l0 (dn l0.length l0.length)).toArray⟩) ∧ Below w.heap.size w W' := by
  have h1 : 1 ≤ m := by omega
  have h2 : 1 ≤ m - 1 - 1 := by omega
  have hro : F.round = none := by rw [hF]; rfl
  have hf : ∀ k, F.fn k := fun k => by rw [hF]; trivial
  have hf0 := hf 23
  have hf1 := hf 34
  have hf2 := hf 45
  have hf3 := hf 35
  have hf4 := hf 36
  have hf5 := hf 37
  have hf6 := hf 38
  have HF := Lib.hid hF
  clear hf hF
  have hnz : ((l0.length : Int) == 0) = false := beq_eq_false_iff_ne.2 (by omega)
  have HL := Lib.hid hl
  clear hl
  refine callsIn_of_wp_marks Tryd.func23 rfl hf0 ?_ hro
  simp only [Tryd.ntmps23, List.size_toArray, List.length_cons, List.length_nil, Nat.reduceAdd, Nat.reduceSub, Array.replicate_succ, Array.replicate_zero, List.push_toArray, List.append_toArray, List.nil_append, List.cons_append]
  gi_wp2_with (gi_at_call 34; refine (bw_in F (m - 1) hf1 hro _ _ _ _).mono ?_; rintro e w' ⟨rfl, rfl⟩)
  have hB0 : Below w.heap.size w (((w.alloc (.cells #[.slice A0 l0.length c0] 22)).alloc (.cells #[.pointer none, .slice none 0 0] 54)).alloc (.cells #[.slice A0 l0.length c0] 22)) := (((Below.refl _ w).alloc (Nat.le_refl _) _).alloc (by simp) _).alloc (by simp; omega) _
  have hBd0 := (Lib.IsBuilderF.of (Lib.fresh_isBuilder 54 5 (w.alloc (.cells #[.slice A0 l0.length c0] 22)))).alloc (.cells #[.slice A0 l0.length c0] 22)
  rw [World.size_alloc] at hBd0
  have hx1 : (((w.alloc (.cells #[.slice A0 l0.length c0] 22)).alloc (.cells #[.pointer none, .slice none 0 0] 54)).alloc (.cells #[.slice A0 l0.length c0] 22)).heap[w.heap.size]? = some (.cells #[.slice A0 l0.length c0] 22 (0, 0)) :=
    ((Below.heap_alloc _ _ _ (by simp; omega)).trans (Below.heap_alloc _ _ _ (by simp))).trans (World.alloc_heap_new w _)
  have hx2 : (((w.alloc (.cells #[.slice A0 l0.length c0] 22)).alloc (.cells #[.pointer none, .slice none 0 0] 54)).alloc (.cells #[.slice A0 l0.length c0] 22)).heap[w.heap.size + 1 + 1]? = some (.cells #[.slice A0 l0.length c0] 22 (0, 0)) := by
    have := World.alloc_heap_new ((w.alloc (.cells #[.slice A0 l0.length c0] 22)).alloc (.cells #[.pointer none, .slice none 0 0] 54)) (.cells #[.slice A0 l0.length c0] 22)
    rwa [World.size_alloc, World.size_alloc] at this
  have hcx : (((w.alloc (.cells #[.slice A0 l0.length c0] 22)).alloc (.cells #[.pointer none, .slice none 0 0] 54)).alloc (.cells #[.slice A0 l0.length c0] 22)).cell? ⟨w.heap.size + 1 + 1, 0, none⟩ = some (.slice A0 l0.length c0) := by
    unfold World.cell?
    rw [hx2]; rfl
  have hsz : (((w.alloc (.cells #[.slice A0 l0.length c0] 22)).alloc (.cells #[.pointer none, .slice none 0 0] 54)).alloc (.cells #[.slice A0 l0.length c0] 22)).heap.size = w.heap.size + 1 + 1 + 1 := by simp
  refine wpIn_rangeFunc_ownG hro h1 (gf := 45) (lb := #[.pointer (some ⟨w.heap.size + 1 + 1, 0, none⟩)]) rfl hf2 (enters_of Tryd.func45 (by kernel_rfl) rfl)
    (bw_stops F (m - 1) hf2 hro (by omega) (w.heap.size + 1 + 1) A0 l0.length c0 l0 _ (by simp) hcx (hI0.below hB0)) CK.trans (fun W l o o' _ h hc _ => CK.putObj W l o o' h hc) (Below.refl _ _) (fun _ => rfl)
    (fun pre W => NtInv w A0 c0 l0 (pre.map (·.1)) W)
    (fun c pre W => False)
    (by rw [hsz]; exact NtInv.own w A0 c0 l0)
    (fun c s X Y row hs _ _ => hs.elim)
    ⟨⟨hBd0, hx1, hx2⟩, hB0⟩
    (fun x => { tmps := #[.slice A0 l0.length c0, .pointer (some ⟨w.heap.size, 0, none⟩), .string ⟨#[]⟩, .pointer (some ⟨w.heap.size + 1, 0, none⟩), .int .i64 (x.1 : Int), .int .i64 (l0[x.1]?.getD 0), undef, .slice A0 l0.length c0, .int .i64 l0.length, .bool false, .agg #[.pointer none, .slice none 0 0], .slice A0 l0.length c0, .func (.func 45) #[] #[.pointer (some ⟨w.heap.size + 1 + 1, 0, none⟩)], .int .i64 (x.1 : Int), .int .i64 (l0[x.1]?.getD 0), undef, undef, undef, undef, undef, undef, undef, undef, undef, undef, undef, undef, undef, undef, undef, undef], defers := [] }) ?assign ?body ?done ?stop
  case assign =>
    intro l x W K hK
    gi_wp2
    exact hK
  case stop =>
    rintro D c pre W hD hpre hf _
    exact hf.elim
  case body =>
    rintro l pre ⟨j, hj⟩ W hi hlt
    have hx := HL.out (l0[j]?.getD 0) (by rw [List.getElem?_eq_getElem hj, Option.getD_some]; exact List.getElem_mem _)
    have hc : W.cell? ⟨w.heap.size, 0, none⟩ = some (.slice A0 l0.length c0) := by
      unfold World.cell?
      rw [hi.1.2.1]; rfl
    have hlw : w.heap.size < W.heap.size := World.block_lt_of_cell? W _ hc
    have htW := Lib.hid (ntTab_below ht hi.2 (Nat.le_refl _))
    have hln := ntItoa_len hx.1 hx.2
    have hpc : ntPiece l0 j = if j + 1 < l0.length then Lib.repeatL [48] (4 - (Lib.itoa (l0[j]?.getD 0)).length) ++ Lib.itoa (l0[j]?.getD 0) else Lib.itoa (l0[j]?.getD 0) := rfl
    dsimp only
    obtain ⟨x, hxe⟩ : ∃ x, l0[j]?.getD 0 = x := ⟨_, rfl⟩
    rw [hxe] at hx hln hpc
    simp only [hxe]
    obtain ⟨sx, hsx⟩ : ∃ s : ByteArray, s = ⟨(Lib.itoa x).toArray⟩ := ⟨_, rfl⟩
    have hsl : sx.data.toList = Lib.itoa x := by rw [hsx]
    have hss : sx.size ≤ 4 := by rw [hsx]; show (Lib.itoa x).toArray.size ≤ 4; rw [List.size_toArray]; exact hln
    have HX := Lib.hid hx
    have HI := Lib.hid hi
    have HP := Lib.hid hpc
    have HS := Lib.hid hsl
    have HS4 := Lib.hid hss
    have itoaC : Calls Tryd.prog 35 #[.int .i64 x] W fun e W' => e = .returned (.string sx) ∧ Below W.heap.size W W' := by rw [hsx]; exact nt_itoa x hx.1 hx.2 W htW.out
    have IC := Lib.hid itoaC
    clear hx hi hpc hsl hss itoaC hsx hln
    have hpl := ntPiece_len l0 HL.out j hj
    have htl := ntText_len l0 HL.out pre
    have hsum : (ntText l0 (pre.map (·.1))).length + (ntPiece l0 j).length ≤ 140737488355328 := by omega
    have HSUM := Lib.hid hsum
    clear hpl htl hsum
    have hxs : sx.size = (Lib.itoa x).length := by rw [← HS.out, Array.length_toList]; rfl
    by_cases hjn : j + 1 < l0.length
    · have hd : ((j : Int) < (l0.length : Int) - 1) = True := eq_true (by omega)
      obtain ⟨rp, hrp⟩ : ∃ s : ByteArray, s = ⟨(Lib.repeatL [48] (4 - sx.size)).toArray⟩ := ⟨_, rfl⟩
      have repC : ∀ W1, Calls Tryd.prog 36 #[.string ⟨#[48]⟩, .int .i64 (wrap64 (4 - (sx.size : Int)))] W1 fun e W' => e = .returned (.string rp) ∧ Below W1.heap.size W1 W' := fun W1 => by
        have h4 := HS4.out
        rw [hrp]
        exact nt_rep _ (4 - sx.size) (by simp only [wrap64]; omega) (by omega) W1
      have hcat : (rp ++ sx).data.toList = ntPiece l0 j := by
        rw [HP.out, if_pos hjn, ByteArray.data_append, Array.toList_append, HS.out, hrp, hxs]
      have RC := Lib.hid repC
      have HC := Lib.hid hcat
      have hrs : (9223372036854775807 < rp.size + sx.size) = False := eq_false (by
        have h6 := HS4.out
        have h7 : rp.size = 4 - sx.size := by
          rw [hrp]
          show (Lib.repeatL [48] (4 - sx.size)).toArray.size = _
          rw [List.size_toArray, Lib.repeatL_length]; simp
        omega)
      clear repC hcat hrp hxs
      gi_wp2_with (first | (gi_at_call 35; refine (CallsIn.inRound l (cW_ HF.out IC.out)).mono ?_; rintro e W1 ⟨rfl, hb1⟩; have hc1 : W1.cell? ⟨w.heap.size, 0, none⟩ = some (.slice A0 l0.length c0) := (hb1.cell hlw).trans hc) | (gi_at_call 36; refine (CallsIn.inRound l (cW_ HF.out (RC.out W1))).mono ?_; rintro e W2 ⟨rfl, hb2⟩) | (gi_at_call 37; refine (CallsIn.inRound l (cW_ HF.out (nt_write _ _ _ _ HC.out W2 (IsBuilderF_below (IsBuilderF_below HI.out.1.1 hb1) hb2) HSUM.out))).mono ?_; rintro e W3 ⟨⟨v3, rfl⟩, hbd3, hb3, hk3⟩))
      have r := nt_round hI0 HI.out (hb1.trans (hb2.mono hb1.size)) hbd3 hb3 hk3
      have e1 : (pre ++ [(⟨j, hj⟩ : {j : Nat // j < l0.length})]).map (·.1) = pre.map (·.1) ++ [j] := by rw [List.map_append]; rfl
      refine ⟨?_, r.2.1, ?_⟩
      · rw [hsz]; exact r.1
      · show NtInv w A0 c0 l0 ((pre ++ [(⟨j, hj⟩ : {j : Nat // j < l0.length})]).map (·.1)) W3
        rw [e1]; exact r.2.2
    · have hd : ((j : Int) < (l0.length : Int) - 1) = False := eq_false (by omega)
      have hcat : sx.data.toList = ntPiece l0 j := by
        rw [HP.out, if_neg hjn, HS.out]
      have HC := Lib.hid hcat
      clear hcat hxs
      gi_wp2_with (first | (gi_at_call 35; refine (CallsIn.inRound l (cW_ HF.out IC.out)).mono ?_; rintro e W1 ⟨rfl, hb1⟩; have hc1 : W1.cell? ⟨w.heap.size, 0, none⟩ = some (.slice A0 l0.length c0) := (hb1.cell hlw).trans hc) | (gi_at_call 37; refine (CallsIn.inRound l (cW_ HF.out (nt_write _ _ _ _ HC.out W1 (IsBuilderF_below HI.out.1.1 hb1) HSUM.out))).mono ?_; rintro e W3 ⟨⟨v3, rfl⟩, hbd3, hb3, hk3⟩))
      have r := nt_round hI0 HI.out hb1 hbd3 hb3 hk3
      have e1 : (pre ++ [(⟨j, hj⟩ : {j : Nat // j < l0.length})]).map (·.1) = pre.map (·.1) ++ [j] := by rw [List.map_append]; rfl
      refine ⟨?_, r.2.1, ?_⟩
      · rw [hsz]; exact r.1
      · show NtInv w A0 c0 l0 ((pre ++ [(⟨j, hj⟩ : {j : Nat // j < l0.length})]).map (·.1)) W3
        rw [e1]; exact r.2.2
  case done =>
    rintro D ys W hD hys hi hK
    have hys' : ys.map (·.1) = dn l0.length l0.length := hys
    have hi' : NtInv w A0 c0 l0 (ys.map (·.1)) W := hi
    rw [hys'] at hi'
    have hbw : w.heap.size + 1 ≤ W.heap.size := by
      obtain ⟨o, ho, _⟩ := builder_cells hi'.1.1
      exact Nat.le_of_lt (Array.getElem?_eq_some_iff.1 ho).1
    have HI := Lib.hid hi'
    have strC := Tryd.Builder_String_any_k (w.heap.size + 1) (w.heap.size + 1) _ W hi'.1.1 hbw
    have SC := Lib.hid strC
    clear hi hi' hys hys' strC
    gi_wp2_with (gi_at_call 38; refine (cW_ HF.out SC.out).mono ?_; rintro e W2 ⟨rfl, hbd2, hb2, hk2⟩)
    have hK2 : W2.heap[D]? = some (.deferred (some [])) := hk2 D _ hK (fun e => by
      obtain ⟨o, ho, hoc⟩ := builder_cells HI.out.1.1
      rw [← Option.some.inj e, hK] at ho
      cases ho
      cases hoc) (fun _ _ e => by cases e)
    have hbb := HI.out.2.trans (hb2.mono (by omega))
    refine ⟨by simp, .inl ⟨_, _, rfl, run_takeDeferred hK2, ?_⟩⟩
    refine ⟨.string ⟨(ntText l0 (dn l0.length l0.length)).toArray⟩, ?_, rfl, hbb.trans (belowK_b (w := w) (Nat.le_refl _) W2 D _ _ (by rw [hsz] at hD; omega) hK2 rfl rfl)⟩
    simp [results, Tryd.f23, go_sem]
def impl_natText.f (l0 : List Int) : Option ByteArray := if l0 = [] then some ⟨#[48]⟩ else if l0.length ≤ 1000 ∧ (l0.all fun x => decide (0 ≤ x ∧ x < 10000)) = true then some ⟨(ntText l0 (dn l0.length l0.length)).toArray⟩ else none
set_option maxRecDepth 100000 in
set_option maxHeartbeats 1000000 in
theorem impl_natText.calls (A0 : Option Addr) (c0 : Nat) (l0 : List Int) (r : ByteArray) (w : World) (hg : NtTab w) (hr0 : Kd.C (Kd.int .i64) w A0 l0.length l0) (hc0 : l0.length ≤ c0) (h : impl_natText.f l0 = some r) :
    Calls Tryd.prog 23 #[.slice A0 l0.length c0] w fun e w' => e = .returned (.string r) ∧ Below w.heap.size w w' := by
  have hI0 := BwRow.of hr0
  unfold impl_natText.f at h
  by_cases h0 : l0 = []
  · rw [if_pos h0] at h
    cases h
    subst h0
    clear hI0 hr0 hc0 hg
    go_enter Tryd.func23, Tryd.ntmps23
    go_wp2
    go_ret
    exact ⟨rfl, (Below.refl _ _).alloc (Nat.le_refl _) _⟩
  · rw [if_neg h0] at h
    by_cases h1 : l0.length ≤ 1000 ∧ (l0.all fun x => decide (0 ≤ x ∧ x < 10000)) = true
    · rw [if_pos h1] at h
      cases h
      refine (callsIn_wide (n := 4)).1 (natText_in Fence.wide 4 rfl (by omega) A0 c0 l0 (List.length_pos_iff.2 h0) (fun x hx => of_decide_eq_true (List.all_eq_true.1 h1.2 x hx)) h1.1 w hI0 hg)
    · rw [if_neg h1] at h; cases h

end Go.Proofs.YtgldcdnlojcchaaDoor.Q
