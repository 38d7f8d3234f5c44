-- written by a program of this claim's session (myprint.py) out of the translation; Lean checks it.
import Derived.Test.YtacdaijalkkogaaQx0
import Derived.Test.YtacdaijalkkogaaSq
import Derived.Test.YtacdaijalkkogaaQxcmp
import Derived.Test.YtacdaijalkkogaaQxdiv
import Derived.Test.YtacdaijalkkogaaQxmul
import Derived.Test.YtacdaijalkkogaaQxsub
import Derived.Test.YtacdaijalkkogaaQxrsp
import Derived.Test.YtacdaijalkkogaaQxrmk
import Derived.Test.YtacdaijalkkogaaQxadd
namespace Go.Proofs.Ytacdaijalkkogaa.Q
open Go.RowKit Go.Proofs.YtacdaijalkkogaaW.PrintWords Go.Proofs.YtacdaijalkkogaaW.PrintLast Go.Proofs.YtacdaijalkkogaaW.PrintMore
attribute [local go_sem] max2_int min2_int max_two min_two max_three min_three max_four min_four   -- for this text's walks alone
set_option linter.unusedVariables false
set_option linter.unusedSimpArgs false

def spec_l02Floor.j0 : Nat → List Int → Bool → Bool → List Int → List Int → Option (Bool × List Int × List Int)
 | 0, _, _, _, _, _ => none
 | k + 1, x3, x19, x295000, x295001, x295002 => if x19 = true then ((spec_l01Add.f k x3 (([1] : List Int))).bind fun t305 => ((spec_l02Make.f k x295000 t305 (([1] : List Int))).bind fun bt311 => (some (bt311.1, bt311.2.1, bt311.2.2)))) else ((spec_l02Make.f k x295000 x3 (([1] : List Int))).bind fun bt321 => (some (bt321.1, bt321.2.1, bt321.2.2)))
def spec_l02Floor.f (k : Nat) (a0_0 : Bool) (l0_1 : List Int) (l0_2 : List Int) : Option (Bool × List Int × List Int) := (spec_l01Div.f k l0_1 l0_2).bind fun bt296 => (if a0_0 = true then (spec_l02Floor.j0 k bt296.1 (decide ((bt296.2.length : Int) > 0)) a0_0 l0_1 l0_2) else (spec_l02Floor.j0 k bt296.1 false a0_0 l0_1 l0_2))
theorem spec_l02Floor.mono_l : ∀ k, (∀ y0 y1 y2 y3 y4, LeO (spec_l02Floor.j0 k y0 y1 y2 y3 y4) (spec_l02Floor.j0 (k + 1) y0 y1 y2 y3 y4))
 | 0 => fun _ _ _ _ _ r h => by simp [spec_l02Floor.j0] at h
 | k + 1 => by
  have ih0 := spec_l02Floor.mono_l k
  ·
   intro y0 y1 y2 y3 y4
   unfold spec_l02Floor.j0
   repeat' first
   | (with_reducible exact ih0 _ _ _ _ _)
   | (with_reducible exact spec_l01Add.mono _ _ _)
   | (with_reducible exact spec_l01Div.mono _ _ _)
   | (with_reducible exact spec_l02Make.mono _ _ _ _)
   | (with_reducible exact LeO.refl _)
   | (with_reducible exact LeO.none _)
   | (with_reducible refine LeO.ite ?_ ?_)
   | (with_reducible refine LeO.bind ?_ (fun _ => ?_))
   | exact ih0 _ _ _ _ _
   | exact spec_l01Add.mono _ _ _
   | exact spec_l01Div.mono _ _ _
   | exact spec_l02Make.mono _ _ _ _
   | exact LeO.none _
   | refine LeO.ite ?_ ?_
   | refine LeO.bind ?_ (fun _ => ?_)
theorem spec_l02Floor.mono : ∀ a0 a1 a2 k, LeO (spec_l02Floor.f k a0 a1 a2) (spec_l02Floor.f (k + 1) a0 a1 a2) := by
 intro a0 a1 a2 k
 have ih0 := spec_l02Floor.mono_l k
 unfold spec_l02Floor.f
 repeat' first
   | (with_reducible exact ih0 _ _ _ _ _)
   | (with_reducible exact spec_l01Add.mono _ _ _)
   | (with_reducible exact spec_l01Div.mono _ _ _)
   | (with_reducible exact spec_l02Make.mono _ _ _ _)
   | (with_reducible exact LeO.refl _)
   | (with_reducible exact LeO.none _)
   | (with_reducible refine LeO.ite ?_ ?_)
   | (with_reducible refine LeO.bind ?_ (fun _ => ?_))
   | exact ih0 _ _ _ _ _
   | exact spec_l01Add.mono _ _ _
   | exact spec_l01Div.mono _ _ _
   | exact spec_l02Make.mono _ _ _ _
   | exact LeO.none _
   | refine LeO.ite ?_ ?_
   | refine LeO.bind ?_ (fun _ => ?_)
set_option maxHeartbeats 8000000 in
set_option maxRecDepth 100000 in
theorem spec_l02Floor.calls (k : Nat) (a0_0 : Bool) (A0_1 : Option Addr) (c0_1 : Nat) (l0_1 : List Int) (A0_2 : Option Addr) (c0_2 : Nat) (l0_2 : List Int) (r1 : Bool) (r2 : List Int) (r3 : List Int) (w : World) (hr0_1 : Kd.C (Kd.int .i64) w A0_1 l0_1.length l0_1) (hc0_1 : l0_1.length ≤ c0_1) (hr0_2 : Kd.C (Kd.int .i64) w A0_2 l0_2.length l0_2) (hc0_2 : l0_2.length ≤ c0_2) (h : spec_l02Floor.f k a0_0 l0_1 l0_2 = some (r1, r2, r3)) :
  Calls Try.prog 74 #[.agg #[.bool a0_0, .slice A0_1 l0_1.length c0_1, .slice A0_2 l0_2.length c0_2]] w fun e w' => ∃ v1_ v2_ : Value, e = .returned (.agg #[.bool r1, v1_, v2_]) ∧ Kd.R (Kd.int .i64) 3 w' w.heap.size (fun k_ => nO k_ v2_) v1_ r2 ∧ Kd.R (Kd.int .i64) 3 w' w.heap.size (fun k_ => nO k_ v1_) v2_ r3 ∧ Below w.heap.size w w' := by
 have hu24 := Try.underlying24
 have HR0_1 := Aside0.mk hr0_1
 have HC0_1 := Aside0.mk hc0_1
 clear hr0_1 hc0_1
 have HR0_2 := Aside0.mk hr0_2
 have HC0_2 := Aside0.mk hc0_2
 clear hr0_2 hc0_2
 have HB := Aside0.mk (Below.refl w.heap.size w)
 have H : ((spec_l01Div.f k l0_1 l0_2).bind fun bt296 => (if a0_0 = true then (spec_l02Floor.j0 k bt296.1 (decide ((bt296.2.length : Int) > 0)) a0_0 l0_1 l0_2) else (spec_l02Floor.j0 k bt296.1 false a0_0 l0_1 l0_2))) = some (r1, r2, r3) := h
 clear h
 replace H := Option.bind_eq_some_iff.mp H
 obtain ⟨⟨t296, t297⟩, A20, H⟩ := H
 replace H : (if a0_0 = true then (spec_l02Floor.j0 k t296 (decide ((t297.length : Int) > 0)) a0_0 l0_1 l0_2) else (spec_l02Floor.j0 k t296 false a0_0 l0_1 l0_2)) = some (r1, r2, r3) := H
 have A2 := Aside0.mk A20
 clear A20
 have HC3 := Aside0.mk H
 clear H
 go_enter Try.func74, Try.ntmps74
 go_upto_region 2 with (first | ((with_reducible refine gate_dst (N := 1) rfl ?_); (try (refine gate_guard (by rfl) ?_; dsimp only)); refine box_event ?hg (N := 1) ?hd (cs := #[.bool a0_0, .slice A0_1 l0_1.length c0_1, .slice A0_2 l0_2.length c0_2]) (t := 24) ?hr ?_; (case hd => rfl); (case hg => rfl); (case hr => first | (go_simp; done) | (go_simp; rfl)); intro gb294 hg w4 hbox hb; have BK294 := Aside0.mk (hbox); have GW294 := geh hg HB; have GE294 := geh hg HB; replace HB := bst HB hb; clear hb hbox hg) | ((with_reducible refine gate_dst (N := 2) rfl ?_); (try (refine gate_guard (by rfl) ?_; dsimp only)); refine box_event ?hg (N := 2) ?hd (cs := #[.bool false, .slice none 0 0, .slice none 0 0]) (t := 24) ?hr ?_; (case hd => rfl); (case hg => rfl); (case hr => first | (go_simp; done) | (go_simp; rfl)); intro gb295 hg w5 hbox hb; have BK295 := Aside0.mk (hbox); have GW295 := geh hg HB; have GE295 := geh hg HB; replace HB := bst HB hb; have NB294_295 := nlt hg BK294; have NB295_294 := ngt hg BK294; replace BK294 := bkb BK294 hb; clear hb hbox hg; have hnb6 := NB294_295.out; have hnc6 := NB295_294.out; have hcz7_0 := bce BK294 0 (.bool a0_0); have hcz7_1 := bce BK294 1 (.slice A0_1 l0_1.length c0_1); have hcz7_2 := bce BK294 2 (.slice A0_2 l0_2.length c0_2); have hfz7_0 := blk_frozen BK294.out 0; have hfz7_1 := blk_frozen BK294.out 1; have hfz7_2 := blk_frozen BK294.out 2) | ((with_reducible refine gate_callee (f := 92) rfl ?_); refine goesL_ (some 10) rfl rfl Try.func92 (by kernel_rfl) rfl #[.slice A0_1 l0_1.length c0_1, .slice A0_2 l0_2.length c0_2] rfl (by (try simp only [List.map_toArray, List.map_cons, List.map_nil]); first | done | rfl | (simp only [List.length_drop, List.length_take]; rfl)) ?_; (with_reducible refine (spec_l01Div.calls k _ _ l0_1 _ _ l0_2 t296 t297 _ ?side1 ?side2 ?side3 ?side4 A2.out).mono ?_); (case side1 => exact crC (Kd.C_below HR0_1.out HB.out)); (case side2 => exact HC0_1.out); (case side3 => exact crC (Kd.C_below HR0_2.out HB.out)); (case side4 => exact HC0_2.out); rintro e w8 ⟨v298, v300, rfl, ho0, ho1, hb⟩; refine ⟨_, rfl, ?_⟩; have HO299 := lwR ho0 HB; have HO301 := lwR ho1 HB; replace BK294 := bkb BK294 hb; replace BK295 := bkb BK295 hb; replace HB := bst HB hb; (try clear hb); (try clear hb2); (try clear hk); (try clear hi); (try clear ho0); (try clear ho1)))
 (try simp only [Act.put, List.setIfInBounds_toArray, List.set_cons_zero, List.set_cons_succ])
 go_cut [19] (fun v19 wc => ∃ (kq : Nat) (x19_2 : Bool), v19 = .bool x19_2 ∧ Aside0 (spec_l02Floor.j0 kq t296 x19_2 a0_0 l0_1 l0_2 = some (r1, r2, r3)) ∧ Aside0 (kq ≤ k) ∧ Aside0 (Kd.R (Kd.int .i64) 3 wc w.heap.size (fun _ => True) v298 t296) ∧ Aside0 (wc.heap[gb294]? = some (.cells #[.bool a0_0, (.slice A0_1 l0_1.length c0_1), (.slice A0_2 l0_2.length c0_2)] 24 (0, 0))) ∧ Aside0 (wc.heap[gb295]? = some (.cells #[.bool false, (.slice none 0 0), (.slice none 0 0)] 24 (0, 0))) ∧ Aside0 (Below w.heap.size w wc))
 case first =>
  have H := HC3.out
  clear HC3
  by_cases c9 : a0_0 = true
  ·
   subst c9
   have H1 : (spec_l02Floor.j0 k t296 (decide ((t297.length : Int) > 0)) true l0_1 l0_2) = some (r1, r2, r3) := by rw [if_pos rfl] at H; exact H
   clear H
   have H := H1
   clear H1
   have H' := Aside0.mk H
   clear H
   have hnb10 := NB294_295.out
   have hnc10 := NB295_294.out
   have hcz11_0 := bce BK294 0 (.bool true)
   have hcz11_1 := bce BK294 1 (.slice A0_1 l0_1.length c0_1)
   have hcz11_2 := bce BK294 2 (.slice A0_2 l0_2.length c0_2)
   have hfz11_0 := blk_frozen BK294.out 0
   have hfz11_1 := blk_frozen BK294.out 1
   have hfz11_2 := blk_frozen BK294.out 2
   obtain ⟨Ao12, co12, eo12⟩ := Kd.R_slice HO301.out
   subst eo12
   go_wp2
   go_meet
   case rel => exact ⟨_, (decide ((t297.length : Int) > 0)), (by first | rfl | (simp; done) | (simp [*]; done)), H', ⟨by first | omega | exact Nat.le_refl _⟩, ⟨crM HO299 fun _ hk => trivial⟩, ⟨crb BK294⟩, ⟨crb BK295⟩, ⟨blw HB⟩⟩
  ·
   replace c9 := Bool.eq_false_iff.mpr c9
   subst c9
   have H1 : (spec_l02Floor.j0 k t296 false false l0_1 l0_2) = some (r1, r2, r3) := by rw [if_neg (show ¬ (false = true) by decide)] at H; exact H
   clear H
   have H := H1
   clear H1
   have H' := Aside0.mk H
   clear H
   have hnb13 := NB294_295.out
   have hnc13 := NB295_294.out
   have hcz14_0 := bce BK294 0 (.bool false)
   have hcz14_1 := bce BK294 1 (.slice A0_1 l0_1.length c0_1)
   have hcz14_2 := bce BK294 2 (.slice A0_2 l0_2.length c0_2)
   have hfz14_0 := blk_frozen BK294.out 0
   have hfz14_1 := blk_frozen BK294.out 1
   have hfz14_2 := blk_frozen BK294.out 2
   go_wp2
   go_meet
   case rel => exact ⟨_, (false), (by first | rfl | (simp; done) | (simp [*]; done)), H', ⟨by first | omega | exact Nat.le_refl _⟩, ⟨crM HO299 fun _ hk => trivial⟩, ⟨crb BK294⟩, ⟨crb BK295⟩, ⟨blw HB⟩⟩
 case rest =>
  clear HC3
  try clear c1
  try clear p2
  try clear c6
  try clear c7
  try clear c9
  try clear c10
  try clear c13
  try clear hcz11_0
  try clear hcz11_1
  try clear hcz11_2
  try clear hcz14_0
  try clear hcz14_1
  try clear hcz14_2
  try clear hcz7_0
  try clear hcz7_1
  try clear hcz7_2
  try clear hfz11_0
  try clear hfz11_1
  try clear hfz11_2
  try clear hfz14_0
  try clear hfz14_1
  try clear hfz14_2
  try clear hfz7_0
  try clear hfz7_1
  try clear hfz7_2
  obtain ⟨kq, x19_2, rfl, HA, HJ2, HO_3, BK294, BK295, HB⟩ := hcut
  cases kq with
  | zero => exact absurd HA.out (by simp [spec_l02Floor.j0])
  | succ kj2 =>
   have H := HA.out
   clear HA
   simp only [spec_l02Floor.j0] at H
   by_cases c15 : x19_2 = true
   ·
    subst c15
    have H1 : ((spec_l01Add.f kj2 t296 (([1] : List Int))).bind fun t305 => ((spec_l02Make.f kj2 a0_0 t305 (([1] : List Int))).bind fun bt311 => (some (bt311.1, bt311.2.1, bt311.2.2)))) = some (r1, r2, r3) := by rw [if_pos rfl] at H; exact H
    clear H
    have H := H1
    clear H1
    obtain ⟨y302, hy302⟩ : ∃ y_ : List Int, y_ = (([1] : List Int)) := ⟨_, rfl⟩
    replace H : ((spec_l01Add.f kj2 t296 y302).bind fun t305 => ((spec_l02Make.f kj2 a0_0 t305 (([1] : List Int))).bind fun bt311 => (some (bt311.1, bt311.2.1, bt311.2.2)))) = some (r1, r2, r3) := by first | (rw [hy302]; with_reducible exact H) | (have H2_ := (Option.bind_some _ _).symm.trans H; rw [hy302]; with_reducible exact H2_) | (have H2_ := (Option.bind_some _ _).symm.trans H; with_reducible exact H2_) | with_reducible exact H | (rw [hy302]; exact H) | exact H
    have Ny302 := Aside0.mk hy302
    clear hy302
    replace H := Option.bind_eq_some_iff.mp H
    obtain ⟨t305, A160, H⟩ := H
    replace H : ((spec_l02Make.f kj2 a0_0 t305 (([1] : List Int))).bind fun bt311 => (some (bt311.1, bt311.2.1, bt311.2.2))) = some (r1, r2, r3) := H
    have A16 := Aside0.mk A160
    clear A160
    obtain ⟨y308, hy308⟩ : ∃ y_ : List Int, y_ = (([1] : List Int)) := ⟨_, rfl⟩
    replace H : ((spec_l02Make.f kj2 a0_0 t305 y308).bind fun bt311 => (some (bt311.1, bt311.2.1, bt311.2.2))) = some (r1, r2, r3) := by first | (rw [hy308]; with_reducible exact H) | (have H2_ := (Option.bind_some _ _).symm.trans H; rw [hy308]; with_reducible exact H2_) | (have H2_ := (Option.bind_some _ _).symm.trans H; with_reducible exact H2_) | with_reducible exact H | (rw [hy308]; exact H) | exact H
    have Ny308 := Aside0.mk hy308
    clear hy308
    replace H := Option.bind_eq_some_iff.mp H
    obtain ⟨⟨t311, t312, t315⟩, A170, H⟩ := H
    replace H : (some (t311, t312, t315)) = some (r1, r2, r3) := H
    have A17 := Aside0.mk A170
    clear A170
    simp only [Option.some.injEq, Prod.mk.injEq] at H
    obtain ⟨rfl, rfl, rfl⟩ := H
    go_wp2_with (first | ((with_reducible refine gate_dst (N := 21) rfl ?_); (try (refine gate_guard (by rfl) ?_; dsimp only)); refine Kd.R_lit (Kd.int .i64) _ 3 ?hg (N := 21) ?hd (xs := ([1] : List Int)) (inner := [.int .i64 1]) (ok := fun _ => True) (okp := fun _ => True) ?hr ?hp (fun _ hk => hk) trivial (Below.refl _ _) (Nat.le_refl _) (by simp) ?_; (case hd => rfl); (case hg => rfl); (case hr => first | (go_simp; done) | (go_simp; rfl)); (case hp => exact (Reps.one (show Kd.M (Kd.int .i64) _ _ _ 1 [.int .i64 1] from rfl) (Reps.none _ _))); intro v303 w18 ho19 hb hg_ hnew_; clear hg_ hnew_; (first | rw [← Ny302.out] at ho19 | (simp only [Int.reduceToNat] at ho19; rw [← Ny302.out] at ho19)); have HO304 := lwR (nwR ho19 HO_3) HB; replace HO_3 := eldR HO_3 (Kd.R_base ho19) hb; replace BK294 := bkb BK294 hb; replace BK295 := bkb BK295 hb; replace HB := bst HB hb; clear hb ho19; obtain ⟨Ao20, co20, eo20⟩ := Kd.R_slice HO_3.out; subst eo20; obtain ⟨Ao21, co21, eo21⟩ := Kd.R_slice HO304.out; subst eo21) | ((with_reducible refine gate_callee (f := 107) rfl ?_); refine goesL_ (some 22) rfl rfl Try.func107 (by kernel_rfl) rfl #[.slice Ao20 t296.length co20, .slice Ao21 y302.length co21] rfl (by (try simp only [List.map_toArray, List.map_cons, List.map_nil]); first | done | rfl | (simp only [List.length_drop, List.length_take]; rfl)) ?_; (with_reducible refine (spec_l01Add.calls kj2 _ _ t296 _ _ y302 t305 _ ?side1 ?side2 ?side3 ?side4 A16.out).mono ?_); (case side1 => exact crC (Kd.R_reads' HO_3.out).2.2); (case side2 => exact (Kd.R_reads' HO_3.out).2.1); (case side3 => exact crC (Kd.R_reads' HO304.out).2.2); (case side4 => exact (Kd.R_reads' HO304.out).2.1); rintro e w22 ⟨v306, rfl, ho0, hb⟩; refine ⟨_, rfl, ?_⟩; have HO307 := lwR (nwR (nwR ho0 HO_3) HO304) HB; replace HO_3 := eldR HO_3 (Kd.R_base ho0) hb; replace HO304 := eldR HO304 (Kd.R_base ho0) hb; replace BK294 := bkb BK294 hb; replace BK295 := bkb BK295 hb; replace HB := bst HB hb; (try clear hb); (try clear hb2); (try clear hk); (try clear hi); (try clear ho0); have hnb23 := NB294_295.out; have hnc23 := NB295_294.out; have hcz24_0 := bce BK294 0 (.bool a0_0); have hcz24_1 := bce BK294 1 (.slice A0_1 l0_1.length c0_1); have hcz24_2 := bce BK294 2 (.slice A0_2 l0_2.length c0_2); have hfz24_0 := blk_frozen BK294.out 0; have hfz24_1 := blk_frozen BK294.out 1; have hfz24_2 := blk_frozen BK294.out 2) | ((with_reducible refine gate_dst (N := 26) rfl ?_); (try (refine gate_guard (by rfl) ?_; dsimp only)); refine Kd.R_lit (Kd.int .i64) _ 3 ?hg (N := 26) ?hd (xs := ([1] : List Int)) (inner := [.int .i64 1]) (ok := fun _ => True) (okp := fun _ => True) ?hr ?hp (fun _ hk => hk) trivial (Below.refl _ _) (Nat.le_refl _) (by simp) ?_; (case hd => rfl); (case hg => rfl); (case hr => first | (go_simp; done) | (go_simp; rfl)); (case hp => exact (Reps.one (show Kd.M (Kd.int .i64) _ _ _ 1 [.int .i64 1] from rfl) (Reps.none _ _))); intro v309 w25 ho26 hb hg_ hnew_; clear hg_ hnew_; (first | rw [← Ny308.out] at ho26 | (simp only [Int.reduceToNat] at ho26; rw [← Ny308.out] at ho26)); have HO310 := lwR (nwR (nwR (nwR ho26 HO_3) HO304) HO307) HB; replace HO_3 := eldR HO_3 (Kd.R_base ho26) hb; replace HO304 := eldR HO304 (Kd.R_base ho26) hb; replace HO307 := eldR HO307 (Kd.R_base ho26) hb; replace BK294 := bkb BK294 hb; replace BK295 := bkb BK295 hb; replace HB := bst HB hb; clear hb ho26; obtain ⟨Ao27, co27, eo27⟩ := Kd.R_slice HO307.out; subst eo27; obtain ⟨Ao28, co28, eo28⟩ := Kd.R_slice HO310.out; subst eo28) | ((with_reducible refine gate_callee (f := 47) rfl ?_); refine goesL_ (some 27) rfl rfl Try.func47 (by kernel_rfl) rfl #[.bool a0_0, .slice Ao27 t305.length co27, .slice Ao28 y308.length co28] rfl (by (try simp only [List.map_toArray, List.map_cons, List.map_nil]); first | done | rfl | (simp only [List.length_drop, List.length_take]; rfl)) ?_; (with_reducible refine (spec_l02Make.calls kj2 a0_0 _ _ t305 _ _ y308 t311 t312 t315 _ ?side1 ?side2 ?side3 ?side4 A17.out).mono ?_); (case side1 => exact crC (Kd.R_reads' HO307.out).2.2); (case side2 => exact (Kd.R_reads' HO307.out).2.1); (case side3 => exact crC (Kd.R_reads' HO310.out).2.2); (case side4 => exact (Kd.R_reads' HO310.out).2.1); rintro e w29 ⟨v313, v316, rfl, ho0, ho1, hb⟩; refine ⟨_, rfl, ?_⟩; have HO314 := lwR (nwR (nwR (nwR (nwR ho0 HO_3) HO304) HO307) HO310) HB; have HO317 := lwR (nwR (nwR (nwR (nwR ho1 HO_3) HO304) HO307) HO310) HB; replace HO_3 := tldR HO_3 hb (Kd.R_base ho0) (Kd.R_base ho1); replace HO304 := tldR HO304 hb (Kd.R_base ho0) (Kd.R_base ho1); replace HO307 := tldR HO307 hb (Kd.R_base ho0) (Kd.R_base ho1); replace HO310 := tldR HO310 hb (Kd.R_base ho0) (Kd.R_base ho1); replace BK294 := bkb BK294 hb; replace BK295 := bkb BK295 hb; replace HB := bst HB hb; (try clear hb); (try clear hb2); (try clear hk); (try clear hi); (try clear ho0); (try clear ho1); have hcz30_0 := bce BK295 0 (.bool false); have hcz30_1 := bce BK295 1 (.slice none 0 0); have hcz30_2 := bce BK295 2 (.slice none 0 0); have hfz30_0 := blk_frozen BK295.out 0; have hfz30_1 := blk_frozen BK295.out 1; have hfz30_2 := blk_frozen BK295.out 2; obtain ⟨Ao31, co31, eo31⟩ := Kd.R_slice HO314.out; subst eo31; obtain ⟨Ao32, co32, eo32⟩ := Kd.R_slice HO317.out; subst eo32))
    refine bodyPost_ret (results_cell_row rfl _ _ gb295 24 #[.bool t311, .slice Ao31 t312.length co31, .slice Ao32 t315.length co32] (0, 0) _ rfl (by (with_reducible repeat (first | refine blk_drewN ?_ _ | refine blk_drew ?_ | refine blk_alloc ?_ _)); refine blk_put (cs := #[.bool t311, .slice Ao31 t312.length co31, .slice none 0 0]) ?_ 2 _ rfl; (with_reducible repeat (first | refine blk_drewN ?_ _ | refine blk_drew ?_ | refine blk_alloc ?_ _)); refine blk_put (cs := #[.bool t311, .slice none 0 0, .slice none 0 0]) ?_ 1 _ rfl; (with_reducible repeat (first | refine blk_drewN ?_ _ | refine blk_drew ?_ | refine blk_alloc ?_ _)); refine blk_put (cs := #[.bool false, .slice none 0 0, .slice none 0 0]) ?_ 0 _ rfl; (with_reducible repeat (first | refine blk_drewN ?_ _ | refine blk_drew ?_ | refine blk_alloc ?_ _)); exact BK295.out) Try.underlying24 rfl (by kernel_rfl)) rfl ?_
    exact ⟨_, _, by first | rfl | (simp [errW_none, errW_some] <;> rfl) | (simp [*, errW_none, errW_some] <;> rfl), by (with_reducible repeat (first | apply Kd.R_alloc | apply Kd.R_drewN | apply Kd.R_drew)); exact Kd.R_mono (Kd.R_far (p := ⟨gb295, 2, none⟩) (Kd.R_far (p := ⟨gb295, 1, none⟩) (Kd.R_far (p := ⟨gb295, 0, none⟩) (Kd.R_types HO314.out BK295.out (by decide)) (fun _ hk => hk.2) (.bool t311)) (fun _ hk => hk.2) (.slice Ao31 t312.length co31)) (fun _ hk => hk.2) (.slice Ao32 t315.length co32)) (fun _ hk => hk.1.1.1.1.1), by (with_reducible repeat (first | apply Kd.R_alloc | apply Kd.R_drewN | apply Kd.R_drew)); exact Kd.R_mono (Kd.R_far (p := ⟨gb295, 2, none⟩) (Kd.R_far (p := ⟨gb295, 1, none⟩) (Kd.R_far (p := ⟨gb295, 0, none⟩) (Kd.R_types HO317.out BK295.out (by decide)) (fun _ hk => hk.2) (.bool t311)) (fun _ hk => hk.2) (.slice Ao31 t312.length co31)) (fun _ hk => hk.2) (.slice Ao32 t315.length co32)) (fun _ hk => hk.1.1.1.1.1), blw HB⟩
   ·
    replace c15 := Bool.eq_false_iff.mpr c15
    subst c15
    have H1 : ((spec_l02Make.f kj2 a0_0 t296 (([1] : List Int))).bind fun bt321 => (some (bt321.1, bt321.2.1, bt321.2.2))) = some (r1, r2, r3) := by rw [if_neg (show ¬ (false = true) by decide)] at H; exact H
    clear H
    have H := H1
    clear H1
    obtain ⟨y318, hy318⟩ : ∃ y_ : List Int, y_ = (([1] : List Int)) := ⟨_, rfl⟩
    replace H : ((spec_l02Make.f kj2 a0_0 t296 y318).bind fun bt321 => (some (bt321.1, bt321.2.1, bt321.2.2))) = some (r1, r2, r3) := by first | (rw [hy318]; with_reducible exact H) | (have H2_ := (Option.bind_some _ _).symm.trans H; rw [hy318]; with_reducible exact H2_) | (have H2_ := (Option.bind_some _ _).symm.trans H; with_reducible exact H2_) | with_reducible exact H | (rw [hy318]; exact H) | exact H
    have Ny318 := Aside0.mk hy318
    clear hy318
    replace H := Option.bind_eq_some_iff.mp H
    obtain ⟨⟨t321, t322, t325⟩, A330, H⟩ := H
    replace H : (some (t321, t322, t325)) = some (r1, r2, r3) := H
    have A33 := Aside0.mk A330
    clear A330
    simp only [Option.some.injEq, Prod.mk.injEq] at H
    obtain ⟨rfl, rfl, rfl⟩ := H
    have hnb34 := NB294_295.out
    have hnc34 := NB295_294.out
    have hcz35_0 := bce BK294 0 (.bool a0_0)
    have hcz35_1 := bce BK294 1 (.slice A0_1 l0_1.length c0_1)
    have hcz35_2 := bce BK294 2 (.slice A0_2 l0_2.length c0_2)
    have hfz35_0 := blk_frozen BK294.out 0
    have hfz35_1 := blk_frozen BK294.out 1
    have hfz35_2 := blk_frozen BK294.out 2
    go_wp2_with (first | ((with_reducible refine gate_dst (N := 26) rfl ?_); (try (refine gate_guard (by rfl) ?_; dsimp only)); refine Kd.R_lit (Kd.int .i64) _ 3 ?hg (N := 26) ?hd (xs := ([1] : List Int)) (inner := [.int .i64 1]) (ok := fun _ => True) (okp := fun _ => True) ?hr ?hp (fun _ hk => hk) trivial (Below.refl _ _) (Nat.le_refl _) (by simp) ?_; (case hd => rfl); (case hg => rfl); (case hr => first | (go_simp; done) | (go_simp; rfl)); (case hp => exact (Reps.one (show Kd.M (Kd.int .i64) _ _ _ 1 [.int .i64 1] from rfl) (Reps.none _ _))); intro v319 w36 ho37 hb hg_ hnew_; clear hg_ hnew_; (first | rw [← Ny318.out] at ho37 | (simp only [Int.reduceToNat] at ho37; rw [← Ny318.out] at ho37)); have HO320 := lwR (nwR ho37 HO_3) HB; replace HO_3 := eldR HO_3 (Kd.R_base ho37) hb; replace BK294 := bkb BK294 hb; replace BK295 := bkb BK295 hb; replace HB := bst HB hb; clear hb ho37; obtain ⟨Ao38, co38, eo38⟩ := Kd.R_slice HO_3.out; subst eo38; obtain ⟨Ao39, co39, eo39⟩ := Kd.R_slice HO320.out; subst eo39) | ((with_reducible refine gate_callee (f := 47) rfl ?_); refine goesL_ (some 27) rfl rfl Try.func47 (by kernel_rfl) rfl #[.bool a0_0, .slice Ao38 t296.length co38, .slice Ao39 y318.length co39] rfl (by (try simp only [List.map_toArray, List.map_cons, List.map_nil]); first | done | rfl | (simp only [List.length_drop, List.length_take]; rfl)) ?_; (with_reducible refine (spec_l02Make.calls kj2 a0_0 _ _ t296 _ _ y318 t321 t322 t325 _ ?side1 ?side2 ?side3 ?side4 A33.out).mono ?_); (case side1 => exact crC (Kd.R_reads' HO_3.out).2.2); (case side2 => exact (Kd.R_reads' HO_3.out).2.1); (case side3 => exact crC (Kd.R_reads' HO320.out).2.2); (case side4 => exact (Kd.R_reads' HO320.out).2.1); rintro e w40 ⟨v323, v326, rfl, ho0, ho1, hb⟩; refine ⟨_, rfl, ?_⟩; have HO324 := lwR (nwR (nwR ho0 HO_3) HO320) HB; have HO327 := lwR (nwR (nwR ho1 HO_3) HO320) HB; replace HO_3 := tldR HO_3 hb (Kd.R_base ho0) (Kd.R_base ho1); replace HO320 := tldR HO320 hb (Kd.R_base ho0) (Kd.R_base ho1); replace BK294 := bkb BK294 hb; replace BK295 := bkb BK295 hb; replace HB := bst HB hb; (try clear hb); (try clear hb2); (try clear hk); (try clear hi); (try clear ho0); (try clear ho1); have hcz41_0 := bce BK295 0 (.bool false); have hcz41_1 := bce BK295 1 (.slice none 0 0); have hcz41_2 := bce BK295 2 (.slice none 0 0); have hfz41_0 := blk_frozen BK295.out 0; have hfz41_1 := blk_frozen BK295.out 1; have hfz41_2 := blk_frozen BK295.out 2; obtain ⟨Ao42, co42, eo42⟩ := Kd.R_slice HO324.out; subst eo42; obtain ⟨Ao43, co43, eo43⟩ := Kd.R_slice HO327.out; subst eo43))
    refine bodyPost_ret (results_cell_row rfl _ _ gb295 24 #[.bool t321, .slice Ao42 t322.length co42, .slice Ao43 t325.length co43] (0, 0) _ rfl (by (with_reducible repeat (first | refine blk_drewN ?_ _ | refine blk_drew ?_ | refine blk_alloc ?_ _)); refine blk_put (cs := #[.bool t321, .slice Ao42 t322.length co42, .slice none 0 0]) ?_ 2 _ rfl; (with_reducible repeat (first | refine blk_drewN ?_ _ | refine blk_drew ?_ | refine blk_alloc ?_ _)); refine blk_put (cs := #[.bool t321, .slice none 0 0, .slice none 0 0]) ?_ 1 _ rfl; (with_reducible repeat (first | refine blk_drewN ?_ _ | refine blk_drew ?_ | refine blk_alloc ?_ _)); refine blk_put (cs := #[.bool false, .slice none 0 0, .slice none 0 0]) ?_ 0 _ rfl; (with_reducible repeat (first | refine blk_drewN ?_ _ | refine blk_drew ?_ | refine blk_alloc ?_ _)); exact BK295.out) Try.underlying24 rfl (by kernel_rfl)) rfl ?_
    exact ⟨_, _, by first | rfl | (simp [errW_none, errW_some] <;> rfl) | (simp [*, errW_none, errW_some] <;> rfl), by (with_reducible repeat (first | apply Kd.R_alloc | apply Kd.R_drewN | apply Kd.R_drew)); exact Kd.R_mono (Kd.R_far (p := ⟨gb295, 2, none⟩) (Kd.R_far (p := ⟨gb295, 1, none⟩) (Kd.R_far (p := ⟨gb295, 0, none⟩) (Kd.R_types HO324.out BK295.out (by decide)) (fun _ hk => hk.2) (.bool t321)) (fun _ hk => hk.2) (.slice Ao42 t322.length co42)) (fun _ hk => hk.2) (.slice Ao43 t325.length co43)) (fun _ hk => hk.1.1.1), by (with_reducible repeat (first | apply Kd.R_alloc | apply Kd.R_drewN | apply Kd.R_drew)); exact Kd.R_mono (Kd.R_far (p := ⟨gb295, 2, none⟩) (Kd.R_far (p := ⟨gb295, 1, none⟩) (Kd.R_far (p := ⟨gb295, 0, none⟩) (Kd.R_types HO327.out BK295.out (by decide)) (fun _ hk => hk.2) (.bool t321)) (fun _ hk => hk.2) (.slice Ao42 t322.length co42)) (fun _ hk => hk.2) (.slice Ao43 t325.length co43)) (fun _ hk => hk.1.1.1), blw HB⟩

end Go.Proofs.Ytacdaijalkkogaa.Q
